import PyProof.Rows.All
import HandS.ForMost
import HandS.ForExc
import HandS.Gcd
import HandS.Wide
import HandS.Flow
import HandS.IsInst
import HandS.Zip
import HandS.TupAny
import HandS.Deep
import HandS.Style
import HandS.Star
import KE.SortData
import KE.DataMinMax
import HandS.SortKw
import HandS.WordsDict
import HandS.SortInts
import HandS.WordsExc
import KE.GoesEnum
import HandS.TryOnly
import HandS.DictComp
import HandS.Sort
import PyProof.ReprReads
import PyProof.ReprRoads
import PyProof.CallFns
import PyProof.FitsInt
import HandS.WideMore
import HandS.Small
import HandS.SetKeys
import HandS.ExcOwn
import KE.DataFind
import HandS.Exc
import HandS.TryMany
import HandS.ExcIs
import HandS.ExcField
import HandS.List
import PySem.Challenge.RW_turnprimes_k69_letters
set_option linter.all false
/-! A small language with plain data: what it means. -/
namespace MP
noncomputable section
open PySem (Str)
abbrev Key := L2.Key

inductive D where
  | non | bl (b : Bool) | int (i : Int) | str (x : Str)
  | tup (xs : List D) | ktup (xs : List D) | lst (xs : List D) | klst (xs : List D)
  | dk (ks : List Key) (xs : List D) | dt (ks : List (List Key)) (xs : List D)
  | ref (n : Nat) | exc (k : Nat) (fs : List D)
  deriving Inhabited

/-- a thing that may change; lk: it is being walked -/
inductive MO where
  | lst (lk : Bool) (xs : List D)
  | dk (lk : Bool) (ks : List Key) (xs : List D)
  | dt (lk : Bool) (ks : List (List Key)) (xs : List D)

def MO.lk : MO → Bool
  | .lst b _ => b
  | .dk b _ _ => b
  | .dt b _ _ => b
def MO.setLk (b : Bool) : MO → MO
  | .lst _ xs => .lst b xs
  | .dk _ ks xs => .dk b ks xs
  | .dt _ ks xs => .dt b ks xs

inductive Re (α : Type) where
  | ok (a : α) | exc (x : Nat) (fs : List D)
abbrev Rv (α : Type) := Option (Re α)
def bd {α β : Type} (r : Rv α) (k : α → Rv β) : Rv β :=
  match r with
  | some (.ok a) => k a
  | some (.exc x fs) => some (.exc x fs)
  | none => none
def rt {α : Type} (a : α) : Rv α := some (.ok a)
def ob {α β : Type} (r : Option α) (k : α → Rv β) : Rv β :=
  match r with
  | some a => k a
  | none => none

/-! evaluated ahead of the use (the kernel substitutes what is not evaluated) -/
def frN {α : Type} (n : Nat) (k : Nat → α) : α := match n with
  | 0 => k 0
  | m + 1 => k (Nat.succ m)
def frI {α : Type} (i : Int) (k : Int → α) : α := match i with
  | .ofNat n => frN n fun n => k (.ofNat n)
  | .negSucc n => frN n fun n => k (.negSucc n)
def frL {α β : Type} (xs : List α) (k : List α → β) : β :=
  @List.rec α (fun _ => (List α → β) → β) (fun k => k []) (fun x _ ih k => ih fun ys => k (x :: ys)) xs k
def nthL {α : Type} (xs : List α) (i : Nat) : Option α :=
  @List.rec α (fun _ => Nat → Option α) (fun _ => none) (fun x _ ih i => @Nat.casesOn (fun _ => Option α) i (some x) fun j => ih j) xs i
def setL {α : Type} (xs : List α) (i : Nat) (v : α) : List α :=
  @List.rec α (fun _ => Nat → List α) (fun _ => []) (fun x xs ih i => @Nat.casesOn (fun _ => List α) i (v :: xs) fun j => x :: ih j) xs i
/-- ys ahead of zs, ys evaluated -/
def appF {α β : Type} (ys zs : List α) (k : List α → β) : β :=
  @List.rec α (fun _ => (List α → β) → β) (fun k => k zs) (fun y _ ih k => ih fun r => k (y :: r)) ys k
theorem frN_eq {α : Type} (n : Nat) (k : Nat → α) : frN n k = k n := by cases n <;> rfl
theorem frI_eq {α : Type} (i : Int) (k : Int → α) : frI i k = k i := by cases i <;> simp [frI, frN_eq]
theorem frL_eq {α β : Type} (xs : List α) (k : List α → β) : frL xs k = k xs := by
  induction xs generalizing k with
  | nil => rfl
  | cons x xs ih => exact ih fun ys => k (x :: ys)
theorem appF_eq {α β : Type} (ys zs : List α) (k : List α → β) : appF ys zs k = k (ys ++ zs) := by
  induction ys generalizing k with
  | nil => rfl
  | cons x xs ih => exact ih fun r => k (x :: r)
theorem nthL_eq {α : Type} (xs : List α) (i : Nat) : nthL xs i = xs[i]? := by
  induction xs generalizing i with
  | nil => rfl
  | cons x xs ih => cases i with
    | zero => rfl
    | succ j => exact (ih j).trans (by simp)
theorem setL_eq {α : Type} (xs : List α) (i : Nat) (v : α) : setL xs i v = xs.set i v := by
  induction xs generalizing i with
  | nil => rfl
  | cons x xs ih => cases i with
    | zero => rfl
    | succ j => exact congrArg (x :: ·) (ih j)

abbrev Sl := List (Option D)
abbrev Mm := List MO

/-! ### syntax -/
inductive Bop where | add | sub | mul | fdiv | mod | pow
  deriving DecidableEq
inductive Cop where | eq | ne | lt | le | gt | ge | isin | notin
  deriving DecidableEq
inductive Cn where | non | bl (b : Bool) | int (i : Int) | str (x : Str)
inductive Blt where
  | len | abs | int | sum | all | any | tuple | list | sorted | max1 | min1 | max2 | min2 | isqrt | gcd | lcm | factorial | divmod | str | repr
  deriving DecidableEq
inductive Mth where | index | count | get1 | get2 | join | split | upper
  deriving DecidableEq
inductive Ty where | list | tuple | int | bool | str
  deriving DecidableEq

mutual
inductive Tg where
  | nm (i : Nat) | tp (ts : Tgs)
inductive Tgs where
  | nil | cons (t : Tg) (ts : Tgs)
end

mutual
inductive E where
  | var (i : Nat)
  | cst (c : Cn)
  | glob (g : Nat)
  | bin (o : Bop) (a b : E)
  | neg (a : E)
  | cmp (o : Cop) (a b : E)
  | isN (a : E) | notN (a : E)
  | chn (o1 o2 : Cop) (a b c : E)
  | andV (es : Es) | orV (es : Es)
  | notV (a : E)
  | ite (t : T) (a b : E)
  | tup (es : Es) | lst (es : Es)
  | sub (a i : E)
  | slc (a : E) (lo hi : Oe)
  | rev (a : E)
  | call (f : Nat) (es : Es)
  | blt (b : Blt) (es : Es)
  | mth (m : Mth) (a : E) (es : Es)
  | inst (a : E) (ty : Ty)
  | inst2 (a : E) (t1 t2 : Ty)
  | comp (own : List Nat) (tg : Tg) (it : It) (t : Ot) (e : E)
  | comp2 (own : List Nat) (own1 : List Nat) (tg : Tg) (it : It) (t : Ot) (tg1 : Tg) (it1 : It) (t1 : Ot) (e : E)
  | dcomp (own : List Nat) (tg : Tg) (it : It) (t : Ot) (k : E) (e : E)
  | inRng (x a b : E) (k : Int)
  | srtR (a : E)
  | compN (own own0 : List Nat) (tg : Tg) (it : It) (t : Ot) (cs : Cls) (e : E)
  | isE (i : Nat) (n : Nat) (ks : List Nat)
  | repC (ne : Bool) (a b : E)
  | fldE (i : Nat) (kf : List Nat)
inductive Cls where
  | nil | cons (own : List Nat) (tg : Tg) (it : It) (t : Ot) (cs : Cls)
inductive Es where
  | nil | cons (e : E) (es : Es) | star (e : E) (es : Es)
inductive Oe where
  | none | some (e : E)
inductive T where
  | tru (e : E)
  | cmp (o : Cop) (a b : E)
  | isN (a : E) | notN (a : E)
  | chn (o1 o2 : Cop) (a b c : E)
  | and (ts : Ts) | or (ts : Ts) | not (t : T) | ite (t a b : T)
  | repC (ne : Bool) (a b : E)
inductive Ts where
  | one (t : T) | cons (t : T) (ts : Ts)
inductive Ot where
  | none | some (t : T)
inductive It where
  | val (e : E)
  | rng1 (a : E) | rng2 (a b : E) | rng3 (a b : E) (c : Int)
  | zip (a b : E)
  | zipS (a : E)
  | enum (a : E) | enumF (a : E) (k : Int)
end

mutual
inductive S where
  | asg (tg : Tg) (e : E)
  | asgC (i : Nat) (e : E)
  | new (i : Nat) (e : E)
  | newC (i : Nat) (e : E)
  | newD (i : Nat) (tk : Bool)
  | par (i j : Nat) (a b : E)
  | setI (o i v : E)
  | aug (i : Nat) (o : Bop) (e : E)
  | augL (i : Nat) (e : E)
  | app (o e : E) | ext (o e : E) | pop (o : E)
  | sda (o k x : E)
  | expr (e : E)
  | ret (e : E) | retN
  | ite (t : T) (a b : Ss)
  | whl (t : T) (b : Ss)
  | for (tg : Tg) (it : It) (b : Ss)
  | raise (x : Nat)
  | raiseF (x : Nat) (e : E)
  | tryE (n : Nat) (b : Ss) (hs : Hds)
  | brk | cnt | pss | nev
inductive Ss where
  | nil | cons (s : S) (ss : Ss)
/-- except clauses: the class numbers that each takes, the slot behind `as` -/
inductive Hds where
  | nil | cons (ks : List Nat) (i : Option Nat) (su : Ss) (r : Hds)
end

/-! ### data -/
def cnD : Cn → D
  | .non => .non | .bl b => .bl b | .int i => .int i | .str x => .str x
def lsO : Option MO → Option (List D)
  | some (.lst _ xs) => some xs
  | _ => none
def dkO : Option MO → Option (List Key × List D)
  | some (.dk _ ks xs) => some (ks, xs)
  | _ => none
def dtO : Option MO → Option (List (List Key) × List D)
  | some (.dt _ ks xs) => some (ks, xs)
  | _ => none
def vwO (n : Nat) : Option MO → D
  | some (.lst _ xs) => .lst xs
  | _ => .ref n
def lstV (m : Mm) : D → Option (List D)
  | .lst xs => some xs
  | .klst xs => some xs
  | .ref n => lsO (nthL m n)
  | _ => none
def tupV : D → Option (List D)
  | .tup xs => some xs
  | .ktup xs => some xs
  | _ => none
def seqV (m : Mm) : D → Option (List D)
  | .lst xs => some xs
  | .klst xs => some xs
  | .tup xs => some xs
  | .ktup xs => some xs
  | .ref n => lsO (nthL m n)
  | _ => none
def dkV (m : Mm) : D → Option (List Key × List D)
  | .dk ks xs => some (ks, xs)
  | .ref n => dkO (nthL m n)
  | _ => none
def dtV (m : Mm) : D → Option (List (List Key) × List D)
  | .dt ks xs => some (ks, xs)
  | .ref n => dtO (nthL m n)
  | _ => none
def keyD : D → Option Key
  | .int i => some (.inl i)
  | .str x => some (.inr x)
  | _ => none
def keysD : List D → Option (List Key)
  | [] => some []
  | d :: ds => match keyD d with
    | some k => match keysD ds with
      | some ks => some (k :: ks)
      | none => none
    | none => none
def tkeyD : D → Option (List Key)
  | .tup xs => keysD xs
  | _ => none
def look {κ : Type} [DecidableEq κ] : List κ → List D → κ → Option D
  | k :: ks, x :: xs, q => if k = q then some x else look ks xs q
  | _, _, _ => none
def hasK {κ : Type} [DecidableEq κ] : List κ → κ → Bool
  | [], _ => false
  | k :: ks, q => if k = q then true else hasK ks q
def repK {κ : Type} [DecidableEq κ] : List κ → List D → κ → D → List D
  | k :: ks, x :: xs, q, v => (if k = q then v else x) :: repK ks xs q v
  | _, _, _, _ => []
/-- the values behind a store -/
def put {κ : Type} [DecidableEq κ] (ks : List κ) (xs : List D) (q : κ) (v : D) : List κ × List D :=
  if hasK ks q then (ks, repK ks xs q v) else (ks ++ [q], xs ++ [v])

def intsD : List D → Option (List Int)
  | [] => some []
  | .int i :: ds => match intsD ds with
    | some is => some (i :: is)
    | none => none
  | _ => none
def blsD : List D → Option (List Bool)
  | [] => some []
  | .bl i :: ds => match blsD ds with
    | some is => some (i :: is)
    | none => none
  | _ => none

/-- all lists within are at most this long -/
abbrev SZ : Nat := PySem.sizeLine
def szOk (n : Nat) : Bool := Nat.ble n 16777216

mutual
def beqD : D → D → Bool
  | .non, .non => true
  | .bl a, .bl b => a == b
  | .bl a, .int j => (if a then 1 else 0) == j
  | .int i, .bl b => i == (if b then 1 else 0)
  | .int i, .int j => i == j
  | .str x, .str y => decide (x = y)
  | .lst xs, .lst ys => beqL xs ys
  | .tup xs, .tup ys => beqL xs ys
  | .tup xs, .ktup ys => beqL xs ys
  | .ktup xs, .tup ys => beqL xs ys
  | .ktup xs, .ktup ys => beqL xs ys
  | _, _ => false
def beqL : List D → List D → Bool
  | [], [] => true
  | x :: xs, y :: ys => beqD x y && beqL xs ys
  | _, _ => false
end
/-- data that == is known to tell apart: n levels at most -/
def eqOkL (f : D → Bool) : List D → Bool
  | [] => true
  | x :: xs => f x && eqOkL f xs
def eqOk : Nat → D → Bool
  | _, .non => true
  | _, .bl _ => true
  | _, .int _ => true
  | _, .str x => PySem.PyData.strOk x
  | n + 1, .lst xs => eqOkL (eqOk n) xs
  | n + 1, .tup xs => eqOkL (eqOk n) xs
  | n + 1, .ktup xs => eqOkL (eqOk n) xs
  | _, _ => false
/-- a list that changes, by its items -/
def vw (m : Mm) : D → D
  | .ref n => vwO n (nthL m n)
  | d => d
/-- .. and the module's -/
def vwE (m : Mm) (d : D) : D := match d with
  | .klst xs => .lst xs
  | d => vw m d
def eqA : D → D → Option Bool
  | .int i, .int j => some (i == j)
  | .bl i, .bl j => some (i == j)
  | .str i, .str j => some (decide (i = j))
  | _, _ => none
def eqG (a b : D) : Option Bool := if eqOk 60 a && eqOk 60 b then some (beqD a b) else none
def eqV (m : Mm) (a b : D) : Option Bool := match eqA a b with
  | some k => some k
  | none => eqG (vwE m a) (vwE m b)

/-- no thing that changes is within -/
def rfL (f : D → Bool) : List D → Bool
  | [] => true
  | x :: xs => f x && rfL f xs
mutual
def rf : D → Bool
  | .ref _ => false
  | .tup xs => rfs xs
  | .ktup xs => rfs xs
  | .lst xs => rfs xs
  | .klst xs => rfs xs
  | .dk _ xs => rfs xs
  | .dt _ xs => rfs xs
  | .exc _ _ => false
  | _ => true
def rfs : List D → Bool
  | [] => true
  | x :: xs => rf x && rfs xs
end
/-! no list, no dict is within -/
mutual
def flat : D → Bool
  | .ref _ => false
  | .tup xs => flats xs
  | .ktup xs => flats xs
  | .lst _ => false
  | .klst _ => false
  | .dk _ _ => false
  | .dt _ _ => false
  | .exc _ _ => false
  | _ => true
def flats : List D → Bool
  | [] => true
  | x :: xs => flat x && flats xs
end
/-! no exception is within -/
mutual
def clD : D → Bool
  | .exc _ _ => false
  | .tup xs => clDs xs
  | .ktup xs => clDs xs
  | .lst xs => clDs xs
  | .klst xs => clDs xs
  | .dk _ xs => clDs xs
  | .dt _ xs => clDs xs
  | _ => true
def clDs : List D → Bool
  | [] => true
  | x :: xs => clD x && clDs xs
end
def clMO : MO → Bool
  | .lst _ xs => clDs xs
  | .dk _ _ xs => clDs xs
  | .dt _ _ xs => clDs xs
def clM (m : List MO) : Bool := m.all clMO
def clO : Option D → Bool
  | some d => clD d
  | none => true
def clS (s : List (Option D)) : Bool := s.all clO
/-- a value as it is handed out: things that change become their content -/
def mapO (f : D → Option D) : List D → Option (List D)
  | [] => some []
  | x :: xs => match f x with
    | some y => match mapO f xs with
      | some ys => some (y :: ys)
      | none => none
    | none => none
def frzO (f : D → Option D) : Option MO → Option D
  | some (.lst _ xs) => (mapO f xs).map .lst
  | some (.dk _ ks xs) => (mapO f xs).map (.dk ks)
  | some (.dt _ ks xs) => (mapO f xs).map (.dt ks)
  | none => none
def frzS (m : Mm) (f : D → Option D) : D → Option D
  | .ref k => frzO f (nthL m k)
  | .tup xs => (mapO f xs).map .tup
  | .lst xs => (mapO f xs).map .lst
  | _ => none
def frz (m : Mm) : Nat → D → Option D
  | 0, _ => none
  | n + 1, d => if rf d then some d else frzS m (frz m n) d
def isRef : D → Bool
  | .ref _ => true
  | _ => false

/-! ### operators -/
def mulOk (i j : Int) : Bool := Nat.blt i.natAbs 18446744073709551616 || (Nat.blt j.natAbs 18446744073709551616 || Nat.blt (i.natAbs.log2 + j.natAbs.log2) 1000000)
def divOk (j : Int) : Bool := decide (j ≠ 0) && Nat.blt j.natAbs 1073741824
def divOkW (j : Int) : Bool := decide (0 < j) && Nat.blt j.natAbs.log2 9000
def repD (n : Nat) (xs : List D) : List D := (List.replicate n xs).flatten
def binV (o : Bop) (a b : D) : Rv (D × Bool) :=
  match o, a, b with
  | .add, .int i, .int j => frI (i + j) fun r => rt (.int r, false)
  | .sub, .int i, .int j => frI (i - j) fun r => rt (.int r, false)
  | .mul, .int i, .int j => if mulOk i j then frI (i * j) fun r => rt (.int r, false) else none
  | .fdiv, .int i, .int j => if divOk j || divOkW j then frI (i.fdiv j) fun r => rt (.int r, false) else none
  | .mod, .int i, .int j => if decide (j ≠ 0) then frI (i.fmod j) fun r => rt (.int r, false) else none
  | .pow, .int i, .int j => if decide (0 ≤ j) && Nat.ble j.natAbs 100 && Nat.blt i.natAbs.log2 100000 then frI (i ^ j.toNat) fun r => rt (.int r, false) else none
  | .add, .str x, .str y => if szOk (x.length + y.length) then rt (.str (x ++ y), false) else none
  | .add, .lst xs, .lst ys => if szOk (xs.length + ys.length) then frL (xs ++ ys) fun zs => rt (.lst zs, true) else none
  | .add, .tup xs, .tup ys => if szOk (xs.length + ys.length) then frL (xs ++ ys) fun zs => rt (.tup zs, false) else none
  | .mul, .lst xs, .int j => if szOk (xs.length * j.toNat) && Nat.blt j.natAbs 9223372036854775808 then frL (repD j.toNat xs) fun zs => rt (.lst zs, true) else none
  | _, _, _ => none
def ltI (a b : D) (f : Int → Int → Bool) : Option Bool := match a, b with
  | .int i, .int j => some (f i j)
  | _, _ => none
/-- x in xs, by items -/
def flatA : D → Bool
  | .non => true | .bl _ => true | .int _ => true | .str _ => true
  | _ => false
def inL (x : D) (ys : List D) : Bool := ys.any fun y => beqD y x
def inV (m : Mm) (a b : D) : Option Bool :=
  match b with
  | .str y => match a with
    | .str x => some (!(PySem.Builtin.Str.occurrences y x 0 y.length 1).isEmpty)
    | _ => none
  | _ => match seqV m b with
    | some ys => if flatA a && ys.all flatA then some (inL a ys) else match lstV m b with
      | some ys => if eqOk 60 a && eqOkL (eqOk 60) ys then some (inL a ys) else none
      | none => none
    | none => match dkV m b with
      | some (ks, xs) => (keyD a).map fun k => (look ks xs k).isSome
      | none => match dtV m b with
        | some (ks, xs) => (tkeyD a).map fun k => (look ks xs k).isSome
        | none => none
def cmpV (m : Mm) (o : Cop) (a b : D) : Option Bool :=
  match o with
  | .eq => eqV m a b
  | .ne => (eqV m a b).map (!·)
  | .lt => ltI a b fun i j => decide (i < j)
  | .le => ltI a b fun i j => decide (i ≤ j)
  | .gt => ltI a b fun i j => decide (j < i)
  | .ge => ltI a b fun i j => decide (j ≤ i)
  | .isin => inV m a b
  | .notin => (inV m a b).map (!·)
def truV (m : Mm) : D → Option Bool
  | .non => some false
  | .bl b => some b
  | .int i => some (i != 0)
  | .str x => if szOk x.length then some ((x.length : Int) != 0) else none
  | d => match seqV m d with
    | some xs => some (!xs.isEmpty)
    | none => match dkV m d with
      | some (ks, _) => some (!ks.isEmpty)
      | none => none
/-- an index, from either end -/
def ixAt (n : Nat) (i : Int) : Option Nat := L2.ixN n i
def subV (m : Mm) (a i : D) : Option D :=
  match seqV m a with
  | some xs => match i with
    | .int i => match ixAt xs.length i with
      | some k => nthL xs k
      | none => none
    | _ => none
  | none => match dkV m a with
    | some (ks, xs) => match keyD i with
      | some k => look ks xs k
      | none => none
    | none => match dtV m a with
      | some (ks, xs) => match tkeyD i with
        | some k => look ks xs k
        | none => none
      | none => none
def cutD (xs : List D) (lo hi : Option Int) : List D := (xs.drop (HT.sIx xs.length 0 lo)).take (HT.sIx xs.length xs.length hi - HT.sIx xs.length 0 lo)
def wholeD (xs : List D) (lo hi : Option Int) : Bool := decide (HT.sIx xs.length 0 lo = 0) && decide (HT.sIx xs.length xs.length hi = xs.length)

def maxI : Int → List Int → Int
  | a, [] => a
  | a, b :: r => maxI (if b > a then b else a) r
def minI : Int → List Int → Int
  | a, [] => a
  | a, b :: r => minI (if b < a then b else a) r
def insI (a : Int) : List Int → List Int
  | [] => [a]
  | b :: r => if a ≤ b then a :: b :: r else b :: insI a r
def sortI : List Int → List Int
  | [] => []
  | a :: r => insI a (sortI r)
/-! order of ints, of tuples of ints, of pairs of an int and such a tuple -/
def ltRow (xs : List D) : List D → Bool :=
  @List.rec D (fun _ => List D → Bool) (fun ys => match ys with
    | [] => false
    | _ :: _ => true) (fun x _ ih ys => match ys with
    | [] => false
    | y :: ys => match x with
      | .int i => match y with
        | .int j => if i == j then ih ys else decide (i < j)
        | _ => false
      | _ => false) xs
def isInt : D → Bool
  | .int _ => true
  | _ => false
def allInt (xs : List D) : Bool := @List.rec D (fun _ => Bool) true (fun x _ ih => match x with
  | .int _ => ih
  | _ => false) xs
/-- 1: an int, 2: a tuple of ints, 3: a pair of an int and a tuple of ints -/
def kindD : D → Nat
  | .int _ => 1
  | .tup xs => match xs with
    | [] => 0
    | x :: r => match x with
      | .int _ => match r with
        | [.tup ws] => if allInt ws then 3 else 0
        | r => if allInt r then 2 else 0
      | _ => 0
  | _ => 0
def ltD (x y : D) : Bool := match x with
  | .int i => match y with
    | .int j => decide (i < j)
    | _ => false
  | .tup xs => match y with
    | .tup ys => match xs, ys with
      | [.int n, .tup ws], [.int k, .tup vs] => if n == k then ltRow ws vs else decide (n < k)
      | xs, ys => ltRow xs ys
    | _ => false
  | _ => false
def sameK (k : Nat) (ds : List D) : Bool := @List.rec D (fun _ => Bool) true (fun d _ ih => if kindD d == k then ih else false) ds
def sortOk : List D → Bool
  | [] => true
  | d :: ds => match kindD d with
    | 0 => false
    | k => sameK k ds
def insD (a : D) (l : List D) : List D := @List.rec D (fun _ => List D) [a] (fun b r ih => if ltD b a then b :: ih else a :: b :: r) l
def sortD (l : List D) : List D := @List.rec D (fun _ => List D) [] (fun a _ ih => frL ih fun r => insD a r) l
def maxDD (a : D) (l : List D) : D := @List.rec D (fun _ => D → D) (fun a => a) (fun b _ ih a => ih (if ltD a b then b else a)) l a
def bltV (m : Mm) (b : Blt) (ds : List D) : Option (D × Bool) :=
  match b, ds with
  | .len, [d] => match d with
    | .str x => if szOk x.length then frI (x.length : Int) fun r => some (.int r, false) else none
    | _ => match seqV m d with
      | some xs => frI (xs.length : Int) fun r => some (.int r, false)
      | none => match dkV m d with
        | some (ks, _) => frI (ks.length : Int) fun r => some (.int r, false)
        | none => none
  | .abs, [.int i] => frI (if i < 0 then -i else i) fun r => some (.int r, false)
  | .int, [.int i] => some (.int i, false)
  | .int, [.bl k] => some (.int (if k then 1 else 0), false)
  | .sum, [d] => match lstV m d with
    | some xs => match intsD xs with
      | some is => frI is.sum fun r => some (.int r, false)
      | none => none
    | none => none
  | .all, [d] => match lstV m d with
    | some xs => (blsD xs).map fun is => (.bl (is.all id), false)
    | none => none
  | .any, [d] => match lstV m d with
    | some xs => (blsD xs).map fun is => (.bl (is.any id), false)
    | none => none
  | .tuple, [d] => match d with
    | .tup xs => some (.tup xs, false)
    | .ktup xs => some (.ktup xs, false)
    | d => match lstV m d with
      | some xs => some (.tup xs, false)
      | none => none
  | .list, [d] => match seqV m d with
    | some xs => some (.lst xs, true)
    | none => none
  | .max2, [.int i, .int j] => frI (if j > i then j else i) fun r => some (.int r, false)
  | .max2, [.tup xs, .tup ys] => if sortOk [.tup xs, .tup ys] then some (maxDD (.tup xs) [.tup ys], false) else none
  | .min2, [.int i, .int j] => frI (if j < i then j else i) fun r => some (.int r, false)
  | .max1, [d] => match lstV m d with
    | some xs => match intsD xs with
      | some (a :: r) => frI (maxI a r) fun r => some (.int r, false)
      | _ => match xs with
        | [] => none
        | a :: r => if sortOk (a :: r) then some (maxDD a r, false) else none
    | none => none
  | .sorted, [d] => match lstV m d with
    | some xs => if sortOk xs && szOk xs.length then frL (sortD xs) fun r => some (.lst r, true) else none
    | none => none
  | .min1, [d] => match lstV m d with
    | some xs => match intsD xs with
      | some (a :: r) => frI (minI a r) fun r => some (.int r, false)
      | _ => none
    | none => none
  | .isqrt, [.int i] => match i with
    | .ofNat n => if Nat.blt n 18446744073709551616 then frN (PySem.Float64.isqrt n) fun r => some (.int (.ofNat r), false) else none
    | .negSucc _ => none
  | .gcd, [.int i, .int j] => frI ((Nat.gcd i.natAbs j.natAbs : Nat) : Int) fun r => some (.int r, false)
  | _, _ => none
/-- the first place of an equal one; how many are equal -/
def idxL (xs : List D) (y : D) : Option Nat := @List.rec D (fun _ => Option Nat) none (fun x _ ih => if beqD x y then some 0 else match ih with
  | some n => some (n + 1)
  | none => none) xs
def cntL (xs : List D) (y : D) : Nat := @List.rec D (fun _ => Nat) 0 (fun x _ ih => if beqD x y then ih + 1 else ih) xs
/-- a list that is not the module's -/
def lsD (m : Mm) (d : D) : Option (List D) := match vw m d with
  | .lst xs => some xs
  | _ => none
def mthV (m : Mm) (q : Mth) (d : D) (ds : List D) : Option (D × Bool) :=
  match q, ds with
  | .index, [y] => match lsD m d with
    | some xs => if eqOk 60 y && eqOkL (eqOk 60) xs then match idxL xs y with
      | some j => frI (j : Int) fun r => some (.int r, false)
      | none => none
      else none
    | none => none
  | .count, [y] => match lsD m d with
    | some xs => if eqOk 60 y && eqOkL (eqOk 60) xs then frI (cntL xs y : Int) fun r => some (.int r, false) else none
    | none => none
  | .get2, [k, x] => match dkV m d with
    | some (ks, xs) => (keyD k).map fun k => ((look ks xs k).getD x, false)
    | none => match dtV m d with
      | some (ks, xs) => (tkeyD k).map fun k => ((look ks xs k).getD x, false)
      | none => none
  | _, _ => none
def tyIs (m : Mm) (d : D) (t : Ty) : Option Bool :=
  match d with
  | .non => some false
  | .bl _ => some (t == .bool || t == .int)
  | .int _ => some (t == .int)
  | .str _ => some (t == .str)
  | .tup _ => some (t == .tuple)
  | .ktup _ => some (t == .tuple)
  | .lst _ => some (t == .list)
  | .klst _ => some (t == .list)
  | .ref n => (lsO (nthL m n)).map fun _ => t == .list
  | _ => none
def rngD (a : Int) (c : Int) : Nat → List D
  | 0 => []
  | n + 1 => frI a fun a => .int a :: rngD (a + c) c n
def rngOk (i : Int) : Bool := Nat.blt i.natAbs 4611686018427387904
def zipD : List D → List D → List D
  | a :: as, b :: bs => .tup [a, b] :: zipD as bs
  | _, _ => []
def enumD (k : Int) : List D → List D
  | [] => []
  | a :: as => frI k fun k => .tup [.int k, a] :: enumD (k + 1) as
def kD : Key → D
  | .inl i => .int i
  | .inr x => .str x
def strD (x : Str) : List D := x.cps.toList.map fun c => .str ⟨#[c]⟩

/-! ### targets -/
abbrev Xg := D → Sl → Option Sl
def gNm (i : Nat) : Xg := fun d s => frL (setL s i (some d)) some
abbrev Xgs := List D → Sl → Option Sl
def gNil : Xgs := fun xs s => match xs with
  | [] => some s
  | _ => none
def gCons (g : Xg) (gs : Xgs) : Xgs := fun xs s => match xs with
  | x :: xs => match g x s with
    | some s' => gs xs s'
    | none => none
  | [] => none
def gTp (gs : Xgs) : Xg := fun d s => match d with
  | .tup xs => gs xs s
  | .ktup xs => gs xs s
  | .lst xs => gs xs s
  | _ => none
mutual
def asgT : Tg → Xg
  | .nm i => gNm i
  | .tp ts => gTp (asgTs ts)
def asgTs : Tgs → Xgs
  | .nil => gNil
  | .cons t ts => gCons (asgT t) (asgTs ts)
end
def wipeD (s : Sl) : List Nat → Sl
  | [] => s
  | v :: vs => setL (wipeD s vs) v none

abbrev Fc := Nat → List D → Rv (D × Bool)
/-- what the arguments of a call are to the one called -/
def frzA (m : Mm) : List D → Option (List D)
  | [] => some []
  | d :: ds => match frz m 4 d with
    | some d' => match frzA m ds with
      | some r => some (d' :: r)
      | none => none
    | none => none
def fineRes (ds : List D) (r : D × Bool) : Bool :=
  rfs ds || flat r.1 || (r.2 && match r.1 with
    | .lst xs => flats xs
    | _ => false)
def callV (F : Fc) (m : Mm) (f : Nat) (ds : List D) : Rv (D × Bool) :=
  ob (frzA m ds) fun ds' => bd (F f ds') fun r => if fineRes ds r then rt r else none

/-- the items of a comprehension, one after another -/
def compL (step : D → Rv (List D)) (xs : List D) : Rv (List D) :=
  @List.rec D (fun _ => Rv (List D)) (rt []) (fun x _ ih => bd (step x) fun ys => bd ih fun zs => appF ys zs rt) xs
/-- an exception cannot leave a comprehension here -/
def noX {α : Type} (r : Rv α) : Rv α := match r with
  | some (.ok a) => some (.ok a)
  | _ => none

abbrev Xe := Sl → Mm → Rv (D × Bool)
abbrev Xs := Sl → Mm → Rv (List D)
abbrev Xt := Sl → Mm → Rv Bool
abbrev Xo := Sl → Mm → Rv (Option Int)

/-! ### the meaning, construct by construct -/
def xVar (i : Nat) : Xe := fun s _ => match nthL s i with
  | some (some d) => rt (d, false)
  | _ => none
def xCst (c : Cn) : Xe := fun _ _ => rt (cnD c, false)
def xGlob (G : List D) (g : Nat) : Xe := fun _ _ => match nthL G g with
  | some d => rt (d, false)
  | none => none
def xBin (o : Bop) (a b : Xe) : Xe := fun s m => bd (a s m) fun x => bd (b s m) fun y => binV o (vw m x.1) (vw m y.1)
def xNeg (a : Xe) : Xe := fun s m => bd (a s m) fun x => match x.1 with
  | .int i => frI (-i) fun r => rt (.int r, false)
  | _ => none
def xCmp (o : Cop) (a b : Xe) : Xe := fun s m => bd (a s m) fun x => bd (b s m) fun y => ob (cmpV m o x.1 y.1) fun k => rt (.bl k, false)
/-! what repr shows, told alike -/
mutual
/-- no less long than what repr shows -/
def shW : D → Nat
  | .non => 4
  | .bl _ => 5
  | .int _ => 42
  | .tup xs => 3 + shWs xs
  | .ktup xs => 3 + shWs xs
  | .lst xs => 2 + shWs xs
  | _ => 0
def shWs : List D → Nat
  | [] => 0
  | x :: xs => shW x + 2 + shWs xs
end
mutual
/-- ints of some 40 digits at most, no text, at most n levels -/
def shI : Nat → D → Bool
  | _, .non => true
  | _, .bl _ => true
  | _, .int i => Nat.blt i.natAbs 10000000000000000000000000000000000000000
  | n + 1, .tup xs => shIs n xs
  | n + 1, .ktup xs => shIs n xs
  | n + 1, .lst xs => shIs n xs
  | _, _ => false
def shIs : Nat → List D → Bool
  | _, [] => true
  | n, x :: xs => shI n x && shIs n xs
end
def shOk (d : D) : Bool := shI 20 d && Nat.ble (shW d) 1000000
mutual
def sameD : D → D → Bool
  | .non, .non => true
  | .bl a, .bl b => a == b
  | .int i, .int j => i == j
  | .tup xs, .tup ys => sameDs xs ys
  | .tup xs, .ktup ys => sameDs xs ys
  | .ktup xs, .tup ys => sameDs xs ys
  | .ktup xs, .ktup ys => sameDs xs ys
  | .lst xs, .lst ys => sameDs xs ys
  | _, _ => false
def sameDs : List D → List D → Bool
  | [], [] => true
  | x :: xs, y :: ys => sameD x y && sameDs xs ys
  | _, _ => false
end
def repV {α : Type} (a b : Xe) (r : Bool → Rv α) : Sl → Mm → Rv α := fun s m => bd (a s m) fun x => if shOk (vwE m x.1) then bd (b s m) fun y => if sameD (vwE m x.1) (vwE m y.1) then r true else none else none
/-- repr(a) != repr(b), where both show the same; else nothing is told -/
def xRep (ne : Bool) (a b : Xe) : Xe := repV a b fun k => rt (.bl (ne ^^ k), false)
def tRep (ne : Bool) (a b : Xe) : Xt := repV a b fun k => rt (ne ^^ k)
def nonD : D → Option Bool
  | .non => some true
  | .exc _ _ => none
  | _ => some false
def xIsN (a : Xe) : Xe := fun s m => bd (a s m) fun x => ob (nonD x.1) fun k => rt (.bl k, false)
def xNotN (a : Xe) : Xe := fun s m => bd (a s m) fun x => ob (nonD x.1) fun k => rt (.bl (!k), false)
def xChn (o1 o2 : Cop) (a b c : Xe) : Xe := fun s m => bd (a s m) fun x => bd (b s m) fun y => ob (cmpV m o1 x.1 y.1) fun k =>
  if k then bd (c s m) fun z => ob (cmpV m o2 y.1 z.1) fun k => rt (.bl k, false) else rt (.bl false, false)
def xAnd2 (a b : Xe) : Xe := fun s m => bd (a s m) fun x => match x.1 with
  | .bl true => b s m
  | .bl false => rt (.bl false, false)
  | _ => none
def xOr2 (a b : Xe) : Xe := fun s m => bd (a s m) fun x => match x.1 with
  | .bl false => b s m
  | .bl true => rt (.bl true, false)
  | _ => none
def xNone {α : Type} : Sl → Mm → Rv α := fun _ _ => none
def xNotV (a : Xe) : Xe := fun s m => bd (a s m) fun x => ob (truV m x.1) fun k => rt (.bl (!k), false)
def xIte {α : Type} (t : Xt) (a b : Sl → Mm → Rv α) : Sl → Mm → Rv α := fun s m => bd (t s m) fun k => if k then a s m else b s m
def xTup (es : Xs) : Xe := fun s m => bd (es s m) fun ds => if szOk ds.length then rt (.tup ds, false) else none
def xLst (es : Xs) : Xe := fun s m => bd (es s m) fun ds => if szOk ds.length then rt (.lst ds, true) else none
def xSub (a i : Xe) : Xe := fun s m => bd (a s m) fun x => bd (i s m) fun y => ob (subV m x.1 y.1) fun d => rt (d, false)
def slcV (m : Mm) (d : D) (p q : Option Int) : Rv (D × Bool) := match d with
  | .tup xs => frL (cutD xs p q) fun zs => rt (.tup zs, false)
  | .ktup xs => if wholeD xs p q then rt (.ktup xs, false) else frL (cutD xs p q) fun zs => rt (.tup zs, false)
  | d => match lstV m d with
    | some xs => frL (cutD xs p q) fun zs => rt (.lst zs, true)
    | none => none
def xSlc (a : Xe) (lo hi : Xo) : Xe := fun s m => bd (a s m) fun x => bd (lo s m) fun p => bd (hi s m) fun q => slcV m x.1 p q
def xRev (a : Xe) : Xe := fun s m => bd (a s m) fun x => match lstV m x.1 with
  | some xs => frL xs.reverse fun zs => rt (.lst zs, true)
  | none => none
def xCall (F : Fc) (f : Nat) (es : Xs) : Xe := fun s m => bd (es s m) fun ds => callV F m f ds
def xBlt (b : Blt) (es : Xs) : Xe := fun s m => bd (es s m) fun ds => ob (bltV m b ds) rt
/-- the receiver is of the kind that has the method -/
def mthPre (m : Mm) (q : Mth) (d : D) : Bool := match q with
  | .get1 => (dkV m d).isSome || (dtV m d).isSome
  | .get2 => (dkV m d).isSome || (dtV m d).isSome
  | .index => (lsD m d).isSome
  | .count => (lsD m d).isSome
  | _ => match d with
    | .str _ => true
    | _ => false
def xMth (q : Mth) (a : Xe) (es : Xs) : Xe := fun s m => bd (a s m) fun x => if mthPre m q x.1 then bd (es s m) fun ds => ob (mthV m q x.1 ds) rt else none
def xInst (a : Xe) (t : Ty) : Xe := fun s m => bd (a s m) fun x => ob (tyIs m x.1 t) fun k => rt (.bl k, false)
def xInst2 (a : Xe) (t1 t2 : Ty) : Xe := fun s m => bd (a s m) fun x => ob (tyIs m x.1 t1) fun k => ob (tyIs m x.1 t2) fun k2 => rt (.bl (k || k2), false)
/-- x in range(a, b, k), the step above 0 -/
def rngIn (lo hi k i : Int) : Bool := decide (lo ≤ i) && decide (i < hi) && decide ((i - lo) % k = 0)
def xInRng (x a b : Xe) (k : Int) : Xe := fun s m => bd (x s m) fun p => bd (a s m) fun q => bd (b s m) fun r => match p.1, q.1, r.1 with
  | .int i, .int lo, .int hi => if decide (0 < k) && Nat.blt k.natAbs 1073741824 then rt (.bl (rngIn lo hi k i), false) else none
  | _, _, _ => none
/-- sorted(a, reverse=True) -/
def xSrtR (a : Xe) : Xe := fun s m => bd (a s m) fun x => match lstV m x.1 with
  | some xs => if sortOk xs && szOk xs.length then frL (sortD xs).reverse fun r => rt (.lst r, true) else none
  | none => none
def kIn (ks : List Nat) (k : Nat) : Bool := @List.rec Nat (fun _ => Bool) false (fun x _ ih => if Nat.beq x k then true else ih) ks
/-- the exception at slot i, of n known classes: is it of one of the classes ks? -/
def xIsE (i n : Nat) (ks : List Nat) : Xe := fun s _ => match nthL s i with
  | some (some (.exc k _)) => if Nat.blt k n then rt (.bl (kIn ks k), false) else none
  | _ => none
/-- its field -/
def xFldE (i : Nat) (kf : List Nat) : Xe := fun s _ => match nthL s i with
  | some (some (.exc k [f])) => if kIn kf k then rt (f, false) else none
  | _ => none
def xOne (e : Xe) : Xs := fun s m => bd (e s m) fun y => rt [y.1]
def xTurn (g : Xg) (t : Xt) (e : Xs) (s : Sl) (m : Mm) : D → Rv (List D) := fun d => ob (g d s) fun s1 => bd (t s1 m) fun k => if k then e s1 m else rt []
def xComp (own : List Nat) (g : Xg) (it : Xs) (t : Xt) (e : Xe) : Xe := fun s m => bd (it s m) fun ds =>
  bd (noX (compL (xTurn g t (xOne e) (wipeD s own) m) ds)) fun ys => if szOk ys.length then rt (.lst ys, true) else none
def xIn2 (own1 : List Nat) (g1 : Xg) (it1 : Xs) (t1 : Xt) (e : Xe) : Xs := fun s1 m => bd (it1 s1 m) fun ds1 => compL (xTurn g1 t1 (xOne e) (wipeD s1 own1) m) ds1
def xComp2 (own own1 : List Nat) (g : Xg) (it : Xs) (t : Xt) (g1 : Xg) (it1 : Xs) (t1 : Xt) (e : Xe) : Xe := fun s m => bd (it s m) fun ds =>
  bd (noX (compL (xTurn g t (xIn2 own1 g1 it1 t1 e) (wipeD s own) m) ds)) fun ys => if szOk ys.length then rt (.lst ys, true) else none
/-- a dict by a comprehension: its keys, its values so far -/
abbrev Ac := List Key × List D
def dPut (acc : Ac) (k v : D) : Rv Ac := match keyD k with
  | some q => if Nat.blt acc.1.length 16777216 then frL (put acc.1 acc.2 q v).1 fun a => frL (put acc.1 acc.2 q v).2 fun b => rt (a, b) else none
  | none => none
def dTurn (g : Xg) (t : Xt) (k e : Xe) (s : Sl) (m : Mm) (acc : Ac) : D → Rv Ac := fun d => ob (g d s) fun s1 => bd (t s1 m) fun b => if b then bd (k s1 m) fun x => bd (e s1 m) fun y => dPut acc x.1 y.1 else rt acc
def dcL (step : Ac → D → Rv Ac) (xs : List D) : Ac → Rv Ac :=
  @List.rec D (fun _ => Ac → Rv Ac) (fun acc => rt acc) (fun d _ ih acc => bd (step acc d) ih) xs
def xDc (own : List Nat) (g : Xg) (it : Xs) (t : Xt) (k e : Xe) : Xe := fun s m => bd (it s m) fun ds =>
  bd (noX (dcL (dTurn g t k e (wipeD s own) m) ds ([], []))) fun p => rt (.dk p.1 p.2, true)
/-- the clauses behind the first -/
def xInN (own : List Nat) (g : Xg) (it : Xs) (t : Xt) (rest : Xs) : Xs := fun s m => bd (it s m) fun ds => compL (xTurn g t rest (wipeD s own) m) ds
def xCompN (own own0 : List Nat) (g : Xg) (it : Xs) (t : Xt) (rest : Xs) : Xe := fun s m => bd (it s m) fun ds =>
  bd (noX (compL (xTurn g t rest (wipeD (wipeD s own) own0) m) ds)) fun ys => if szOk ys.length then rt (.lst ys, true) else none
def xNil : Xs := fun _ _ => rt []
def xCons (e : Xe) (es : Xs) : Xs := fun s m => bd (e s m) fun x => bd (es s m) fun ds => rt (x.1 :: ds)
def xStar (e : Xe) (es : Xs) : Xs := fun s m => bd (e s m) fun x => match seqV m x.1 with
  | some xs => bd (es s m) fun ds => appF xs ds rt
  | none => none
def xO0 : Xo := fun _ _ => rt none
def xO1 (e : Xe) : Xo := fun s m => bd (e s m) fun x => match x.1 with
  | .int i => rt (some i)
  | _ => none
def tTru (e : Xe) : Xt := fun s m => bd (e s m) fun x => ob (truV m x.1) rt
def tCmp (o : Cop) (a b : Xe) : Xt := fun s m => bd (a s m) fun x => bd (b s m) fun y => ob (cmpV m o x.1 y.1) rt
def tIsN (a : Xe) : Xt := fun s m => bd (a s m) fun x => ob (nonD x.1) rt
def tNotN (a : Xe) : Xt := fun s m => bd (a s m) fun x => ob (nonD x.1) fun k => rt (!k)
def tChn (o1 o2 : Cop) (a b c : Xe) : Xt := fun s m => bd (a s m) fun x => bd (b s m) fun y => ob (cmpV m o1 x.1 y.1) fun k =>
  if k then bd (c s m) fun z => ob (cmpV m o2 y.1 z.1) rt else rt false
def tAnd (t u : Xt) : Xt := fun s m => bd (t s m) fun k => if k then u s m else rt false
def tOr (t u : Xt) : Xt := fun s m => bd (t s m) fun k => if k then rt true else u s m
def tNot (t : Xt) : Xt := fun s m => bd (t s m) fun k => rt (!k)
def tYes : Xt := fun _ _ => rt true
/-- any; or what no statement may change -/
def gdA : D → Bool := fun _ => true
def gdN : D → Bool := fun d => !isRef d
def iVal (gd : D → Bool) (e : Xe) : Xs := fun s m => bd (e s m) fun x => if gd x.1 then match seqV m x.1 with
  | some xs => rt xs
  | none => none
  else none
def iRng1 (a : Xe) : Xs := fun s m => bd (a s m) fun x => match x.1 with
  | .int n => if rngOk n then rt (rngD 0 1 n.toNat) else none
  | _ => none
def iRng2 (a b : Xe) : Xs := fun s m => bd (a s m) fun x => bd (b s m) fun y => match x.1, y.1 with
  | .int i, .int j => if rngOk i && rngOk j then rt (rngD i 1 (j - i).toNat) else none
  | _, _ => none
def iRng3 (a b : Xe) (c : Int) : Xs := fun s m => bd (a s m) fun x => bd (b s m) fun y => match x.1, y.1 with
  | .int i, .int j => if rngOk i && rngOk j && decide (c = -1) then rt (rngD i c (i - j).toNat) else none
  | _, _ => none
def iZip (gd : D → Bool) (a b : Xe) : Xs := fun s m => bd (a s m) fun x => bd (b s m) fun y => if gd x.1 && gd y.1 then match lstV m x.1 with
  | some xs => match lstV m y.1 with
    | some ys => rt (zipD xs ys)
    | none => none
  | none => match tupV x.1 with
    | some xs => match tupV y.1 with
      | some ys => rt (zipD xs ys)
      | none => none
    | none => none
  else none
/-- zip(*a), a two tuples in a tuple -/
def iZipS (a : Xe) : Xs := fun s m => bd (a s m) fun x => match tupV x.1 with
  | some [p, q] => match tupV p with
    | some xs => match tupV q with
      | some ys => rt (zipD xs ys)
      | none => none
    | none => none
  | _ => none
def iEnum (gd : D → Bool) (a : Xe) (k : Int) : Xs := fun s m => bd (a s m) fun x => if gd x.1 then match lstV m x.1 with
  | some xs => rt (enumD k xs)
  | none => match tupV x.1 with
    | some xs => rt (enumD k xs)
    | none => none
  else none
/-- in a for: a name's list is kept by the lock -/
def gdF : It → D → Bool
  | .val (.var _) => gdA
  | _ => gdN

section
variable (G : List D) (F : Fc)
mutual
def evE : E → Xe
  | .var i => xVar i
  | .cst c => xCst c
  | .glob g => xGlob G g
  | .bin o a b => xBin o (evE a) (evE b)
  | .neg a => xNeg (evE a)
  | .cmp o a b => xCmp o (evE a) (evE b)
  | .isN a => xIsN (evE a)
  | .notN a => xNotN (evE a)
  | .chn o1 o2 a b c => xChn o1 o2 (evE a) (evE b) (evE c)
  | .andV es => evAnd es
  | .orV es => evOr es
  | .notV a => xNotV (evE a)
  | .ite t a b => xIte (evT t) (evE a) (evE b)
  | .tup es => xTup (evEs es)
  | .lst es => xLst (evEs es)
  | .sub a i => xSub (evE a) (evE i)
  | .slc a lo hi => xSlc (evE a) (evO lo) (evO hi)
  | .rev a => xRev (evE a)
  | .call f es => xCall F f (evEs es)
  | .blt b es => xBlt b (evEs es)
  | .mth q a es => xMth q (evE a) (evEs es)
  | .inst a t => xInst (evE a) t
  | .inst2 a t1 t2 => xInst2 (evE a) t1 t2
  | .comp own tg it t e => xComp own (asgT tg) (evI gdA it) (evOt t) (evE e)
  | .comp2 own own1 tg it t tg1 it1 t1 e => xComp2 own own1 (asgT tg) (evI gdA it) (evOt t) (asgT tg1) (evI gdA it1) (evOt t1) (evE e)
  | .dcomp own tg it t k e => xDc own (asgT tg) (evI gdA it) (evOt t) (evE k) (evE e)
  | .srtR a => xSrtR (evE a)
  | .inRng x a b k => xInRng (evE x) (evE a) (evE b) k
  | .compN own own0 tg it t cs e => xCompN own own0 (asgT tg) (evI gdA it) (evOt t) (evCl cs (xOne (evE e)))
  | .isE i n ks => xIsE i n ks
  | .repC ne a b => xRep ne (evE a) (evE b)
  | .fldE i kf => xFldE i kf
def evCl : Cls → Xs → Xs
  | .nil, r => r
  | .cons own tg it t cs, r => xInN own (asgT tg) (evI gdA it) (evOt t) (evCl cs r)
def evEs : Es → Xs
  | .nil => xNil
  | .cons e es => xCons (evE e) (evEs es)
  | .star e es => xStar (evE e) (evEs es)
def evAnd : Es → Xe
  | .nil => xNone
  | .star _ _ => xNone
  | .cons e es => match es with
    | .nil => evE e
    | es => xAnd2 (evE e) (evAnd es)
def evOr : Es → Xe
  | .nil => xNone
  | .star _ _ => xNone
  | .cons e es => match es with
    | .nil => evE e
    | es => xOr2 (evE e) (evOr es)
def evO : Oe → Xo
  | .none => xO0
  | .some e => xO1 (evE e)
def evT : T → Xt
  | .tru e => tTru (evE e)
  | .cmp o a b => tCmp o (evE a) (evE b)
  | .isN a => tIsN (evE a)
  | .notN a => tNotN (evE a)
  | .chn o1 o2 a b c => tChn o1 o2 (evE a) (evE b) (evE c)
  | .and ts => evTa ts
  | .or ts => evTo ts
  | .not t => tNot (evT t)
  | .ite t a b => xIte (evT t) (evT a) (evT b)
  | .repC ne a b => tRep ne (evE a) (evE b)
def evTa : Ts → Xt
  | .one t => evT t
  | .cons t ts => tAnd (evT t) (evTa ts)
def evTo : Ts → Xt
  | .one t => evT t
  | .cons t ts => tOr (evT t) (evTo ts)
def evOt : Ot → Xt
  | .none => tYes
  | .some t => evT t
def evI (gd : D → Bool) : It → Xs
  | .val e => iVal gd (evE e)
  | .rng1 a => iRng1 (evE a)
  | .rng2 a b => iRng2 (evE a) (evE b)
  | .rng3 a b c => iRng3 (evE a) (evE b) c
  | .zip a b => iZip gd (evE a) (evE b)
  | .zipS a => iZipS (evE a)
  | .enum a => iEnum gd (evE a) 0
  | .enumF a k => iEnum gd (evE a) k
end
end

/-! ### statements -/
inductive Out where
  | nx (s : Sl) (m : Mm) | rt (d : D) (fr : Bool) (m : Mm) | bk (s : Sl) (m : Mm) | ct (s : Sl) (m : Mm)
  | ex (x : Nat) (fs : List D) (s : Sl) (m : Mm)
abbrev Os := Option Out
abbrev Xst := Sl → Mm → Os
def bs {α : Type} (r : Rv α) (s : Sl) (m : Mm) (k : α → Os) : Os :=
  match r with
  | some (.ok a) => k a
  | some (.exc x fs) => some (.ex x fs s m)
  | none => none
def os {α : Type} (r : Option α) (k : α → Os) : Os :=
  match r with
  | some a => k a
  | none => none
def nxt (s : Sl) (m : Mm) : Os := frL s fun s => frL m fun m => some (.nx s m)
theorem nxt_eq (s : Sl) (m : Mm) : nxt s m = some (.nx s m) := by unfold nxt; rw [frL_eq, frL_eq]
/-- the turns of a while -/
def whlV (c : Xt) (b : Xst) (n : Nat) : Sl → Mm → Os :=
  @Nat.rec (fun _ => Sl → Mm → Os) (fun _ _ => none) (fun _ ih s m => bs (c s m) s m fun k =>
    if k then match b s m with
      | some (.nx s' m') => ih s' m'
      | some (.ct s' m') => ih s' m'
      | some (.bk s' m') => some (.nx s' m')
      | r => r
    else some (.nx s m)) n
def forV (g : Xg) (b : Xst) (ds : List D) : Sl → Mm → Os :=
  @List.rec D (fun _ => Sl → Mm → Os) (fun s m => some (.nx s m)) (fun d _ ih s m => os (g d s) fun s1 => match b s1 m with
    | some (.nx s' m') => ih s' m'
    | some (.ct s' m') => ih s' m'
    | some (.bk s' m') => some (.nx s' m')
    | r => r) ds
def fuel : Nat := 2 ^ 4096
def lockR (m : Mm) (n : Nat) (b : Bool) : Mm := match nthL m n with
  | some o => setL m n (o.setLk b)
  | none => m
def unlO (n : Nat) (r : Os) : Os := match r with
  | some (.nx s m) => some (.nx s (lockR m n false))
  | some (.rt d f m) => some (.rt d f (lockR m n false))
  | some (.bk s m) => some (.bk s (lockR m n false))
  | some (.ct s m) => some (.ct s (lockR m n false))
  | some (.ex x fs s m) => some (.ex x fs s (lockR m n false))
  | none => none
def appM (m : Mm) (n : Nat) (ys : List D) : Option Mm := match nthL m n with
  | some (.lst false xs) => if szOk (xs.length + ys.length) then frL (xs ++ ys) fun zs => some (setL m n (.lst false zs)) else none
  | _ => none
def frP {α κ : Type} (p : List κ × List D) (k : List κ → List D → α) : α := frL p.1 fun a => frL p.2 fun b => k a b
def setM (m : Mm) (n : Nat) (i v : D) : Option Mm := match nthL m n with
  | some (.lst false xs) => match i with
    | .int i => match ixAt xs.length i with
      | some k => frL (setL xs k v) fun zs => some (setL m n (.lst false zs))
      | none => none
    | _ => none
  | some (.dk false ks xs) => match keyD i with
    | some k => if Nat.blt ks.length 16777216 then frP (put ks xs k v) fun a b => some (setL m n (.dk false a b)) else none
    | none => none
  | some (.dt false ks xs) => match tkeyD i with
    | some k => if Nat.blt ks.length 16777216 then frP (put ks xs k v) fun a b => some (setL m n (.dt false a b)) else none
    | none => none
  | _ => none
def refD (d : D) (k : Nat → Os) : Os := match d with
  | .ref n => k n
  | _ => none

def sAsg (g : Xg) (e : Xe) : Xst := fun s m => bs (e s m) s m fun x => os (g x.1 s) fun s' => nxt s' m
def sAsgC (i : Nat) (e : Xe) : Xst := fun s m => bs (e s m) s m fun x => nxt (setL s i (some x.1)) m
def newV (i : Nat) (s : Sl) (m : Mm) (x : D × Bool) : Os := match x with
  | (.lst xs, true) => nxt (setL s i (some (.ref m.length))) (m ++ [.lst false xs])
  | _ => none
def sNew (i : Nat) (e : Xe) : Xst := fun s m => bs (e s m) s m fun x => newV i s m x
def sNewD (i : Nat) (tk : Bool) : Xst := fun s m => nxt (setL s i (some (.ref m.length))) (m ++ [if tk then .dt false [] [] else .dk false [] []])
def sPar (i j : Nat) (a b : Xe) : Xst := fun s m => bs (a s m) s m fun x => bs (b s m) s m fun y => nxt (setL (setL s i (some x.1)) j (some y.1)) m
def sSetI (o i v : Xe) : Xst := fun s m => bs (v s m) s m fun z => bs (o s m) s m fun x => bs (i s m) s m fun y => refD x.1 fun n => os (setM m n y.1 z.1) fun m' => nxt s m'
/-- what an augmented assignment may do -/
def augOk (o : Bop) (i : Int) (y : D) : Bool := match y with
  | .int j => match o with
    | .add => true
    | .sub => true
    | .mul => Nat.blt i.natAbs 18446744073709551616 || Nat.blt j.natAbs 18446744073709551616
    | .fdiv => decide (0 < j)
    | .mod => decide (0 < j)
    | .pow => false
  | _ => false
def sAug (i : Nat) (o : Bop) (e : Xe) : Xst := fun s m => match nthL s i with
  | some (some (.int a)) => bs (e s m) s m fun x => if augOk o a x.1 then bs (binV o (.int a) x.1) s m fun y => nxt (setL s i (some y.1)) m else none
  | _ => none
/-- a list that changes; a dict that changes -/
def refL (m : Mm) (d : D) (k : Nat → Os) : Os := match d with
  | .ref n => match nthL m n with
    | some (.lst _ _) => k n
    | _ => none
  | _ => none
def refK (m : Mm) (d : D) (k : Nat → Os) : Os := match d with
  | .ref n => match nthL m n with
    | some (.dk _ _ _) => k n
    | _ => none
  | _ => none
def lsK (m : Mm) (d : D) (k : List D → Os) : Os := match vw m d with
  | .lst ys => k ys
  | _ => none
def sAugL (i : Nat) (e : Xe) : Xst := fun s m => match nthL s i with
  | some (some d) => bs (e s m) s m fun x => refL m d fun n => lsK m x.1 fun ys => os (appM m n ys) fun m' => nxt s m'
  | _ => none
def sApp (o e : Xe) : Xst := fun s m => bs (o s m) s m fun x => refL m x.1 fun n => bs (e s m) s m fun y => os (appM m n [y.1]) fun m' => nxt s m'
def sExt (o e : Xe) : Xst := fun s m => bs (o s m) s m fun x => refL m x.1 fun n => bs (e s m) s m fun y => lsK m y.1 fun ys => os (appM m n ys) fun m' => nxt s m'
def popM (m : Mm) (n : Nat) : Option Mm := match nthL m n with
  | some (.lst false xs) => if xs.isEmpty then none else frL xs.dropLast fun zs => some (setL m n (.lst false zs))
  | _ => none
def sPop (o : Xe) : Xst := fun s m => bs (o s m) s m fun x => refL m x.1 fun n => os (popM m n) fun m' => nxt s m'
/-- behind setdefault(k, []): the thing that changes, and its place -/
def sdaM (m : Mm) (n : Nat) (k : D) : Option (Mm × Nat) := match nthL m n with
  | some (.dk false ks xs) => match keyD k with
    | some q => if Nat.blt ks.length 16777216 then match look ks xs q with
      | some (.ref l) => match nthL m l with
        | some (.lst _ _) => some (m, l)
        | _ => none
      | some _ => none
      | none => frL (ks ++ [q]) fun ks' => frL (xs ++ [.ref m.length]) fun xs' => some (setL m n (.dk false ks' xs') ++ [.lst false []], m.length)
      else none
    | none => none
  | _ => none
def sSda (o k e : Xe) : Xst := fun s m => bs (o s m) s m fun x => refK m x.1 fun n => bs (k s m) s m fun y => os (sdaM m n y.1) fun p =>
  bs (e s p.1) s p.1 fun z => os (appM p.1 p.2 [z.1]) fun m' => nxt s m'
def sExpr (e : Xe) : Xst := fun s m => bs (e s m) s m fun _ => nxt s m
def sRet (e : Xe) : Xst := fun s m => bs (e s m) s m fun x => some (.rt x.1 x.2 m)
def sRetN : Xst := fun _ m => some (.rt .non false m)
def sIte (t : Xt) (a b : Xst) : Xst := fun s m => bs (t s m) s m fun k => if k then a s m else b s m
def sWhl (t : Xt) (b : Xst) : Xst := fun s m => whlV t b fuel s m
def sFor (w : Sl → Option Nat) (g : Xg) (it : Xs) (b : Xst) : Xst := fun s m => bs (it s m) s m fun ds => match w s with
  | none => forV g b ds s m
  | some n => match nthL m n with
    | some o => if o.lk then forV g b ds s m else unlO n (forV g b ds s (lockR m n true))
    | none => none
/-- what a raised exception carries: an int, a text -/
def sRaiseF (x : Nat) (e : Xe) : Xst := fun s m => bs (e s m) s m fun y => if flatA y.1 then some (.ex x [y.1] s m) else none
/-- behind a suite its name is gone, and with it the exception -/
def unN (i : Nat) (r : Os) : Os := match r with
  | some (.nx s m) => if clS (setL s i none) && clM m then nxt (setL s i none) m else none
  | some (.bk s m) => if clS (setL s i none) && clM m then some (.bk (setL s i none) m) else none
  | some (.ct s m) => if clS (setL s i none) && clM m then some (.ct (setL s i none) m) else none
  | some (.rt d f m) => if clD d && clM m then some (.rt d f m) else none
  | _ => none
def sAs (i : Option Nat) (x : Nat) (fs : List D) (su : Xst) : Xst := match i with
  | none => fun s m => match su s m with
    | some (.ex _ _ _ _) => none
    | r => r
  | some i => fun s m => frL (setL s i (some (.exc x fs))) fun s => unN i (su s m)
/-- n: how many classes are known -/
def sTry (n : Nat) (b : Xst) (h : Nat → List D → Option Xst) : Xst := fun s m => match b s m with
  | some (.ex x fs s' m') => if Nat.blt x n then match h x fs with
    | some su => su s' m'
    | none => some (.ex x fs s' m')
    else none
  | r => r
def hNil : Nat → List D → Option Xst := fun _ _ => none
def hCons (ks : List Nat) (i : Option Nat) (su : Xst) (r : Nat → List D → Option Xst) : Nat → List D → Option Xst := fun k fs => if kIn ks k then some (sAs i k fs su) else r k fs
def sRaise (x : Nat) : Xst := fun s m => some (.ex x [] s m)
def sBrk : Xst := fun s m => some (.bk s m)
def sCnt : Xst := fun s m => some (.ct s m)
def sPss : Xst := nxt
def sNev : Xst := fun _ _ => none
def sSeq (a b : Xst) : Xst := fun s m => match a s m with
  | some (.nx s' m') => b s' m'
  | r => r
/-- the thing that a for walks -/
def walkV (i : Nat) : Sl → Option Nat := fun s => match nthL s i with
  | some (some (.ref n)) => some n
  | _ => none
def walk0 : Sl → Option Nat := fun _ => none
def walkR : It → Sl → Option Nat
  | .val (.var i) => walkV i
  | _ => walk0

section
variable (G : List D) (F : Fc)
mutual
def evS : S → Xst
  | .asg tg e => sAsg (asgT tg) (evE G F e)
  | .asgC i e => sAsgC i (evE G F e)
  | .new i e => sNew i (evE G F e)
  | .newC i e => sNew i (evE G F e)
  | .newD i tk => sNewD i tk
  | .par i j a b => sPar i j (evE G F a) (evE G F b)
  | .setI o i v => sSetI (evE G F o) (evE G F i) (evE G F v)
  | .aug i o e => sAug i o (evE G F e)
  | .augL i e => sAugL i (evE G F e)
  | .app o e => sApp (evE G F o) (evE G F e)
  | .ext o e => sExt (evE G F o) (evE G F e)
  | .pop o => sPop (evE G F o)
  | .sda o k e => sSda (evE G F o) (evE G F k) (evE G F e)
  | .expr e => sExpr (evE G F e)
  | .ret e => sRet (evE G F e)
  | .retN => sRetN
  | .ite t a b => sIte (evT G F t) (evSs a) (evSs b)
  | .whl t b => sWhl (evT G F t) (evSs b)
  | .for tg it b => sFor (walkR it) (asgT tg) (evI G F (gdF it) it) (evSs b)
  | .raise x => sRaise x
  | .raiseF x e => sRaiseF x (evE G F e)
  | .tryE n b hs => sTry n (evSs b) (evH hs)
  | .brk => sBrk
  | .cnt => sCnt
  | .pss => sPss
  | .nev => sNev
def evSs : Ss → Xst
  | .nil => sPss
  | .cons t ss => sSeq (evS t) (evSs ss)
def evH : Hds → Nat → List D → Option Xst
  | .nil => hNil
  | .cons ks i su r => hCons ks i (evSs su) (evH r)
end
end

/-! ### a program -/
structure Fn where
  np : Nat
  ns : Nat
  run : Fc → Xst
structure Pg where
  G : List D
  fns : List Fn
def stD (n : Nat) (ds : List D) : Sl := ds.map some ++ List.replicate (n - ds.length) none
/-- is the thing that is handed out known to none but the one called? -/
def frR (m : Mm) (fr : Bool) : D → Bool
  | .lst _ => fr
  | .ref k => match nthL m k with
    | some (.lst _ ys) => rfs ys
    | some _ => true
    | none => false
  | _ => false
def runF (F : Fc) (fn : Fn) (ds : List D) : Rv (D × Bool) :=
  if ds.length = fn.np then
    match frL (stD fn.ns ds) fun s => fn.run F s [] with
    | some (.nx _ _) => rt (.non, false)
    | some (.rt d fr m) => match frz m 4 d with
      | some d' => rt (d', frR m fr d)
      | none => none
    | some (.ex x fs _ _) => some (.exc x fs)
    | _ => none
  else none
def callK (P : Pg) : Nat → Fc
  | 0 => fun _ _ => none
  | k + 1 => fun f ds => match nthL P.fns f with
    | some fn => runF (callK P k) fn ds
    | none => none
end
end MP
set_option Elab.async false
set_option linter.all false
set_option maxRecDepth 100000
set_option autoImplicit false
/-! how the plain data stand in the hand layer's heap -/
namespace MP
open PySem PySem.Spec PyProof.Rows L2

/-- the module's objects; the exception that a suite holds: its class, its dict, where it lies; the name of its field -/
structure KX where
  K : PySem.W.Frag
  ex : Nat → Option Addr → Addr → Prop
  fld : Nat → Str
/-- outside of a suite -/
def KX.of (K : PySem.W.Frag) (fld : Nat → Str) : KX := ⟨K, fun _ _ _ => False, fld⟩
def repA : D → V → Prop
  | .non, w => w = .non
  | .bl b, w => w = .bl b
  | .int i, w => w = .int i
  | .str x, w => w = .str x
  | _, _ => False
/-- what an exception carries -/
def XFld (n : Str) (H : Hp) (fs : List D) (od : Option Addr) : Prop :=
  match fs with
  | [] => od = none
  | [f] => ∃ dd w, od = some dd ∧ H dd = some (.xd [(n, w)]) ∧ repA f w
  | _ => False
section
variable (K : KX)
/-- a list that is an object of the module -/
def KSeqL (K : PySem.W.Frag) (a : Addr) (vs : List V) : Prop := ∃ (o : Obj) (its : Array Value) (n : Nat), K.lookup a = some o ∧ o.cls = .type "list" ∧ o.dict = none ∧ o.data = .seq its n ∧ its.size ≤ sizeLine ∧ Vals vs its.toList
mutual
def Rep (H : Hp) (B φ : List Addr) : D → V → Prop
  | .non, v => v = .non
  | .bl b, v => v = .bl b
  | .int i, v => v = .int i
  | .str x, v => v = .str x
  | .tup xs, v => ∃ a vs, v = .ref a ∧ H a = some (.tup vs) ∧ RepL H B φ xs vs
  | .ktup xs, v => ∃ a vs, v = .ref a ∧ SqT K.K H a vs ∧ RepL H B φ xs vs
  | .lst xs, v => ∃ a vs, v = .ref a ∧ H a = some (.lst vs) ∧ a ∉ B ∧ a ∉ φ ∧ RepL H B φ xs vs
  | .klst xs, v => ∃ a vs, v = .ref a ∧ ((Rd H a (.lst vs) ∧ a ∉ B ∧ a ∉ φ) ∨ KSeqL K.K a vs) ∧ RepL H B φ xs vs
  | .dk ks xs, v => ∃ a vs, v = .ref a ∧ H a = some (.dK (ks.zip vs)) ∧ ks.length = vs.length ∧ a ∉ B ∧ a ∉ φ ∧ RepL H B φ xs vs
  | .dt ks xs, v => ∃ a vs, v = .ref a ∧ H a = some (.dT (ks.zip vs)) ∧ ks.length = vs.length ∧ a ∉ B ∧ a ∉ φ ∧ RepL H B φ xs vs
  | .ref n, v => ∃ a, φ[n]? = some a ∧ v = .ref a
  | .exc k fs, v => ∃ a od, v = .ref a ∧ K.ex k od a ∧ XFld (K.fld k) H fs od
def RepL (H : Hp) (B φ : List Addr) : List D → List V → Prop
  | [], vs => vs = []
  | x :: xs, vs => ∃ v r, vs = v :: r ∧ Rep H B φ x v ∧ RepL H B φ xs r
end
end

/-- what stays from one state to a later one -/
structure Ext (φ : List Addr) (m : Mm) (H : Hp) (φ' : List Addr) (m' : Mm) (H' : Hp) : Prop where
  pre : ∃ e, φ' = φ ++ e ∧ ∀ b ∈ e, H b = none
  keep : ∀ b o, H b = some o → b ∉ φ → H' b = some o
  dom : ∀ b o, H b = some o → ∃ o', H' b = some o'
  tup : ∀ b xs, H b = some (.tup xs) → H' b = some (.tup xs)
  frz : ∀ b o u, H b = some (.frz o u) → H' b = some (.frz o u)
  xd : ∀ b u, H b = some (.xd u) → H' b = some (.xd u)
  lck : ∀ (n : Nat) (a : Addr) (o : MO), φ[n]? = some a → m[n]? = some o → o.lk = true → m'[n]? = some o ∧ ∀ u, H a = some u → H' a = some u

section
variable {K : KX} {H H' H0 H1 H2 : Hp} {B φ φ' φ1 φ2 : List Addr} {m m' m1 m2 : Mm}
theorem Ext.refl : Ext φ m H φ m H := ⟨⟨[], by simp, by simp⟩, fun _ _ e _ => e, fun _ o e => ⟨o, e⟩, fun _ _ e => e, fun _ _ _ e => e, fun _ _ e => e, fun _ _ _ _ e _ => ⟨e, fun _ q => q⟩⟩
theorem Ext.same (s : Same H H') : Ext φ m H φ m H' :=
  ⟨⟨[], by simp, by simp⟩, fun b o e _ => s b o e, fun b o e => ⟨o, s b o e⟩, fun b _ e => s b _ e, fun b _ _ e => s b _ e, fun b _ e => s b _ e, fun n a o _ e _ => ⟨e, fun u q => s a u q⟩⟩
theorem Ext.trans (x : Ext φ m H φ1 m1 H1) (y : Ext φ1 m1 H1 φ2 m2 H2) : Ext φ m H φ2 m2 H2 := by
  obtain ⟨e1, h1, n1⟩ := x.pre
  obtain ⟨e2, h2, n2⟩ := y.pre
  refine ⟨⟨e1 ++ e2, by rw [h2, h1, List.append_assoc], fun b hb => ?_⟩, fun b o e nb => ?_, fun b o e => ?_, fun b xs e => y.tup b xs (x.tup b xs e), fun b o u e => y.frz b o u (x.frz b o u e), fun b u e => y.xd b u (x.xd b u e), fun n a o hn hm hl => ?_⟩
  · rcases List.mem_append.mp hb with hb | hb
    · exact n1 b hb
    · cases q : H b with
      | none => rfl
      | some o =>
        obtain ⟨o', e'⟩ := x.dom b o q
        rw [n2 b hb] at e'; cases e'
  · refine y.keep b o (x.keep b o e nb) fun z => ?_
    rw [h1] at z
    rcases List.mem_append.mp z with z | z
    · exact nb z
    · rw [n1 b z] at e; cases e
  · obtain ⟨o', e'⟩ := x.dom b o e
    exact y.dom b o' e'
  · obtain ⟨q1, q2⟩ := x.lck n a o hn hm hl
    have hn1 : φ1[n]? = some a := by
      rw [h1, List.getElem?_append_left (List.getElem?_eq_some_iff.mp hn).1]; exact hn
    obtain ⟨q3, q4⟩ := y.lck n a o hn1 q1 hl
    exact ⟨q3, fun u z => q4 u (q2 u z)⟩

/-! ### data stay -/
theorem Rd.ext {a : Addr} {u : HO} (x : Ext φ m H φ' m' H') (r : Rd H a u) (n : a ∉ φ) : Rd H' a u := by
  rcases r with r | ⟨o, r⟩
  · exact .inl (x.keep a _ r n)
  · exact .inr ⟨o, x.keep a _ r n⟩
theorem Rd.some {a : Addr} {u : HO} (r : Rd H a u) : ∃ o, H a = some o := by
  rcases r with r | ⟨o, r⟩
  · exact ⟨_, r⟩
  · exact ⟨_, r⟩
theorem Ext.nin {a : Addr} {o : HO} (x : Ext φ m H φ' m' H') (e : H a = some o) (n : a ∉ φ) : a ∉ φ' := by
  obtain ⟨es, h1, n1⟩ := x.pre
  rw [h1]
  intro z
  rcases List.mem_append.mp z with z | z
  · exact n z
  · rw [n1 a z] at e; cases e
theorem SqT.ext {a : Addr} {vs : List V} (x : Ext φ m H φ' m' H') {K : PySem.W.Frag} (r : SqT K H a vs) : SqT K H' a vs := by
  rcases r with (r | ⟨o, r⟩) | r
  · exact .inl (.inl (x.tup a _ r))
  · exact .inl (.inr ⟨o, x.frz a _ _ r⟩)
  · exact .inr r
theorem XFld.ext {n : Str} {fs : List D} {od : Option Addr} (x : Ext φ m H φ' m' H') (h : XFld n H fs od) : XFld n H' fs od := by
  unfold XFld at h ⊢
  split at h
  · exact h
  · obtain ⟨dd, w, e1, e2, e3⟩ := h
    exact ⟨dd, w, e1, x.xd dd _ e2, e3⟩
  · exact h
mutual
theorem Rep.ext (x : Ext φ m H φ' m' H') : ∀ (d : D) (v : V), Rep K H B φ d v → Rep K H' B φ' d v
  | .non, _, h => h
  | .bl _, _, h => h
  | .int _, _, h => h
  | .str _, _, h => h
  | .tup xs, _, ⟨a, vs, e, q, r⟩ => ⟨a, vs, e, x.tup a _ q, RepL.ext x xs vs r⟩
  | .ktup xs, _, ⟨a, vs, e, q, r⟩ => ⟨a, vs, e, SqT.ext x q, RepL.ext x xs vs r⟩
  | .lst xs, _, ⟨a, vs, e, q, nb, np, r⟩ => ⟨a, vs, e, x.keep a _ q np, nb, x.nin q np, RepL.ext x xs vs r⟩
  | .klst xs, _, ⟨a, vs, e, .inl ⟨q, nb, np⟩, r⟩ => ⟨a, vs, e, .inl ⟨Rd.ext x q np, nb, (let ⟨_, z⟩ := Rd.some q; x.nin z np)⟩, RepL.ext x xs vs r⟩
  | .klst xs, _, ⟨a, vs, e, .inr q, r⟩ => ⟨a, vs, e, .inr q, RepL.ext x xs vs r⟩
  | .dk ks xs, _, ⟨a, vs, e, q, l, nb, np, r⟩ => ⟨a, vs, e, x.keep a _ q np, l, nb, x.nin q np, RepL.ext x xs vs r⟩
  | .dt ks xs, _, ⟨a, vs, e, q, l, nb, np, r⟩ => ⟨a, vs, e, x.keep a _ q np, l, nb, x.nin q np, RepL.ext x xs vs r⟩
  | .ref n, _, ⟨a, e, z⟩ => ⟨a, (by
      obtain ⟨es, h1, n1⟩ := x.pre
      rw [h1, List.getElem?_append_left (List.getElem?_eq_some_iff.mp e).1]; exact e), z⟩
  | .exc _ _, _, ⟨a, od, e, q, r⟩ => ⟨a, od, e, q, r.ext x⟩
theorem RepL.ext (x : Ext φ m H φ' m' H') : ∀ (ds : List D) (vs : List V), RepL K H B φ ds vs → RepL K H' B φ' ds vs
  | [], _, h => h
  | d :: ds, _, ⟨v, r, e, h, t⟩ => ⟨v, r, e, Rep.ext x d v h, RepL.ext x ds r t⟩
end
theorem Rep.same (s : Same H H') {d : D} {v : V} (h : Rep K H B φ d v) : Rep K H' B φ d v := Rep.ext (m := []) (m' := []) (Ext.same s) d v h
theorem RepL.same (s : Same H H') {d : List D} {v : List V} (h : RepL K H B φ d v) : RepL K H' B φ d v := RepL.ext (m := []) (m' := []) (Ext.same s) d v h

/-! ### other sets of things that change -/
mutual
/-- a value with no thing that changes within, told to one that knows less of them -/
theorem Rep.less {K' : KX} (hK : K'.K = K.K) {B' : List Addr} (hs : ∀ a, a ∈ B' → a ∈ B ∨ a ∈ φ) : ∀ (d : D) (v : V), rf d = true → Rep K H B φ d v → Rep K' H B' [] d v
  | .non, _, _, h => h
  | .bl _, _, _, h => h
  | .int _, _, _, h => h
  | .str _, _, _, h => h
  | .tup xs, _, q, ⟨a, vs, e, z, r⟩ => ⟨a, vs, e, z, RepL.less hK hs xs vs q r⟩
  | .ktup xs, _, q, ⟨a, vs, e, z, r⟩ => ⟨a, vs, e, hK ▸ z, RepL.less hK hs xs vs q r⟩
  | .lst xs, _, q, ⟨a, vs, e, z, nb, np, r⟩ => ⟨a, vs, e, z, (fun w => (hs a w).elim nb np), (by simp), RepL.less hK hs xs vs q r⟩
  | .klst xs, _, q, ⟨a, vs, e, .inl ⟨z, nb, np⟩, r⟩ => ⟨a, vs, e, .inl ⟨z, (fun w => (hs a w).elim nb np), (by simp)⟩, RepL.less hK hs xs vs q r⟩
  | .klst xs, _, q, ⟨a, vs, e, .inr z, r⟩ => ⟨a, vs, e, .inr (hK ▸ z), RepL.less hK hs xs vs q r⟩
  | .dk ks xs, _, q, ⟨a, vs, e, z, l, nb, np, r⟩ => ⟨a, vs, e, z, l, (fun w => (hs a w).elim nb np), (by simp), RepL.less hK hs xs vs q r⟩
  | .dt ks xs, _, q, ⟨a, vs, e, z, l, nb, np, r⟩ => ⟨a, vs, e, z, l, (fun w => (hs a w).elim nb np), (by simp), RepL.less hK hs xs vs q r⟩
  | .ref _, _, q, _ => by simp [rf] at q
  | .exc _ _, _, q, _ => by simp [rf] at q
theorem RepL.less {K' : KX} (hK : K'.K = K.K) {B' : List Addr} (hs : ∀ a, a ∈ B' → a ∈ B ∨ a ∈ φ) : ∀ (ds : List D) (vs : List V), rfs ds = true → RepL K H B φ ds vs → RepL K' H B' [] ds vs
  | [], _, _, h => h
  | d :: ds, _, q, ⟨v, r, e, h, t⟩ => by
    rw [rfs, Bool.and_eq_true] at q
    exact ⟨v, r, e, Rep.less hK hs d v q.1 h, RepL.less hK hs ds r q.2 t⟩
end
mutual
/-- .. from a def back to its caller, which knows more of them -/
theorem Rep.more {K' : KX} (hK : K'.K = K.K) {B1 φ1 : List Addr} (hs : ∀ a, (a ∈ B1 ∨ a ∈ φ1) → a ∈ B) : ∀ (d : D) (v : V), rf d = true → Rep K H B [] d v → Rep K' H B1 φ1 d v
  | .non, _, _, h => h
  | .bl _, _, _, h => h
  | .int _, _, _, h => h
  | .str _, _, _, h => h
  | .tup xs, _, q, ⟨a, vs, e, z, r⟩ => ⟨a, vs, e, z, RepL.more hK hs xs vs q r⟩
  | .ktup xs, _, q, ⟨a, vs, e, z, r⟩ => ⟨a, vs, e, hK ▸ z, RepL.more hK hs xs vs q r⟩
  | .lst xs, _, q, ⟨a, vs, e, z, nb, np, r⟩ => ⟨a, vs, e, z, (fun w => nb (hs a (.inl w))), (fun w => nb (hs a (.inr w))), RepL.more hK hs xs vs q r⟩
  | .klst xs, _, q, ⟨a, vs, e, .inl ⟨z, nb, np⟩, r⟩ => ⟨a, vs, e, .inl ⟨z, (fun w => nb (hs a (.inl w))), (fun w => nb (hs a (.inr w)))⟩, RepL.more hK hs xs vs q r⟩
  | .klst xs, _, q, ⟨a, vs, e, .inr z, r⟩ => ⟨a, vs, e, .inr (hK ▸ z), RepL.more hK hs xs vs q r⟩
  | .dk ks xs, _, q, ⟨a, vs, e, z, l, nb, np, r⟩ => ⟨a, vs, e, z, l, (fun w => nb (hs a (.inl w))), (fun w => nb (hs a (.inr w))), RepL.more hK hs xs vs q r⟩
  | .dt ks xs, _, q, ⟨a, vs, e, z, l, nb, np, r⟩ => ⟨a, vs, e, z, l, (fun w => nb (hs a (.inl w))), (fun w => nb (hs a (.inr w))), RepL.more hK hs xs vs q r⟩
  | .ref _, _, q, _ => by simp [rf] at q
  | .exc _ _, _, q, _ => by simp [rf] at q
theorem RepL.more {K' : KX} (hK : K'.K = K.K) {B1 φ1 : List Addr} (hs : ∀ a, (a ∈ B1 ∨ a ∈ φ1) → a ∈ B) : ∀ (ds : List D) (vs : List V), rfs ds = true → RepL K H B [] ds vs → RepL K' H B1 φ1 ds vs
  | [], _, _, h => h
  | d :: ds, _, q, ⟨v, r, e, h, t⟩ => by
    rw [rfs, Bool.and_eq_true] at q
    exact ⟨v, r, e, Rep.more hK hs d v q.1 h, RepL.more hK hs ds r q.2 t⟩
end
mutual
/-- what is flat is so for all -/
theorem Rep.flat {K' : KX} (hK : K'.K = K.K) {B1 φ1 : List Addr} : ∀ (d : D) (v : V), flat d = true → Rep K H B φ d v → Rep K' H B1 φ1 d v
  | .non, _, _, h => h
  | .bl _, _, _, h => h
  | .int _, _, _, h => h
  | .str _, _, _, h => h
  | .tup xs, _, q, ⟨a, vs, e, z, r⟩ => ⟨a, vs, e, z, RepL.flat hK xs vs q r⟩
  | .ktup xs, _, q, ⟨a, vs, e, z, r⟩ => ⟨a, vs, e, hK ▸ z, RepL.flat hK xs vs q r⟩
  | .lst _, _, q, _ => by simp [MP.flat] at q
  | .klst _, _, q, _ => by simp [MP.flat] at q
  | .dk _ _, _, q, _ => by simp [MP.flat] at q
  | .dt _ _, _, q, _ => by simp [MP.flat] at q
  | .ref _, _, q, _ => by simp [MP.flat] at q
  | .exc _ _, _, q, _ => by simp [MP.flat] at q
theorem RepL.flat {K' : KX} (hK : K'.K = K.K) {B1 φ1 : List Addr} : ∀ (ds : List D) (vs : List V), flats ds = true → RepL K H B φ ds vs → RepL K' H B1 φ1 ds vs
  | [], _, _, h => h
  | d :: ds, _, q, ⟨v, r, e, h, t⟩ => by
    rw [flats, Bool.and_eq_true] at q
    exact ⟨v, r, e, Rep.flat hK d v q.1 h, RepL.flat hK ds r q.2 t⟩
end

/-! ### lists of data -/
theorem RepL.length : ∀ {ds : List D} {vs : List V}, RepL K H B φ ds vs → ds.length = vs.length
  | [], _, h => by cases h; rfl
  | d :: ds, _, ⟨v, r, e, _, t⟩ => by subst e; simp [RepL.length t]
theorem RepL.get : ∀ {ds : List D} {vs : List V} {i : Nat} {d : D}, RepL K H B φ ds vs → ds[i]? = some d → ∃ v, vs[i]? = some v ∧ Rep K H B φ d v
  | [], _, _, _, _, e => by simp at e
  | _ :: _, _, 0, _, ⟨v, r, e, h, _⟩, q => by subst e; simp at q; subst q; exact ⟨v, rfl, h⟩
  | _ :: _, _, i + 1, _, ⟨v, r, e, _, t⟩, q => by subst e; simpa using RepL.get t (by simpa using q)
theorem RepL.append : ∀ {ds es : List D} {vs ws : List V}, RepL K H B φ ds vs → RepL K H B φ es ws → RepL K H B φ (ds ++ es) (vs ++ ws)
  | [], _, _, _, h, q => by cases h; exact q
  | _ :: _, _, _, _, ⟨v, r, e, h, t⟩, q => by subst e; exact ⟨v, _, rfl, h, RepL.append t q⟩
theorem RepL.take : ∀ {ds : List D} {vs : List V} (n : Nat), RepL K H B φ ds vs → RepL K H B φ (ds.take n) (vs.take n)
  | [], _, n, h => by cases h; simp [RepL]
  | _ :: _, _, 0, _ => by simp [RepL]
  | _ :: _, _, n + 1, ⟨v, r, e, h, t⟩ => by subst e; exact ⟨v, _, rfl, h, RepL.take n t⟩
theorem RepL.drop : ∀ {ds : List D} {vs : List V} (n : Nat), RepL K H B φ ds vs → RepL K H B φ (ds.drop n) (vs.drop n)
  | [], _, n, h => by cases h; simp [RepL]
  | _ :: _, _, 0, h => h
  | _ :: _, _, n + 1, ⟨v, r, e, h, t⟩ => by subst e; exact RepL.drop n t
theorem RepL.set : ∀ {ds : List D} {vs : List V} (n : Nat) {d : D} {v : V}, RepL K H B φ ds vs → Rep K H B φ d v → RepL K H B φ (ds.set n d) (vs.set n v)
  | [], _, n, _, _, h, _ => by cases h; simp [RepL]
  | _ :: _, _, 0, _, _, ⟨v, r, e, h, t⟩, q => by subst e; exact ⟨_, _, rfl, q, t⟩
  | _ :: _, _, n + 1, _, _, ⟨v, r, e, h, t⟩, q => by subst e; exact ⟨_, _, rfl, h, RepL.set n t q⟩
theorem RepL.nil : RepL K H B φ [] [] := rfl
theorem RepL.cons {d : D} {v : V} {ds : List D} {vs : List V} (h : Rep K H B φ d v) (t : RepL K H B φ ds vs) : RepL K H B φ (d :: ds) (v :: vs) := ⟨v, vs, rfl, h, t⟩
theorem RepL.one {d : D} {v : V} (h : Rep K H B φ d v) : RepL K H B φ [d] [v] := ⟨v, [], rfl, h, rfl⟩
theorem RepL.inv1 {d : D} {vs : List V} (h : RepL K H B φ [d] vs) : ∃ v, vs = [v] ∧ Rep K H B φ d v := by
  obtain ⟨v, r, e, q, t⟩ := h
  cases t
  exact ⟨v, e, q⟩
theorem RepL.inv2 {d d2 : D} {vs : List V} (h : RepL K H B φ [d, d2] vs) : ∃ v v2, vs = [v, v2] ∧ Rep K H B φ d v ∧ Rep K H B φ d2 v2 := by
  obtain ⟨v, r, e, q, t⟩ := h
  obtain ⟨v2, rfl, q2⟩ := RepL.inv1 t
  exact ⟨v, v2, e, q, q2⟩
theorem RepL.reverse : ∀ {ds : List D} {vs : List V}, RepL K H B φ ds vs → RepL K H B φ ds.reverse vs.reverse
  | [], _, h => by cases h; rfl
  | _ :: _, _, ⟨v, r, e, h, t⟩ => by subst e; simp only [List.reverse_cons]; exact (RepL.reverse t).append (RepL.one h)
theorem RepL.ints : ∀ {ds : List D} {vs : List V} {is : List Int}, RepL K H B φ ds vs → intsD ds = some is → vs = is.map V.int
  | [], _, _, h, e => by cases h; cases e; rfl
  | .int i :: ds, _, _, ⟨v, r, e, h, t⟩, q => by
    rw [intsD] at q
    split at q
    · rename_i js hj
      cases q
      subst e
      rw [List.map_cons, ← RepL.ints t hj]
      rw [show v = V.int i from h]
    · cases q
  | .non :: _, _, _, _, q => by simp [intsD] at q
  | .bl _ :: _, _, _, _, q => by simp [intsD] at q
  | .str _ :: _, _, _, _, q => by simp [intsD] at q
  | .tup _ :: _, _, _, _, q => by simp [intsD] at q
  | .ktup _ :: _, _, _, _, q => by simp [intsD] at q
  | .lst _ :: _, _, _, _, q => by simp [intsD] at q
  | .klst _ :: _, _, _, _, q => by simp [intsD] at q
  | .dk _ _ :: _, _, _, _, q => by simp [intsD] at q
  | .dt _ _ :: _, _, _, _, q => by simp [intsD] at q
  | .ref _ :: _, _, _, _, q => by simp [intsD] at q
  | .exc _ _ :: _, _, _, _, q => by simp [intsD] at q
theorem RepL.bls : ∀ {ds : List D} {vs : List V} {is : List Bool}, RepL K H B φ ds vs → blsD ds = some is → vs = is.map V.bl
  | [], _, _, h, e => by cases h; cases e; rfl
  | .bl i :: ds, _, _, ⟨v, r, e, h, t⟩, q => by
    rw [blsD] at q
    split at q
    · rename_i js hj
      cases q
      subst e
      rw [List.map_cons, ← RepL.bls t hj]
      rw [show v = V.bl i from h]
    · cases q
  | .non :: _, _, _, _, q => by simp [blsD] at q
  | .int _ :: _, _, _, _, q => by simp [blsD] at q
  | .str _ :: _, _, _, _, q => by simp [blsD] at q
  | .tup _ :: _, _, _, _, q => by simp [blsD] at q
  | .ktup _ :: _, _, _, _, q => by simp [blsD] at q
  | .lst _ :: _, _, _, _, q => by simp [blsD] at q
  | .klst _ :: _, _, _, _, q => by simp [blsD] at q
  | .dk _ _ :: _, _, _, _, q => by simp [blsD] at q
  | .dt _ _ :: _, _, _, _, q => by simp [blsD] at q
  | .ref _ :: _, _, _, _, q => by simp [blsD] at q
  | .exc _ _ :: _, _, _, _, q => by simp [blsD] at q
theorem RepL.ofInts : ∀ (is : List Int), RepL K H B φ (is.map D.int) (is.map V.int)
  | [] => rfl
  | i :: is => ⟨_, _, rfl, rfl, RepL.ofInts is⟩

/-! ### hidden addresses -/
mutual
theorem Rep.hide {K : KX} {H : Hp} {B φ : List Addr} {x : Addr} (hx : H x = Option.none) : ∀ (d : D) (v : V), Rep K H B φ d v → Rep K H (x :: B) φ d v
  | .non, _, h => h
  | .bl _, _, h => h
  | .int _, _, h => h
  | .str _, _, h => h
  | .tup xs, _, ⟨a, vs, e, z, r⟩ => ⟨a, vs, e, z, RepL.hide hx xs vs r⟩
  | .ktup xs, _, ⟨a, vs, e, z, r⟩ => ⟨a, vs, e, z, RepL.hide hx xs vs r⟩
  | .lst xs, _, ⟨a, vs, e, z, nb, np, r⟩ => ⟨a, vs, e, z, (fun w => (List.mem_cons.mp w).elim (ne_of_none z hx) nb), np, RepL.hide hx xs vs r⟩
  | .klst xs, _, ⟨a, vs, e, .inl ⟨z, nb, np⟩, r⟩ => ⟨a, vs, e, .inl ⟨z, (fun w => (List.mem_cons.mp w).elim (let ⟨_, z'⟩ := Rd.some z; ne_of_none z' hx) nb), np⟩, RepL.hide hx xs vs r⟩
  | .klst xs, _, ⟨a, vs, e, .inr z, r⟩ => ⟨a, vs, e, .inr z, RepL.hide hx xs vs r⟩
  | .dk ks xs, _, ⟨a, vs, e, z, l, nb, np, r⟩ => ⟨a, vs, e, z, l, (fun w => (List.mem_cons.mp w).elim (ne_of_none z hx) nb), np, RepL.hide hx xs vs r⟩
  | .dt ks xs, _, ⟨a, vs, e, z, l, nb, np, r⟩ => ⟨a, vs, e, z, l, (fun w => (List.mem_cons.mp w).elim (ne_of_none z hx) nb), np, RepL.hide hx xs vs r⟩
  | .ref _, _, h => h
  | .exc _ _, _, h => h
theorem RepL.hide {K : KX} {H : Hp} {B φ : List Addr} {x : Addr} (hx : H x = Option.none) : ∀ (ds : List D) (vs : List V), RepL K H B φ ds vs → RepL K H (x :: B) φ ds vs
  | [], _, h => h
  | d :: ds, _, ⟨v, r, e, h, t⟩ => ⟨v, r, e, Rep.hide hx d v h, RepL.hide hx ds r t⟩
end
mutual
theorem Rep.bare {K : KX} {H : Hp} {B φ : List Addr} {x : Addr} : ∀ (d : D) (v : V), Rep K H (x :: B) φ d v → Rep K H B φ d v
  | .non, _, h => h
  | .bl _, _, h => h
  | .int _, _, h => h
  | .str _, _, h => h
  | .tup xs, _, ⟨a, vs, e, z, r⟩ => ⟨a, vs, e, z, RepL.bare xs vs r⟩
  | .ktup xs, _, ⟨a, vs, e, z, r⟩ => ⟨a, vs, e, z, RepL.bare xs vs r⟩
  | .lst xs, _, ⟨a, vs, e, z, nb, np, r⟩ => ⟨a, vs, e, z, (fun w => nb (List.mem_cons_of_mem _ w)), np, RepL.bare xs vs r⟩
  | .klst xs, _, ⟨a, vs, e, .inl ⟨z, nb, np⟩, r⟩ => ⟨a, vs, e, .inl ⟨z, (fun w => nb (List.mem_cons_of_mem _ w)), np⟩, RepL.bare xs vs r⟩
  | .klst xs, _, ⟨a, vs, e, .inr z, r⟩ => ⟨a, vs, e, .inr z, RepL.bare xs vs r⟩
  | .dk ks xs, _, ⟨a, vs, e, z, l, nb, np, r⟩ => ⟨a, vs, e, z, l, (fun w => nb (List.mem_cons_of_mem _ w)), np, RepL.bare xs vs r⟩
  | .dt ks xs, _, ⟨a, vs, e, z, l, nb, np, r⟩ => ⟨a, vs, e, z, l, (fun w => nb (List.mem_cons_of_mem _ w)), np, RepL.bare xs vs r⟩
  | .ref _, _, h => h
  | .exc _ _, _, h => h
theorem RepL.bare {K : KX} {H : Hp} {B φ : List Addr} {x : Addr} : ∀ (ds : List D) (vs : List V), RepL K H (x :: B) φ ds vs → RepL K H B φ ds vs
  | [], _, h => h
  | d :: ds, _, ⟨v, r, e, h, t⟩ => ⟨v, r, e, Rep.bare d v h, RepL.bare ds r t⟩
end
theorem nin_grow {B φ : List Addr} {x a : Addr} (nb : a ∉ x :: B) (np : a ∉ φ) : a ∉ φ ++ [x] := fun w => (List.mem_append.mp w).elim np fun z => nb (by rw [List.mem_singleton.mp z]; exact List.mem_cons_self)
mutual
/-- a hidden list becomes a thing that changes -/
theorem Rep.grow {K : KX} {H : Hp} {B φ : List Addr} {x : Addr} : ∀ (d : D) (v : V), Rep K H (x :: B) φ d v → Rep K H B (φ ++ [x]) d v
  | .non, _, h => h
  | .bl _, _, h => h
  | .int _, _, h => h
  | .str _, _, h => h
  | .tup xs, _, ⟨a, vs, e, z, r⟩ => ⟨a, vs, e, z, RepL.grow xs vs r⟩
  | .ktup xs, _, ⟨a, vs, e, z, r⟩ => ⟨a, vs, e, z, RepL.grow xs vs r⟩
  | .lst xs, _, ⟨a, vs, e, z, nb, np, r⟩ => ⟨a, vs, e, z, (fun w => nb (List.mem_cons_of_mem _ w)), nin_grow nb np, RepL.grow xs vs r⟩
  | .klst xs, _, ⟨a, vs, e, .inl ⟨z, nb, np⟩, r⟩ => ⟨a, vs, e, .inl ⟨z, (fun w => nb (List.mem_cons_of_mem _ w)), nin_grow nb np⟩, RepL.grow xs vs r⟩
  | .klst xs, _, ⟨a, vs, e, .inr z, r⟩ => ⟨a, vs, e, .inr z, RepL.grow xs vs r⟩
  | .dk ks xs, _, ⟨a, vs, e, z, l, nb, np, r⟩ => ⟨a, vs, e, z, l, (fun w => nb (List.mem_cons_of_mem _ w)), nin_grow nb np, RepL.grow xs vs r⟩
  | .dt ks xs, _, ⟨a, vs, e, z, l, nb, np, r⟩ => ⟨a, vs, e, z, l, (fun w => nb (List.mem_cons_of_mem _ w)), nin_grow nb np, RepL.grow xs vs r⟩
  | .ref n, _, ⟨a, e, z⟩ => ⟨a, by rw [List.getElem?_append_left (List.getElem?_eq_some_iff.mp e).1]; exact e, z⟩
  | .exc _ _, _, h => h
theorem RepL.grow {K : KX} {H : Hp} {B φ : List Addr} {x : Addr} : ∀ (ds : List D) (vs : List V), RepL K H (x :: B) φ ds vs → RepL K H B (φ ++ [x]) ds vs
  | [], _, h => h
  | d :: ds, _, ⟨v, r, e, h, t⟩ => ⟨v, r, e, Rep.grow d v h, RepL.grow ds r t⟩
end
/-- the heap, but for the hidden x (a list) -/
def Off (x : Addr) (H H' : Hp) : Prop := ∀ b o, b ≠ x → H b = some o → H' b = some o
theorem off_upd {x : Addr} {H : Hp} {o : HO} : Off x H (upd H x o) := fun b u nb e => by rw [upd_ne nb]; exact e
/-- x holds what grows: a list, a dict -/
def Gw (H : Hp) (x : Addr) : Prop := (∃ ws, H x = some (.lst ws)) ∨ ∃ kvs, H x = some (.dK kvs)
theorem Gw.l {H : Hp} {x : Addr} {ws : List V} (h : H x = some (.lst ws)) : Gw H x := .inl ⟨ws, h⟩
theorem Gw.d {H : Hp} {x : Addr} {kvs : List (Key × V)} (h : H x = some (.dK kvs)) : Gw H x := .inr ⟨kvs, h⟩
theorem Gw.off {H : Hp} {x a : Addr} {vs : List V} (h : Gw H x) (w : a = x) (z : Rd H a (.tup vs)) : False := by
  subst w
  rcases z with z | ⟨u, z⟩ <;> rcases h with ⟨ws, q⟩ | ⟨ks, q⟩ <;> (rw [q] at z; cases z)
theorem XFld.off {n : Str} {fs : List D} {od : Option Addr} {H H' : Hp} {x : Addr} (hx : Gw H x) (o : Off x H H') (h : XFld n H fs od) : XFld n H' fs od := by
  unfold XFld at h ⊢
  split at h
  · exact h
  · obtain ⟨dd, w, e1, e2, e3⟩ := h
    refine ⟨dd, w, e1, o _ _ (fun z => ?_) e2, e3⟩
    subst z
    rcases hx with ⟨ws, q⟩ | ⟨ks, q⟩ <;> (rw [q] at e2; cases e2)
  · exact h
mutual
theorem Rep.off {K : KX} {H H' : Hp} {B φ : List Addr} {x : Addr} (hx : Gw H x) (o : Off x H H') : ∀ (d : D) (v : V), Rep K H (x :: B) φ d v → Rep K H' (x :: B) φ d v
  | .non, _, h => h
  | .bl _, _, h => h
  | .int _, _, h => h
  | .str _, _, h => h
  | .tup xs, _, ⟨a, vs, e, z, r⟩ => ⟨a, vs, e, o _ _ (fun w => hx.off w (.inl z)) z, RepL.off hx o xs vs r⟩
  | .ktup xs, _, ⟨a, vs, e, .inl (.inl z), r⟩ => ⟨a, vs, e, .inl (.inl (o _ _ (fun w => hx.off w (.inl z)) z)), RepL.off hx o xs vs r⟩
  | .ktup xs, _, ⟨a, vs, e, .inl (.inr ⟨u, z⟩), r⟩ => ⟨a, vs, e, .inl (.inr ⟨u, o _ _ (fun w => hx.off w (.inr ⟨_, z⟩)) z⟩), RepL.off hx o xs vs r⟩
  | .ktup xs, _, ⟨a, vs, e, .inr z, r⟩ => ⟨a, vs, e, .inr z, RepL.off hx o xs vs r⟩
  | .lst xs, _, ⟨a, vs, e, z, nb, np, r⟩ => ⟨a, vs, e, o _ _ (fun w => nb (by rw [w]; exact List.mem_cons_self)) z, nb, np, RepL.off hx o xs vs r⟩
  | .klst xs, _, ⟨a, vs, e, .inl ⟨z, nb, np⟩, r⟩ => ⟨a, vs, e, .inl ⟨(z.elim (fun z => .inl (o _ _ (fun w => nb (by rw [w]; exact List.mem_cons_self)) z)) fun ⟨u, z⟩ => .inr ⟨u, o _ _ (fun w => nb (by rw [w]; exact List.mem_cons_self)) z⟩), nb, np⟩, RepL.off hx o xs vs r⟩
  | .klst xs, _, ⟨a, vs, e, .inr z, r⟩ => ⟨a, vs, e, .inr z, RepL.off hx o xs vs r⟩
  | .dk ks xs, _, ⟨a, vs, e, z, l, nb, np, r⟩ => ⟨a, vs, e, o _ _ (fun w => nb (by rw [w]; exact List.mem_cons_self)) z, l, nb, np, RepL.off hx o xs vs r⟩
  | .dt ks xs, _, ⟨a, vs, e, z, l, nb, np, r⟩ => ⟨a, vs, e, o _ _ (fun w => nb (by rw [w]; exact List.mem_cons_self)) z, l, nb, np, RepL.off hx o xs vs r⟩
  | .ref _, _, h => h
  | .exc _ _, _, ⟨a, od, e, q, r⟩ => ⟨a, od, e, q, r.off hx o⟩
theorem RepL.off {K : KX} {H H' : Hp} {B φ : List Addr} {x : Addr} (hx : Gw H x) (o : Off x H H') : ∀ (ds : List D) (vs : List V), RepL K H (x :: B) φ ds vs → RepL K H' (x :: B) φ ds vs
  | [], _, h => h
  | d :: ds, _, ⟨v, r, e, h, t⟩ => ⟨v, r, e, Rep.off hx o d v h, RepL.off hx o ds r t⟩
end

/-! ### a state -/
def MRep (K : KX) (H : Hp) (B φ : List Addr) : MO → Addr → Prop
  | .lst _ xs, a => ∃ vs, H a = some (.lst vs) ∧ RepL K H B φ xs vs
  | .dk _ ks xs, a => ∃ vs, H a = some (.dK (ks.zip vs)) ∧ ks.length = vs.length ∧ RepL K H B φ xs vs
  | .dt _ ks xs, a => ∃ vs, H a = some (.dT (ks.zip vs)) ∧ ks.length = vs.length ∧ RepL K H B φ xs vs
structure SR (K : KX) (H0 : Hp) (B : List Addr) (s : Sl) (φ : List Addr) (m : Mm) (σ : L2.St) (H : Hp) : Prop where
  len : s.length = σ.length
  sl : ∀ (i : Nat) (d : D), s[i]? = some (some d) → ∃ v, σ[i]? = some (some v) ∧ Rep K H B φ d v
  nd : φ.Nodup
  ml : φ.length = m.length
  ob : ∀ (n : Nat) (a : Addr) (o : MO), φ[n]? = some a → m[n]? = some o → MRep K H B φ o a
  own : ∀ a ∈ φ, H0 a = none
  dj : ∀ a ∈ φ, a ∉ B
  bs : ∀ b ∈ B, ∃ o, H b = some o
  gr : ∀ b o, H0 b = some o → H b = some o

theorem MRep.is {o : MO} {a : Addr} (h : MRep K H B φ o a) : ∃ u, H a = some u ∧ Mut (some u) := by
  cases o with
  | lst _ xs => obtain ⟨vs, e, _⟩ := h; exact ⟨_, e, trivial⟩
  | dk _ ks xs => obtain ⟨vs, e, _⟩ := h; exact ⟨_, e, trivial⟩
  | dt _ ks xs => obtain ⟨vs, e, _⟩ := h; exact ⟨_, e, trivial⟩
/-- what is within stays, the object itself told apart -/
theorem MRep.ext {o : MO} {a : Addr} (x : Ext φ m H φ' m' H') (e : ∀ u, H a = some u → H' a = some u) (h : MRep K H B φ o a) : MRep K H' B φ' o a := by
  cases o with
  | lst _ xs => obtain ⟨vs, q, r⟩ := h; exact ⟨vs, e _ q, RepL.ext x xs vs r⟩
  | dk _ ks xs => obtain ⟨vs, q, l, r⟩ := h; exact ⟨vs, e _ q, l, RepL.ext x xs vs r⟩
  | dt _ ks xs => obtain ⟨vs, q, l, r⟩ := h; exact ⟨vs, e _ q, l, RepL.ext x xs vs r⟩
variable {s : Sl} {σ : L2.St}
theorem SR.fresh (x : SR K H0 B s φ m σ H) {a : Addr} (h : H a = none) : H0 a = none := by
  cases q : H0 a with
  | none => rfl
  | some o => rw [x.gr a o q] at h; cases h
theorem SR.at (x : SR K H0 B s φ m σ H) {a : Addr} (h : a ∈ φ) : ∃ (n : Nat) (o : MO), φ[n]? = some a ∧ m[n]? = some o ∧ MRep K H B φ o a := by
  obtain ⟨n, hn, e⟩ := List.getElem_of_mem h
  have e2 : φ[n]? = some a := by rw [List.getElem?_eq_getElem hn, e]
  have hm : n < m.length := by rw [← x.ml]; exact hn
  exact ⟨n, m[n], e2, List.getElem?_eq_getElem hm, x.ob n a _ e2 (List.getElem?_eq_getElem hm)⟩
theorem SR.inB (x : SR K H0 B s φ m σ H) {a : Addr} (h : a ∈ φ) : a ∉ B := x.dj a h
theorem SR.newB (x : SR K H0 B s φ m σ H) {a : Addr} (h : H a = none) : a ∉ B := fun z => by
  obtain ⟨o, e⟩ := x.bs a z
  rw [h] at e; cases e
theorem SR.newφ (x : SR K H0 B s φ m σ H) {a : Addr} (h : H a = none) : a ∉ φ := fun z => by
  obtain ⟨n, o, e1, e2, e3⟩ := x.at z
  obtain ⟨u, e4, _⟩ := e3.is
  rw [h] at e4; cases e4
theorem SR.same (x : SR K H0 B s φ m σ H) (q : Same H H') : SR K H0 B s φ m σ H' :=
  ⟨x.len, fun i d e => let ⟨v, h1, h2⟩ := x.sl i d e; ⟨v, h1, h2.same q⟩, x.nd, x.ml, fun n a o h1 h2 => MRep.ext (m := []) (m' := []) (Ext.same q) (fun u => q a u) (x.ob n a o h1 h2), x.own, x.dj, fun b hb => (let ⟨o, e⟩ := x.bs b hb; ⟨o, q b o e⟩), fun b o e => q b o (x.gr b o e)⟩
/-- the slots alone -/
theorem SR.slots {s' : Sl} {σ' : L2.St} (x : SR K H0 B s φ m σ H) (l : s'.length = σ'.length) (h : ∀ (i : Nat) (d : D), s'[i]? = some (some d) → ∃ v, σ'[i]? = some (some v) ∧ Rep K H B φ d v) : SR K H0 B s' φ m σ' H :=
  ⟨l, h, x.nd, x.ml, x.ob, x.own, x.dj, x.bs, x.gr⟩
theorem SR.set (x : SR K H0 B s φ m σ H) (i : Nat) {d : D} {v : V} (h : Rep K H B φ d v) : SR K H0 B (s.set i (some d)) φ m (σ.set i (some v)) H := by
  refine x.slots (by simp [x.len]) fun j e q => ?_
  by_cases hj : i = j
  · subst hj
    rw [List.getElem?_set] at q
    simp only [if_true] at q
    split at q
    · rename_i hl
      cases q
      refine ⟨v, ?_, h⟩
      rw [List.getElem?_set_self (by rw [← x.len]; exact hl)]
    · cases q
  · rw [List.getElem?_set_ne hj] at q
    obtain ⟨w, h1, h2⟩ := x.sl j e q
    exact ⟨w, by rw [List.getElem?_set_ne hj]; exact h1, h2⟩
theorem wipeD_eq : ∀ (vs : List Nat) (s : Sl), (wipeD s vs).length = s.length
  | [], _ => rfl
  | v :: vs, s => by rw [wipeD, setL_eq, List.length_set, wipeD_eq vs s]
theorem SR.wipe : ∀ (vs : List Nat), SR K H0 B s φ m σ H → SR K H0 B (wipeD s vs) φ m (wipe σ vs) H
  | [], x => x
  | v :: vs, x => by
    have y := SR.wipe vs x
    rw [wipeD, setL_eq]
    show SR K H0 B ((wipeD s vs).set v Option.none) φ m ((L2.wipe σ vs).set v Option.none) H
    refine y.slots (by simp [y.len]) fun j e q => ?_
    by_cases hj : v = j
    · subst hj
      rw [List.getElem?_set] at q
      simp only [if_true] at q
      split at q <;> cases q
    · rw [List.getElem?_set_ne hj] at q
      obtain ⟨w, h1, h2⟩ := y.sl j e q
      exact ⟨w, by rw [List.getElem?_set_ne hj]; exact h1, h2⟩
theorem SR.none (x : SR K H0 B s φ m σ H) (i : Nat) : SR K H0 B (s.set i Option.none) φ m (σ.set i Option.none) H := by
  have y := SR.wipe [i] x
  rw [wipeD, setL_eq, wipeD] at y
  exact y
end
end MP
set_option Elab.async false
set_option linter.all false
set_option maxRecDepth 100000
set_option autoImplicit false
set_option maxHeartbeats 1000000
/-! expressions: each construct's rule, told by plain data -/
namespace MP
open PySem PySem.Spec PyProof.Rows L2

/-- where exception classes stand; the name of their one field -/
structure XI where
  at_ : Nat → Addr
  fld : Nat → Str
def ExcR (xi : XI) (x : Nat) (fs : List D) (cls : Value) (c : Option Addr) (H : Hp) : Prop :=
  cls = .ref (xi.at_ x) ∧ XFld (xi.fld x) H fs c
/-- v is new: laid behind H (H': now); a list's items are not in itself -/
def FrV (K : KX) (B φ : List Addr) (H H' : Hp) (d : D) (v : V) : Prop := ∃ a, v = .ref a ∧ H a = none ∧ ∀ xs, d = .lst xs → ∃ vs, H' a = some (.lst vs) ∧ MP.RepL K H' (a :: B) φ xs vs

/-- what is fixed while a def's body runs -/
structure Cc where
  X : Cx
  W : WX
  H0 : Hp
  B : List Addr
  xi : XI
  ex : Nat → Option Addr → Addr → Prop

theorem PE.weak {X : Cx} {e : Expr} {t t' : TE} (h : PE X e t) (w : ∀ σ H Q, t' σ H Q → t σ H Q) : PE X e t' := ⟨fun pins s σ H Q I hq => h.run pins s σ H Q I (w σ H Q hq)⟩
theorem PT.weak {X : Cx} {e : Expr} {t t' : TT} (h : PT X e t) (w : ∀ σ H Q, t' σ H Q → t σ H Q) : PT X e t' := ⟨fun pins s σ H Q I hq => h.run pins s σ H Q I (w σ H Q hq)⟩
theorem PW.weak {X : Cx} {e : Expr} {t t' : TT} (h : PW X e t) (w : ∀ σ H Q, t' σ H Q → t σ H Q) : PW X e t' := ⟨fun wh pins s σ H Q I hq => h.run wh pins s σ H Q I (w σ H Q hq)⟩
theorem PA.weak {X : Cx} {e : List Expr} {t t' : TA} (h : PA X e t) (w : ∀ σ H Q, t' σ H Q → t σ H Q) : PA X e t' := ⟨fun pos pins s σ H Q I hq => h.run pos pins s σ H Q I (w σ H Q hq)⟩
theorem PO.weak {X : Cx} {e : Option Expr} {t t' : TO} (h : PO X e t) (w : ∀ σ H Q, t' σ H Q → t σ H Q) : PO X e t' := ⟨fun pins s σ H Q I hq => h.run pins s σ H Q I (w σ H Q hq)⟩
theorem PI.weak {X : Cx} {tg e : Expr} {t t' : TI} (h : PI X tg e t) (w : ∀ σ H Q, t' σ H Q → t σ H Q) : PI X tg e t' := ⟨fun pins s σ H Q I hq => h.run pins s σ H Q I (w σ H Q hq)⟩

variable (c : Cc)
abbrev Cc.K : PySem.W.Frag := c.X.K
abbrev Cc.R : KX := ⟨c.X.K, c.ex, c.xi.fld⟩
abbrev Cc.SR (s : Sl) (φ : List Addr) (m : Mm) (σ : L2.St) (H : Hp) : Prop := MP.SR c.R c.H0 c.B s φ m σ H
abbrev Cc.Rep (H : Hp) (φ : List Addr) (d : D) (v : V) : Prop := MP.Rep c.R H c.B φ d v
abbrev Cc.RepL (H : Hp) (φ : List Addr) (d : List D) (v : List V) : Prop := MP.RepL c.R H c.B φ d v
/-- an outcome: a value, or an exception that the wish takes -/
def OutG {α : Type} (σ : L2.St) (H : Hp) (r : Rv α) (P : α → Prop) : Prop :=
  match r with
  | some (.ok a) => P a
  | some (.exc x fs) => ∀ cls d H', Same H H' → ExcR c.xi x fs cls d H' → c.W cls d σ H'
  | none => False
theorem OutG.of {α β : Type} {σ : L2.St} {H : Hp} {r : Rv α} {k : α → Rv β} {P : β → Prop} (h : OutG c σ H (bd r k) P) : OutG c σ H r fun a => OutG c σ H (k a) P := by
  unfold bd at h
  cases r with
  | none => exact h
  | some a => cases a <;> exact h
theorem OutG.ofO {α β : Type} {σ : L2.St} {H : Hp} {r : Option α} {k : α → Rv β} {P : β → Prop} (h : OutG c σ H (ob r k) P) : ∃ a, r = some a ∧ OutG c σ H (k a) P := by
  unfold ob at h
  cases r with
  | none => exact h.elim
  | some a => exact ⟨a, rfl, h⟩
theorem OutG.imp {α : Type} {σ : L2.St} {H H' : Hp} {r : Rv α} {P P' : α → Prop} (h : OutG c σ H r P) (s : Same H H') (w : ∀ a, P a → P' a) : OutG c σ H' r P' := by
  cases r with
  | none => exact h
  | some a => cases a with
    | ok a => exact w a h
    | exc x fs => exact fun cls d H2 s2 e => h cls d H2 (s.trans s2) e
theorem OutG.ok {α : Type} {σ : L2.St} {H : Hp} {a : α} {P : α → Prop} (h : OutG c σ H (rt a) P) : P a := h
theorem OutG.if {α : Type} {σ : L2.St} {H : Hp} {b : Bool} {r : Rv α} {P : α → Prop} (h : OutG c σ H (if b = true then r else none) P) : b = true ∧ OutG c σ H r P := by
  cases b with
  | true => exact ⟨rfl, h⟩
  | false => exact h.elim

/-- what is wanted of a value -/
def VOk (φ : List Addr) (H : Hp) (Q : VK) (p : D × Bool) : Prop := ∀ v H', Same H H' → c.Rep H' φ p.1 v → (p.2 = true → FrV c.R c.B φ H H' p.1 v) → Q v H'
def TEv (f : Xe) : TE := fun σ H Q => ∃ s φ m, c.SR s φ m σ H ∧ OutG c σ H (f s m) (VOk c φ H Q)
def TTv (f : Xt) : TT := fun σ H Q => ∃ s φ m, c.SR s φ m σ H ∧ OutG c σ H (f s m) fun k => ∀ H', Same H H' → Q k H'
def TAv (f : Xs) : TA := fun σ H Q => ∃ s φ m, c.SR s φ m σ H ∧ OutG c σ H (f s m) fun ds => ∀ vs H', Same H H' → c.RepL H' φ ds vs → Q vs H'
def TOv (f : Xo) : TO := fun σ H Q => ∃ s φ m, c.SR s φ m σ H ∧ OutG c σ H (f s m) fun k => ∀ H', Same H H' → Q k H'
abbrev JE (e : Expr) (f : Xe) : Prop := PE c.X e (TEv c f)
abbrev JT (e : Expr) (f : Xt) : Prop := PT c.X e (TTv c f)
abbrev JA (e : List Expr) (f : Xs) : Prop := PA c.X e (TAv c f)
abbrev JO (e : Option Expr) (f : Xo) : Prop := PO c.X e (TOv c f)

variable {c}
section
variable {φ : List Addr} {H H1 H2 : Hp} {Q : VK} {s : Sl} {m : Mm} {σ : L2.St}
theorem VOk.imp {p : D × Bool} (h : VOk c φ H Q p) (q : Same H H1) : VOk c φ H1 Q p := fun v H' s' r f => h v H' (q.trans s') r fun e => by
  obtain ⟨a, e1, e2, e3⟩ := f e
  exact ⟨a, e1, q.free e2, e3⟩
theorem VOk.val {d : D} {b : Bool} {v : V} (h : VOk c φ H Q (d, b)) (q : Same H H1) (r : c.Rep H1 φ d v) (f : b = true → FrV c.R c.B φ H H1 d v) : Q v H1 := h v H1 q r f
theorem VOk.at {d : D} {v : V} (h : VOk c φ H Q (d, false)) (r : c.Rep H φ d v) : Q v H := h v H (Same.refl H) r fun e => nomatch e
theorem TEv.mk {f : Xe} {Q' : VK} {P : D × Bool → Prop} (sr : c.SR s φ m σ H) (h : OutG c σ H (f s m) P) (w : ∀ p, P p → ∀ v H1, Same H H1 → c.Rep H1 φ p.1 v → (p.2 = true → FrV c.R c.B φ H H1 p.1 v) → c.SR s φ m σ H1 → Q' v H1) : TEv c f σ H Q' :=
  ⟨s, φ, m, sr, h.imp c (Same.refl H) fun p hp v H1 s1 r f => w p hp v H1 s1 r f (sr.same s1)⟩
theorem same_upd {p : Addr} {o : HO} (h : H p = none) : Same H (upd H p o) := fun b x e => by
  rw [upd_ne (ne_of_none e h)]; exact e
end

/-! ### leaves -/
section
variable {pos : Pos}
theorem je_var {i : Nat} {x : Str} (hN : c.X.N[i]? = some x) (hv : Vis c.X.env.scope x) (hd : (x == ("__debug__" : Str)) = false) (hcd : (x == ("__classdict__" : Str)) = false) : JE c (.Name x pos) (xVar i) := by
  refine PE.weak (pe_var hN hv hd hcd) fun σ H Q ⟨s, φ, m, sr, h⟩ => ?_
  unfold xVar at h
  rw [nthL_eq] at h
  cases e : s[i]? with
  | none => rw [e] at h; exact h.elim
  | some o => cases o with
    | none => rw [e] at h; exact h.elim
    | some d =>
      rw [e] at h
      obtain ⟨v, h1, h2⟩ := sr.sl i d e
      exact ⟨v, h1, VOk.at h h2⟩
theorem je_cn {k : Const} {n : Cn} {j : Nat} (h : match n, k with
    | .non, .none => True
    | .bl b, .bool b' => b = b'
    | .int i, .int i' => i = i'
    | .str x, .str x' => x = x'
    | _, _ => False) : JE c (.Constant k j pos) (xCst n) := by
  cases n with
  | non => cases k <;> first | exact h.elim | exact PE.weak pe_non fun σ H Q ⟨s, φ, m, sr, h⟩ => VOk.at h rfl
  | bl b => cases k <;> first | exact h.elim | (cases h; exact PE.weak pe_bl fun σ H Q ⟨s, φ, m, sr, h⟩ => VOk.at h rfl)
  | int b => cases k <;> first | exact h.elim | (cases h; exact PE.weak pe_int fun σ H Q ⟨s, φ, m, sr, h⟩ => VOk.at h rfl)
  | str b => cases k <;> first | exact h.elim | (cases h; exact PE.weak pe_str fun σ H Q ⟨s, φ, m, sr, h⟩ => VOk.at h rfl)
/-- a module's constant -/
def GlobOk (K : PySem.W.Frag) (mg : Str → Option Value) (x : Str) (d : D) : Prop := ∃ u v, mg x = some u ∧ RelV v u ∧ ∀ (R : KX) H B φ, R.K = K → MP.Rep R H B φ d v
theorem je_glob {G : List D} {g : Nat} {x : Str} (hg : Gl c.X x) (hG : ∀ d, G[g]? = some d → GlobOk c.X.K c.X.mg x d) (hd : (x == ("__debug__" : Str)) = false) : JE c (.Name x pos) (xGlob G g) := by
  refine ⟨fun pins st σ H Q I hw => ?_⟩
  obtain ⟨s, φ, m, sr, h⟩ := hw
  unfold xGlob at h
  rw [nthL_eq] at h
  cases e : G[g]? with
  | none => rw [e] at h; exact h.elim
  | some d =>
    rw [e] at h
    obtain ⟨u, v, h1, h2, h3⟩ := hG d e
    exact (pe_glob hg h1 h2 hd).run pins st σ H Q I (VOk.at h (h3 _ _ _ _ rfl))
end

/-! ### operators -/
section
variable {a b d : Expr} {fa fb fd : Xe} {pos : Pos}
theorem vw_ref (m : Mm) (n : Nat) {o : Option MO} (e : m[n]? = o) : vw m (.ref n) = vwO n o := by
  subst e
  rw [← nthL_eq]
  rfl
theorem lstV_ref (m : Mm) (n : Nat) {o : Option MO} (e : m[n]? = o) : lstV m (.ref n) = lsO o := by
  subst e
  rw [← nthL_eq]
  rfl
theorem dkV_ref (m : Mm) (n : Nat) {o : Option MO} (e : m[n]? = o) : dkV m (.ref n) = dkO o := by
  subst e
  rw [← nthL_eq]
  rfl
theorem dtV_ref (m : Mm) (n : Nat) {o : Option MO} (e : m[n]? = o) : dtV m (.ref n) = dtO o := by
  subst e
  rw [← nthL_eq]
  rfl
theorem vw_rep {s : Sl} {φ : List Addr} {m : Mm} {σ : L2.St} {H : Hp} (sr : c.SR s φ m σ H) {x : D} {v : V} (h : c.Rep H φ x v) : (∃ n, vw m x = .ref n) ∨ (∀ xs, vw m x = .lst xs → ∃ p vs, v = .ref p ∧ H p = some (.lst vs) ∧ c.RepL H φ xs vs) ∧ ((∀ xs, vw m x ≠ .lst xs) → vw m x = x) := by
  cases x with
  | ref n =>
    cases e : m[n]? with
    | none => rw [vw_ref m n e]; exact .inl ⟨n, rfl⟩
    | some o => rw [vw_ref m n e]; cases o with
      | lst lk xs =>
        refine .inr ⟨fun ys q => ?_, fun q => absurd rfl (q xs)⟩
        cases q
        obtain ⟨p, e1, rfl⟩ := h
        obtain ⟨vs, e2, r⟩ := sr.ob n p _ e1 e
        exact ⟨p, vs, rfl, e2, r⟩
      | dk _ _ _ => exact .inl ⟨n, rfl⟩
      | dt _ _ _ => exact .inl ⟨n, rfl⟩
  | lst xs =>
    refine .inr ⟨fun ys q => ?_, fun q => absurd rfl (q xs)⟩
    cases q
    obtain ⟨p, vs, e1, e2, _, _, r⟩ := h
    exact ⟨p, vs, e1, e2, r⟩
  | _ => exact .inr ⟨(fun ys q => nomatch q), fun _ => rfl⟩
theorem lstV_rep {s : Sl} {φ : List Addr} {m : Mm} {σ : L2.St} {H : Hp} (sr : c.SR s φ m σ H) {x : D} {v : V} {xs : List D} (h : c.Rep H φ x v) (e : lstV m x = some xs) : ∃ p vs, v = .ref p ∧ SqL c.X.K H p vs ∧ c.RepL H φ xs vs := by
  cases x with
  | lst ys => cases e; obtain ⟨p, vs, e1, e2, _, _, r⟩ := h; exact ⟨p, vs, e1, .of e2, r⟩
  | klst ys =>
    cases e
    obtain ⟨p, vs, e1, e2, r⟩ := h
    rcases e2 with ⟨e2, _, _⟩ | e2
    · exact ⟨p, vs, e1, .inl e2, r⟩
    · exact ⟨p, vs, e1, .inr e2, r⟩
  | ref n =>
    cases q : m[n]? with
    | none => rw [lstV_ref m n q] at e; cases e
    | some o => rw [lstV_ref m n q] at e; cases o with
      | lst lk ys =>
        cases e
        obtain ⟨p, e1, rfl⟩ := h
        obtain ⟨vs, e2, r⟩ := sr.ob n p _ e1 q
        exact ⟨p, vs, rfl, .of e2, r⟩
      | dk _ _ _ => cases e
      | dt _ _ _ => cases e
  | _ => cases e
theorem seqV_rep {s : Sl} {φ : List Addr} {m : Mm} {σ : L2.St} {H : Hp} (sr : c.SR s φ m σ H) {x : D} {v : V} {xs : List D} (h : c.Rep H φ x v) (e : seqV m x = some xs) : ∃ p vs, v = .ref p ∧ (SqL c.X.K H p vs ∨ SqT c.X.K H p vs) ∧ c.RepL H φ xs vs := by
  cases x with
  | tup ys => cases e; obtain ⟨p, vs, e1, e2, r⟩ := h; exact ⟨p, vs, e1, .inr (.of e2), r⟩
  | ktup ys => cases e; obtain ⟨p, vs, e1, e2, r⟩ := h; exact ⟨p, vs, e1, .inr e2, r⟩
  | lst ys => obtain ⟨p, vs, e1, e2, r⟩ := lstV_rep (m := m) sr h (show lstV m (.lst ys) = some xs from e); exact ⟨p, vs, e1, .inl e2, r⟩
  | klst ys => obtain ⟨p, vs, e1, e2, r⟩ := lstV_rep (m := m) sr h (show lstV m (.klst ys) = some xs from e); exact ⟨p, vs, e1, .inl e2, r⟩
  | ref n => obtain ⟨p, vs, e1, e2, r⟩ := lstV_rep (m := m) sr h (show lstV m (.ref n) = some xs from e); exact ⟨p, vs, e1, .inl e2, r⟩
  | _ => cases e
theorem szOk_le {n : Nat} (h : szOk n = true) : n ≤ sizeLine := by
  rw [sizeLine_eq]; exact Nat.le_of_ble_eq_true h

def opB : Bop → Operator
  | .add => .Add | .sub => .Sub | .mul => .Mult | .fdiv => .FloorDiv | .mod => .Mod | .pow => .Pow
def CPowW (i j : Int) : Prop := 0 ≤ j ∧ j ≤ 100 ∧ i.natAbs.log2 < 100000
theorem op_powW {X : Cx} : OpR X (binaryOp .Pow) (rI CPowW fun i j => .int (i ^ j.toNat)) := opI fun i j _ _ _ _ _ hc q => by
  obtain ⟨h0, h1, h2⟩ := hc
  refine pow_int h0 ?_ q
  have b : Builtin.Int.intBits i ≤ i.natAbs.log2 + 1 := by
    unfold Builtin.Int.intBits
    split <;> omega
  have b2 : (Builtin.Int.intBits i : Int) ≤ 100000 := by omega
  have b3 : (Builtin.Int.intBits i : Int) * j ≤ 100000 * 100 := Int.mul_le_mul b2 h1 h0 (by decide)
  exact Int.le_trans b3 (by decide)
def rBin (K : PySem.W.Frag) : Bop → R2
  | .add => fun x y H Q => rI0 (fun i j => .int (i + j)) x y H Q ∨ (∃ i j, x = .str i ∧ y = .str j ∧ i.length + j.length ≤ sizeLine ∧ Q (.str (i ++ j)) H) ∨ rCat x y H Q ∨ rCatA K x y H Q
  | .sub => rI0 fun i j => .int (i - j)
  | .mul => fun x y H Q => rI CMul (fun i j => .int (i * j)) x y H Q ∨ rI CMulW (fun i j => .int (i * j)) x y H Q ∨ rRep x y H Q
  | .fdiv => fun x y H Q => rI CDivN (fun i j => .int (i.fdiv j)) x y H Q ∨ rI CDivW (fun i j => .int (i / j)) x y H Q
  | .mod => rI (fun _ j => j ≠ 0) fun i j => .int (i.fmod j)
  | .pow => rI CPowW fun i j => .int (i ^ j.toNat)
theorem op_bin {X : Cx} (o : Bop) : OpR X (binaryOp (opB o)) (rBin X.K o) := by
  cases o with
  | add => exact op_add.or (op_add_str.or (op_cat.or op_catA))
  | sub => exact op_sub
  | mul => exact op_mul.or (op_mulW.or op_rep)
  | fdiv => exact op_fdivN.or op_fdivW
  | mod => exact op_modN
  | pow => exact op_powW
theorem mulOk_ok {i j : Int} (h : mulOk i j = true) : CMul i j ∨ CMulW i j := by
  unfold mulOk at h
  simp only [Bool.or_eq_true] at h
  rcases h with h | h | h
  · have := Nat.le_of_ble_eq_true h
    exact .inl (.inl (by omega))
  · have := Nat.le_of_ble_eq_true h
    exact .inl (.inr (by omega))
  · have := Nat.le_of_ble_eq_true h
    exact .inr (by unfold CMulW; omega)
theorem RepL.flatten {K : KX} {H : Hp} {B φ : List Addr} {ds : List D} {vs : List V} (h : MP.RepL K H B φ ds vs) : ∀ n, MP.RepL K H B φ (List.replicate n ds).flatten (List.replicate n vs).flatten
  | 0 => rfl
  | n + 1 => by
    rw [List.replicate_succ, List.replicate_succ, List.flatten_cons, List.flatten_cons]
    exact RepL.append h (RepL.flatten h n)
theorem lst_new {φ : List Addr} {H : Hp} {xs : List D} {vs : List V} {Q : VK} {s : Sl} {m : Mm} {σ : L2.St} (sr : c.SR s φ m σ H) (r : c.RepL H φ xs vs) (h : VOk c φ H Q (.lst xs, true)) (p : Addr) (hp : H p = none) : Q (.ref p) (upd H p (.lst vs)) := by
  have s2 := same_upd (o := .lst vs) hp
  exact h.val s2 ⟨p, vs, rfl, upd_same, sr.newB hp, sr.newφ hp, r.same s2⟩ fun _ => ⟨p, rfl, hp, fun ys e => (by cases e; exact ⟨vs, upd_same, RepL.same s2 (RepL.hide hp _ _ r)⟩)⟩
theorem tup_new {φ : List Addr} {H : Hp} {xs : List D} {vs : List V} {Q : VK} {b : Bool} (r : c.RepL H φ xs vs) (h : VOk c φ H Q (.tup xs, b)) (p : Addr) (hp : H p = none) : Q (.ref p) (upd H p (.tup vs)) :=
  h.val (same_upd hp) ⟨p, vs, rfl, upd_same, r.same (same_upd hp)⟩ fun _ => ⟨p, rfl, hp, fun _ e => nomatch e⟩
/-- two plain values under an operator -/
theorem bin_ok {o : Bop} {x y : D} {v w : V} {s : Sl} {φ : List Addr} {m : Mm} {σ : L2.St} {H : Hp} {Q : VK} (sr : c.SR s φ m σ H) (rx : c.Rep H φ x v) (ry : c.Rep H φ y w)
    (h : OutG c σ H (binV o (vw m x) (vw m y)) (VOk c φ H Q)) : rBin c.X.K o v w H Q := by
  rcases vw_rep sr rx with ⟨n, e⟩ | ⟨lx, nx⟩
  · rw [e] at h; cases o <;> exact h.elim
  rcases vw_rep sr ry with ⟨n, e⟩ | ⟨ly, ny⟩
  · rw [e] at h
    cases o <;> (generalize vw m x = x' at h; cases x' <;> exact h.elim)
  generalize hx : vw m x = x' at *
  generalize hy : vw m y = y' at *
  cases x' with
  | int i =>
    obtain rfl : D.int i = x := nx fun xs q => nomatch q
    cases y' with
    | int j =>
      obtain rfl : D.int j = y := ny fun xs q => nomatch q
      obtain rfl : v = .int i := rx
      obtain rfl : w = .int j := ry
      cases o with
      | add => simp only [binV, frI_eq] at h; exact .inl ⟨i, j, rfl, rfl, VOk.at h rfl⟩
      | sub => simp only [binV, frI_eq] at h; exact ⟨i, j, rfl, rfl, VOk.at h rfl⟩
      | mul =>
        simp only [binV, frI_eq] at h
        obtain ⟨k, h⟩ := h.if c
        rcases mulOk_ok k with k | k
        · exact .inl ⟨i, j, rfl, rfl, k, VOk.at h rfl⟩
        · exact .inr (.inl ⟨i, j, rfl, rfl, k, VOk.at h rfl⟩)
      | fdiv =>
        simp only [binV, frI_eq] at h
        obtain ⟨k, h⟩ := h.if c
        rw [Bool.or_eq_true] at k
        rcases k with k | k
        · unfold divOk at k
          rw [Bool.and_eq_true] at k
          exact .inl ⟨i, j, rfl, rfl, ⟨of_decide_eq_true k.1, Nat.le_of_ble_eq_true k.2⟩, VOk.at h rfl⟩
        · unfold divOkW at k
          rw [Bool.and_eq_true] at k
          have k1 : 0 < j := of_decide_eq_true k.1
          refine .inr ⟨i, j, rfl, rfl, ⟨k1, Nat.le_of_ble_eq_true k.2⟩, VOk.at h ?_⟩
          show V.int (i / j) = V.int (i.fdiv j)
          rw [Int.fdiv_eq_ediv_of_nonneg i (by omega)]
      | mod =>
        simp only [binV, frI_eq] at h
        obtain ⟨k, h⟩ := h.if c
        exact ⟨i, j, rfl, rfl, of_decide_eq_true k, VOk.at h rfl⟩
      | pow =>
        simp only [binV, frI_eq] at h
        obtain ⟨k, h⟩ := h.if c
        rw [Bool.and_eq_true, Bool.and_eq_true] at k
        have k0 : 0 ≤ j := of_decide_eq_true k.1.1
        have k1 := Nat.le_of_ble_eq_true k.1.2
        exact ⟨i, j, rfl, rfl, ⟨k0, by omega, Nat.le_of_ble_eq_true k.2⟩, VOk.at h rfl⟩
    | _ => cases o <;> exact h.elim
  | str i =>
    obtain rfl : D.str i = x := nx fun xs q => nomatch q
    cases y' with
    | str j =>
      obtain rfl : D.str j = y := ny fun xs q => nomatch q
      obtain rfl : v = .str i := rx
      obtain rfl : w = .str j := ry
      cases o with
      | add =>
        simp only [binV] at h
        obtain ⟨k, h⟩ := h.if c
        exact .inr (.inl ⟨i, j, rfl, rfl, szOk_le k, VOk.at h rfl⟩)
      | _ => exact h.elim
    | _ => cases o <;> exact h.elim
  | lst xs =>
    obtain ⟨p, vs, rfl, e1, r1⟩ := lx xs rfl
    cases y' with
    | lst ys =>
      obtain ⟨q, ws, rfl, e2, r2⟩ := ly ys rfl
      cases o with
      | add =>
        simp only [binV, frL_eq] at h
        obtain ⟨k, h⟩ := h.if c
        refine .inr (.inr (.inl ⟨p, q, vs, ws, rfl, rfl, e1, e2, ?_, fun l hl => lst_new sr (r1.append r2) h l hl⟩))
        rw [← r1.length, ← r2.length]
        exact szOk_le k
      | _ => exact h.elim
    | int j =>
      obtain rfl : D.int j = y := ny fun xs q => nomatch q
      obtain rfl : w = .int j := ry
      cases o with
      | mul =>
        simp only [binV, frL_eq] at h
        obtain ⟨k, h⟩ := h.if c
        rw [Bool.and_eq_true] at k
        have k2 := Nat.le_of_ble_eq_true k.2
        refine .inr (.inr ⟨p, j, vs, rfl, rfl, e1, by omega, by omega, ?_, fun l hl => lst_new sr (RepL.flatten r1 _) h l hl⟩)
        rw [← r1.length]
        exact szOk_le k.1
      | _ => exact h.elim
    | _ => cases o <;> exact h.elim
  | tup xs =>
    obtain rfl : D.tup xs = x := nx fun xs q => nomatch q
    cases y' with
    | tup ys =>
      obtain rfl : D.tup ys = y := ny fun xs q => nomatch q
      obtain ⟨p, vs, rfl, e1, r1⟩ := rx
      obtain ⟨q, ws, rfl, e2, r2⟩ := ry
      cases o with
      | add =>
        simp only [binV, frL_eq] at h
        obtain ⟨k, h⟩ := h.if c
        have k1 := szOk_le k
        rw [RepL.length r1, RepL.length r2] at k1
        refine .inr (.inr (.inr ⟨p, q, vs, ws, rfl, rfl, .of e1, .of e2, k1, fun z => ?_, fun _ z => ?_, fun _ _ l hl => tup_new (RepL.append r1 r2) h l hl⟩))
        · subst z
          refine VOk.at h ⟨q, ws, rfl, e2, ?_⟩
          have := RepL.append r1 r2
          rwa [List.nil_append] at this
        · subst z
          refine VOk.at h ⟨p, vs, rfl, e1, ?_⟩
          have := RepL.append r1 r2
          rwa [List.append_nil] at this
      | _ => exact h.elim
    | _ => cases o <;> exact h.elim
  | _ => cases o <;> exact h.elim
theorem je_bin {o : Bop} (ha : JE c a fa) (hb : JE c b fb) : JE c (.BinOp a (opB o) b pos) (xBin o fa fb) := by
  refine PE.weak (pe_op (op_bin o) ha hb) fun σ H Q ⟨s, φ, m, sr, h⟩ => ?_
  refine TEv.mk sr (OutG.of c h) fun x hx v H1 s1 rx _ sr1 => ?_
  refine TEv.mk sr1 ((OutG.of c hx).imp c s1 fun _ z => z) fun y hy w H2 s2 ry _ sr2 => ?_
  exact bin_ok sr2 (rx.same s2) ry (hy.imp c (s1.trans s2) fun p hp => hp.imp (s1.trans s2))
theorem je_neg (ha : JE c a fa) : JE c (.UnaryOp .USub a pos) (xNeg fa) := by
  refine PE.weak (pe_un un_neg ha) fun σ H Q ⟨s, φ, m, sr, h⟩ => ?_
  refine TEv.mk sr (OutG.of c h) fun x hx v H1 s1 rx _ sr1 => ?_
  obtain ⟨x, b⟩ := x
  cases x with
  | int i =>
    obtain rfl : v = .int i := rx
    simp only [frI_eq] at hx
    exact ⟨i, rfl, VOk.at (VOk.imp hx s1) rfl⟩
  | _ => exact hx.elim
end
end MP
set_option Elab.async false
set_option linter.all false
set_option maxRecDepth 100000
set_option autoImplicit false
set_option maxHeartbeats 1000000
/-! comparisons, truth, tests -/
namespace MP
open PySem PySem.Spec PyProof.Rows L2
variable {c : Cc}

/-! ### data as the library's data -/
mutual
def toP : D → PyData
  | .bl b => .bool b
  | .int i => .int i
  | .str x => .str x
  | .tup xs => .tuple (toPs xs)
  | .ktup xs => .tuple (toPs xs)
  | .lst xs => .list (toPs xs)
  | _ => .none
def toPs : List D → List PyData
  | [] => []
  | x :: xs => toP x :: toPs xs
end
mutual
theorem dp_of {K : KX} {H : Hp} {B φ : List Addr} : ∀ (n : Nat) (d : D) (v : V), eqOk n d = true → Rep K H B φ d v → Dp K.K H v (toP d)
  | _, .non, v, _, h => by rw [show v = V.non from h]; exact .non
  | _, .bl b, v, _, h => by rw [show v = V.bl b from h]; exact .bl b
  | _, .int i, v, _, h => by rw [show v = V.int i from h]; exact .int i
  | _, .str i, v, _, h => by rw [show v = V.str i from h]; exact .str i
  | n + 1, .tup xs, _, q, ⟨a, vs, e, h, r⟩ => by subst e; exact .tup (.of h) (dps_of n xs vs (by simpa [eqOk] using q) r)
  | n + 1, .ktup xs, _, q, ⟨a, vs, e, h, r⟩ => by subst e; exact .tup h (dps_of n xs vs (by simpa [eqOk] using q) r)
  | n + 1, .lst xs, _, q, ⟨a, vs, e, h, _, _, r⟩ => by subst e; exact .lst (.of h) (dps_of n xs vs (by simpa [eqOk] using q) r)
  | 0, .tup xs, _, q, _ => by simp [eqOk] at q
  | 0, .ktup xs, _, q, _ => by simp [eqOk] at q
  | 0, .lst xs, _, q, _ => by simp [eqOk] at q
  | n, .klst xs, _, q, _ => by cases n <;> simp [eqOk] at q
  | n, .dk _ xs, _, q, _ => by cases n <;> simp [eqOk] at q
  | n, .dt _ xs, _, q, _ => by cases n <;> simp [eqOk] at q
  | n, .ref _, _, q, _ => by cases n <;> simp [eqOk] at q
  | n, .exc _ _, _, q, _ => by cases n <;> simp [eqOk] at q
theorem dps_of {K : KX} {H : Hp} {B φ : List Addr} : ∀ (n : Nat) (ds : List D) (vs : List V), eqOkL (eqOk n) ds = true → RepL K H B φ ds vs → DpAll K.K H vs (toPs ds)
  | _, [], _, _, h => by cases h; exact .nil
  | n, d :: ds, _, q, ⟨v, r, e, h, t⟩ => by
    subst e
    rw [eqOkL, Bool.and_eq_true] at q
    exact .cons (dp_of n d v q.1 h) (dps_of n ds r q.2 t)
end
mutual
theorem lay_of : ∀ (n : Nat) (d : D), eqOk n d = true → (toP d).canLay0 = true ∧ (toP d).depth ≤ n
  | _, .non, _ => ⟨rfl, Nat.zero_le _⟩
  | _, .bl b, _ => ⟨rfl, Nat.zero_le _⟩
  | _, .int i, _ => ⟨rfl, Nat.zero_le _⟩
  | _, .str i, q => ⟨by rw [toP, PyData.canLay0]; simpa [eqOk] using q, Nat.zero_le _⟩
  | n + 1, .tup xs, q => by
    have h := lays_of n xs (by simpa [eqOk] using q)
    exact ⟨by rw [toP, PyData.canLay0]; exact h.1, by rw [toP, PyData.depth]; omega⟩
  | n + 1, .ktup xs, q => by
    have h := lays_of n xs (by simpa [eqOk] using q)
    exact ⟨by rw [toP, PyData.canLay0]; exact h.1, by rw [toP, PyData.depth]; omega⟩
  | n + 1, .lst xs, q => by
    have h := lays_of n xs (by simpa [eqOk] using q)
    exact ⟨by rw [toP, PyData.canLay0]; exact h.1, by rw [toP, PyData.depth]; omega⟩
  | 0, .tup xs, q => by simp [eqOk] at q
  | 0, .ktup xs, q => by simp [eqOk] at q
  | 0, .lst xs, q => by simp [eqOk] at q
  | n, .klst xs, q => by cases n <;> simp [eqOk] at q
  | n, .dk _ xs, q => by cases n <;> simp [eqOk] at q
  | n, .dt _ xs, q => by cases n <;> simp [eqOk] at q
  | n, .ref _, q => by cases n <;> simp [eqOk] at q
  | n, .exc _ _, q => by cases n <;> simp [eqOk] at q
theorem lays_of : ∀ (n : Nat) (ds : List D), eqOkL (eqOk n) ds = true → PyData.canLayAll0 (toPs ds) = true ∧ PyData.depthAll (toPs ds) ≤ n
  | _, [], _ => ⟨rfl, Nat.zero_le _⟩
  | n, d :: ds, q => by
    rw [eqOkL, Bool.and_eq_true] at q
    have h1 := lay_of n d q.1
    have h2 := lays_of n ds q.2
    refine ⟨by rw [toPs, PyData.canLayAll0, h1.1, h2.1]; rfl, ?_⟩
    rw [toPs, PyData.depthAll]
    omega
end
theorem shaped_of {n : Nat} {d : D} (h : eqOk n d = true) (hn : n ≤ 64) : SeqAt.shaped (toP d) = true := by
  obtain ⟨h1, h2⟩ := lay_of n d h
  unfold SeqAt.shaped
  rw [h1, Bool.true_and]
  exact decide_eq_true (Nat.le_trans h2 hn)
theorem shaped_ofL {n : Nat} {ds : List D} (h : eqOkL (eqOk n) ds = true) (hn : n < 64) : SeqAt.shaped (.list (toPs ds)) = true := by
  obtain ⟨h1, h2⟩ := lays_of n ds h
  unfold SeqAt.shaped
  rw [show (PyData.list (toPs ds)).canLay0 = PyData.canLayAll0 (toPs ds) from by rw [PyData.canLay0], h1, Bool.true_and]
  refine decide_eq_true ?_
  rw [PyData.depth]
  omega
mutual
theorem eqv_of : ∀ (n k : Nat) (a b : D), eqOk n a = true → eqOk k b = true → PyData.eqv (toP a) (toP b) = beqD a b
  | n, k, a, b, ha, hb => by
    cases a with
    | non => cases b <;> first | (simp [toP, PyData.eqv, beqD]; done) | (cases k <;> simp [eqOk] at hb)
    | bl x => cases b <;> first | (simp [toP, PyData.eqv, beqD]; done) | (cases k <;> simp [eqOk] at hb)
    | int x => cases b <;> first | (simp [toP, PyData.eqv, beqD]; done) | (cases k <;> simp [eqOk] at hb)
    | str x => cases b <;> first | (simp [toP, PyData.eqv, beqD, Bool.beq_eq_decide_eq]; done) | (cases k <;> simp [eqOk] at hb)
    | tup xs =>
      cases n with
      | zero => simp [eqOk] at ha
      | succ n =>
        cases k with
        | zero => cases b <;> first | (simp [toP, PyData.eqv, beqD]; done) | (simp [eqOk] at hb; done)
        | succ k =>
          cases b <;> first
            | (simp [toP, PyData.eqv, beqD]; done)
            | (simp [eqOk] at hb; done)
            | (rw [toP, toP, PyData.eqv, beqD]; exact eqvs_of n k xs _ (by simpa [eqOk] using ha) (by simpa [eqOk] using hb))
    | ktup xs =>
      cases n with
      | zero => simp [eqOk] at ha
      | succ n =>
        cases k with
        | zero => cases b <;> first | (simp [toP, PyData.eqv, beqD]; done) | (simp [eqOk] at hb; done)
        | succ k =>
          cases b <;> first
            | (simp [toP, PyData.eqv, beqD]; done)
            | (simp [eqOk] at hb; done)
            | (rw [toP, toP, PyData.eqv, beqD]; exact eqvs_of n k xs _ (by simpa [eqOk] using ha) (by simpa [eqOk] using hb))
    | lst xs =>
      cases n with
      | zero => simp [eqOk] at ha
      | succ n =>
        cases k with
        | zero => cases b <;> first | (simp [toP, PyData.eqv, beqD]; done) | (simp [eqOk] at hb; done)
        | succ k =>
          cases b <;> first
            | (simp [toP, PyData.eqv, beqD]; done)
            | (simp [eqOk] at hb; done)
            | (rw [toP, toP, PyData.eqv, beqD]; exact eqvs_of n k xs _ (by simpa [eqOk] using ha) (by simpa [eqOk] using hb))
    | _ => cases n <;> simp [eqOk] at ha
theorem eqvs_of : ∀ (n k : Nat) (xs ys : List D), eqOkL (eqOk n) xs = true → eqOkL (eqOk k) ys = true → PyData.eqvAll (toPs xs) (toPs ys) = beqL xs ys
  | _, _, [], [], _, _ => rfl
  | _, _, [], _ :: _, _, _ => rfl
  | _, _, _ :: _, [], _, _ => rfl
  | n, k, x :: xs, y :: ys, ha, hb => by
    rw [eqOkL, Bool.and_eq_true] at ha hb
    rw [toPs, toPs, PyData.eqvAll, beqL, eqv_of n k x y ha.1 hb.1, eqvs_of n k xs ys ha.2 hb.2]
end
/-- a value behind vwE -/
theorem vwE_rep {s : Sl} {φ : List Addr} {m : Mm} {σ : L2.St} {H : Hp} (sr : c.SR s φ m σ H) {x : D} {v : V} {n : Nat} (h : c.Rep H φ x v) (q : eqOk n (vwE m x) = true) : Dp c.X.K H v (toP (vwE m x)) := by
  cases x with
  | klst xs =>
    cases n with
    | zero => simp [vwE, eqOk] at q
    | succ n =>
      obtain ⟨p, vs, rfl, e2, r⟩ := lstV_rep (m := m) sr h (show lstV m (.klst xs) = some xs from rfl)
      exact .lst e2 (dps_of n xs vs (by simpa [vwE, eqOk] using q) r)
  | ref k =>
    have e0 : vwE m (.ref k) = vw m (.ref k) := rfl
    rw [e0] at q ⊢
    cases e : m[k]? with
    | none => rw [vw_ref m k e] at q; cases n <;> simp [vwO, eqOk] at q
    | some o => rw [vw_ref m k e] at q ⊢; cases o with
      | lst lk xs =>
        cases n with
        | zero => simp [vwO, eqOk] at q
        | succ n =>
          obtain ⟨p, vs, rfl, e2, r⟩ := lstV_rep (m := m) sr h (show lstV m (.ref k) = some xs from lstV_ref m k e)
          exact .lst e2 (dps_of n xs vs (by simpa [vwO, eqOk] using q) r)
      | dk _ _ _ => cases n <;> simp [vwO, eqOk] at q
      | dt _ _ _ => cases n <;> simp [vwO, eqOk] at q
  | _ => exact dp_of n _ v q h
theorem scal_rep {s : Sl} {φ : List Addr} {m : Mm} {σ : L2.St} {H : Hp} (sr : c.SR s φ m σ H) {x y : D} {v w : V} {k : Bool} (rx : c.Rep H φ x v) (ry : c.Rep H φ y w) (h : eqV m x y = some k) :
    (scal v w = true ∧ decide (v = w) = k) ∨ ∃ d e, Dp c.X.K H v d ∧ Dp c.X.K H w e ∧ SeqAt.shaped d = true ∧ SeqAt.shaped e = true ∧ PyData.eqv d e = k := by
  unfold eqV at h
  split at h
  · rename_i k' e
    cases h
    refine .inl ?_
    unfold eqA at e
    split at e
    · rename_i i j
      cases e
      obtain rfl : v = .int i := rx
      obtain rfl : w = .int j := ry
      exact ⟨rfl, dec_int⟩
    · rename_i i j
      cases e
      obtain rfl : v = .bl i := rx
      obtain rfl : w = .bl j := ry
      exact ⟨rfl, dec_bl⟩
    · rename_i i j
      cases e
      obtain rfl : v = .str i := rx
      obtain rfl : w = .str j := ry
      exact ⟨rfl, by rw [dec_str, Bool.beq_eq_decide_eq]⟩
    · cases e
  · refine .inr ?_
    unfold eqG at h
    split at h
    · rename_i q
      rw [Bool.and_eq_true] at q
      exact ⟨_, _, vwE_rep sr rx q.1, vwE_rep sr ry q.2, shaped_of q.1 (by decide), shaped_of q.2 (by decide), (eqv_of 60 60 _ _ q.1 q.2).trans (Option.some.inj h)⟩
    · cases h

/-! ### in -/
theorem eqV_of {K : KX} {H : Hp} {B φ : List Addr} {x y : D} {v w : V} (fx : flatA x = true) (fy : flatA y = true) (rx : Rep K H B φ x v) (ry : Rep K H B φ y w) : L2.eqV v w = beqD x y ∧ flatV v = true ∧ flatV w = true := by
  cases x <;> first
    | exact absurd (show false = true from fx) Bool.false_ne_true
    | (cases y <;> first
        | exact absurd (show false = true from fy) Bool.false_ne_true
        | (simp only [Rep] at rx ry; subst rx; subst ry; simp [L2.eqV, beqD, flatV, Bool.beq_eq_decide_eq]))
theorem inV_of {K : KX} {H : Hp} {B φ : List Addr} {x : D} {v : V} (fx : flatA x = true) (rx : Rep K H B φ x v) : ∀ (ys : List D) (ws : List V), ys.all flatA = true → RepL K H B φ ys ws → L2.inV v ws = inL x ys ∧ ws.all flatV = true
  | [], _, _, h => by cases h; exact ⟨rfl, rfl⟩
  | y :: ys, _, q, ⟨w, r, e, h, t⟩ => by
    subst e
    rw [List.all_cons, Bool.and_eq_true] at q
    obtain ⟨h1, h2⟩ := inV_of fx rx ys r q.2 t
    obtain ⟨e1, e2, e3⟩ := eqV_of q.1 fx h rx
    unfold L2.inV inL at *
    rw [List.any_cons, List.any_cons, h1, e1, List.all_cons, h2, e2]
    exact ⟨rfl, rfl⟩
theorem inL_of : ∀ (n : Nat) (x : D) (ys : List D), eqOk n x = true → eqOkL (eqOk n) ys = true → (toPs ys).any (fun z => PyData.eqv z (toP x)) = inL x ys
  | _, _, [], _, _ => rfl
  | n, x, y :: ys, hx, hy => by
    rw [eqOkL, Bool.and_eq_true] at hy
    have h := inL_of n x ys hx hy.2
    unfold inL at *
    rw [toPs, List.any_cons, List.any_cons, h, eqv_of n n y x hy.1 hx]
theorem valV_zip {κ : Type} [DecidableEq κ] {K : KX} {H : Hp} {B φ : List Addr} (q : κ) : ∀ {ks : List κ} {xs : List D} {vs : List V}, RepL K H B φ xs vs → ks.length = vs.length →
    (∀ d, look ks xs q = some d → ∃ v, valV (ks.zip vs) q = some v ∧ Rep K H B φ d v) ∧ (look ks xs q = none → valV (ks.zip vs) q = none)
  | [], _, _, _, _ => ⟨fun d e => by simp [look] at e, fun _ => rfl⟩
  | k :: ks, [], _, h, l => by cases h; simp at l
  | k :: ks, x :: xs, _, ⟨v, r, e, h, t⟩, l => by
    subst e
    rw [List.zip_cons_cons, look]
    by_cases e : k = q
    · rw [if_pos e]
      refine ⟨fun d z => ?_, fun z => (nomatch z)⟩
      cases z
      exact ⟨v, valV_pos e, h⟩
    · rw [if_neg e]
      have ih := valV_zip q (ks := ks) t (by simpa using l)
      rw [valV_neg (p := (k, v)) e]
      exact ih
theorem kD_rep {K : KX} {H : Hp} {B φ : List Addr} {d : D} {v : V} {k : Key} (h : Rep K H B φ d v) (e : keyD d = some k) : v = kV k := by
  cases d <;> first | (cases e; done) | (cases e; exact h)
theorem kDs_rep {K : KX} {H : Hp} {B φ : List Addr} : ∀ {ds : List D} {vs : List V} {ks : List Key}, RepL K H B φ ds vs → keysD ds = some ks → vs = ks.map kV
  | [], _, _, h, e => by cases h; cases e; rfl
  | d :: ds, _, _, ⟨v, r, e, h, t⟩, q => by
    rw [keysD] at q
    split at q
    · rename_i k hk
      split at q
      · rename_i ks hks
        cases q
        rw [e, List.map_cons, kD_rep h hk, kDs_rep t hks]
      · cases q
    · cases q
theorem tk_rep {K : KX} {H : Hp} {B φ : List Addr} {d : D} {v : V} {k : List Key} (h : Rep K H B φ d v) (e : tkeyD d = some k) : ∃ b, v = .ref b ∧ H b = some (.tup (k.map kV)) := by
  cases d <;> first | (cases e; done) | skip
  obtain ⟨a, vs, e1, e2, r⟩ := h
  exact ⟨a, e1, by rw [e2, kDs_rep r e]⟩
theorem dkV_rep {s : Sl} {φ : List Addr} {m : Mm} {σ : L2.St} {H : Hp} (sr : c.SR s φ m σ H) {x : D} {v : V} {ks : List Key} {xs : List D} (h : c.Rep H φ x v) (e : dkV m x = some (ks, xs)) : ∃ p vs, v = .ref p ∧ H p = some (.dK (ks.zip vs)) ∧ ks.length = vs.length ∧ c.RepL H φ xs vs := by
  cases x with
  | dk ks' ys => cases e; obtain ⟨p, vs, e1, e2, l, _, _, r⟩ := h; exact ⟨p, vs, e1, e2, l, r⟩
  | ref n =>
    cases q : m[n]? with
    | none => rw [dkV_ref m n q] at e; cases e
    | some o => rw [dkV_ref m n q] at e; cases o with
      | dk lk ks' ys =>
        cases e
        obtain ⟨p, e1, rfl⟩ := h
        obtain ⟨vs, e2, l, r⟩ := sr.ob n p _ e1 q
        exact ⟨p, vs, rfl, e2, l, r⟩
      | lst _ _ => cases e
      | dt _ _ _ => cases e
  | _ => cases e
theorem dtV_rep {s : Sl} {φ : List Addr} {m : Mm} {σ : L2.St} {H : Hp} (sr : c.SR s φ m σ H) {x : D} {v : V} {ks : List (List Key)} {xs : List D} (h : c.Rep H φ x v) (e : dtV m x = some (ks, xs)) : ∃ p vs, v = .ref p ∧ H p = some (.dT (ks.zip vs)) ∧ ks.length = vs.length ∧ c.RepL H φ xs vs := by
  cases x with
  | dt ks' ys => cases e; obtain ⟨p, vs, e1, e2, l, _, _, r⟩ := h; exact ⟨p, vs, e1, e2, l, r⟩
  | ref n =>
    cases q : m[n]? with
    | none => rw [dtV_ref m n q] at e; cases e
    | some o => rw [dtV_ref m n q] at e; cases o with
      | dt lk ks' ys =>
        cases e
        obtain ⟨p, e1, rfl⟩ := h
        obtain ⟨vs, e2, l, r⟩ := sr.ob n p _ e1 q
        exact ⟨p, vs, rfl, e2, l, r⟩
      | lst _ _ => cases e
      | dk _ _ _ => cases e
  | _ => cases e
theorem isSome_look {κ : Type} [DecidableEq κ] {K : KX} {H : Hp} {B φ : List Addr} (q : κ) {ks : List κ} {xs : List D} {vs : List V} (h : RepL K H B φ xs vs) (l : ks.length = vs.length) : (valV (ks.zip vs) q).isSome = (look ks xs q).isSome := by
  obtain ⟨h1, h2⟩ := valV_zip q h l
  cases e : look ks xs q with
  | none => rw [h2 e]; rfl
  | some d => obtain ⟨v, e1, _⟩ := h1 d e; rw [e1]; rfl

def rInK (K : PySem.W.Frag) (neg : Bool) : R2 := fun x y H Q =>
  (∃ i j, x = .str i ∧ y = .str j ∧ Q (.bl (neg ^^ !(Builtin.Str.occurrences j i 0 j.length 1).isEmpty)) H) ∨ rIn K neg x y H Q ∨
  (∃ d ds, Dp K H x d ∧ Dp K H y (.list ds) ∧ SeqAt.shaped d = true ∧ SeqAt.shaped (.list ds) = true ∧ Q (.bl (neg ^^ ds.any fun z => PyData.eqv z d)) H) ∨
  ∃ a o, y = .ref a ∧ DGet H a x o ∧ Q (.bl (neg ^^ o.isSome)) H
theorem op_inK {X : Cx} (hu : X.A.units + 65 < cLine) : OpR X (compareOp .In) (rInK X.K false) := by
  have h1 : OpR X (compareOp .In) (fun x y H Q => ∃ a o, y = .ref a ∧ DGet H a x o ∧ Q (.bl (false ^^ o.isSome)) H) := by
    intro pins s σ H x y v u Q I rx ry h
    obtain ⟨a, o, rfl, g, q⟩ := h
    obtain rfl : u = Value.ref a := ry
    exact d_in (by omega) I g rx fun s' I' => ⟨.bl o.isSome, H, I', rfl, by simpa using q⟩
  have h2 := (op_in_str (X := X)).or ((op_in_seq (X := X)).or ((op_inD hu).or h1))
  intro pins s σ H x y v u Q I rx ry h
  refine h2 pins s σ H x y v u Q I rx ry ?_
  simpa [rInK, rInD] using h
theorem op_notInK {X : Cx} (hu : X.A.units + 65 < cLine) : OpR X (compareOp .NotIn) (rInK X.K true) := by
  have h1 : OpR X (compareOp .NotIn) (fun x y H Q => ∃ a o, y = .ref a ∧ DGet H a x o ∧ Q (.bl (true ^^ o.isSome)) H) := by
    intro pins s σ H x y v u Q I rx ry h
    obtain ⟨a, o, rfl, g, q⟩ := h
    obtain rfl : u = Value.ref a := ry
    exact d_notIn (by omega) I g rx fun s' I' => ⟨.bl (!o.isSome), H, I', rfl, by simpa using q⟩
  have h2 := (op_notin_str (X := X)).or ((op_notIn_seq (X := X)).or ((op_notInD hu).or h1))
  intro pins s σ H x y v u Q I rx ry h
  refine h2 pins s σ H x y v u Q I rx ry ?_
  simpa [rInK, rNotInD] using h

theorem in_ok {neg : Bool} {x y : D} {v w : V} {s : Sl} {φ : List Addr} {m : Mm} {σ : L2.St} {H : Hp} {Q : VK} {k : Bool} (sr : c.SR s φ m σ H) (rx : c.Rep H φ x v) (ry : c.Rep H φ y w)
    (h : inV m x y = some k) (q : Q (.bl (neg ^^ k)) H) : rInK c.X.K neg v w H Q := by
  have seq : ∀ (y : D), c.Rep H φ y w → (match seqV m y with
      | some ys => if flatA x && ys.all flatA then some (inL x ys) else match lstV m y with
        | some ys => if eqOk 60 x && eqOkL (eqOk 60) ys then some (inL x ys) else none
        | none => none
      | none => match dkV m y with
        | some (ks, xs) => (keyD x).map fun k => (look ks xs k).isSome
        | none => match dtV m y with
          | some (ks, xs) => (tkeyD x).map fun k => (look ks xs k).isSome
          | none => none) = some k → rInK c.X.K neg v w H Q := by
    intro y ry h
    split at h
    · rename_i ys hys
      obtain ⟨p, ws, rfl, hs, r⟩ := seqV_rep sr ry hys
      split at h
      · rename_i hf
        rw [Bool.and_eq_true] at hf
        cases h
        obtain ⟨e1, e2⟩ := inV_of hf.1 rx ys ws hf.2 r
        have fv : flatV v = true := by
          have := eqV_of hf.1 hf.1 rx rx
          exact this.2.1
        refine .inr (.inl ⟨p, ws, rfl, hs, fv, e2, ?_⟩)
        cases neg with
        | true => rw [if_pos rfl, e1]; simpa using q
        | false => rw [if_neg (by decide), e1]; simpa using q
      · split at h
        · rename_i ys' hl
          split at h
          · rename_i hq
            rw [Bool.and_eq_true] at hq
            cases h
            obtain ⟨p', ws', e', hs', r'⟩ := lstV_rep sr ry hl
            cases e'
            refine .inr (.inr (.inl ⟨toP x, toPs ys', dp_of 60 x v hq.1 rx, .lst hs' (dps_of 60 ys' ws' hq.2 r'), shaped_of hq.1 (by decide), shaped_ofL hq.2 (by decide), ?_⟩))
            rw [inL_of 60 x ys' hq.1 hq.2]
            exact q
          · cases h
        · cases h
    · split at h
      · rename_i ks xs hd
        obtain ⟨p, ws, rfl, hs, l, r⟩ := dkV_rep sr ry hd
        obtain ⟨kk, hk, e⟩ := Option.map_eq_some_iff.mp h
        refine .inr (.inr (.inr ⟨p, valV (ks.zip ws) kk, rfl, ?_, ?_⟩))
        · rw [kD_rep rx hk]
          exact .k hs
        · rw [isSome_look kk r l, e]
          exact q
      · split at h
        · rename_i ks xs hd
          obtain ⟨p, ws, rfl, hs, l, r⟩ := dtV_rep sr ry hd
          obtain ⟨kk, hk, e⟩ := Option.map_eq_some_iff.mp h
          obtain ⟨b, rfl, hb⟩ := tk_rep rx hk
          refine .inr (.inr (.inr ⟨p, valV (ks.zip ws) kk, rfl, ?_, ?_⟩))
          · exact .t hs hb
          · rw [isSome_look kk r l, e]
            exact q
        · cases h
  cases y with
  | str j =>
    obtain rfl : w = .str j := ry
    cases x with
    | str i =>
      obtain rfl : v = .str i := rx
      refine .inl ⟨i, j, rfl, rfl, ?_⟩
      cases h
      exact q
    | _ => cases h
  | non => exact seq _ ry h
  | bl _ => exact seq _ ry h
  | int _ => exact seq _ ry h
  | tup _ => exact seq _ ry h
  | ktup _ => exact seq _ ry h
  | lst _ => exact seq _ ry h
  | klst _ => exact seq _ ry h
  | dk _ _ => exact seq _ ry h
  | dt _ _ => exact seq _ ry h
  | ref _ => exact seq _ ry h
  | exc _ _ => exact seq _ ry h

/-! ### comparisons -/
def opC : Cop → CmpOp
  | .eq => .Eq | .ne => .NotEq | .lt => .Lt | .le => .LtE | .gt => .Gt | .ge => .GtE | .isin => .In | .notin => .NotIn
def rCmp (K : PySem.W.Frag) : Cop → R2
  | .eq => fun x y H Q => rEq x y H Q ∨ rEqD K x y H Q
  | .ne => fun x y H Q => rNe x y H Q ∨ rNeD K x y H Q
  | .lt => rI0 fun i j => .bl (decide (i < j))
  | .le => rI0 fun i j => .bl (decide (i ≤ j))
  | .gt => rI0 fun i j => .bl (decide (j < i))
  | .ge => rI0 fun i j => .bl (decide (j ≤ i))
  | .isin => rInK K false
  | .notin => rInK K true
theorem op_cmp {X : Cx} (hu : X.A.units + 65 < cLine) (o : Cop) : OpR X (compareOp (opC o)) (rCmp X.K o) := by
  cases o with
  | eq => exact op_eq.or (op_eqD (by omega))
  | ne => exact op_ne.or (op_neD (by omega))
  | lt => exact op_lt
  | le => exact op_le
  | gt => exact op_gt
  | ge => exact op_ge
  | isin => exact op_inK hu
  | notin => exact op_notInK hu
theorem cmp_ok {o : Cop} {x y : D} {v w : V} {s : Sl} {φ : List Addr} {m : Mm} {σ : L2.St} {H : Hp} {Q : VK} {k : Bool} (sr : c.SR s φ m σ H) (rx : c.Rep H φ x v) (ry : c.Rep H φ y w)
    (h : cmpV m o x y = some k) (q : Q (.bl k) H) : rCmp c.X.K o v w H Q := by
  have int : ∀ f : Int → Int → Bool, ltI x y f = some k → ∃ i j, v = .int i ∧ w = .int j ∧ f i j = k := fun f h => by
    unfold ltI at h
    split at h
    · exact ⟨_, _, rx, ry, Option.some.inj h⟩
    · cases h
  cases o with
  | eq =>
    rcases scal_rep sr rx ry h with ⟨h1, h2⟩ | ⟨d, e, h1, h2, h3, h4, h5⟩
    · exact .inl ⟨h1, by rw [h2]; exact q⟩
    · exact .inr ⟨d, e, h1, h2, h3, h4, by rw [h5]; exact q⟩
  | ne =>
    obtain ⟨k', h', e'⟩ := Option.map_eq_some_iff.mp h
    subst e'
    rcases scal_rep sr rx ry h' with ⟨h1, h2⟩ | ⟨d, e, h1, h2, h3, h4, h5⟩
    · exact .inl ⟨h1, by rw [h2]; exact q⟩
    · exact .inr ⟨d, e, h1, h2, h3, h4, by rw [h5]; exact q⟩
  | lt => obtain ⟨i, j, e1, e2, e3⟩ := int _ h; subst e3; exact ⟨i, j, e1, e2, q⟩
  | le => obtain ⟨i, j, e1, e2, e3⟩ := int _ h; subst e3; exact ⟨i, j, e1, e2, q⟩
  | gt => obtain ⟨i, j, e1, e2, e3⟩ := int _ h; subst e3; exact ⟨i, j, e1, e2, q⟩
  | ge => obtain ⟨i, j, e1, e2, e3⟩ := int _ h; subst e3; exact ⟨i, j, e1, e2, q⟩
  | isin => exact in_ok sr rx ry h (by simpa using q)
  | notin =>
    obtain ⟨k', h', e'⟩ := Option.map_eq_some_iff.mp h
    subst e'
    exact in_ok sr rx ry h' (by simpa using q)

section
variable {a b d : Expr} {fa fb fd : Xe} {pos : Pos}
theorem bl_ok {φ : List Addr} {H : Hp} {Q : VK} {σ : L2.St} {k : Bool} (h : OutG c σ H (rt (D.bl k, false)) (VOk c φ H Q)) : Q (.bl k) H := VOk.at h rfl
theorem cmp_run {o : Cop} {s : Sl} {φ : List Addr} {m : Mm} {σ : L2.St} {H : Hp} {F : VK} (sr : c.SR s φ m σ H) {α : Type} {r : Bool → Rv α} {R : α → Prop}
    (h : OutG c σ H (bd (fa s m) fun x => bd (fb s m) fun y => ob (cmpV m o x.1 y.1) r) R) (w : ∀ k H', Same H H' → OutG c σ H' (r k) R → F (.bl k) H') :
    TEv c fa σ H fun x H1 => TEv c fb σ H1 fun y H2 => rCmp c.X.K o x y H2 F := by
  refine TEv.mk sr (OutG.of c h) fun x hx v H1 s1 rx _ sr1 => ?_
  refine TEv.mk sr1 ((OutG.of c hx).imp c s1 fun _ z => z) fun y hy w' H2 s2 ry _ sr2 => ?_
  obtain ⟨k, e, hk⟩ := OutG.ofO c hy
  exact cmp_ok sr2 (rx.same s2) ry e (w k H2 (s1.trans s2) (hk.imp c (s1.trans s2) fun _ z => z))
theorem je_cmp {o : Cop} (hu : c.X.A.units + 65 < cLine) (ha : JE c a fa) (hb : JE c b fb) (hm : behindInMarks (opC o) b = false) : JE c (.Compare a [opC o] [b] pos) (xCmp o fa fb) := by
  refine PE.weak (pe_cmpR (op_cmp hu o) ha hb hm) fun σ H Q ⟨s, φ, m, sr, h⟩ => ?_
  exact cmp_run sr h fun k H' s' hk => VOk.at (VOk.imp (OutG.ok c hk) s') rfl
theorem jt_cmp {o : Cop} (hu : c.X.A.units + 65 < cLine) (ha : JE c a fa) (hb : JE c b fb) (hm : behindInMarks (opC o) b = false) : JT c (.Compare a [opC o] [b] pos) (tCmp o fa fb) := by
  refine PT.weak (pt_cmpR (op_cmp hu o) ha hb hm) fun σ H Q ⟨s, φ, m, sr, h⟩ => ?_
  exact cmp_run sr h fun k H' s' hk => ⟨k, rfl, OutG.ok c hk H' s'⟩
theorem nonD_rep {x : D} {v : V} {φ : List Addr} {H : Hp} {k : Bool} (r : c.Rep H φ x v) (e : nonD x = some k) : decide (v = .non) = k := by
  cases x with
  | non => cases e; rw [show v = V.non from r]; rfl
  | bl _ => cases e; rw [show v = V.bl _ from r]; rfl
  | int _ => cases e; rw [show v = V.int _ from r]; rfl
  | str _ => cases e; rw [show v = V.str _ from r]; rfl
  | tup _ => cases e; obtain ⟨a, vs, rfl, _⟩ := r; rfl
  | ktup _ => cases e; obtain ⟨a, vs, rfl, _⟩ := r; rfl
  | lst _ => cases e; obtain ⟨a, vs, rfl, _⟩ := r; rfl
  | klst _ => cases e; obtain ⟨a, vs, rfl, _⟩ := r; rfl
  | dk _ _ => cases e; obtain ⟨a, vs, rfl, _⟩ := r; rfl
  | dt _ _ => cases e; obtain ⟨a, vs, rfl, _⟩ := r; rfl
  | ref _ => cases e; obtain ⟨a, _, rfl⟩ := r; rfl
  | exc _ _ => cases e
theorem je_isN {j : Nat} {p : Pos} (ha : JE c a fa) : JE c (.Compare a [.Is] [.Constant .none j p] pos) (xIsN fa) := by
  refine PE.weak (pe_cmp (pc_isN ha) rfl) fun σ H Q ⟨s, φ, m, sr, h⟩ => ?_
  refine TEv.mk sr (OutG.of c h) fun x hx v H1 s1 rx _ sr1 => ?_
  obtain ⟨k, e, hk⟩ := OutG.ofO c hx
  rw [nonD_rep rx e]
  exact VOk.at (VOk.imp hk s1) rfl
theorem je_notN {j : Nat} {p : Pos} (ha : JE c a fa) : JE c (.Compare a [.IsNot] [.Constant .none j p] pos) (xNotN fa) := by
  refine PE.weak (pe_cmp (pc_notN ha) rfl) fun σ H Q ⟨s, φ, m, sr, h⟩ => ?_
  refine TEv.mk sr (OutG.of c h) fun x hx v H1 s1 rx _ sr1 => ?_
  obtain ⟨k, e, hk⟩ := OutG.ofO c hx
  rw [nonD_rep rx e]
  exact VOk.at (VOk.imp hk s1) rfl
theorem jt_isN {j : Nat} {p : Pos} (ha : JE c a fa) : JT c (.Compare a [.Is] [.Constant .none j p] pos) (tIsN fa) := by
  refine PT.weak (pt_cmp (pc_isN ha) rfl) fun σ H Q ⟨s, φ, m, sr, h⟩ => ?_
  refine TEv.mk sr (OutG.of c h) fun x hx v H1 s1 rx _ sr1 => ?_
  obtain ⟨k, e, hk⟩ := OutG.ofO c hx
  exact ⟨k, by rw [nonD_rep rx e], OutG.ok c hk H1 s1⟩
theorem jt_notN {j : Nat} {p : Pos} (ha : JE c a fa) : JT c (.Compare a [.IsNot] [.Constant .none j p] pos) (tNotN fa) := by
  refine PT.weak (pt_cmp (pc_notN ha) rfl) fun σ H Q ⟨s, φ, m, sr, h⟩ => ?_
  refine TEv.mk sr (OutG.of c h) fun x hx v H1 s1 rx _ sr1 => ?_
  obtain ⟨k, e, hk⟩ := OutG.ofO c hx
  exact ⟨!k, by rw [nonD_rep rx e], OutG.ok c hk H1 s1⟩
theorem chn_run {o1 o2 : Cop} {s : Sl} {φ : List Addr} {m : Mm} {σ : L2.St} {H : Hp} {α : Type} {r : Bool → Rv α} {R : α → Prop} {F : VK} (sr : c.SR s φ m σ H)
    (h : OutG c σ H (bd (fa s m) fun x => bd (fb s m) fun y => ob (cmpV m o1 x.1 y.1) fun k => if k then bd (fd s m) fun z => ob (cmpV m o2 y.1 z.1) r else r false) R)
    (w : ∀ k H', Same H H' → OutG c σ H' (r k) R → F (.bl k) H') : tChain (rCmp c.X.K o1) (rCmp c.X.K o2) (TEv c fa) (TEv c fb) (TEv c fd) σ H F := by
  refine TEv.mk sr (OutG.of c h) fun x hx v H1 s1 rx _ sr1 => ?_
  refine TEv.mk sr1 ((OutG.of c hx).imp c s1 fun _ z => z) fun y hy w' H2 s2 ry _ sr2 => ?_
  obtain ⟨k, e, hk⟩ := OutG.ofO c hy
  refine cmp_ok sr2 (rx.same s2) ry e ⟨k, rfl, ?_⟩
  cases k with
  | true =>
    rw [if_pos rfl] at hk ⊢
    refine TEv.mk sr2 ((OutG.of c hk).imp c (s1.trans s2) fun _ z => z) fun z hz u H3 s3 rz _ sr3 => ?_
    obtain ⟨k, e, hk⟩ := OutG.ofO c hz
    exact cmp_ok sr3 (ry.same s3) rz e (w k H3 ((s1.trans s2).trans s3) (hk.imp c ((s1.trans s2).trans s3) fun _ z => z))
  | false =>
    rw [if_neg (by decide)] at hk ⊢
    exact w false H2 (s1.trans s2) (hk.imp c (s1.trans s2) fun _ z => z)
theorem je_chn {o1 o2 : Cop} (hu : c.X.A.units + 65 < cLine) (ha : JE c a fa) (hb : JE c b fb) (hd : JE c d fd) (hm : lastMarks [opC o1, opC o2] [b, d] = false) : JE c (.Compare a [opC o1, opC o2] [b, d] pos) (xChn o1 o2 fa fb fd) := by
  refine PE.weak (pe_chain (op_cmp hu o1) (op_cmp hu o2) ha hb hd hm) fun σ H Q ⟨s, φ, m, sr, h⟩ => ?_
  exact chn_run sr h fun k H' s' hk => VOk.at (VOk.imp (OutG.ok c hk) s') rfl
theorem jt_chn {o1 o2 : Cop} (hu : c.X.A.units + 65 < cLine) (ha : JE c a fa) (hb : JE c b fb) (hd : JE c d fd) (hm : lastMarks [opC o1, opC o2] [b, d] = false) : JT c (.Compare a [opC o1, opC o2] [b, d] pos) (tChn o1 o2 fa fb fd) := by
  refine PT.weak (pt_chain (op_cmp hu o1) (op_cmp hu o2) ha hb hd hm) fun σ H Q ⟨s, φ, m, sr, h⟩ => ?_
  exact chn_run sr h fun k H' s' hk => ⟨k, rfl, OutG.ok c hk H' s'⟩

/-! ### truth -/
theorem tru_rep {s : Sl} {φ : List Addr} {m : Mm} {σ : L2.St} {H : Hp} (sr : c.SR s φ m σ H) {x : D} {v : V} {k : Bool} (r : c.Rep H φ x v) (e : truV m x = some k) : TruV c.X.K v H k := by
  have seq : ∀ y, c.Rep H φ y v → (match seqV m y with
    | some xs => some (!xs.isEmpty)
    | none => match dkV m y with
      | some (ks, _) => some (!ks.isEmpty)
      | none => none) = some k → TruV c.X.K v H k := by
    intro y r e
    split at e
    · rename_i xs hx
      cases e
      obtain ⟨p, vs, rfl, hs, rl⟩ := seqV_rep sr r hx
      have el : (!vs.isEmpty) = !xs.isEmpty := by
        have := RepL.length rl
        cases xs <;> cases vs <;> simp_all
      rcases hs with hs | hs
      · exact .inl ⟨vs, hs, el.symm⟩
      · exact .inr (.inl ⟨vs, hs, el.symm⟩)
    · split at e
      · rename_i ks xs hd
        cases e
        obtain ⟨p, vs, rfl, hs, l, rl⟩ := dkV_rep sr r hd
        refine .inr (.inr ⟨_, hs, ?_⟩)
        cases ks <;> cases vs <;> simp_all
      · cases e
  cases x with
  | non => cases e; rw [show v = V.non from r]; rfl
  | bl _ => cases e; rw [show v = V.bl _ from r]; rfl
  | int _ => cases e; rw [show v = V.int _ from r]; rfl
  | str y =>
    rw [show v = V.str _ from r]
    have e' : (if szOk y.length = true then some ((y.length : Int) != 0) else none) = some k := e
    by_cases h : szOk y.length = true
    · rw [if_pos h] at e'
      cases e'
      exact ⟨szOk_le h, rfl⟩
    · rw [if_neg h] at e'
      cases e'
  | tup _ => exact seq _ r e
  | ktup _ => exact seq _ r e
  | lst _ => exact seq _ r e
  | klst _ => exact seq _ r e
  | dk _ _ => exact seq _ r e
  | dt _ _ => exact seq _ r e
  | ref _ => exact seq _ r e
  | exc _ _ => exact seq _ r e
theorem jt_tru (ha : JE c a fa) (he : ∀ whole, isTrue a c.X.env whole = (do let v ← whole; standAt a.pos; holding [v] (truthy v))) : JT c a (tTru fa) := by
  refine PT.weak (pt_truth ha he) fun σ H Q ⟨s, φ, m, sr, h⟩ => ?_
  refine TEv.mk sr (OutG.of c h) fun x hx v H1 s1 rx _ sr1 => ?_
  obtain ⟨k, e, hk⟩ := OutG.ofO c hx
  exact ⟨k, tru_rep sr1 rx e, OutG.ok c hk H1 s1⟩
theorem je_notV (ha : JE c a fa) : JE c (.UnaryOp .Not a pos) (xNotV fa) := by
  refine PE.weak (pe_notT ha) fun σ H Q ⟨s, φ, m, sr, h⟩ => ?_
  refine TEv.mk sr (OutG.of c h) fun x hx v H1 s1 rx _ sr1 => ?_
  obtain ⟨k, e, hk⟩ := OutG.ofO c hx
  exact ⟨k, tru_rep sr1 rx e, VOk.at (VOk.imp (OutG.ok c hk) s1) rfl⟩
theorem TTv.mk {φ : List Addr} {H : Hp} {Q' : Bool → Hp → Prop} {s : Sl} {m : Mm} {σ : L2.St} {f : Xt} {P : Bool → Prop} (sr : c.SR s φ m σ H) (h : OutG c σ H (f s m) P) (w : ∀ k, P k → ∀ H1, Same H H1 → c.SR s φ m σ H1 → Q' k H1) : TTv c f σ H Q' :=
  ⟨s, φ, m, sr, h.imp c (Same.refl H) fun k hp H1 s1 => w k hp H1 s1 (sr.same s1)⟩
variable {ft fu : Xt}
theorem jt_not (ha : JT c a ft) : JT c (.UnaryOp .Not a pos) (tNot ft) := by
  refine PT.weak (pt_not ha) fun σ H Q ⟨s, φ, m, sr, h⟩ => ?_
  exact TTv.mk sr (OutG.of c h) fun k hk H1 s1 sr1 => OutG.ok c hk H1 s1
theorem jw_and1 (ha : JT c a ft) : PW c.X (.BoolOp .And [a] pos) (TTv c ft) := pw_and1 ha
theorem jw_or1 (ha : JT c a ft) : PW c.X (.BoolOp .Or [a] pos) (TTv c ft) := pw_or1 ha
theorem jw_and {rest : List Expr} (ha : JT c a ft) (hb : PW c.X (.BoolOp .And (b :: rest) pos) (TTv c fu)) : PW c.X (.BoolOp .And (a :: b :: rest) pos) (TTv c (tAnd ft fu)) := by
  refine PW.weak (pw_and ha hb) fun σ H Q ⟨s, φ, m, sr, h⟩ => ?_
  refine TTv.mk sr (OutG.of c h) fun k hk H1 s1 sr1 => ?_
  cases k with
  | true =>
    rw [if_pos rfl] at hk ⊢
    exact ⟨s, φ, m, sr1, hk.imp c s1 fun k hq H' s' => hq H' (s1.trans s')⟩
  | false => rw [if_neg (by decide)] at hk ⊢; exact OutG.ok c hk H1 s1
theorem jw_or {rest : List Expr} (ha : JT c a ft) (hb : PW c.X (.BoolOp .Or (b :: rest) pos) (TTv c fu)) : PW c.X (.BoolOp .Or (a :: b :: rest) pos) (TTv c (tOr ft fu)) := by
  refine PW.weak (pw_or ha hb) fun σ H Q ⟨s, φ, m, sr, h⟩ => ?_
  refine TTv.mk sr (OutG.of c h) fun k hk H1 s1 sr1 => ?_
  cases k with
  | true => rw [if_pos rfl] at hk ⊢; exact OutG.ok c hk H1 s1
  | false =>
    rw [if_neg (by decide)] at hk ⊢
    exact ⟨s, φ, m, sr1, hk.imp c s1 fun k hq H' s' => hq H' (s1.trans s')⟩
theorem je_one {op : BoolOp} (ha : JE c a fa) : JE c (.BoolOp op [a] pos) fa := pe_one ha
theorem je_and {rest : List Expr} (ha : JE c a fa) (hb : JE c (.BoolOp .And (b :: rest) pos) fb) : JE c (.BoolOp .And (a :: b :: rest) pos) (xAnd2 fa fb) := by
  refine PE.weak (pe_and ha hb) fun σ H Q ⟨s, φ, m, sr, h⟩ => ?_
  refine TEv.mk sr (OutG.of c h) fun x hx v H1 s1 rx _ sr1 => ?_
  obtain ⟨x, b⟩ := x
  cases x with
  | bl k =>
    obtain rfl : v = .bl k := rx
    refine ⟨k, rfl, ?_⟩
    cases k with
    | true =>
      rw [if_pos rfl]
      exact ⟨s, φ, m, sr1, OutG.imp c hx s1 fun p hp => VOk.imp hp s1⟩
    | false => rw [if_neg (by decide)]; exact VOk.at (VOk.imp hx s1) rfl
  | _ => exact hx.elim
theorem je_or {rest : List Expr} (ha : JE c a fa) (hb : JE c (.BoolOp .Or (b :: rest) pos) fb) : JE c (.BoolOp .Or (a :: b :: rest) pos) (xOr2 fa fb) := by
  refine PE.weak (pe_or ha hb) fun σ H Q ⟨s, φ, m, sr, h⟩ => ?_
  refine TEv.mk sr (OutG.of c h) fun x hx v H1 s1 rx _ sr1 => ?_
  obtain ⟨x, b⟩ := x
  cases x with
  | bl k =>
    obtain rfl : v = .bl k := rx
    refine ⟨k, rfl, ?_⟩
    cases k with
    | true => rw [if_pos rfl]; exact VOk.at (VOk.imp hx s1) rfl
    | false =>
      rw [if_neg (by decide)]
      exact ⟨s, φ, m, sr1, OutG.imp c hx s1 fun p hp => VOk.imp hp s1⟩
  | _ => exact hx.elim
theorem jt_ite {t : Expr} {fa' fb' : Xt} (ht : JT c t ft) (ha : JT c a fa') (hb : JT c b fb') : JT c (.IfExp t a b pos) (xIte ft fa' fb') := by
  refine ⟨fun pins st σ H Q I h => ?_⟩
  obtain ⟨s, φ, m, sr, h⟩ := h
  show wpAny _ _ (isTrue (.IfExp t a b pos) c.X.env _) _ _ _
  unfold PySem.isTrue
  have h1 : TTv c ft σ H fun k H1 => c.SR s φ m σ H1 ∧ Same H H1 ∧ OutG c σ H (if k = true then fa' s m else fb' s m) fun k => ∀ H', Same H H' → Q k H' :=
    ⟨s, φ, m, sr, (OutG.of c h).imp c (Same.refl H) fun k hk H1 s1 => ⟨sr.same s1, s1, hk⟩⟩
  refine wpAny_bind (thn (ht.run pins st σ H _ I h1) fun k s1 ⟨H1, I1, sr1, s2, hk⟩ => ?_)
  cases k with
  | true => exact ha.run pins s1 σ H1 Q I1 ⟨s, φ, m, sr1, OutG.imp c hk s2 fun k q H' s3 => q H' (s2.trans s3)⟩
  | false => exact hb.run pins s1 σ H1 Q I1 ⟨s, φ, m, sr1, OutG.imp c hk s2 fun k q H' s3 => q H' (s2.trans s3)⟩
theorem je_ite {t : Expr} (ht : JT c t ft) (ha : JE c a fa) (hb : JE c b fb) : JE c (.IfExp t a b pos) (xIte ft fa fb) := by
  refine PE.weak (pe_ifExp ht ha hb) fun σ H Q ⟨s, φ, m, sr, h⟩ => ?_
  refine TTv.mk sr (OutG.of c h) fun k hk H1 s1 sr1 => ?_
  cases k with
  | true =>
    rw [if_pos rfl] at hk ⊢
    exact ⟨s, φ, m, sr1, hk.imp c s1 fun p hp => VOk.imp hp s1⟩
  | false =>
    rw [if_neg (by decide)] at hk ⊢
    exact ⟨s, φ, m, sr1, hk.imp c s1 fun p hp => VOk.imp hp s1⟩
end
end MP
set_option Elab.async false
set_option linter.all false
set_option maxRecDepth 100000
set_option autoImplicit false
set_option maxHeartbeats 1000000
/-! arguments, displays, subscripts, slices, calls of built-ins, calls of defs -/
namespace MP
open PySem PySem.Spec PyProof.Rows L2
variable {c : Cc}

/-! ### argument lists -/
section
variable {a b d : Expr} {es : List Expr} {fa fb : Xe} {fs : Xs} {pos : Pos}
def noStar : Expr → Bool
  | .Starred _ _ => false
  | _ => true
theorem starEach_cons {e : Expr} {es : List Expr} {env : Env} (h : noStar e = true) : starEach (e :: es) env = (false, eval e env) :: starEach es env := by
  cases e <;> first | rfl | exact absurd h Bool.false_ne_true
theorem noStar_all {env : Env} {pos : Pos} : ∀ {es : List Expr}, es.all noStar = true → (backTo pos (starEach es env)).any (·.1) = false
  | [], _ => rfl
  | e :: es, h => by
    rw [List.all_cons, Bool.and_eq_true] at h
    rw [starEach_cons h.1]
    show (false || (backTo pos (starEach es env)).any (·.1)) = false
    rw [Bool.false_or]
    exact noStar_all h.2
theorem TAv.mk {φ : List Addr} {H : Hp} {Q' : List V → Hp → Prop} {s : Sl} {m : Mm} {σ : L2.St} {f : Xs} {P : List D → Prop} (sr : c.SR s φ m σ H) (h : OutG c σ H (f s m) P) (w : ∀ ds, P ds → ∀ vs H1, Same H H1 → c.RepL H1 φ ds vs → c.SR s φ m σ H1 → Q' vs H1) : TAv c f σ H Q' :=
  ⟨s, φ, m, sr, h.imp c (Same.refl H) fun ds hp vs H1 s1 r => w ds hp vs H1 s1 r (sr.same s1)⟩
theorem ja_nil : JA c [] xNil := PA.weak pa_nil fun σ H Q ⟨s, φ, m, sr, h⟩ => OutG.ok c h [] H (Same.refl H) rfl
theorem ja_cons (ha : JE c a fa) (hs : JA c es fs) (hn : noStar a = true) : JA c (a :: es) (xCons fa fs) := by
  refine PA.weak (pa_cons ha hs (starEach_cons hn)) fun σ H Q ⟨s, φ, m, sr, h⟩ => ?_
  refine TEv.mk sr (OutG.of c h) fun x hx v H1 s1 rx _ sr1 => ?_
  refine TAv.mk sr1 ((OutG.of c hx).imp c s1 fun _ z => z) fun ds hd vs H2 s2 rd sr2 => ?_
  exact OutG.ok c hd (v :: vs) H2 (s1.trans s2) (RepL.cons (rx.same s2) rd)
theorem ja_star {p : Pos} (ha : JE c a fa) (hs : JA c es fs) : JA c (.Starred a p :: es) (xStar fa fs) := by
  refine PA.weak (StX.pa_star ha hs) fun σ H Q ⟨s, φ, m, sr, h⟩ => ?_
  refine TEv.mk sr (OutG.of c h) fun x hx v H1 s1 rx _ sr1 => ?_
  cases e : seqV m x.1 with
  | none => simp only [e] at hx; exact hx.elim
  | some xs =>
    simp only [e] at hx
    obtain ⟨p1, vs, rfl, hq, rl⟩ := seqV_rep sr1 rx e
    refine ⟨p1, vs, rfl, hq.symm, ?_⟩
    refine TAv.mk sr1 ((OutG.of c hx).imp c s1 fun _ z => z) fun ds hd ws H2 s2 rd sr2 => ?_
    rw [appF_eq] at hd
    exact OutG.ok c hd (vs ++ ws) H2 (s1.trans s2) (RepL.append (RepL.same s2 rl) rd)
theorem je_tup {k : Nat} (hs : JA c es fs) : JE c (.Tuple es k pos) (xTup fs) := by
  refine PE.weak (pe_tup hs) fun σ H Q ⟨s, φ, m, sr, h⟩ => ?_
  refine TAv.mk sr (OutG.of c h) fun ds hd vs H1 s1 rd sr1 => ?_
  obtain ⟨k, hk⟩ := OutG.if c hd
  exact ⟨by rw [← RepL.length rd]; exact szOk_le k, fun p hp => tup_new rd (VOk.imp (OutG.ok c hk) s1) p hp⟩
theorem je_lst (hs : JA c es fs) : JE c (.List es pos) (xLst fs) := by
  refine PE.weak (pe_lst hs) fun σ H Q ⟨s, φ, m, sr, h⟩ => ?_
  refine TAv.mk sr (OutG.of c h) fun ds hd vs H1 s1 rd sr1 => ?_
  obtain ⟨k, hk⟩ := OutG.if c hd
  exact ⟨by rw [← RepL.length rd]; exact szOk_le k, fun p hp => lst_new sr1 rd (VOk.imp (OutG.ok c hk) s1) p hp⟩

/-! ### subscripts -/
def rSub (K : PySem.W.Frag) : R2 := fun x y H Q => rIxL K x y H Q ∨ rIxT K x y H Q ∨ ∃ a v, x = .ref a ∧ DGet H a y (some v) ∧ Q v H
theorem ix_sub {X : Cx} (hu : X.A.units + 65 < cLine) : IxR X (rSub X.K) := by
  have h1 : IxR X (fun x y H Q => ∃ a v, x = .ref a ∧ DGet H a y (some v) ∧ Q v H) := by
    intro value slice pins s σ H x y v u Q I rx ry h hs
    obtain ⟨a, w, rfl, g, q⟩ := h
    obtain rfl : v = Value.ref a := rx
    exact tail_any (dict_typeIs I g) PySem.F.slot_dict_getitem.lookup (d_getItem (by omega) I g ry fun w' s3 I3 rw' => ⟨w, H, I3, rw', q⟩) hs
  exact ix_list.or (ix_tup.or h1)
def noSlice : Expr → Bool
  | .Slice _ _ _ _ => false
  | _ => true
theorem plainIx {b : Expr} (h : noSlice b = true) : PlainIx b := by
  cases b <;> first | exact fun _ _ => rfl | exact absurd h Bool.false_ne_true
theorem sub_rep {x y d : D} {v w : V} {s : Sl} {φ : List Addr} {m : Mm} {σ : L2.St} {H : Hp} {Q : VK} (sr : c.SR s φ m σ H) (rx : c.Rep H φ x v) (ry : c.Rep H φ y w) (h : subV m x y = some d)
    (q : ∀ u, c.Rep H φ d u → Q u H) : rSub c.X.K v w H Q := by
  unfold subV at h
  split at h
  · rename_i xs hx
    obtain ⟨p, vs, rfl, hs, r⟩ := seqV_rep sr rx hx
    split at h
    · rename_i i
      obtain rfl : w = .int i := ry
      split at h
      · rename_i k hk
        rw [nthL_eq] at h
        obtain ⟨u, hu, ru⟩ := RepL.get r h
        have ha : atI vs i = some u := by
          unfold atI
          rw [← RepL.length r]
          unfold ixAt at hk
          rw [hk]
          exact hu
        rcases hs with hs | hs
        · exact .inl ⟨p, vs, i, u, rfl, rfl, hs, ha, q u ru⟩
        · exact .inr (.inl ⟨p, vs, i, u, rfl, rfl, hs, ha, q u ru⟩)
      · cases h
    · cases h
  · split at h
    · rename_i ks xs hd
      obtain ⟨p, vs, rfl, hs, l, r⟩ := dkV_rep sr rx hd
      split at h
      · rename_i k hk
        obtain ⟨u, e1, ru⟩ := (valV_zip k r l).1 d h
        refine .inr (.inr ⟨p, u, rfl, ?_, q u ru⟩)
        rw [kD_rep ry hk, ← e1]
        exact .k hs
      · cases h
    · split at h
      · rename_i ks xs hd
        obtain ⟨p, vs, rfl, hs, l, r⟩ := dtV_rep sr rx hd
        split at h
        · rename_i k hk
          obtain ⟨b, rfl, hb⟩ := tk_rep ry hk
          obtain ⟨u, e1, ru⟩ := (valV_zip k r l).1 d h
          refine .inr (.inr ⟨p, u, rfl, ?_, q u ru⟩)
          rw [← e1]
          exact .t hs hb
        · cases h
      · cases h
theorem je_sub (hu : c.X.A.units + 65 < cLine) (ha : JE c a fa) (hb : JE c b fb) (hn : noSlice b = true) : JE c (.Subscript a b pos) (xSub fa fb) := by
  refine PE.weak (pe_ix (ix_sub hu) ha hb (plainIx hn)) fun σ H Q ⟨s, φ, m, sr, h⟩ => ?_
  refine TEv.mk sr (OutG.of c h) fun x hx v H1 s1 rx _ sr1 => ?_
  refine TEv.mk sr1 ((OutG.of c hx).imp c s1 fun _ z => z) fun y hy w H2 s2 ry _ sr2 => ?_
  obtain ⟨d, e, hd⟩ := OutG.ofO c hy
  exact sub_rep sr2 (rx.same s2) ry e fun u ru => VOk.at (VOk.imp (OutG.ok c hd) (s1.trans s2)) ru

/-! ### slices -/
theorem TOv.mk {φ : List Addr} {H : Hp} {Q' : Option Int → Hp → Prop} {s : Sl} {m : Mm} {σ : L2.St} {f : Xo} {P : Option Int → Prop} (sr : c.SR s φ m σ H) (h : OutG c σ H (f s m) P) (w : ∀ k, P k → ∀ H1, Same H H1 → c.SR s φ m σ H1 → Q' k H1) : TOv c f σ H Q' :=
  ⟨s, φ, m, sr, h.imp c (Same.refl H) fun k hp H1 s1 => w k hp H1 s1 (sr.same s1)⟩
theorem jo_none : JO c none xO0 := PO.weak po_none fun σ H Q ⟨s, φ, m, sr, h⟩ => OutG.ok c h H (Same.refl H)
theorem jo_some (ha : JE c a fa) : JO c (some a) (xO1 fa) := by
  refine PO.weak (po_some ha) fun σ H Q ⟨s, φ, m, sr, h⟩ => ?_
  refine TEv.mk sr (OutG.of c h) fun x hx v H1 s1 rx _ sr1 => ?_
  obtain ⟨x, k⟩ := x
  cases x with
  | int i => exact ⟨i, rx, OutG.ok c hx H1 s1⟩
  | _ => exact hx.elim
theorem RepL.cut {K : KX} {H : Hp} {B φ : List Addr} {ds : List D} {vs : List V} (h : MP.RepL K H B φ ds vs) (lo hi : Option Int) : MP.RepL K H B φ (cutD ds lo hi) (cutV vs lo hi) := by
  unfold cutD cutV
  rw [RepL.length h]
  exact RepL.take _ (RepL.drop _ h)
theorem cut_whole {α : Type} {xs : List α} {lo hi : Option Int} (h : HT.sIx xs.length 0 lo = 0 ∧ HT.sIx xs.length xs.length hi = xs.length) : (xs.drop (HT.sIx xs.length 0 lo)).take (HT.sIx xs.length xs.length hi - HT.sIx xs.length 0 lo) = xs := by
  rw [h.1, h.2]
  simp
theorem je_slc {lo hi : Option Expr} {fl fh : Xo} {p2 : Pos} (ha : JE c a fa) (hl : JO c lo fl) (hh : JO c hi fh) : JE c (.Subscript a (.Slice lo hi none p2) pos) (xSlc fa fl fh) := by
  refine PE.weak (pe_slice (sl_list.or sl_tupA) ha hl hh) fun σ H Q ⟨s, φ, m, sr, h⟩ => ?_
  refine TEv.mk sr (OutG.of c h) fun x hx v H1 s1 rx _ sr1 => ?_
  refine TOv.mk sr1 ((OutG.of c hx).imp c s1 fun _ z => z) fun p hp H2 s2 sr2 => ?_
  refine TOv.mk sr2 ((OutG.of c hp).imp c (s1.trans s2) fun _ z => z) fun q hq H3 s3 sr3 => ?_
  have r3 := (rx.same s2).same s3
  have s0 := (s1.trans s2).trans s3
  obtain ⟨x, b⟩ := x
  have lst : ∀ xs, lstV m x = some xs → OutG c σ H (frL (cutD xs p q) fun zs => rt (D.lst zs, true)) (VOk c φ H Q) → (rSlL c.X.K v p q H3 Q ∨ rSlA c.X.K v p q H3 Q) := fun xs e h => by
    obtain ⟨l, vs, rfl, hs, rl⟩ := lstV_rep sr3 r3 e
    rw [frL_eq] at h
    exact .inl ⟨l, vs, rfl, hs, fun n hn => lst_new sr3 (RepL.cut rl p q) (VOk.imp (OutG.ok c h) s0) n hn⟩
  unfold slcV at hq
  cases x with
  | tup xs =>
    obtain ⟨l, vs, rfl, e, rl⟩ := r3
    simp only [frL_eq] at hq
    have hv := VOk.imp (OutG.ok c hq) s0
    refine .inr ⟨l, vs, rfl, .of e, fun w => ?_, fun _ n hn => tup_new (RepL.cut rl p q) hv n hn⟩
    have hl := RepL.length rl
    rw [← hl] at w
    have : cutD xs p q = xs := cut_whole w
    rw [this] at hv
    exact VOk.at hv ⟨l, vs, rfl, e, rl⟩
  | ktup xs =>
    obtain ⟨l, vs, rfl, e, rl⟩ := r3
    have hl := RepL.length rl
    simp only [frL_eq] at hq
    have hq' : OutG c σ H (if wholeD xs p q = true then rt (D.ktup xs, false) else rt (D.tup (cutD xs p q), false)) (VOk c φ H Q) := hq
    by_cases w : wholeD xs p q = true
    · rw [if_pos w] at hq'
      refine .inr ⟨l, vs, rfl, e, fun _ => VOk.at (VOk.imp (OutG.ok c hq') s0) ⟨l, vs, rfl, e, rl⟩, fun nw => ?_⟩
      unfold wholeD at w
      rw [Bool.and_eq_true] at w
      rw [hl] at w
      exact absurd ⟨of_decide_eq_true w.1, of_decide_eq_true w.2⟩ nw
    · rw [if_neg w] at hq'
      refine .inr ⟨l, vs, rfl, e, fun nw => ?_, fun _ n hn => tup_new (RepL.cut rl p q) (VOk.imp (OutG.ok c hq') s0) n hn⟩
      refine absurd ?_ w
      unfold wholeD
      rw [hl, decide_eq_true nw.1, decide_eq_true nw.2]
      rfl
  | lst xs => exact lst xs rfl hq
  | klst xs => exact lst xs rfl hq
  | ref n =>
    have hq' : OutG c σ H (match lstV m (.ref n) with
      | some xs => frL (cutD xs p q) fun zs => rt (D.lst zs, true)
      | none => none) (VOk c φ H Q) := hq
    cases e : lstV m (.ref n) with
    | none => rw [e] at hq'; exact hq'.elim
    | some xs => rw [e] at hq'; exact lst xs e hq'
  | _ => exact hq.elim
theorem je_rev {k : Nat} {p1 p2 p3 : Pos} (ha : JE c a fa) : JE c (.Subscript a (.Slice none none (some (.UnaryOp .USub (.Constant (.int 1) k p1) p2)) p3) pos) (xRev fa) := by
  refine PE.weak (pe_revL ha) fun σ H Q ⟨s, φ, m, sr, h⟩ => ?_
  refine TEv.mk sr (OutG.of c h) fun x hx v H1 s1 rx _ sr1 => ?_
  cases e : lstV m x.1 with
  | none => simp only [e] at hx; exact hx.elim
  | some xs =>
    simp only [e, frL_eq] at hx
    obtain ⟨l, vs, rfl, hs, rl⟩ := lstV_rep sr1 rx e
    exact ⟨l, vs, rfl, hs, fun n hn => lst_new sr1 (RepL.reverse rl) (VOk.imp (OutG.ok c hx) s1) n hn⟩
end
end MP
set_option Elab.async false
set_option linter.all false
set_option maxRecDepth 100000
set_option autoImplicit false
set_option maxHeartbeats 1000000
/-! sorted, max of ints, of tuples of ints, of pairs -/
namespace MP
open PySem PySem.Spec PyProof.Rows L2
theorem ltRow_nil (ys : List D) : ltRow [] ys = match ys with
  | [] => false
  | _ :: _ => true := rfl
theorem ltRow_cons (x : D) (xs ys : List D) : ltRow (x :: xs) ys = match ys with
    | [] => false
    | y :: ys => match x with
      | .int i => match y with
        | .int j => if i == j then ltRow xs ys else decide (i < j)
        | _ => false
      | _ => false := rfl
theorem allInt_cons (x : D) (xs : List D) : allInt (x :: xs) = match x with
  | .int _ => allInt xs
  | _ => false := rfl
theorem allInt_ex : ∀ {xs : List D}, allInt xs = true → ∃ is : List Int, xs = is.map D.int
  | [], _ => ⟨[], rfl⟩
  | .int i :: xs, h => by
    rw [allInt_cons] at h
    obtain ⟨is, rfl⟩ := allInt_ex h
    exact ⟨i :: is, rfl⟩
  | .non :: _, h => by cases h
  | .bl _ :: _, h => by cases h
  | .str _ :: _, h => by cases h
  | .tup _ :: _, h => by cases h
  | .ktup _ :: _, h => by cases h
  | .lst _ :: _, h => by cases h
  | .klst _ :: _, h => by cases h
  | .dk _ _ :: _, h => by cases h
  | .dt _ _ :: _, h => by cases h
  | .ref _ :: _, h => by cases h
  | .exc _ _ :: _, h => by cases h
/-- what the kinds are -/
inductive KD : Nat → D → Prop
  | int (i : Int) : KD 1 (.int i)
  | row (i : Int) (is : List Int) : KD 2 (.tup (.int i :: is.map D.int))
  | pair (i : Int) (is : List Int) : KD 3 (.tup [.int i, .tup (is.map D.int)])
theorem kind_ex {d : D} {k : Nat} (h : kindD d = k) (h0 : k ≠ 0) : KD k d := by
  cases d with
  | int i => cases h; exact .int i
  | tup xs =>
    match xs, h with
    | [], h => exact absurd h.symm h0
    | .int i :: r, h =>
      match r, h with
      | [.tup ws], h =>
        have h' : (if allInt ws = true then 3 else 0) = k := h
        by_cases q : allInt ws = true
        · rw [if_pos q] at h'; subst h'
          obtain ⟨is, rfl⟩ := allInt_ex q
          exact .pair i is
        · rw [if_neg q] at h'; exact absurd h'.symm h0
      | [], h => cases h; exact .row i []
      | .int j :: r, h =>
        have h' : (if allInt (.int j :: r) = true then 2 else 0) = k := by cases r <;> exact h
        by_cases q : allInt (.int j :: r) = true
        · rw [if_pos q] at h'; subst h'
          obtain ⟨is, e⟩ := allInt_ex q
          rw [e]
          exact .row i is
        · rw [if_neg q] at h'; exact absurd h'.symm h0
      | .tup ws :: y :: r, h => exact absurd (show (0 : Nat) = k from h).symm h0
      | .non :: r, h => exact absurd (show (0 : Nat) = k by cases r <;> exact h).symm h0
      | .bl _ :: r, h => exact absurd (show (0 : Nat) = k by cases r <;> exact h).symm h0
      | .str _ :: r, h => exact absurd (show (0 : Nat) = k by cases r <;> exact h).symm h0
      | .ktup _ :: r, h => exact absurd (show (0 : Nat) = k by cases r <;> exact h).symm h0
      | .lst _ :: r, h => exact absurd (show (0 : Nat) = k by cases r <;> exact h).symm h0
      | .klst _ :: r, h => exact absurd (show (0 : Nat) = k by cases r <;> exact h).symm h0
      | .dk _ _ :: r, h => exact absurd (show (0 : Nat) = k by cases r <;> exact h).symm h0
      | .dt _ _ :: r, h => exact absurd (show (0 : Nat) = k by cases r <;> exact h).symm h0
      | .ref _ :: r, h => exact absurd (show (0 : Nat) = k by cases r <;> exact h).symm h0
      | .exc _ _ :: r, h => exact absurd (show (0 : Nat) = k by cases r <;> exact h).symm h0
    | .non :: r, h => exact absurd (show (0 : Nat) = k from h).symm h0
    | .bl _ :: r, h => exact absurd (show (0 : Nat) = k from h).symm h0
    | .str _ :: r, h => exact absurd (show (0 : Nat) = k from h).symm h0
    | .tup _ :: r, h => exact absurd (show (0 : Nat) = k from h).symm h0
    | .ktup _ :: r, h => exact absurd (show (0 : Nat) = k from h).symm h0
    | .lst _ :: r, h => exact absurd (show (0 : Nat) = k from h).symm h0
    | .klst _ :: r, h => exact absurd (show (0 : Nat) = k from h).symm h0
    | .dk _ _ :: r, h => exact absurd (show (0 : Nat) = k from h).symm h0
    | .dt _ _ :: r, h => exact absurd (show (0 : Nat) = k from h).symm h0
    | .ref _ :: r, h => exact absurd (show (0 : Nat) = k from h).symm h0
    | .exc _ _ :: r, h => exact absurd (show (0 : Nat) = k from h).symm h0
  | _ => exact absurd (show (0 : Nat) = k from h).symm h0
theorem sameK_all {k : Nat} : ∀ {ds : List D}, sameK k ds = true → ∀ d ∈ ds, kindD d = k
  | [], _, d, hd => absurd hd (by simp)
  | e :: ds, h, d, hd => by
    have h' : (if (kindD e == k) = true then sameK k ds else false) = true := h
    by_cases q : (kindD e == k) = true
    · rw [if_pos q] at h'
      rcases List.mem_cons.mp hd with z | z
      · rw [z]; simpa using q
      · exact sameK_all h' d z
    · rw [if_neg q] at h'; cases h'
theorem sortOk_all {ds : List D} (h : sortOk ds = true) : ∃ k, ∀ d ∈ ds, KD k d := by
  cases ds with
  | nil => exact ⟨1, fun d hd => absurd hd (by simp)⟩
  | cons d ds =>
    have h' : (match kindD d with
      | 0 => false
      | k => sameK k ds) = true := h
    cases q : kindD d with
    | zero => rw [q] at h'; cases h'
    | succ k =>
      rw [q] at h'
      have h2 : sameK (k + 1) ds = true := h'
      refine ⟨k + 1, fun e he => kind_ex ?_ (by omega)⟩
      rcases List.mem_cons.mp he with z | z
      · rw [z]; exact q
      · exact sameK_all h2 e z
theorem toPs_map : ∀ ds : List D, toPs ds = ds.map toP
  | [] => rfl
  | d :: ds => by rw [toPs, toPs_map ds]; rfl
theorem toPs_ints (is : List Int) : toPs (is.map D.int) = is.map PyData.int := by
  rw [toPs_map, List.map_map]
  rfl
theorem KD.alike {k : Nat} {a b : D} (h : KD k a) (h2 : KD k b) : PySem.W.alike (toP a) (toP b) = true := by
  have il := PySem.W.alike_ints
  cases h with
  | int i => cases h2 with
    | int j => simp [toP, PySem.W.alike]
  | row i is => cases h2 with
    | row j js =>
      rw [show D.int i :: is.map D.int = (i :: is).map D.int from rfl, show D.int j :: js.map D.int = (j :: js).map D.int from rfl, toP, toP, toPs_ints, toPs_ints, PySem.W.alike]
      exact il _ _
  | pair i is => cases h2 with
    | pair j js => simp [toP, toPs, toPs_ints, PySem.W.alike, PySem.W.alikeAll, il]
theorem row_lt : ∀ (is js : List Int), PyProof.Rows.lexLt itemOrd (PySem.W.keyToksAll (is.map PyData.int)) (PySem.W.keyToksAll (js.map PyData.int)) = ltRow (is.map D.int) (js.map D.int) := by
  intro is js
  have := PySem.W.dataLt_ints is js
  unfold PySem.W.rowLt at this
  rw [this]
  induction is generalizing js with
  | nil => cases js <;> simp [ltRow_nil]
  | cons i is ih => cases js with
    | nil => simp [ltRow_cons]
    | cons j js =>
      rw [List.map_cons, List.map_cons, ltRow_cons]
      dsimp only
      have ih' := ih js (PySem.W.dataLt_ints is js)
      by_cases e : i = j
      · subst e
        rw [if_pos (by simp), ← ih']
        simp
      · rw [if_neg (by simpa using e)]
        simp [List.cons_lt_cons_iff, e]
theorem KD.lt {k : Nat} {a b : D} (h : KD k a) (h2 : KD k b) : PySem.W.dataLt (toP a) (toP b) = ltD a b := by
  cases h with
  | int i => cases h2 with
    | int j => rw [toP, toP, PySem.W.dataLt_int]; rfl
  | row i is => cases h2 with
    | row j js =>
      rw [show D.int i :: is.map D.int = (i :: is).map D.int from rfl, show D.int j :: js.map D.int = (j :: js).map D.int from rfl, toP, toP, toPs_ints, toPs_ints, PySem.W.dataLt_tuple, row_lt]
      cases is with
      | nil => cases js <;> rfl
      | cons i2 is => rfl
  | pair i is => cases h2 with
    | pair j js =>
      have e : toP (.tup [.int i, .tup (is.map D.int)]) = .tuple [.int i, .tuple (is.map PyData.int)] := by simp [toP, toPs, toPs_ints]
      have e2 : toP (.tup [.int j, .tup (js.map D.int)]) = .tuple [.int j, .tuple (js.map PyData.int)] := by simp [toP, toPs, toPs_ints]
      have al : PySem.W.alike (.tuple (is.map PyData.int)) (.tuple (js.map PyData.int)) = true := by rw [PySem.W.alike]; exact PySem.W.alike_ints _ _
      rw [e, e2, PySem.W.dataLt_pair (by simp [PySem.W.alike]) al]
      show _ = (if (i == j) = true then ltRow (is.map D.int) (js.map D.int) else decide (i < j))
      by_cases q : i = j
      · subst q
        have h1 : PyData.eqv (.int i) (.int i) = true := by simp [PyData.eqv]
        have h2 : (i == i) = true := by simp
        rw [if_pos h1, if_pos h2]
        by_cases r : PyData.eqv (.tuple (is.map PyData.int)) (.tuple (js.map PyData.int)) = true
        · rw [if_pos r]
          have := (PySem.W.toks_eqv _ _ al).1 r
          rw [← row_lt, ← PySem.W.dataLt_tuple]
          unfold PySem.W.dataLt
          rw [this]
          exact (lex_irrefl _).symm
        · rw [if_neg r, PySem.W.dataLt_tuple, row_lt]
      · have h1 : ¬ PyData.eqv (.int i) (.int j) = true := by simpa [PyData.eqv] using q
        have h2 : ¬ (i == j) = true := by simpa using q
        rw [if_neg h1, if_neg h2, PySem.W.dataLt_int]
/-! the order is total -/
theorem ltRow_total : ∀ is js : List Int, ltRow (is.map D.int) (js.map D.int) = false → ltRow (js.map D.int) (is.map D.int) = false → is = js
  | [], [], _, _ => rfl
  | [], _ :: _, h, _ => by cases h
  | _ :: _, [], _, h => by cases h
  | i :: is, j :: js, h, h2 => by
    rw [List.map_cons, List.map_cons, ltRow_cons] at h h2
    dsimp only at h h2
    by_cases e : i = j
    · subst e
      have q : (i == i) = true := by simp
      rw [if_pos q] at h h2
      rw [ltRow_total is js h h2]
    · rw [if_neg (by simpa using e)] at h
      rw [if_neg (by simpa using fun z => e z.symm)] at h2
      have h3 := of_decide_eq_false h
      have h4 := of_decide_eq_false h2
      omega
theorem KD.total {k : Nat} {a b : D} (h : KD k a) (h2 : KD k b) (l1 : ltD a b = false) (l2 : ltD b a = false) : a = b := by
  cases h with
  | int i => cases h2 with
    | int j =>
      have h3 := of_decide_eq_false l1
      have h4 := of_decide_eq_false l2
      rw [show i = j by omega]
  | row i is => cases h2 with
    | row j js =>
      have e1 : ltD (.tup (.int i :: is.map D.int)) (.tup (.int j :: js.map D.int)) = ltRow ((i :: is).map D.int) ((j :: js).map D.int) := by
        cases is with
        | nil => cases js <;> rfl
        | cons _ _ => rfl
      have e2 : ltD (.tup (.int j :: js.map D.int)) (.tup (.int i :: is.map D.int)) = ltRow ((j :: js).map D.int) ((i :: is).map D.int) := by
        cases js with
        | nil => cases is <;> rfl
        | cons _ _ => rfl
      rw [e1] at l1
      rw [e2] at l2
      have := ltRow_total _ _ l1 l2
      cases this
      rfl
  | pair i is => cases h2 with
    | pair j js =>
      have l1' : (if (i == j) = true then ltRow (is.map D.int) (js.map D.int) else decide (i < j)) = false := l1
      have l2' : (if (j == i) = true then ltRow (js.map D.int) (is.map D.int) else decide (j < i)) = false := l2
      by_cases q : i = j
      · subst q
        have q : (i == i) = true := by simp
        rw [if_pos q] at l1' l2'
        rw [ltRow_total _ _ l1' l2']
      · rw [if_neg (by simpa using q)] at l1'
        rw [if_neg (by simpa using fun z => q z.symm)] at l2'
        have h3 := of_decide_eq_false l1'
        have h4 := of_decide_eq_false l2'
        omega
theorem KD.asym {k : Nat} {a b : D} (h : KD k a) (h2 : KD k b) (l : ltD a b = true) : ltD b a = false := by
  rw [← h2.lt h]
  rw [← h.lt h2] at l
  unfold PySem.W.dataLt at l ⊢
  cases q : lexLt itemOrd (PySem.W.keyToks (toP b)) (PySem.W.keyToks (toP a)) with
  | false => rfl
  | true =>
    have := (listOrd itemOrd).trans _ _ _ l q
    rw [(listOrd itemOrd).irrefl] at this
    cases this
theorem KD.ntr {k : Nat} {a b d : D} (h : KD k a) (h2 : KD k b) (h3 : KD k d) (l1 : ltD b a = false) (l2 : ltD d b = false) : ltD d a = false := by
  rw [← h3.lt h]
  rw [← h2.lt h] at l1
  rw [← h3.lt h2] at l2
  unfold PySem.W.dataLt at l1 l2 ⊢
  cases q : lexLt itemOrd (PySem.W.keyToks (toP d)) (PySem.W.keyToks (toP a)) with
  | false => rfl
  | true =>
    rcases (listOrd itemOrd).negTrans _ (PySem.W.keyToks (toP b)) _ q with z | z
    · exact absurd (z.symm.trans l2) (by decide)
    · exact absurd (z.symm.trans l1) (by decide)
/-! what sortD gives -/
theorem insD_cons (a b : D) (r : List D) : insD a (b :: r) = if ltD b a then b :: insD a r else a :: b :: r := rfl
theorem insD_perm (a : D) : ∀ l : List D, (insD a l).Perm (a :: l)
  | [] => .refl _
  | b :: r => by
    rw [insD_cons]
    by_cases q : ltD b a = true
    · rw [if_pos q]
      exact ((insD_perm a r).cons b).trans (.swap a b r)
    · rw [if_neg q]
theorem sortD_perm : ∀ l : List D, (sortD l).Perm l
  | [] => .refl _
  | a :: l => by
    show (frL (sortD l) fun r => insD a r).Perm _
    rw [frL_eq]
    exact (insD_perm a _).trans ((sortD_perm l).cons a)
theorem insD_srt {k : Nat} (a : D) (ha : KD k a) : ∀ l : List D, (∀ d ∈ l, KD k d) → l.Pairwise (fun x y => ltD y x = false) → (insD a l).Pairwise (fun x y => ltD y x = false)
  | [], _, _ => by simp [insD]
  | b :: r, hk, h => by
    rw [insD_cons]
    have hb := List.pairwise_cons.mp h
    have kb := hk b List.mem_cons_self
    have kr : ∀ d ∈ r, KD k d := fun d hd => hk d (List.mem_cons_of_mem _ hd)
    by_cases q : ltD b a = true
    · rw [if_pos q]
      refine List.pairwise_cons.mpr ⟨fun y hy => ?_, insD_srt a ha r kr hb.2⟩
      rcases List.mem_cons.mp ((insD_perm a r).mem_iff.mp hy) with e | e
      · rw [e]; exact kb.asym ha q
      · exact hb.1 y e
    · rw [if_neg q]
      refine List.pairwise_cons.mpr ⟨fun y hy => ?_, h⟩
      have q' : ltD b a = false := by simpa using q
      rcases List.mem_cons.mp hy with e | e
      · rw [e]; exact q'
      · exact KD.ntr ha kb (kr y e) q' (hb.1 y e)
theorem sortD_srt {k : Nat} : ∀ l : List D, (∀ d ∈ l, KD k d) → (sortD l).Pairwise (fun x y => ltD y x = false)
  | [], _ => List.Pairwise.nil
  | a :: l, hk => by
    show (frL (sortD l) fun r => insD a r).Pairwise _
    rw [frL_eq]
    have kr : ∀ d ∈ l, KD k d := fun d hd => hk d (List.mem_cons_of_mem _ hd)
    exact insD_srt a (hk a List.mem_cons_self) _ (fun d hd => kr d ((sortD_perm l).mem_iff.mp hd)) (sortD_srt l kr)
noncomputable def sortR (rv : Bool) (l : List D) : List D := if rv = true then (sortD l).reverse else sortD l
theorem merge_eq {k : Nat} (rv : Bool) {l : List D} (hk : ∀ d ∈ l, KD k d) : l.mergeSort (PySem.W.dataLe rv toP) = sortR rv l := by
  have p1 : (l.mergeSort (PySem.W.dataLe rv toP)).Perm l := List.mergeSort_perm l _
  have s1 : (l.mergeSort (PySem.W.dataLe rv toP)).Pairwise (fun a b => PySem.W.dataLe rv toP a b = true) := PySem.W.sort_pairwise (PySem.W.sortLe_total _ _ _) l
  have p2 : (sortR rv l).Perm l := by
    cases rv with
    | false => exact sortD_perm l
    | true => exact (List.reverse_perm _).trans (sortD_perm l)
  have le_of : ∀ a b, KD k a → KD k b → (PySem.W.dataLe rv toP a b = true ↔ (if rv = true then ltD a b else ltD b a) = false) := by
    intro a b ha hb
    rw [PySem.W.dataLe_eq]
    cases rv with
    | false => simp [hb.lt ha]
    | true => simp [ha.lt hb]
  have s2 : (sortR rv l).Pairwise (fun a b => PySem.W.dataLe rv toP a b = true) := by
    have z := sortD_srt l hk
    have mem : ∀ d ∈ sortD l, KD k d := fun d hd => hk d ((sortD_perm l).mem_iff.mp hd)
    cases rv with
    | false => exact List.Pairwise.imp_of_mem (fun {a b} ha hb q => (le_of a b (mem a ha) (mem b hb)).mpr q) z
    | true =>
      show (sortD l).reverse.Pairwise _
      rw [List.pairwise_reverse]
      exact List.Pairwise.imp_of_mem (fun {a b} ha hb q => (le_of b a (mem b hb) (mem a ha)).mpr q) z
  refine (p1.trans p2.symm).eq_of_pairwise (fun a b ha hb q1 q2 => ?_) s1 s2
  have ka := hk a (p1.mem_iff.mp ha)
  have kb := hk b (p2.mem_iff.mp hb)
  have q1 := (le_of a b ka kb).mp q1
  have q2 := (le_of b a kb ka).mp q2
  cases rv with
  | false => exact ka.total kb q2 q1
  | true => exact ka.total kb q1 q2
theorem KD.depth {k : Nat} {a : D} (h : KD k a) : (toP a).depth ≤ 2 := by
  have z := PySem.W.depth_ints
  cases h with
  | int i => simp [toP, PyData.depth]
  | row i is =>
    rw [show D.int i :: is.map D.int = (i :: is).map D.int from rfl, toP, toPs_ints, PyData.depth, z]
    omega
  | pair i is =>
    rw [toP, toPs, toPs, toPs, toP, toP, toPs_ints, PyData.depth, PyData.depthAll, PyData.depthAll, PyData.depthAll, PyData.depth, PyData.depth, z]
    omega
theorem kd_sortable {k : Nat} {ds : List D} (hk : ∀ d ∈ ds, KD k d) : PySem.W.Sortable (ds.map toP) := by
  by_cases e : k = 1
  · subst e
    refine .inr fun d hd => ?_
    obtain ⟨b, hb, rfl⟩ := List.mem_map.mp hd
    cases hk b hb with
    | int i => exact ⟨by simp [toP], by simp [toP]⟩
  · refine .inl fun d hd => ?_
    obtain ⟨b, hb, rfl⟩ := List.mem_map.mp hd
    cases hk b hb with
    | int i => exact absurd rfl e
    | row i is => exact ⟨_, _, by rw [toP, toPs]⟩
    | pair i is => exact ⟨_, _, by rw [toP, toPs]⟩
/-! ### the rules -/
/-- v stands at d's place -/
abbrev AtP (xs : List V) (ds : List D) (v : V) (d : D) : Prop := (v, d) ∈ xs.zip ds
def rSortedD (K : PySem.W.Frag) (rv : Bool) : (List V → Hp → VK → Prop) := fun vs H Q => ∃ (a : Addr) (xs : List V) (ds : List D), vs = [V.ref a] ∧ SqL K H a xs ∧ DpAll K H xs (toPs ds) ∧ xs.length = ds.length ∧ sortOk ds = true ∧ ds.length ≤ sizeLine ∧
  ∀ ys p, PySem.W.EachIs (AtP xs ds) ys (sortR rv ds) → H p = none → Q (.ref p) (upd H p (.lst ys))
theorem each_zip : ∀ {xs : List V} {us : List Value} {ds : List D} {P : V → D → Prop}, Vals xs us → xs.length = ds.length → (∀ q ∈ xs.zip ds, P q.1 q.2) → PySem.W.EachIs (fun u d => ∃ v, RelV v u ∧ P v d) us ds
  | _, _, [], _, .nil, _, _ => .nil
  | _, _, _ :: _, _, .nil, e, _ => absurd e (by simp)
  | _, _, [], _, .cons _ _, e, _ => absurd e (by simp)
  | _, _, d :: ds, P, .cons (a := v) r t, e, h => .cons ⟨v, r, h (v, d) (List.mem_cons_self ..)⟩ (each_zip t (by simpa using e) fun q hq => h q (List.mem_cons_of_mem _ hq))
theorem each_back : ∀ {us : List Value} {ds : List D} {P : V → D → Prop}, PySem.W.EachIs (fun u d => ∃ v, RelV v u ∧ P v d) us ds → ∃ vs, Vals vs us ∧ PySem.W.EachIs P vs ds
  | _, _, _, .nil => ⟨[], .nil, .nil⟩
  | _, _, _, .cons ⟨v, r, p⟩ t => by
    obtain ⟨vs, h1, h2⟩ := each_back t
    exact ⟨v :: vs, .cons r h1, .cons p h2⟩
section
variable {X : Cx}
theorem sorted_runD {pins : List (Addr × Obj)} {s : Shared} {σ : L2.St} {H : Hp} {Q : VK} {rv : Bool} {a : Addr} {xs : List V} {ds : List D} (I : Inv X pins σ H s) (hu : X.A.units + 65 < cLine) (hs : SqL X.K H a xs) (hd : DpAll X.K H xs (toPs ds)) (hl : xs.length = ds.length) (hk : sortOk ds = true) (hz : ds.length ≤ sizeLine)
    (q : ∀ ys p, PySem.W.EachIs (AtP xs ds) ys (sortR rv ds) → H p = none → Q (.ref p) (upd H p (.lst ys))) {t : Sem Value}
    (ht : ∀ (its : List Value), s.heap.IsList a its.toArray → Vals xs its → ∀ {R : Value → D → Prop}, PySem.W.EachIs R its ds → PySem.W.EachIs (fun v b => ∃ as, Reads s.heap v (toP b) as) its ds → PySem.W.AllAlike (ds.map toP) → PySem.W.Sortable (ds.map toP) → (∀ b, b ∈ ds → X.A.units + 2 + (toP b).depth < cLine) →
      (∀ out, out.length = ds.length → PySem.W.EachIs R out (ds.mergeSort (PySem.W.dataLe rv toP)) → EP X pins σ Q (.ref (s.heap.objs.size + 1)) { s with heap := sortedAll s.heap its (List.toArray out) }) → wpAny (model X.prog X.w) X.A t (EP X pins σ Q) X.xe s) :
    wpAny (model X.prog X.w) X.A t (EP X pins σ Q) X.xe s := by
  obtain ⟨its, rv', pl, hz2⟩ := I.list hs
  obtain ⟨k, kd⟩ := sortOk_all hk
  obtain ⟨as, ra⟩ := Dp.readsAll I (toPs ds) xs its hd rv'
  rw [toPs_map] at ra
  refine ht its pl.isList rv' (R := fun u d => ∃ v, RelV v u ∧ AtP xs ds v d) (each_zip rv' hl fun q hq => hq) (PySem.W.readsAll_each toP ra) ?_ (kd_sortable kd) (fun b hb => ?_) fun out hlen he => ?_
  · intro d hd d' hd'
    obtain ⟨b, hb, rfl⟩ := List.mem_map.mp hd
    obtain ⟨b', hb', rfl⟩ := List.mem_map.mp hd'
    exact (kd b hb).alike (kd b' hb')
  · have := (kd b hb).depth
    omega
  · rw [merge_eq rv kd] at he
    obtain ⟨ys, v1, e1⟩ := each_back he
    obtain ⟨n, hn⟩ := sortedAll_at s.heap its out.toArray
    refine ⟨.ref (s.heap.objs.size + 1), upd H (s.heap.objs.size + 1) (.lst ys), I.laid (t' := s.toks) (fun _ _ => sortedAll_old) (Nat.le_succ _) ⟨?_, out, n, v1, hn⟩, rfl, q ys _ e1 (I.hok.fresh (Nat.le_succ _))⟩
    rw [v1.length, hlen]
    exact hz
theorem cr_sortedD (hu : X.A.units + 65 < cLine) : CallR X (.builtin "sorted") (rSortedD X.K false) := by
  intro pins s σ H vs us Q I r h
  obtain ⟨a, xs, ds, rfl, hs, hd, hl, hk, hz, q⟩ := h
  obtain ⟨u, rfl, ru⟩ := vals1 r
  obtain rfl : u = Value.ref a := ru
  exact sorted_runD I hu hs hd hl hk hz q fun its h1 _ {R} h2 h3 h4 h5 h6 h7 => PySem.W.sorted_data h1 h2 h3 h4 h5 hz h6 h7
def rSortedDR (K : PySem.W.Frag) : List V → List V → Hp → VK → Prop := fun vs zs H Q => zs = [.bl true] ∧ rSortedD K true vs H Q
theorem cr_sortedDR (hu : X.A.units + 65 < cLine) : CallRK X (.builtin "sorted") [Str.ofString "reverse"] (rSortedDR X.K) := by
  intro pins s σ H vs zs us ws Q I r rz h
  obtain ⟨rfl, a, xs, ds, rfl, hs, hd, hl, hk, hz, q⟩ := h
  obtain ⟨u, rfl, ru⟩ := vals1 r
  obtain rfl : u = Value.ref a := ru
  obtain ⟨w1, rfl, e1⟩ := vals1 rz
  obtain rfl : w1 = Value.bool true := e1
  exact sorted_runD I hu hs hd hl hk hz q fun its h1 _ {R} h2 h3 h4 h5 h6 h7 => PySem.W.sorted_rev_data h1 h2 h3 h4 h5 hz h6 h7
end
/-! max of a list -/
theorem maxDD_cons (a b : D) (l : List D) : maxDD a (b :: l) = maxDD (if ltD a b then b else a) l := rfl
theorem maxDD_kd {k : Nat} : ∀ (l : List D) (a : D), KD k a → (∀ d ∈ l, KD k d) → KD k (maxDD a l) ∧ PySem.W.maxD (toP a) (l.map toP) = toP (maxDD a l)
  | [], a, ha, _ => ⟨ha, rfl⟩
  | b :: l, a, ha, hl => by
    have kb := hl b List.mem_cons_self
    have kr : ∀ d ∈ l, KD k d := fun d hd => hl d (List.mem_cons_of_mem _ hd)
    have e : (if PySem.W.dataLt (toP a) (toP b) = true then toP b else toP a) = toP (if ltD a b = true then b else a) := by
      rw [ha.lt kb]
      split <;> rfl
    have ka : KD k (if ltD a b = true then b else a) := by split <;> assumption
    obtain ⟨h1, h2⟩ := maxDD_kd l _ ka kr
    rw [maxDD_cons]
    refine ⟨h1, ?_⟩
    rw [← h2]
    show List.foldl _ _ _ = List.foldl _ _ _
    rw [List.map_cons, List.foldl_cons, e]
theorem KD.inj {k : Nat} {a b : D} (h : KD k a) (h2 : KD k b) (e : toP a = toP b) : a = b := by
  have z : ltD a b = false := by
    rw [← h.lt h2, e]
    unfold PySem.W.dataLt
    exact lex_irrefl _
  have z2 : ltD b a = false := by
    rw [← h2.lt h, e]
    unfold PySem.W.dataLt
    exact lex_irrefl _
  exact h.total h2 z z2
theorem kd_depths {k : Nat} : ∀ (ds : List D), (∀ d ∈ ds, KD k d) → PyData.depthAll (ds.map toP) ≤ 2
  | [], _ => by simp [PyData.depthAll]
  | d :: ds, h => by
    rw [List.map_cons, PyData.depthAll]
    have h1 := (h d List.mem_cons_self).depth
    have h2 := kd_depths ds fun e he => h e (List.mem_cons_of_mem _ he)
    omega
theorem reads_at {h : Heap} : ∀ {us : List Value} {ds : List D} {as : List Addr} {i : Nat} {u : Value}, ReadsAll h us (ds.map toP) as → us[i]? = some u → ∃ d bs, ds[i]? = some d ∧ Reads h u (toP d) bs
  | [], ds, as, i, u, _, e => by simp at e
  | v :: us, [], as, i, u, r, e => by cases r
  | v :: us, d :: ds, as, i, u, r, e => by
    rw [List.map_cons] at r
    cases r with
    | cons r1 r2 =>
      cases i with
      | zero =>
        simp at e
        subst e
        exact ⟨d, _, rfl, r1⟩
      | succ i =>
        obtain ⟨d', bs, h1, h2⟩ := reads_at r2 (by simpa using e)
        exact ⟨d', bs, by simpa using h1, h2⟩
def rMaxDD (K : PySem.W.Frag) : (List V → Hp → VK → Prop) := fun vs H Q => ∃ (a : Addr) (xs : List V) (d : D) (ds : List D), vs = [V.ref a] ∧ SqL K H a xs ∧ DpAll K H xs (toPs (d :: ds)) ∧ xs.length = (d :: ds).length ∧ sortOk (d :: ds) = true ∧
  ∀ v, AtP xs (d :: ds) v (maxDD d ds) → Q v H
section
variable {X : Cx}
theorem cr_maxDD (hc : X.calm = true) (hu : X.A.units + 65 < cLine) : CallR X (.builtin "max") (rMaxDD X.K) := by
  intro pins s σ H vs us Q I r h
  obtain ⟨a, xs, d, ds, rfl, hs, hd, hl, hk, q⟩ := h
  obtain ⟨u, rfl, ru⟩ := vals1 r
  obtain rfl : u = Value.ref a := ru
  obtain ⟨its, rv, pl, hz2⟩ := I.list hs
  obtain ⟨k, kd⟩ := sortOk_all hk
  obtain ⟨as, ra⟩ := Dp.readsAll I (toPs (d :: ds)) xs its hd rv
  rw [toPs_map] at ra
  have ra' : ReadsAll s.heap its.toArray.toList (toP d :: ds.map toP) as := by simpa using ra
  have al : PySem.W.AlikeAll (toP d :: ds.map toP) := by
    have key : ∀ x ∈ toP d :: ds.map toP, ∃ b, KD k b ∧ x = toP b := by
      intro x hx
      rw [← List.map_cons] at hx
      obtain ⟨b, hb, rfl⟩ := List.mem_map.mp hx
      exact ⟨b, kd b hb, rfl⟩
    refine ⟨fun x hx y hy => ?_, fun x hx => ?_⟩
    · obtain ⟨b, hb, rfl⟩ := key x hx
      obtain ⟨b', hb', rfl⟩ := key y hy
      exact hb.alike hb'
    · obtain ⟨b, hb, rfl⟩ := key x hx
      cases hb <;> simp [toP]
  have dp := kd_depths (d :: ds) kd
  refine PySem.W.max_list_data (I.ok.hd hc) pl.isList ra' al (by rw [← List.map_cons]; omega) fun i v h' tk bs hv hr hk' => ?_
  have kr : ∀ e ∈ ds, KD k e := fun e he => kd e (List.mem_cons_of_mem _ he)
  obtain ⟨m1, m2⟩ := maxDD_kd ds d (kd d List.mem_cons_self) kr
  rw [m2] at hr
  have hv' : its[i]? = some v := by simpa using hv
  obtain ⟨e, bs', e1, e2⟩ := reads_at ra hv'
  have ke := kd e (List.mem_of_getElem? e1)
  have e3 : toP e = toP (maxDD d ds) := PySem.W.alike_unique _ _ v _ _ (ke.alike m1) (PySem.W.reads_keeps hk' e2) hr
  have e4 := ke.inj m1 e3
  subst e4
  have hi : i < xs.length := by rw [rv.length]; exact (List.getElem?_eq_some_iff.mp hv').1
  obtain ⟨w, hw, rw'⟩ := rv.get (List.getElem?_eq_getElem hi)
  rw [hv'] at hw
  cases hw
  refine ⟨xs[i], H, I.kept (t' := tk) hk', rw', q _ ?_⟩
  refine List.mem_of_getElem? (i := i) ?_
  rw [List.getElem?_zip_eq_some]
  exact ⟨List.getElem?_eq_getElem hi, e1⟩
end
/-- the values of sorted data -/
theorem each_rep {K : KX} {H : Hp} {B φ : List Addr} : ∀ {ys : List V} {es : List D} {P : V → D → Prop}, PySem.W.EachIs P ys es → (∀ v d, P v d → Rep K H B φ d v) → RepL K H B φ es ys
  | _, _, _, .nil, _ => rfl
  | _, _, _, .cons h t, w => ⟨_, _, rfl, w _ _ h, each_rep t w⟩
theorem RepL.zip {K : KX} {H : Hp} {B φ : List Addr} : ∀ {ds : List D} {vs : List V} {v : V} {d : D}, RepL K H B φ ds vs → (v, d) ∈ vs.zip ds → Rep K H B φ d v
  | [], _, _, _, h, m => by cases h; cases m
  | e :: ds, _, v, d, ⟨w, r, ew, h, t⟩, m => by
    subst ew
    rcases List.mem_cons.mp m with z | z
    · cases z; exact h
    · exact RepL.zip t z
/-! max of two -/
section
variable {prog : Program} {w : World} {A : Around} {E : Value → Shared → Prop} {s : Shared}
theorem call_max2D {a b : Value} {x y : PyData} {as bs : List Addr} {Q : Value → Shared → Prop} (hh : A.handled = none) (ra : Reads s.heap a x as) (rb : Reads s.heap b y bs) (al : PySem.W.AlikeAll [x, y]) (hu : A.units + 1 + PyData.depthAll [x, y] < cLine)
    (h : ∀ (v : Value) (h' : Heap) (tk : Tok) (cs : List Addr), (v = a ∨ v = b) → Reads h' v (PySem.W.maxD x [y]) cs → (∀ c o, s.heap.get? c = some o → h'.get? c = some o) → Q v { s with heap := h', toks := tk }) :
    wpAny (model prog w) A (call (.builtin "max") [a, b]) Q E s := by
  have hname : (toString "max" ++ toString ".loop" : String) = "max.loop" := by decide
  apply call_function_tree F.kind_max F.plain_max F.entry_max (F.args_max2 _ _)
  show wpAny _ A.in1 (Builtin.Builtins.bindParams "max" ["key", "default"] 0 ⟨[], []⟩ >>= _) _ _ s
  apply wpAny_bind
  refine wpAny_of_eq (show Builtin.Builtins.bindParams "max" ["key", "default"] 0 ⟨[], []⟩ = pure [none, none] from rfl) ?_
  show wpAny _ A.in1 (newTuple [a, b] >>= _) _ _ s
  apply wpAny_bind
  refine wpAny_newObj_type ?_
  have kp : ∀ c o, s.heap.get? c = some o → (s.heap.push ({ cls := .type "tuple", data := .seq #[a, b] } : Obj)).get? c = some o := fun c o e => Heap.get?_push_of_some _ e
  have hT : (s.heap.push ({ cls := .type "tuple", data := .seq #[a, b] } : Obj)).IsTuple s.heap.objs.size #[a, b] := ⟨_, Heap.get?_push_size _ rfl, rfl, 0, rfl⟩
  have rs : ReadsAll (s.heap.push ({ cls := .type "tuple", data := .seq #[a, b] } : Obj)) (#[a, b] : Array Value).toList [x, y] (as ++ (bs ++ [])) := .cons (PySem.W.reads_keeps kp ra) (.cons (PySem.W.reads_keeps kp rb) .nil)
  apply wpAny_bind
  refine PySem.W.iter_tupleW (A := A.in1) (s := { s with heap := s.heap.push { cls := .type "tuple", data := .seq #[a, b] } }) hh hT fun s2 e W st hfp hw hk => ?_
  apply wpAny_bind
  refine wpAny_newObj_type ?_
  rw [hname]
  refine wpAny_pure ⟨plainId_quiet F.plain_max_loop _, ?_⟩
  refine PySem.codeAny_max_loop_firstH W (s.heap.push ({ cls := .type "tuple", data := .seq #[a, b] } : Obj)) hw _ (PySem.W.cmpIn_gt (A := A.in1) (s := { s with heap := s.heap.push { cls := .type "tuple", data := .seq #[a, b] } }) rs al (by show A.units + 1 + _ < _; exact hu)) s2.heap.objs.size (fun hm => Nat.lt_irrefl _ (hfp _ hm)) (PySem.fresh_in hk) _ (by simp)
    (fun c o e' => Heap.get?_push_of_some _ (hk c o e')) (W.frame 0 s2 _ s2.toks st (Nat.le_refl _) fun c _ o e' => Heap.get?_push_of_some _ e') (Heap.get?_push_size _ rfl) fun v s' hP hm => ?_
  have hm2 := PySem.Moved.drop_new (tk := s2.toks) hm (Nat.le_refl _)
  obtain ⟨h', tk, rfl, hk'⟩ := PySem.W.moved_old e rfl hm2
  obtain ⟨cs, r, _, _, _⟩ := PySem.W.readsAll_atA rs _ v hP
  have e2 := (PySem.W.argBest_fold (fun a b => PySem.W.dataLt b a) PyData.none x [y] 1 (Nat.le_refl _)).2
  rw [show [y].take 1 = [y] from rfl] at e2
  refine h v h' tk cs ?_ (PySem.W.reads_keeps hk' (by
    unfold PySem.W.maxD
    rw [← e2]
    exact r)) fun c o e' => hk' c o (kp c o e')
  have hP' : (#[a, b] : Array Value)[argBest (fun i j => PySem.W.dataLt ([x, y].getD j .none) ([x, y].getD i .none)) 1]? = some v := hP
  have cases2 : argBest (fun i j => PySem.W.dataLt ([x, y].getD j .none) ([x, y].getD i .none)) 1 = 0 ∨ argBest (fun i j => PySem.W.dataLt ([x, y].getD j .none) ([x, y].getD i .none)) 1 = 1 := by
    unfold argBest
    split
    · exact .inr rfl
    · exact .inl rfl
  rcases cases2 with z | z
  · rw [z] at hP'
    exact .inl (by simpa using hP'.symm)
  · rw [z] at hP'
    exact .inr (by simpa using hP'.symm)
end
def rMax2D (K : PySem.W.Frag) : (List V → Hp → VK → Prop) := fun vs H Q => ∃ (x y : V) (d e : D), vs = [x, y] ∧ Dp K H x (toP d) ∧ Dp K H y (toP e) ∧ sortOk [d, e] = true ∧ (∀ v, (v = x ∧ maxDD d [e] = d) ∨ (v = y ∧ maxDD d [e] = e) → Q v H)
section
variable {X : Cx}
theorem cr_max2D (hc : X.calm = true) (hu : X.A.units + 65 < cLine) : CallR X (.builtin "max") (rMax2D X.K) := by
  intro pins s σ H vs us Q I r h
  obtain ⟨x, y, d, e, rfl, hd, he, hk, q⟩ := h
  obtain ⟨u1, u2, rfl, r1, r2⟩ := vals2 r
  obtain ⟨k, kd⟩ := sortOk_all hk
  have k1 := kd d (by simp)
  have k2 := kd e (by simp)
  obtain ⟨as, ra⟩ := Dp.reads I (toP d) x u1 hd r1
  obtain ⟨bs, rb⟩ := Dp.reads I (toP e) y u2 he r2
  have al : PySem.W.AlikeAll [toP d, toP e] := by
    have key : ∀ z ∈ [toP d, toP e], ∃ b, KD k b ∧ z = toP b := by
      intro z hz
      rcases List.mem_cons.mp hz with w | w
      · exact ⟨d, k1, w⟩
      · exact ⟨e, k2, List.mem_singleton.mp w⟩
    refine ⟨fun x hx y hy => ?_, fun x hx => ?_⟩
    · obtain ⟨b, hb, rfl⟩ := key x hx
      obtain ⟨b', hb', rfl⟩ := key y hy
      exact hb.alike hb'
    · obtain ⟨b, hb, rfl⟩ := key x hx
      cases hb <;> simp [toP]
  have dp : PyData.depthAll [toP d, toP e] ≤ 2 := kd_depths [d, e] kd
  refine call_max2D (I.ok.hd hc) ra rb al (by omega) fun v h' tk cs hv hr hk' => ?_
  obtain ⟨m1, m2⟩ := maxDD_kd [e] d k1 (fun z hz => by rw [List.mem_singleton.mp hz]; exact k2)
  rw [show [toP e] = [e].map toP from rfl, m2] at hr
  rcases hv with rfl | rfl
  · have e3 : toP d = toP (maxDD d [e]) := PySem.W.alike_unique _ _ v _ _ (k1.alike m1) (PySem.W.reads_keeps hk' ra) hr
    exact ⟨x, H, I.kept (t' := tk) hk', r1, q _ (.inl ⟨rfl, (k1.inj m1 e3).symm⟩)⟩
  · have e3 : toP e = toP (maxDD d [e]) := PySem.W.alike_unique _ _ v _ _ (k2.alike m1) (PySem.W.reads_keeps hk' rb) hr
    exact ⟨y, H, I.kept (t' := tk) hk', r2, q _ (.inr ⟨rfl, (k2.inj m1 e3).symm⟩)⟩
end
end MP
set_option Elab.async false
set_option linter.all false
set_option maxRecDepth 100000
set_option autoImplicit false
set_option maxHeartbeats 1000000
/-! calls of built-ins, of methods, of defs -/
namespace MP
open PySem PySem.Spec PyProof.Rows L2
variable {c : Cc}

/-! ### built-ins by name -/
def bltNm : Blt → Str
  | .len => "len" | .abs => "abs" | .int => "int" | .sum => "sum" | .all => "all" | .any => "any" | .tuple => "tuple" | .list => "list" | .sorted => "sorted"
  | .max1 => "max" | .min1 => "min" | .max2 => "max" | .min2 => "min" | .isqrt => "isqrt" | .gcd => "gcd" | .lcm => "lcm" | .factorial => "factorial" | .divmod => "divmod" | .str => "str" | .repr => "repr"
def bltF : Blt → Value
  | .len => .builtin "len" | .abs => .builtin "abs" | .int => .type "int" | .sum => .builtin "sum" | .all => .builtin "all" | .any => .builtin "any" | .tuple => .type "tuple" | .list => .type "list" | .sorted => .builtin "sorted"
  | .max1 => .builtin "max" | .min1 => .builtin "min" | .max2 => .builtin "max" | .min2 => .builtin "min" | .isqrt => .builtin "math.isqrt" | .gcd => .builtin "math.gcd" | .lcm => .builtin "math.lcm" | .factorial => .builtin "math.factorial"
  | .divmod => .builtin "divmod" | .str => .type "str" | .repr => .builtin "repr"
/-- is it a function of the module math -/
def bltM : Blt → Bool
  | .isqrt => true | .gcd => true | .lcm => true | .factorial => true
  | _ => false
theorem boot_blt (b : Blt) (h : bltM b = false) : bootBuiltins (bltNm b) = some (bltF b) := by
  cases b <;> first | (exact absurd h (by decide)) | decide +kernel
theorem bltNm_ne (b : Blt) : bltNm b ≠ "__name__" ∧ (bltNm b == ("__debug__" : Str)) = false := by
  cases b <;> exact ⟨by decide +kernel, by decide +kernel⟩

abbrev RC := List V → Hp → VK → Prop
def rIsqrt : RC := fun vs H Q => ∃ a : Int, vs = [.int a] ∧ 0 ≤ a ∧ a < 2 ^ 64 ∧ Q (.int ((Float64.isqrt a.toNat : Nat) : Int)) H
theorem cr_isqrt {X : Cx} : CallR X (.builtin "math.isqrt") rIsqrt := by
  intro pins s σ H vs us Q I r h
  obtain ⟨a, rfl, h0, h1, q⟩ := h
  obtain ⟨u, rfl, t, rfl⟩ := vals1 r
  exact PySem.W.mg_isqrt h0 h1 ⟨.int _, H, I.tok _, ⟨_, rfl⟩, q⟩
def rBlt (K : PySem.W.Frag) : Blt → RC
  | .len => fun xs H Q => (∃ x n, xs = [x] ∧ LenV K x H n ∧ Q (.int n) H) ∨ ∃ a kvs, xs = [V.ref a] ∧ H a = some (.dK kvs) ∧ Q (.int kvs.length) H
  | .abs => fun xs H Q => ∃ i, xs = [.int i] ∧ Q (.int (if i < 0 then -i else i)) H
  | .int => fun xs H Q => (∃ i, xs = [.int i] ∧ Q (.int i) H) ∨ ∃ k, xs = [.bl k] ∧ Q (.int (if k then 1 else 0)) H
  | .sum => rSum K
  | .all => rAll K
  | .any => rAny K
  | .tuple => fun xs H Q => ∃ p ys, xs = [.ref p] ∧ ((SqL K H p ys ∧ ∀ l, H l = none → Q (.ref l) (upd H l (.tup ys))) ∨ (SqT K H p ys ∧ Q (.ref p) H))
  | .list => fun xs H Q => ∃ p ys, xs = [.ref p] ∧ (SqL K H p ys ∨ SqT K H p ys) ∧ ∀ l, H l = none → Q (.ref l) (upd H l (.lst ys))
  | .max2 => fun xs H Q => (∃ i j, xs = [.int i, .int j] ∧ Q (.int (if j > i then j else i)) H) ∨ rMax2D K xs H Q
  | .min2 => fun xs H Q => ∃ i j, xs = [.int i, .int j] ∧ Q (.int (if j < i then j else i)) H
  | .max1 => fun xs H Q => rMax K xs H Q ∨ rMaxDD K xs H Q
  | .min1 => rMin K
  | .isqrt => rIsqrt
  | .gcd => rGcd
  | .sorted => rSortedD K false
  | _ => fun _ _ _ => False
theorem cr_false {X : Cx} {f : Value} : CallR X f fun _ _ _ => False := fun _ _ _ _ _ _ _ _ _ h => h.elim
/-- those that may be called while an exception is handled -/
def bltQ : Blt → Bool
  | .len => true | .abs => true | .int => true | .tuple => true | .list => true | .isqrt => true | .gcd => true | .sorted => true
  | _ => false
theorem cr_blt {X : Cx} (b : Blt) (hc' : bltQ b = false → X.calm = true) (hu : X.A.units + 65 < cLine) : CallR X (bltF b) (rBlt X.K b) := by
  have hc := hc'
  cases b with
  | len => exact call_len.or call_lenD
  | abs => exact call_abs
  | int => exact call_int1
  | sum => exact cr_sum (hc rfl)
  | all => exact cr_all (hc rfl)
  | any => exact cr_any (hc rfl)
  | tuple => exact call_tuple_of
  | list => exact call_list_of
  | max2 => exact (call_max2 (hc rfl)).or (cr_max2D (hc rfl) hu)
  | min2 => exact call_min2 (hc rfl)
  | max1 => exact (cr_max (hc rfl)).or (cr_maxDD (hc rfl) hu)
  | min1 => exact cr_min (hc rfl)
  | isqrt => exact cr_isqrt
  | gcd => exact cr_gcd
  | sorted => exact cr_sortedD hu
  | _ => exact cr_false

theorem maxI_spec : ∀ (a : Int) (r : List Int), maxI a r ∈ a :: r ∧ ∀ y ∈ a :: r, y ≤ maxI a r
  | a, [] => ⟨by simp [maxI], by simp [maxI]⟩
  | a, b :: r => by
    rw [maxI]
    obtain ⟨h1, h2⟩ := maxI_spec (if b > a then b else a) r
    refine ⟨?_, fun y hy => ?_⟩
    · rcases List.mem_cons.mp h1 with h | h
      · rw [h]; split <;> simp
      · exact List.mem_cons_of_mem _ (List.mem_cons_of_mem _ h)
    · have h3 := h2 _ List.mem_cons_self
      have h4 : a ≤ (if b > a then b else a) ∧ b ≤ (if b > a then b else a) := by split <;> omega
      rcases List.mem_cons.mp hy with h | h
      · rw [h]; exact Int.le_trans h4.1 h3
      · rcases List.mem_cons.mp h with h | h
        · rw [h]; exact Int.le_trans h4.2 h3
        · exact h2 y (List.mem_cons_of_mem _ h)
theorem minI_spec : ∀ (a : Int) (r : List Int), minI a r ∈ a :: r ∧ ∀ y ∈ a :: r, minI a r ≤ y
  | a, [] => ⟨by simp [minI], by simp [minI]⟩
  | a, b :: r => by
    rw [minI]
    obtain ⟨h1, h2⟩ := minI_spec (if b < a then b else a) r
    refine ⟨?_, fun y hy => ?_⟩
    · rcases List.mem_cons.mp h1 with h | h
      · rw [h]; split <;> simp
      · exact List.mem_cons_of_mem _ (List.mem_cons_of_mem _ h)
    · have h3 := h2 _ List.mem_cons_self
      have h4 : (if b < a then b else a) ≤ a ∧ (if b < a then b else a) ≤ b := by split <;> omega
      rcases List.mem_cons.mp hy with h | h
      · rw [h]; exact Int.le_trans h3 h4.1
      · rcases List.mem_cons.mp h with h | h
        · rw [h]; exact Int.le_trans h3 h4.2
        · exact h2 y (List.mem_cons_of_mem _ h)
theorem insI_perm (a : Int) : ∀ l : List Int, (insI a l).Perm (a :: l)
  | [] => .refl _
  | b :: r => by
    rw [insI]
    split
    · exact .refl _
    · exact ((insI_perm a r).cons b).trans (.swap a b r)
theorem insI_sorted (a : Int) : ∀ l : List Int, l.Pairwise (· ≤ ·) → (insI a l).Pairwise (· ≤ ·)
  | [], _ => by simp [insI]
  | b :: r, h => by
    rw [insI]
    have hb := List.pairwise_cons.mp h
    split
    · rename_i hab
      refine List.pairwise_cons.mpr ⟨fun y hy => ?_, h⟩
      rcases List.mem_cons.mp hy with e | e
      · omega
      · have := hb.1 y e; omega
    · rename_i hab
      refine List.pairwise_cons.mpr ⟨fun y hy => ?_, insI_sorted a r hb.2⟩
      rcases List.mem_cons.mp ((insI_perm a r).mem_iff.mp hy) with e | e
      · omega
      · exact hb.1 y e
theorem sortI_spec : ∀ l : List Int, (sortI l).Perm l ∧ (sortI l).Pairwise (· ≤ ·)
  | [] => ⟨.refl _, .nil⟩
  | a :: r => by
    obtain ⟨h1, h2⟩ := sortI_spec r
    exact ⟨(insI_perm a _).trans (h1.cons a), insI_sorted a _ h2⟩
theorem sorted_one {l l' : List Int} (p : l'.Perm l) (h : l'.Pairwise (· ≤ ·)) : l' = sortI l := by
  obtain ⟨h1, h2⟩ := sortI_spec l
  exact (p.trans h1.symm).eq_of_pairwise (fun a b _ _ => Int.le_antisymm) h h2

section
variable {s : Sl} {φ : List Addr} {m : Mm} {σ : L2.St} {H : Hp} {Q : VK}
theorem len_rep (sr : c.SR s φ m σ H) {d : D} {v : V} {p : D × Bool} (r : c.Rep H φ d v) (h : bltV m .len [d] = some p) (q : VOk c φ H Q p) : rBlt c.X.K .len [v] H Q := by
  have seq : ∀ d, c.Rep H φ d v → (match seqV m d with
      | some xs => frI (xs.length : Int) fun r => some (D.int r, false)
      | none => match dkV m d with
        | some (ks, _) => frI (ks.length : Int) fun r => some (D.int r, false)
        | none => none) = some p → rBlt c.X.K .len [v] H Q := by
    intro d r h
    split at h
    · rename_i xs hx
      rw [frI_eq] at h
      cases h
      obtain ⟨l, vs, rfl, hs, rl⟩ := seqV_rep sr r hx
      refine .inl ⟨_, xs.length, rfl, ?_, VOk.at q rfl⟩
      rcases hs with hs | hs
      · exact .inl ⟨vs, hs, RepL.length rl⟩
      · exact .inr ⟨vs, hs, RepL.length rl⟩
    · split at h
      · rename_i ks xs hd
        rw [frI_eq] at h
        cases h
        obtain ⟨l, vs, rfl, hs, hl, rl⟩ := dkV_rep sr r hd
        refine .inr ⟨l, _, rfl, hs, ?_⟩
        rw [List.length_zip, ← hl, Nat.min_self]
        exact VOk.at q rfl
      · cases h
  cases d with
  | str x =>
    have h' : (if szOk x.length = true then frI (x.length : Int) fun r => some (D.int r, false) else none) = some p := h
    obtain rfl : v = .str x := r
    split at h'
    · rename_i hz
      rw [frI_eq] at h'
      cases h'
      exact .inl ⟨_, x.length, rfl, ⟨szOk_le hz, rfl⟩, VOk.at q rfl⟩
    · cases h'
  | non => exact seq _ r h
  | bl _ => exact seq _ r h
  | int _ => exact seq _ r h
  | tup _ => exact seq _ r h
  | ktup _ => exact seq _ r h
  | lst _ => exact seq _ r h
  | klst _ => exact seq _ r h
  | dk _ _ => exact seq _ r h
  | dt _ _ => exact seq _ r h
  | ref _ => exact seq _ r h
  | exc _ _ => exact seq _ r h
theorem ints_rep (sr : c.SR s φ m σ H) {d : D} {v : V} {xs : List D} {is : List Int} (r : c.Rep H φ d v) (h1 : lstV m d = some xs) (h2 : intsD xs = some is) : ∃ a, v = .ref a ∧ SqL c.X.K H a (is.map V.int) := by
  obtain ⟨l, vs, rfl, hs, rl⟩ := lstV_rep sr r h1
  exact ⟨l, rfl, by rw [← RepL.ints rl h2]; exact hs⟩
theorem bls_rep (sr : c.SR s φ m σ H) {d : D} {v : V} {xs : List D} {is : List Bool} (r : c.Rep H φ d v) (h1 : lstV m d = some xs) (h2 : blsD xs = some is) : ∃ a, v = .ref a ∧ SqL c.X.K H a (is.map V.bl) := by
  obtain ⟨l, vs, rfl, hs, rl⟩ := lstV_rep sr r h1
  exact ⟨l, rfl, by rw [← RepL.bls rl h2]; exact hs⟩
theorem kd_eqOk {k : Nat} {d : D} (h : KD k d) : eqOk 3 d = true := by
  have hI : ∀ (n : Nat) (is : List Int), eqOkL (eqOk n) (is.map D.int) = true := by
    intro n is
    induction is with
    | nil => rfl
    | cons i is ih => rw [List.map_cons, eqOkL, ih, Bool.and_true]; cases n <;> rfl
  cases h with
  | int i => rfl
  | row i is => exact hI 2 (i :: is)
  | pair i is =>
    show (true && ((eqOkL (eqOk 1) (is.map D.int)) && true)) = true
    rw [hI]; rfl
theorem kd_eqOks {ds : List D} (h : sortOk ds = true) : eqOkL (eqOk 3) ds = true := by
  obtain ⟨k, kd⟩ := sortOk_all h
  clear h
  induction ds with
  | nil => rfl
  | cons d ds ih =>
    rw [eqOkL, kd_eqOk (kd d List.mem_cons_self), ih fun e he => kd e (List.mem_cons_of_mem _ he)]; rfl
theorem blt_ok {b : Blt} {ds : List D} {vs : List V} {p : D × Bool} (sr : c.SR s φ m σ H) (r : c.RepL H φ ds vs) (h : bltV m b ds = some p) (q : VOk c φ H Q p) : rBlt c.X.K b vs H Q := by
  unfold bltV at h
  split at h
  · -- len
    rename_i d
    obtain ⟨v, rfl, rv⟩ := RepL.inv1 r
    exact len_rep sr rv h q
  · rename_i i
    obtain ⟨v, rfl, rv⟩ := RepL.inv1 r
    rw [frI_eq] at h
    cases h
    obtain rfl : v = .int i := rv
    exact ⟨i, rfl, VOk.at q rfl⟩
  · rename_i i
    obtain ⟨v, rfl, rv⟩ := RepL.inv1 r
    cases h
    obtain rfl : v = .int i := rv
    exact .inl ⟨i, rfl, VOk.at q rfl⟩
  · rename_i i
    obtain ⟨v, rfl, rv⟩ := RepL.inv1 r
    cases h
    obtain rfl : v = .bl i := rv
    exact .inr ⟨i, rfl, VOk.at q rfl⟩
  · -- sum
    rename_i d
    obtain ⟨v, rfl, rv⟩ := RepL.inv1 r
    split at h
    · rename_i xs hx
      split at h
      · rename_i is hi
        rw [frI_eq] at h
        cases h
        obtain ⟨a, rfl, ha⟩ := ints_rep sr rv hx hi
        exact ⟨a, is, rfl, ha, VOk.at q rfl⟩
      · cases h
    · cases h
  · -- all
    rename_i d
    obtain ⟨v, rfl, rv⟩ := RepL.inv1 r
    split at h
    · rename_i xs hx
      obtain ⟨is, hi, e⟩ := Option.map_eq_some_iff.mp h
      subst e
      obtain ⟨a, rfl, ha⟩ := bls_rep sr rv hx hi
      exact ⟨a, is, rfl, ha, VOk.at q rfl⟩
    · cases h
  · -- any
    rename_i d
    obtain ⟨v, rfl, rv⟩ := RepL.inv1 r
    split at h
    · rename_i xs hx
      obtain ⟨is, hi, e⟩ := Option.map_eq_some_iff.mp h
      subst e
      obtain ⟨a, rfl, ha⟩ := bls_rep sr rv hx hi
      exact ⟨a, is, rfl, ha, VOk.at q rfl⟩
    · cases h
  · -- tuple
    rename_i d
    obtain ⟨v, rfl, rv⟩ := RepL.inv1 r
    split at h
    · rename_i xs
      cases h
      obtain ⟨a, vs, rfl, e, rl⟩ := rv
      exact ⟨a, vs, rfl, .inr ⟨.of e, VOk.at q ⟨a, vs, rfl, e, rl⟩⟩⟩
    · rename_i xs
      cases h
      obtain ⟨a, vs, rfl, e, rl⟩ := rv
      exact ⟨a, vs, rfl, .inr ⟨e, VOk.at q ⟨a, vs, rfl, e, rl⟩⟩⟩
    · split at h
      · rename_i xs hx
        cases h
        obtain ⟨a, vs, rfl, hs, rl⟩ := lstV_rep sr rv hx
        exact ⟨a, vs, rfl, .inl ⟨hs, fun l hl => tup_new rl q l hl⟩⟩
      · cases h
  · -- list
    rename_i d
    obtain ⟨v, rfl, rv⟩ := RepL.inv1 r
    split at h
    · rename_i xs hx
      cases h
      obtain ⟨a, vs, rfl, hs, rl⟩ := seqV_rep sr rv hx
      exact ⟨a, vs, rfl, hs, fun l hl => lst_new sr rl q l hl⟩
    · cases h
  · rename_i i j
    obtain ⟨v, w, rfl, rv, rw'⟩ := RepL.inv2 r
    rw [frI_eq] at h
    cases h
    obtain rfl : v = .int i := rv
    obtain rfl : w = .int j := rw'
    exact .inl ⟨i, j, rfl, VOk.at q rfl⟩
  · -- max2 of tuples
    rename_i xs ys
    obtain ⟨v, w, rfl, rv, rw'⟩ := RepL.inv2 r
    split at h
    · rename_i hk
      cases h
      have eo := kd_eqOks hk
      rw [eqOkL, eqOkL, Bool.and_eq_true, Bool.and_eq_true] at eo
      refine .inr ⟨v, w, _, _, rfl, dp_of 3 _ _ eo.1 rv, dp_of 3 _ _ eo.2.1 rw', hk, fun z hz => ?_⟩
      rcases hz with ⟨rfl, e⟩ | ⟨rfl, e⟩
      · rw [e] at q; exact VOk.at q rv
      · rw [e] at q; exact VOk.at q rw'
    · cases h
  · rename_i i j
    obtain ⟨v, w, rfl, rv, rw'⟩ := RepL.inv2 r
    rw [frI_eq] at h
    cases h
    obtain rfl : v = .int i := rv
    obtain rfl : w = .int j := rw'
    exact ⟨i, j, rfl, VOk.at q rfl⟩
  · -- max1
    rename_i d
    obtain ⟨v, rfl, rv⟩ := RepL.inv1 r
    split at h
    · rename_i xs hx
      split at h
      · rename_i a t hi
        rw [frI_eq] at h
        cases h
        obtain ⟨l, rfl, ha⟩ := ints_rep sr rv hx hi
        refine .inl ⟨l, a :: t, rfl, ha, by simp, fun y hy hm => ?_⟩
        obtain ⟨h1, h2⟩ := maxI_spec a t
        have e : y = maxI a t := Int.le_antisymm (h2 y hy) (hm _ h1)
        rw [e]
        exact VOk.at q rfl
      · split at h
        · cases h
        · rename_i a t hi
          split at h
          · rename_i hk
            cases h
            obtain ⟨l, vs, rfl, hs, rl⟩ := lstV_rep sr rv hx
            exact .inr ⟨l, vs, a, t, rfl, hs, dps_of 3 _ _ (kd_eqOks hk) rl, (RepL.length rl).symm, hk, fun v hv => VOk.at q (RepL.zip rl hv)⟩
          · cases h
    · cases h
  · -- sorted
    rename_i d
    obtain ⟨v, rfl, rv⟩ := RepL.inv1 r
    split at h
    · rename_i xs hx
      split at h
      · rename_i hk
        rw [Bool.and_eq_true] at hk
        rw [frL_eq] at h
        cases h
        obtain ⟨l, vs, rfl, hs, rl⟩ := lstV_rep sr rv hx
        refine ⟨l, vs, xs, rfl, hs, dps_of 3 _ _ (kd_eqOks hk.1) rl, (RepL.length rl).symm, hk.1, szOk_le hk.2, fun ys p he hp => ?_⟩
        exact lst_new sr (each_rep he fun v d hv => RepL.zip rl hv) q p hp
      · cases h
    · cases h
  · -- min1
    rename_i d
    obtain ⟨v, rfl, rv⟩ := RepL.inv1 r
    split at h
    · rename_i xs hx
      split at h
      · rename_i a t hi
        rw [frI_eq] at h
        cases h
        obtain ⟨l, rfl, ha⟩ := ints_rep sr rv hx hi
        refine ⟨l, a :: t, rfl, ha, by simp, fun y hy hm => ?_⟩
        obtain ⟨h1, h2⟩ := minI_spec a t
        have e : y = minI a t := Int.le_antisymm (hm _ h1) (h2 y hy)
        rw [e]
        exact VOk.at q rfl
      · cases h
    · cases h
  · -- isqrt
    rename_i i
    obtain ⟨v, rfl, rv⟩ := RepL.inv1 r
    obtain rfl : v = .int i := rv
    split at h
    · rename_i n
      split at h
      · rename_i hk
        rw [frN_eq] at h
        cases h
        have := Nat.le_of_ble_eq_true hk
        exact ⟨.ofNat n, rfl, Int.natCast_nonneg n, by show (n : Int) < 2 ^ 64; omega, VOk.at q rfl⟩
      · cases h
    · cases h
  · rename_i i j
    obtain ⟨v, w, rfl, rv, rw'⟩ := RepL.inv2 r
    rw [frI_eq] at h
    cases h
    obtain rfl : v = .int i := rv
    obtain rfl : w = .int j := rw'
    exact ⟨i, j, rfl, VOk.at q rfl⟩
  · cases h
end

/-! ### the calls -/
section
variable {e : Expr} {es : List Expr} {fs : Xs} {p pos : Pos} {x : Str}
theorem je_blt {b : Blt} (hc : bltQ b = false → c.X.calm = true) (hu : c.X.A.units + 65 < cLine) (hx : x = bltNm b) (hg : Gl c.X x) (hm : if bltM b = true then c.X.mg x = some (bltF b) else c.X.mg x = none) (ha : JA c (e :: es) fs) (hn : noStar e = true) (hs : es.all noStar = true) :
    JE c (.Call (.Name x p) (e :: es) [] pos) (xBlt b fs) := by
  have fin : ∀ σ H Q, TEv c (xBlt b fs) σ H Q → tCB (rBlt c.X.K b) (TAv c fs) σ H Q := fun σ H Q ⟨s, φ, m, sr, h⟩ => by
    refine TAv.mk sr (OutG.of c h) fun ds hd vs H1 s1 rd sr1 => ?_
    obtain ⟨q, e, hq⟩ := OutG.ofO c hd
    exact blt_ok sr1 rd e (VOk.imp (OutG.ok c hq) s1)
  have hcr := cr_blt (X := c.X) b hc hu
  obtain ⟨n1, n2⟩ := bltNm_ne b
  rw [← hx] at n1 n2
  by_cases hM : bltM b = true
  · rw [if_pos hM] at hm
    have : ∃ id, bltF b = .builtin id := by cases b <;> first | exact ⟨_, rfl⟩ | exact absurd hM (by decide)
    obtain ⟨id, e⟩ := this
    rw [e] at hm hcr
    exact PE.weak (pe_callBfun hcr hg hm ha n2 (starEach_cons hn) (noStar_all hs)) fin
  · rw [if_neg hM] at hm
    have hb := boot_blt b (by simpa using hM)
    rw [← hx] at hb
    have : (∃ id, bltF b = .builtin id) ∨ ∃ T, bltF b = .type T := by cases b <;> first | exact .inl ⟨_, rfl⟩ | exact .inr ⟨_, rfl⟩
    rcases this with ⟨id, e⟩ | ⟨T, e⟩
    · rw [e] at hb hcr
      exact PE.weak (pe_callB hcr hg hm hb ha n1 n2 (starEach_cons hn) (noStar_all hs)) fin
    · rw [e] at hb hcr
      exact PE.weak (pe_callTy hcr hg hm hb ha n1 n2 (starEach_cons hn) (noStar_all hs)) fin

/-! ### isinstance -/
def tyNm : Ty → String
  | .list => "list" | .tuple => "tuple" | .int => "int" | .bool => "bool" | .str => "str"
theorem boot_ty (t : Ty) : bootBuiltins (Str.ofString (tyNm t)) = some (.type (tyNm t)) := by cases t <;> decide +kernel
theorem tyNm_ne (t : Ty) : Str.ofString (tyNm t) ≠ "__name__" ∧ (Str.ofString (tyNm t) == ("__debug__" : Str)) = false := by cases t <;> exact ⟨by decide +kernel, by decide +kernel⟩
def vTy : D → Option String
  | .non => some "NoneType" | .bl _ => some "bool" | .int _ => some "int" | .str _ => some "str" | .tup _ => some "tuple" | .ktup _ => some "tuple" | .lst _ => some "list" | .klst _ => some "list" | .ref _ => some "list"
  | _ => none
theorem kit_tab (t : Ty) : kitB "NoneType" (tyNm t) = some false ∧ kitB "bool" (tyNm t) = some (t == .bool || t == .int) ∧ kitB "int" (tyNm t) = some (t == .int) ∧ kitB "str" (tyNm t) = some (t == .str) ∧ kitB "tuple" (tyNm t) = some (t == .tuple) ∧
    kitB "list" (tyNm t) = some (t == .list) := by
  cases t <;> decide +kernel
theorem ty_rep {s : Sl} {φ : List Addr} {m : Mm} {σ : L2.St} {H : Hp} (sr : c.SR s φ m σ H) {d : D} {v : V} {t : Ty} {k : Bool} (r : c.Rep H φ d v) (h : tyIs m d t = some k) : ∃ T, vTy d = some T ∧ TyX c.X.K H v (.type T) ∧ kitB T (tyNm t) = some k := by
  obtain ⟨k1, k2, k3, k4, k5, k6⟩ := kit_tab t
  have lst : ∀ {p : Addr} {vs : List V}, SqL c.X.K H p vs → TyX c.X.K H (.ref p) (.type "list") := fun {p vs} hs => by
    rcases hs with (hs | ⟨o, hs⟩) | ⟨o, its, n, h1, h2, _⟩
    · exact .base (.lst hs)
    · exact .base (.frz hs)
    · exact .kList h1 h2
  cases d with
  | non => cases h; rw [show v = V.non from r]; exact ⟨_, rfl, .base .non, k1⟩
  | bl b => cases h; rw [show v = V.bl b from r]; exact ⟨_, rfl, .base (.bl b), k2⟩
  | int b => cases h; rw [show v = V.int b from r]; exact ⟨_, rfl, .base (.int b), k3⟩
  | str b => cases h; rw [show v = V.str b from r]; exact ⟨_, rfl, .base (.str b), k4⟩
  | tup xs => cases h; obtain ⟨a, vs, rfl, e, _⟩ := r; exact ⟨_, rfl, .base (.tup e), k5⟩
  | ktup xs =>
    cases h
    obtain ⟨a, vs, rfl, e, _⟩ := r
    refine ⟨_, rfl, ?_, k5⟩
    rcases e with (e | ⟨o, e⟩) | ⟨o, its, n, h1, h2, _⟩
    · exact .base (.tup e)
    · exact .fTuple e
    · exact .kTuple h1 h2
  | lst xs => cases h; obtain ⟨p, vs, rfl, hs, _⟩ := lstV_rep (m := m) sr r (show lstV m (.lst xs) = some xs from rfl); exact ⟨_, rfl, lst hs, k6⟩
  | klst xs => cases h; obtain ⟨p, vs, rfl, hs, _⟩ := lstV_rep (m := m) sr r (show lstV m (.klst xs) = some xs from rfl); exact ⟨_, rfl, lst hs, k6⟩
  | ref n =>
    obtain ⟨xs, e1, e2⟩ := Option.map_eq_some_iff.mp (show (lstV m (.ref n)).map (fun _ => t == .list) = some k from h)
    subst e2
    obtain ⟨p, vs, rfl, hs, _⟩ := lstV_rep sr r e1
    exact ⟨_, rfl, lst hs, k6⟩
  | _ => cases h
theorem je_inst {fa : Xe} {t : Ty} {p2 : Pos} (hg : Gl c.X "isinstance") (hm : c.X.mg "isinstance" = none) (hgt : Gl c.X (Str.ofString (tyNm t))) (hmt : c.X.mg (Str.ofString (tyNm t)) = none) (ha : JE c e fa) (hn : noStar e = true) :
    JE c (.Call (.Name "isinstance" p) [e, .Name (Str.ofString (tyNm t)) p2] [] pos) (xInst fa t) := by
  obtain ⟨n1, n2⟩ := tyNm_ne t
  have hT : PE c.X (.Name (Str.ofString (tyNm t)) p2) (tC (.ty (tyNm t))) := pe_bltn hgt hmt (boot_ty t) rfl n1 n2
  refine PE.weak (pe_callB call_isi hg hm (by decide +kernel) (pa_cons ha (pa_cons hT pa_nil rfl) (starEach_cons hn)) (by decide) (by decide) (starEach_cons hn) rfl) fun σ H Q ⟨s, φ, m, sr, h⟩ => ?_
  refine TEv.mk sr (OutG.of c h) fun x hx v H1 s1 rx _ sr1 => ?_
  obtain ⟨k, e, hk⟩ := OutG.ofO c hx
  obtain ⟨T, _, h1, h2⟩ := ty_rep sr1 rx e
  exact ⟨v, .ty (tyNm t), .type T, .type (tyNm t), k, rfl, .ty _, h1, kit_ty h2, VOk.at (VOk.imp (OutG.ok c hk) s1) rfl⟩

theorem je_inst2 {fa : Xe} {t1 t2 : Ty} {p2 p3 pt : Pos} {kt : Nat} (hg : Gl c.X "isinstance") (hm : c.X.mg "isinstance" = none) (hg1 : Gl c.X (Str.ofString (tyNm t1))) (hm1 : c.X.mg (Str.ofString (tyNm t1)) = none) (hg2 : Gl c.X (Str.ofString (tyNm t2))) (hm2 : c.X.mg (Str.ofString (tyNm t2)) = none) (ha : JE c e fa) (hn : noStar e = true) :
    JE c (.Call (.Name "isinstance" p) [e, .Tuple [.Name (Str.ofString (tyNm t1)) p2, .Name (Str.ofString (tyNm t2)) p3] kt pt] [] pos) (xInst2 fa t1 t2) := by
  obtain ⟨n1, n2⟩ := tyNm_ne t1
  obtain ⟨n3, n4⟩ := tyNm_ne t2
  have hT1 : PE c.X (.Name (Str.ofString (tyNm t1)) p2) (tC (.ty (tyNm t1))) := pe_bltn hg1 hm1 (boot_ty t1) rfl n1 n2
  have hT2 : PE c.X (.Name (Str.ofString (tyNm t2)) p3) (tC (.ty (tyNm t2))) := pe_bltn hg2 hm2 (boot_ty t2) rfl n3 n4
  refine PE.weak (pe_callB call_isiT hg hm (by decide +kernel) (pa_cons ha (pa_cons (pe_tup (x1 := kt) (pos := pt) (pa_cons hT1 (pa_cons hT2 pa_nil rfl) rfl)) pa_nil rfl) (starEach_cons hn)) (by decide) (by decide) (starEach_cons hn) rfl) fun σ H Q ⟨s, φ, m, sr, h⟩ => ?_
  refine TEv.mk sr (OutG.of c h) fun x hx v H1 s1 rx _ sr1 => ?_
  obtain ⟨k, e1, hk⟩ := OutG.ofO c hx
  obtain ⟨k2, e2, hk⟩ := OutG.ofO c hk
  refine ⟨by show 2 ≤ sizeLine; rw [sizeLine_eq]; decide, fun q hq => ?_⟩
  have s2 : Same H1 (upd H1 q (.tup [.ty (tyNm t1), .ty (tyNm t2)])) := same_upd hq
  obtain ⟨T, v1, h1, h2⟩ := ty_rep (sr1.same s2) (rx.same s2) e1
  obtain ⟨T', v2, h3, h4⟩ := ty_rep (sr1.same s2) (rx.same s2) e2
  rw [v1] at v2
  cases v2
  refine ⟨v, q, [.ty (tyNm t1), .ty (tyNm t2)], .type T, [.type (tyNm t1), .type (tyNm t2)], k || k2, rfl, upd_same, .cons (.ty _) (.cons (.ty _) .nil), h1, ?_, VOk.at (VOk.imp (VOk.imp (OutG.ok c hk) s1) s2) rfl⟩
  refine kitAny_cons (kit_ty h2) (fun hb => ?_) (fun hb => by rw [hb]; rfl)
  refine kitAny_cons (kit_ty h4) (fun hb2 => ?_) (fun hb2 => by rw [hb, hb2]; rfl)
  rw [hb, hb2]; rfl

/-! ### methods -/
def noSup : Expr → Bool
  | .Call (.Name _ _) [] [] _ => false
  | _ => true
theorem attr_base {o : Expr} {n : Str} {env : Env} (h : noSup o = true) : attributeBase o n env (eval o env) = eval o env := by
  unfold attributeBase
  split
  · exact absurd h Bool.false_ne_true
  · rfl
theorem two_plain {a b : Expr} {env : Env} {pos : Pos} (h1 : noStar a = true) (h2 : noStar b = true) : backTo pos (starEach [a, b] env) = [(false, eval a env), (false, eval b env)] := by
  rw [starEach_cons h1, starEach_cons h2]; rfl
theorem isD_rep {s : Sl} {φ : List Addr} {m : Mm} {σ : L2.St} {H : Hp} (sr : c.SR s φ m σ H) {d : D} {v : V} (r : c.Rep H φ d v) (h : ((dkV m d).isSome || (dtV m d).isSome) = true) : ∃ a, v = .ref a ∧ IsD H a := by
  rw [Bool.or_eq_true] at h
  rcases h with h | h
  · obtain ⟨⟨ks, xs⟩, e⟩ := Option.isSome_iff_exists.mp h
    obtain ⟨p, vs, rfl, hs, _⟩ := dkV_rep sr r e
    exact ⟨p, rfl, .inl ⟨_, .inl hs⟩⟩
  · obtain ⟨⟨ks, xs⟩, e⟩ := Option.isSome_iff_exists.mp h
    obtain ⟨p, vs, rfl, hs, _⟩ := dtV_rep sr r e
    exact ⟨p, rfl, .inr ⟨_, .inl hs⟩⟩
theorem getD_rep {κ : Type} [DecidableEq κ] {K : KX} {H : Hp} {B φ : List Addr} (q : κ) {ks : List κ} {xs : List D} {vs : List V} {d : D} {v : V} (h : MP.RepL K H B φ xs vs) (l : ks.length = vs.length) (r : MP.Rep K H B φ d v) :
    MP.Rep K H B φ ((look ks xs q).getD d) ((valV (ks.zip vs) q).getD v) := by
  obtain ⟨h1, h2⟩ := valV_zip q h l
  cases e : look ks xs q with
  | none => rw [h2 e]; exact r
  | some d' => obtain ⟨v', e1, r'⟩ := h1 d' e; rw [e1]; exact r'
theorem je_get2 {o a b : Expr} {fo fa fb : Xe} {apos : Pos} (hu : c.X.A.units + 65 < cLine) (ho : JE c o fo) (ha : JE c a fa) (hb : JE c b fb) (hn : noSup o = true) (h1 : noStar a = true) (h2 : noStar b = true) (hl : (apos.endLine == pos.line) = true) :
    JE c (.Call (.Attribute o "get" apos) [a, b] [] pos) (xMth .get2 fo (xCons fa (xCons fb xNil))) := by
  refine PE.weak (pe_dget2 (by omega) ho ha hb ⟨attr_base hn, by rw [two_plain h1 h2]; rfl, hl, two_plain h1 h2⟩) fun σ H Q ⟨s, φ, m, sr, h⟩ => ?_
  refine TEv.mk sr (OutG.of c h) fun x hx v H1 s1 rx _ sr1 => ?_
  obtain ⟨hp, hx⟩ := OutG.if c hx
  obtain ⟨l, rfl, hd⟩ := isD_rep sr1 rx hp
  refine ⟨l, rfl, hd, ?_⟩
  have hx2 := OutG.of c (OutG.of c hx)
  refine TEv.mk sr1 (hx2.imp c s1 fun _ z => z) fun y hy w H2 s2 ry _ sr2 => ?_
  have hy2 := OutG.of c hy
  have hy3 := OutG.of c hy2
  refine TEv.mk sr2 (hy3.imp c (s1.trans s2) fun _ z => z) fun z hz u H3 s3 rz _ sr3 => ?_
  have hz2 : OutG c σ H (ob (mthV m .get2 x.1 [y.1, z.1]) rt) (VOk c φ H Q) := hz
  obtain ⟨p, e, hk⟩ := OutG.ofO c hz2
  have q := VOk.imp (OutG.ok c hk) ((s1.trans s2).trans s3)
  have rx3 := (rx.same s2).same s3
  have ry3 := ry.same s3
  simp only [mthV] at e
  split at e
  · rename_i ks xs hd2
    obtain ⟨kk, hkk, e2⟩ := Option.map_eq_some_iff.mp e
    subst e2
    obtain ⟨l', vs, el, hs, hl', rl⟩ := dkV_rep sr3 rx3 hd2
    cases el
    refine ⟨valV (ks.zip vs) kk, ?_, VOk.at q (getD_rep kk rl hl' rz)⟩
    rw [kD_rep ry3 hkk]
    exact .k hs
  · split at e
    · rename_i ks xs hd2
      obtain ⟨kk, hkk, e2⟩ := Option.map_eq_some_iff.mp e
      subst e2
      obtain ⟨l', vs, el, hs, hl', rl⟩ := dtV_rep sr3 rx3 hd2
      cases el
      obtain ⟨b', rfl, hb'⟩ := tk_rep ry3 hkk
      exact ⟨valV (ks.zip vs) kk, .t hs hb', VOk.at q (getD_rep kk rl hl' rz)⟩
    · cases e

/-! ### a def of the program -/
/-- a def's promise by the plain meaning of it -/
def spF (xi : XI) (K : PySem.W.Frag) (F : Fc) (f np : Nat) : Sp := fun vs H Q E => ∃ B ds, (∀ b ∈ B, ∃ o, H b = some o) ∧ ds.length = np ∧ MP.RepL (.of K xi.fld) H B [] ds vs ∧
  match F f ds with
  | some (.ok (d, fr)) => ∀ v H', Same H H' → rf d = true → MP.Rep (.of K xi.fld) H' B [] d v → (fr = true → FrV (.of K xi.fld) B [] H H' d v) → Q v H'
  | some (.exc x fs) => ∀ cls a H', Same H H' → ExcR xi x fs cls a H' → E cls a H'
  | none => False
theorem frz_rep {s : Sl} {φ : List Addr} {m : Mm} {σ : L2.St} {H : Hp} (sr : c.SR s φ m σ H) : ∀ (n : Nat) (d d' : D) (v : V), frz m n d = some d' → c.Rep H φ d v → MP.Rep c.R H c.B [] d' v ∧ rf d' = true
  | 0, _, _, _, h, _ => by cases h
  | n + 1, d, d', v, h, r => by
    have go : ∀ (xs ys : List D) (vs : List V), mapO (frz m n) xs = some ys → c.RepL H φ xs vs → MP.RepL c.R H c.B [] ys vs ∧ rfs ys = true := fun xs => by
      induction xs with
      | nil => intro ys vs e r; cases e; cases r; exact ⟨rfl, rfl⟩
      | cons x xs ih =>
        intro ys vs e ⟨v, w, ev, rv, rl⟩
        rw [mapO] at e
        split at e
        · rename_i y hy
          split at e
          · rename_i ys' hys
            cases e
            subst ev
            obtain ⟨a1, a2⟩ := frz_rep sr n x y v hy rv
            obtain ⟨b1, b2⟩ := ih ys' w hys rl
            exact ⟨RepL.cons a1 b1, by rw [rfs, a2, b2]; rfl⟩
          · cases e
        · cases e
    rw [frz] at h
    by_cases hr : rf d = true
    · rw [if_pos hr] at h
      cases h
      exact ⟨Rep.less (by rfl) (fun a ha => .inl ha) d v hr r, hr⟩
    · rw [if_neg hr] at h
      have own : ∀ a ∈ φ, a ∉ c.B := fun a ha => sr.inB ha
      unfold frzS at h
      cases d with
      | ref k =>
        simp only [nthL_eq] at h
        obtain ⟨a, e1, rfl⟩ := r
        cases hm : m[k]? with
        | none => rw [hm] at h; cases h
        | some o =>
          rw [hm] at h
          cases o with
          | lst lk xs =>
            obtain ⟨ys, e2, e3⟩ := Option.map_eq_some_iff.mp h
            subst e3
            obtain ⟨vs, hs, rl⟩ := sr.ob k a _ e1 hm
            obtain ⟨b1, b2⟩ := go xs ys vs e2 rl
            exact ⟨⟨a, vs, rfl, hs, own a (List.mem_of_getElem? e1), by simp, b1⟩, by rw [rf]; exact b2⟩
          | dk lk ks xs =>
            obtain ⟨ys, e2, e3⟩ := Option.map_eq_some_iff.mp h
            subst e3
            obtain ⟨vs, hs, hl, rl⟩ := sr.ob k a _ e1 hm
            obtain ⟨b1, b2⟩ := go xs ys vs e2 rl
            exact ⟨⟨a, vs, rfl, hs, hl, own a (List.mem_of_getElem? e1), by simp, b1⟩, by rw [rf]; exact b2⟩
          | dt lk ks xs =>
            obtain ⟨ys, e2, e3⟩ := Option.map_eq_some_iff.mp h
            subst e3
            obtain ⟨vs, hs, hl, rl⟩ := sr.ob k a _ e1 hm
            obtain ⟨b1, b2⟩ := go xs ys vs e2 rl
            exact ⟨⟨a, vs, rfl, hs, hl, own a (List.mem_of_getElem? e1), by simp, b1⟩, by rw [rf]; exact b2⟩
      | tup xs =>
        obtain ⟨ys, e2, e3⟩ := Option.map_eq_some_iff.mp h
        subst e3
        obtain ⟨a, vs, rfl, hs, rl⟩ := r
        obtain ⟨b1, b2⟩ := go xs ys vs e2 rl
        exact ⟨⟨a, vs, rfl, hs, b1⟩, by rw [rf]; exact b2⟩
      | lst xs =>
        obtain ⟨ys, e2, e3⟩ := Option.map_eq_some_iff.mp h
        subst e3
        obtain ⟨a, vs, rfl, hs, nb, np, rl⟩ := r
        obtain ⟨b1, b2⟩ := go xs ys vs e2 rl
        exact ⟨⟨a, vs, rfl, hs, nb, by simp, b1⟩, by rw [rf]; exact b2⟩
      | _ => cases h
/-- what the arguments are to the one called, where nothing is known of the things that change -/
theorem frz_any {s : Sl} {φ : List Addr} {m : Mm} {σ : L2.St} {H : Hp} (sr : c.SR s φ m σ H) {ds ds' : List D} {vs : List V} (h : frzA m ds = some ds') (r : c.RepL H φ ds vs) : MP.RepL c.R H c.B [] ds' vs ∧ rfs ds' = true := by
  induction ds generalizing ds' vs with
  | nil => cases h; cases r; exact ⟨rfl, rfl⟩
  | cons d ds ih =>
    obtain ⟨v, w, ev, rv, rl⟩ := r
    rw [frzA] at h
    split at h
    · rename_i d' hd
      split at h
      · rename_i r' hr
        cases h
        subst ev
        obtain ⟨a1, a2⟩ := frz_rep sr 4 d d' v hd rv
        obtain ⟨b1, b2⟩ := ih hr rl
        exact ⟨RepL.cons a1 b1, by rw [rfs, a2, b2]; rfl⟩
      · cases h
    · cases h
theorem frzA_rf {m : Mm} : ∀ {ds ds' : List D}, rfs ds = true → frzA m ds = some ds' → ds' = ds
  | [], _, _, h => by cases h; rfl
  | d :: ds, _, q, h => by
    rw [rfs, Bool.and_eq_true] at q
    rw [frzA] at h
    have e : frz m 4 d = some d := by rw [frz, if_pos q.1]
    rw [e] at h
    cases e2 : frzA m ds with
    | none => simp only [e2] at h; cases h
    | some r =>
      simp only [e2] at h
      cases h
      rw [frzA_rf q.2 e2]
theorem call_rep {k f np : Nat} {F : Fc} {s : Sl} {φ : List Addr} {m : Mm} {σ : L2.St} {H H1 : Hp} {Q : VK} {ds : List D} {vs : List V} (hx : np = ds.length) (s1 : Same H H1) (sr : c.SR s φ m σ H1) (r : c.RepL H1 φ ds vs)
    (h : OutG c σ H (callV F m f ds) (VOk c φ H Q)) : spF c.xi c.X.K F f np vs H1 Q (WE c.W σ) := by
  unfold callV at h
  obtain ⟨ds', e, h⟩ := OutG.ofO c h
  have hl : ds'.length = ds.length := by
    have : ∀ (ds ds' : List D), frzA m ds = some ds' → ds'.length = ds.length := by
      intro ds
      induction ds with
      | nil => intro ds' h; cases h; rfl
      | cons d ds ih =>
        intro ds' h
        rw [frzA] at h
        split at h
        · split at h
          · rename_i r hr
            cases h
            simp [ih r hr]
          · cases h
        · cases h
    exact this ds ds' e
  obtain ⟨ra, rfa⟩ := frz_any sr e r
  by_cases hq : rfs ds = true
  · -- nothing that changes is handed over
    have e2 := frzA_rf hq e
    subst e2
    refine ⟨c.B ++ φ, ds', fun b hb => ?_, by omega, ?_, ?_⟩
    · rcases List.mem_append.mp hb with hb | hb
      · exact sr.bs b hb
      · obtain ⟨n, o, e1, e2, e3⟩ := sr.at hb
        obtain ⟨u, e4, _⟩ := e3.is
        exact ⟨u, e4⟩
    · exact RepL.less (by rfl) (fun a ha => List.mem_append.mp ha) ds' vs hq r
    · cases hF : F f ds' with
      | none => rw [hF] at h; exact h.elim
      | some q =>
        rw [hF] at h
        cases q with
        | ok p =>
          obtain ⟨d, fr⟩ := p
          intro v H' s2 hrf rv hfr
          have h2 : OutG c σ H (if fineRes ds' (d, fr) = true then rt (d, fr) else none) (VOk c φ H Q) := h
          obtain ⟨_, h2⟩ := OutG.if c h2
          refine (VOk.imp (OutG.ok c h2) s1).val s2 (Rep.more (by rfl) (fun a ha => List.mem_append.mpr ha) d v hrf rv) fun ef => ?_
          obtain ⟨a, e1, e2, e3⟩ := hfr ef
          refine ⟨a, e1, e2, fun xs ed => ?_⟩
          subst ed
          obtain ⟨ws, z1, z2⟩ := e3 xs rfl
          refine ⟨ws, z1, RepL.more (by rfl) (B := a :: (c.B ++ φ)) (fun b hb => ?_) xs ws (by rw [rf] at hrf; exact hrf) z2⟩
          rcases hb with hb | hb
          · rcases List.mem_cons.mp hb with z | z
            · subst z; exact List.mem_cons_self
            · exact List.mem_cons_of_mem _ (List.mem_append_left _ z)
          · exact List.mem_cons_of_mem _ (List.mem_append_right _ hb)
        | exc x fs => exact fun cls a H' s2 hx => h cls a H' (s1.trans s2) hx
  · refine ⟨[], ds', fun b hb => absurd hb (by simp), by omega, ?_, ?_⟩
    · exact RepL.less (by rfl) (fun a ha => absurd ha (by simp)) ds' vs rfa ra
    · cases hF : F f ds' with
      | none => rw [hF] at h; exact h.elim
      | some q =>
        rw [hF] at h
        cases q with
        | ok p =>
          obtain ⟨d, fr⟩ := p
          intro v H' s2 hrf rv hfr
          have h2 : OutG c σ H (if fineRes ds (d, fr) = true then rt (d, fr) else none) (VOk c φ H Q) := h
          obtain ⟨hfine, h2⟩ := OutG.if c h2
          unfold fineRes at hfine
          rw [Bool.or_eq_true, Bool.or_eq_true] at hfine
          refine (VOk.imp (OutG.ok c h2) s1).val s2 ?_ fun ef => ?_
          rotate_left
          · obtain ⟨a, e1, e2, e3⟩ := hfr ef
            refine ⟨a, e1, e2, fun xs ed => ?_⟩
            subst ed
            obtain ⟨ws, z1, z2⟩ := e3 xs rfl
            refine ⟨ws, z1, RepL.flat (by rfl) xs ws ?_ z2⟩
            rcases hfine with (hf | hf) | hf
            · exact absurd hf hq
            · rw [MP.flat] at hf; exact absurd hf Bool.false_ne_true
            · rw [Bool.and_eq_true] at hf; exact hf.2
          rcases hfine with (hf | hf) | hf
          · exact absurd hf hq
          · exact Rep.flat (by rfl) d v hf rv
          · rw [Bool.and_eq_true] at hf
            obtain ⟨a, e1, e2, _⟩ := hfr hf.1
            cases d with
            | lst xs =>
              obtain ⟨a', vs', e3, e4, _, _, rl⟩ := rv
              rw [e1] at e3
              cases e3
              exact ⟨a, vs', e1, e4, sr.newB e2, sr.newφ e2, RepL.flat (by rfl) xs vs' hf.2 rl⟩
            | _ => exact absurd hf.2 (by simp)
        | exc x fs => exact fun cls a H' s2 hx => h cls a H' (s1.trans s2) hx
end
end MP
set_option Elab.async false
set_option linter.all false
set_option maxRecDepth 100000
set_option autoImplicit false
set_option maxHeartbeats 1000000
/-! calls of defs; what is walked; targets; comprehensions -/
namespace MP
open PySem PySem.Spec PyProof.Rows L2
variable {c : Cc}

/-! ### a call -/
structure CallOk (c : Cc) (F : Fc) (f : Nat) (x : Str) : Prop where
  ok : ∃ (k : Nat) (a : Addr) (fd : FuncData) (ps : List Str), FnOk c.X.prog c.X.w c.X.K c.X.mg c.X.base (L2.CX c.X.prog c.X.w) k a fd ps (spF c.xi c.X.K F f ps.length) ∧ Room k c.X.A ∧ c.X.mg x = some (.ref a) ∧ PySem.W.keepIn c.X.K (.ref a) = true ∧ Binds c.X.K fd ps [] ∧ (∀ ds, F f ds ≠ none → ds.length = ps.length)
theorem frzA_len {m : Mm} : ∀ {ds ds' : List D}, frzA m ds = some ds' → ds'.length = ds.length
  | [], _, h => by cases h; rfl
  | d :: ds, ds', h => by
    rw [frzA] at h
    split at h
    · split at h
      · rename_i r hr
        cases h
        simp [frzA_len hr]
      · cases h
    · cases h
theorem callV_len {F : Fc} {m : Mm} {f n : Nat} {ds : List D} {σ : L2.St} {H : Hp} {P : D × Bool → Prop} (hF : ∀ ds, F f ds ≠ none → ds.length = n) (h : OutG c σ H (callV F m f ds) P) : n = ds.length := by
  unfold callV at h
  obtain ⟨ds', e, h⟩ := OutG.ofO c h
  rw [← frzA_len e]
  refine (hF ds' fun z => ?_).symm
  rw [z] at h
  exact h.elim
theorem je_call {F : Fc} {f : Nat} {x : Str} {es : List Expr} {fs : Xs} {p pos : Pos} (tk : Takes c.X c.W) (C : CallOk c F f x) (hg : Gl c.X x) (hdb : (x == ("__debug__" : Str)) = false) (hs : JA c es fs) (hn : es.all noStar = true) (hne : es.isEmpty = false) :
    JE c (.Call (.Name x p) es [] pos) (xCall F f fs) := by
  obtain ⟨k, a, fd, ps, FO, hr, hm, hk, hb, hF⟩ := C.ok
  cases es with
  | nil => cases hne
  | cons e es =>
    rw [List.all_cons, Bool.and_eq_true] at hn
    refine PE.weak (pe_callS (E := fun σ => WE c.W σ) FO hr hg hm hk hb (fun σ => passAt tk σ) hs hdb (starEach_cons hn.1) (noStar_all hn.2)) fun σ H Q ⟨s, φ, m, sr, h⟩ => ?_
    refine TAv.mk sr (OutG.of c h) fun ds hd vs H1 s1 rd sr1 => ?_
    exact call_rep (k := k) (callV_len hF hd) s1 sr1 rd hd
theorem je_call0 {F : Fc} {f : Nat} {x : Str} {p pos : Pos} (tk : Takes c.X c.W) (C : CallOk c F f x) (hg : Gl c.X x) (hdb : (x == ("__debug__" : Str)) = false) :
    JE c (.Call (.Name x p) [] [] pos) (xCall F f xNil) := by
  obtain ⟨k, a, fd, ps, FO, hr, hm, hk, hb, hF⟩ := C.ok
  refine ⟨fun pins st σ H Q I h => ?_⟩
  obtain ⟨s, φ, m, sr, h⟩ := h
  have hd : OutG c σ H (callV F m f []) (VOk c φ H Q) := h
  refine wpAny_Call_Name_kw (ld_glob I hg hm ?_ hdb)
  exact PySem.W.callWith_K0 I.kIn hk (run_fnS (us := []) FO hr hb (passAt tk σ) I .nil (call_rep (k := k) (callV_len hF hd) (Same.refl H) sr rfl hd))

/-! ### a state with a hidden list -/
section
variable {K : KX} {H H' H0 : Hp} {B φ : List Addr} {m : Mm} {s : Sl} {σ : L2.St} {x : Addr}
theorem SR.hide (r : SR K H0 B s φ m σ H) (hx : H x = Option.none) (u : HO) : SR K H0 (x :: B) s φ m σ (upd H x u) := by
  have s1 : Same H (upd H x u) := same_upd hx
  refine ⟨r.len, fun i d e => ?_, r.nd, r.ml, fun n a o e1 e2 => ?_, r.own, fun a ha hb => ?_, fun b hb => ?_, fun b o e => s1 b o (r.gr b o e)⟩
  · obtain ⟨v, e1, e2⟩ := r.sl i d e
    exact ⟨v, e1, Rep.same s1 (Rep.hide hx d v e2)⟩
  · have q := r.ob n a o e1 e2
    cases o with
    | lst lk xs => obtain ⟨vs, h1, h2⟩ := q; exact ⟨vs, s1 _ _ h1, RepL.same s1 (RepL.hide hx xs vs h2)⟩
    | dk lk ks xs => obtain ⟨vs, h1, hl, h2⟩ := q; exact ⟨vs, s1 _ _ h1, hl, RepL.same s1 (RepL.hide hx xs vs h2)⟩
    | dt lk ks xs => obtain ⟨vs, h1, hl, h2⟩ := q; exact ⟨vs, s1 _ _ h1, hl, RepL.same s1 (RepL.hide hx xs vs h2)⟩
  · rcases List.mem_cons.mp hb with e | e
    · subst e; exact r.newφ hx ha
    · exact r.dj a ha e
  · rcases List.mem_cons.mp hb with e | e
    · subst e; exact ⟨_, upd_same⟩
    · obtain ⟨o, q⟩ := r.bs b e; exact ⟨o, s1 _ _ q⟩
theorem SR.off {u : HO} (r : SR K H0 (x :: B) s φ m σ H) (h0 : H0 x = Option.none) (hx : Gw H x) : SR K H0 (x :: B) s φ m σ (upd H x u) := by
  have o : Off x H (upd H x u) := off_upd
  refine ⟨r.len, fun i d e => ?_, r.nd, r.ml, fun n a ob e1 e2 => ?_, r.own, r.dj, fun b hb => ?_, fun b ob e => o b ob (fun z => by rw [z, h0] at e; cases e) (r.gr b ob e)⟩
  · obtain ⟨v, e1, e2⟩ := r.sl i d e
    exact ⟨v, e1, Rep.off hx o d v e2⟩
  · have q := r.ob n a ob e1 e2
    have na : a ≠ x := fun z => r.dj a (List.mem_of_getElem? e1) (by rw [z]; exact List.mem_cons_self)
    cases ob with
    | lst lk xs => obtain ⟨vs, h1, h2⟩ := q; exact ⟨vs, o _ _ na h1, RepL.off hx o xs vs h2⟩
    | dk lk ks xs => obtain ⟨vs, h1, hl, h2⟩ := q; exact ⟨vs, o _ _ na h1, hl, RepL.off hx o xs vs h2⟩
    | dt lk ks xs => obtain ⟨vs, h1, hl, h2⟩ := q; exact ⟨vs, o _ _ na h1, hl, RepL.off hx o xs vs h2⟩
  · by_cases z : b = x
    · subst z; exact ⟨_, upd_same⟩
    · obtain ⟨ob, q⟩ := r.bs b hb; exact ⟨ob, o _ _ z q⟩
end

/-! ### what is walked -/
/-- later states: s m φ H to B' φ' H' -/
abbrev Lat := Sl → Mm → List Addr → Hp → List Addr → List Addr → Hp → Prop
def WalkAt (K : KX) (B φ : List Addr) (H : Hp) (J : L2.It) (ds : List D) : Prop :=
  (∀ i d, ds[i]? = some d → J.go i H ∧ ∀ x H', J.yld i H x H' → Same H H' ∧ MP.Rep K H' B φ d x) ∧ J.stop ds.length H
def TIv (c : Cc) (L : Lat) (it : Xs) : TI := fun σ H R => ∃ s φ m, c.SR s φ m σ H ∧ OutG c σ H (it s m) fun ds => ∀ J H1, Same H H1 → c.SR s φ m σ H1 → (∀ B' φ' H', L s m φ H1 B' φ' H' → WalkAt c.R B' φ' H' J ds) → R J H1
/-- what is sure of later states; Ok: a list there stays -/
structure LOk (c : Cc) (L : Lat) (Ok : Sl → Mm → D → Prop) : Prop where
  rep : ∀ {s m φ H B' φ' H' d v}, L s m φ H B' φ' H' → c.Rep H φ d v → MP.Rep c.R H' B' φ' d v
  lst : ∀ {s m φ σ H B' φ' H' d v xs}, L s m φ H B' φ' H' → c.SR s φ m σ H → Ok s m d → lstV m d = some xs → c.Rep H φ d v → ∃ p vs, v = .ref p ∧ SqL c.X.K H' p vs ∧ MP.RepL c.R H' B' φ' xs vs
theorem LOk.repL {L : Lat} {Ok : Sl → Mm → D → Prop} (h : LOk c L Ok) {s m φ H B' φ' H'} (l : L s m φ H B' φ' H') : ∀ {ds : List D} {vs : List V}, c.RepL H φ ds vs → MP.RepL c.R H' B' φ' ds vs
  | [], _, r => r
  | _ :: _, _, ⟨v, r, e, q, t⟩ => ⟨v, r, e, h.rep l q, LOk.repL h l t⟩
/-- in a comprehension -/
def LC (c : Cc) : Lat := fun _ _ φ H B' φ' H' => φ' = φ ∧ Same H H' ∧ (B' = c.B ∨ ∃ x, H x = none ∧ B' = x :: c.B)
theorem lc_ok : LOk c (LC c) fun _ _ _ => True where
  rep := fun {s m φ H B' φ' H' d v} ⟨e, s1, hb⟩ r => by
    subst e
    rcases hb with e | ⟨x, hx, e⟩
    · subst e; exact Rep.same s1 r
    · subst e; exact Rep.same s1 (Rep.hide hx d v r)
  lst := fun {s m φ σ H B' φ' H' d v xs} ⟨e, s1, hb⟩ sr _ hl r => by
    subst e
    obtain ⟨p, vs, e1, hs, rl⟩ := lstV_rep sr r hl
    refine ⟨p, vs, e1, s1.seq hs, ?_⟩
    rcases hb with e | ⟨x, hx, e⟩
    · subst e; exact RepL.same s1 rl
    · subst e; exact RepL.same s1 (RepL.hide hx xs vs rl)
theorem SqT.ofRep {K : KX} {H : Hp} {B φ : List Addr} {d : D} {v : V} {xs : List D} (h : MP.Rep K H B φ d v) (e : tupV d = some xs) : ∃ p vs, v = .ref p ∧ SqT K.K H p vs ∧ MP.RepL K H B φ xs vs := by
  cases d with
  | tup ys => cases e; obtain ⟨p, vs, e1, e2, r⟩ := h; exact ⟨p, vs, e1, .of e2, r⟩
  | ktup ys => cases e; obtain ⟨p, vs, e1, e2, r⟩ := h; exact ⟨p, vs, e1, e2, r⟩
  | _ => cases e
theorem seqV_or {m : Mm} {d : D} {xs : List D} (h : seqV m d = some xs) : lstV m d = some xs ∨ tupV d = some xs := by
  cases d <;> first | exact .inl h | exact .inr h
theorem walk_list {K : KX} {B φ : List Addr} {H : Hp} {a : Addr} {xs : List D} {vs : List V} (hs : SqL K.K H a vs) (r : MP.RepL K H B φ xs vs) : WalkAt K B φ H (Itl K.K a) xs := by
  refine ⟨fun i d e => ?_, ⟨vs, hs, Nat.le_of_eq r.length.symm⟩⟩
  obtain ⟨v, e1, rv⟩ := RepL.get r e
  refine ⟨⟨vs, v, hs, e1⟩, fun x H' ⟨e2, h⟩ => ?_⟩
  subst e2
  have := h vs hs
  rw [e1] at this
  cases this
  exact ⟨Same.refl _, rv⟩
theorem walk_tup {K : KX} {B φ : List Addr} {H : Hp} {a : Addr} {xs : List D} {vs : List V} (hs : SqT K.K H a vs) (r : MP.RepL K H B φ xs vs) : WalkAt K B φ H (Itt K.K a) xs := by
  refine ⟨fun i d e => ?_, ⟨vs, hs, Nat.le_of_eq r.length.symm⟩⟩
  obtain ⟨v, e1, rv⟩ := RepL.get r e
  refine ⟨⟨vs, v, hs, e1⟩, fun x H' ⟨e2, h⟩ => ?_⟩
  subst e2
  have := h vs hs
  rw [e1] at this
  cases this
  exact ⟨Same.refl _, rv⟩
theorem rngD_get : ∀ (n : Nat) (a k : Int) (i : Nat) (d : D), (rngD a k n)[i]? = some d → i < n ∧ d = .int (a + i * k)
  | 0, _, _, _, _, h => by simp [rngD] at h
  | n + 1, a, k, 0, d, h => by
    rw [rngD, frI_eq] at h
    simp at h
    subst h
    exact ⟨by omega, by simp⟩
  | n + 1, a, k, i + 1, d, h => by
    rw [rngD, frI_eq] at h
    rw [List.getElem?_cons_succ] at h
    obtain ⟨h1, h2⟩ := rngD_get n (a + k) k i d h
    refine ⟨by omega, ?_⟩
    rw [h2]
    congr 1
    have : ((i + 1 : Nat) : Int) * k = k + i * k := by
      rw [Int.natCast_add, Int.add_mul]; simp; omega
    omega
theorem rngD_len : ∀ (n : Nat) (a k : Int), (rngD a k n).length = n
  | 0, _, _ => rfl
  | n + 1, a, k => by rw [rngD, frI_eq, List.length_cons, rngD_len n]
theorem walk_rng {K : KX} {B φ : List Addr} {H : Hp} {a : Int} {n : Nat} : WalkAt K B φ H (Itr a n) (rngD a 1 n) := by
  refine ⟨fun i d e => ?_, ?_⟩
  · obtain ⟨h1, h2⟩ := rngD_get n a 1 i d e
    refine ⟨h1, fun x H' ⟨e1, e2⟩ => ?_⟩
    subst e1 e2 h2
    exact ⟨Same.refl _, by rw [Int.mul_one]; rfl⟩
  · rw [rngD_len]; exact Nat.le_refl n
theorem walk_rngC {K : KX} {B φ : List Addr} {H : Hp} {a k : Int} {n : Nat} : WalkAt K B φ H (Itc a k n) (rngD a k n) := by
  refine ⟨fun i d e => ?_, ?_⟩
  · obtain ⟨h1, h2⟩ := rngD_get n a k i d e
    refine ⟨h1, fun x H' ⟨e1, e2⟩ => ?_⟩
    subst e1 e2 h2
    exact ⟨Same.refl _, rfl⟩
  · rw [rngD_len]; exact Nat.le_refl n
theorem zipD_get : ∀ (xs ys : List D) (i : Nat) (d : D), (zipD xs ys)[i]? = some d → ∃ x y, xs[i]? = some x ∧ ys[i]? = some y ∧ d = .tup [x, y]
  | [], _, _, _, h => by simp [zipD] at h
  | _ :: _, [], _, _, h => by simp [zipD] at h
  | x :: xs, y :: ys, 0, d, h => by simp [zipD] at h; exact ⟨x, y, rfl, rfl, h.symm⟩
  | x :: xs, y :: ys, i + 1, d, h => by
    rw [zipD, List.getElem?_cons_succ] at h
    obtain ⟨a, b, h1, h2, h3⟩ := zipD_get xs ys i d h
    exact ⟨a, b, by simpa using h1, by simpa using h2, h3⟩
theorem zipD_len : ∀ (xs ys : List D), xs.length ≤ (zipD xs ys).length ∨ ys.length ≤ (zipD xs ys).length
  | [], _ => .inl (by simp)
  | _ :: _, [] => .inr (by simp)
  | x :: xs, y :: ys => by
    rcases zipD_len xs ys with h | h
    · exact .inl (by simp [zipD]; exact h)
    · exact .inr (by simp [zipD]; exact h)
theorem pair_new {K : KX} {B φ : List Addr} {H : Hp} {x y : D} {v w : V} {p : Addr} (rx : MP.Rep K H B φ x v) (ry : MP.Rep K H B φ y w) (hp : H p = none) : Same H (upd H p (.tup [v, w])) ∧ MP.Rep K (upd H p (.tup [v, w])) B φ (.tup [x, y]) (.ref p) :=
  ⟨same_upd hp, p, [v, w], rfl, upd_same, ⟨v, [w], rfl, Rep.same (same_upd hp) rx, w, [], rfl, Rep.same (same_upd hp) ry, rfl⟩⟩
theorem walk_zip {K : KX} {B φ : List Addr} {H : Hp} {a b : Addr} {xs ys : List D} {vs ws : List V} (hs : SqL K.K H a vs) (hs2 : SqL K.K H b ws) (r : MP.RepL K H B φ xs vs) (r2 : MP.RepL K H B φ ys ws) : WalkAt K B φ H (Itz K.K a b) (zipD xs ys) := by
  refine ⟨fun i d e => ?_, ⟨vs, ws, hs, hs2, ?_⟩⟩
  · obtain ⟨x, y, e1, e2, e3⟩ := zipD_get xs ys i d e
    obtain ⟨v, ev, rv⟩ := RepL.get r e1
    obtain ⟨w, ew, rw'⟩ := RepL.get r2 e2
    refine ⟨⟨vs, ws, v, w, hs, hs2, ev, ew⟩, fun u H' ⟨T, v', w', eu, hT, eH, h1, h2⟩ => ?_⟩
    subst eu eH e3
    have q1 := h1 vs hs
    have q2 := h2 ws hs2
    rw [ev] at q1; rw [ew] at q2
    cases q1; cases q2
    exact pair_new rv rw' hT
  · rw [← RepL.length r, ← RepL.length r2]
    exact zipD_len xs ys
theorem walk_zipT {K : KX} {B φ : List Addr} {H : Hp} {a b : Addr} {xs ys : List D} {vs ws : List V} (hs : SqT K.K H a vs) (hs2 : SqT K.K H b ws) (r : MP.RepL K H B φ xs vs) (r2 : MP.RepL K H B φ ys ws) : WalkAt K B φ H (RZ.ItzT K.K a b) (zipD xs ys) := by
  refine ⟨fun i d e => ?_, ⟨vs, ws, hs, hs2, ?_⟩⟩
  · obtain ⟨x, y, e1, e2, e3⟩ := zipD_get xs ys i d e
    obtain ⟨v, ev, rv⟩ := RepL.get r e1
    obtain ⟨w, ew, rw'⟩ := RepL.get r2 e2
    refine ⟨⟨vs, ws, v, w, hs, hs2, ev, ew⟩, fun u H' ⟨T, v', w', eu, hT, eH, h1, h2⟩ => ?_⟩
    subst eu eH e3
    have q1 := h1 vs hs
    have q2 := h2 ws hs2
    rw [ev] at q1; rw [ew] at q2
    cases q1; cases q2
    exact pair_new rv rw' hT
  · rw [← RepL.length r, ← RepL.length r2]
    exact zipD_len xs ys
theorem enumD_get : ∀ (xs : List D) (k : Int) (i : Nat) (d : D), (enumD k xs)[i]? = some d → ∃ x, xs[i]? = some x ∧ d = .tup [.int (k + i), x]
  | [], _, _, _, h => by simp [enumD] at h
  | x :: xs, k, 0, d, h => by rw [enumD, frI_eq] at h; simp at h; exact ⟨x, rfl, by rw [← h]; simp⟩
  | x :: xs, k, i + 1, d, h => by
    rw [enumD, frI_eq, List.getElem?_cons_succ] at h
    obtain ⟨a, h1, h2⟩ := enumD_get xs (k + 1) i d h
    refine ⟨a, by simpa using h1, ?_⟩
    rw [h2]
    have : k + 1 + (i : Int) = k + ((i + 1 : Nat) : Int) := by omega
    rw [this]
theorem enumD_len : ∀ (xs : List D) (k : Int), (enumD k xs).length = xs.length
  | [], _ => rfl
  | x :: xs, k => by rw [enumD, frI_eq, List.length_cons, List.length_cons, enumD_len xs]
theorem walk_enum {K : KX} {B φ : List Addr} {H : Hp} {a : Addr} {xs : List D} {vs : List V} (hs : SqL K.K H a vs) (r : MP.RepL K H B φ xs vs) : WalkAt K B φ H (Ite K.K a) (enumD 0 xs) := by
  refine ⟨fun i d e => ?_, ⟨vs, hs, ?_⟩⟩
  · obtain ⟨x, e1, e3⟩ := enumD_get xs 0 i d e
    obtain ⟨v, ev, rv⟩ := RepL.get r e1
    refine ⟨⟨vs, v, hs, ev⟩, fun u H' ⟨T, v', eu, hT, eH, h1⟩ => ?_⟩
    subst eu eH e3
    have q1 := h1 vs hs
    rw [ev] at q1
    cases q1
    rw [Int.zero_add]
    exact pair_new (x := .int (i : Nat)) rfl rv hT
  · rw [enumD_len, RepL.length r]
    exact Nat.le_refl _
end MP
set_option Elab.async false
set_option linter.all false
set_option maxRecDepth 100000
set_option autoImplicit false
set_option maxHeartbeats 1000000
/-! enumerate of a tuple -/
namespace MP
open PySem PySem.Spec PyProof.Rows L2
theorem meets_enumerate_newB1 {v : Value} {o : Obj} {H : Heap → Prop} (B : Begins v o H) :
    Meets (Builtin.«enumerate.__new__» ⟨[.type "enumerate", v], []⟩) (fun _ R s => H s.heap ∧
      R (.ok (.ret (.ref (s.heap.push o).objs.size))) { s with heap := (s.heap.push o).push { cls := .type "enumerate", data := .fields #[.none, .bool false, .ref s.heap.objs.size, rawInt 0, .none, .none] } }) :=
  .of_wp fun prog w A R s h => by
    obtain ⟨hp, g, d, tk, os⟩ := s; obtain ⟨h1, h⟩ := h
    have hsub := sub_enumerate
    have q1 : ∀ {A' : Around} {E : Value → Shared → Prop} {Q : Value → Shared → Prop}, Q (.ref hp.objs.size) ⟨hp.push o, g, d, tk, os⟩ → wpAny (model prog w) A' (pyIter v) Q E ⟨hp, g, d, tk, os⟩ :=
      fun q => B.iter prog w _ _ ⟨hp, g, d, tk, os⟩ _ h1 q
    wp_walk using q1
    refine wpAny_stack_any fun st => wpAny_pure ?_
    split
    · rename_i c _ _ _ _ _
      cases (c == Value.type "enumerate")
      · wp_walk using q1
        exact ⟨_, rfl, h⟩
      · wp_walk using q1
        exact ⟨_, rfl, h⟩
    · wp_walk using q1
      exact ⟨_, rfl, h⟩
theorem enum_begins1 {prog : Program} {w : World} {A : Around} {E : Value → Shared → Prop} {s : Shared} {v : Value} {o : Obj} {H : Heap → Prop} {Q : Value → Shared → Prop} (B : Begins v o H) (h1 : H s.heap)
    (h : ∀ h', IsEnum h' (s.heap.objs.size + 1) s.heap.objs.size 0 .none → h'.get? s.heap.objs.size = some o → h'.objs.size = s.heap.objs.size + 2 →
      (∀ b o, s.heap.get? b = some o → h'.get? b = some o) → Q (.ref (s.heap.objs.size + 1)) { s with heap := h' }) :
    wpAny (model prog w) A (call (.type "enumerate") [v]) Q E s := by
  refine callType_new F.called_enumerate (by decide) (F.typeCall_enumerate_1 _) (F.newCall_enumerate_1 _) (fun obj => F.args_object_init_2 obj _) F.entry_enumerate_new
    (meets_enumerate_newB1 B) ⟨h1, ?_⟩
  have hz : (s.heap.push o).objs.size = s.heap.objs.size + 1 := Heap.size_push ..
  show _ ∧ _
  rw [hz]
  have he : IsEnum ((s.heap.push o).push { cls := .type "enumerate", data := .fields #[.none, .bool false, .ref s.heap.objs.size, rawInt 0, .none, .none] }) (s.heap.objs.size + 1) s.heap.objs.size 0 .none := by
    have := Heap.get?_push_size (s.heap.push o) (o := { cls := .type "enumerate", data := .fields #[.none, .bool false, .ref s.heap.objs.size, rawInt 0, .none, .none] }) rfl
    rw [hz] at this; exact this
  refine ⟨⟨_, he, rfl⟩, h _ he (Heap.get?_push_of_some _ (Heap.get?_push_size _ B.free)) (by rw [Heap.size_push, hz]) fun b o x => Heap.get?_push_of_some _ (Heap.get?_push_of_some _ x)⟩
/-- the tuple at a, each item in a new pair -/
def IteT (K : PySem.W.Frag) (a : Addr) : L2.It :=
  ⟨fun i H => ∃ (xs : List V) (x : V), SqT K H a xs ∧ xs[i]? = some x, fun i H v H' => ∃ T x, v = .ref T ∧ H T = none ∧ H' = upd H T (.tup [.int (i : Nat), x]) ∧ ∀ xs, SqT K H a xs → xs[i]? = some x, fun i H => ∃ xs : List V, SqT K H a xs ∧ xs.length = i⟩
theorem turn_enumT {P : Program} {w : World} {K : PySem.W.Frag} {elts : List Expr} {kk : Nat} {tpos : Pos} (a e it : Addr) :
    Turn P w K (.Tuple elts kk tpos) (IteT K a) [e, it] e (fun i h => (∃ old, IsEnum h e it ((i : Nat) : Int) old) ∧ h.IsTupleIter it a i ∧ e ≠ it ∧ a ≠ it ∧ e ≠ a) where
  mem := by simp
  obj := fun i h st b hb => by
    obtain ⟨⟨old, he⟩, ⟨o, ho, hc, hd⟩, _⟩ := st
    have e' : b = e ∨ b = it := by simpa using hb
    rcases e' with z | z
    · rw [z]; exact ⟨_, he, fun v q => nomatch q⟩
    · rw [z]; exact ⟨o, ho, fun v q => by rw [hd] at q; cases q⟩
  keep := fun i h h' st k => let ⟨⟨old, he⟩, hi, hne⟩ := st; ⟨⟨old, k e (by simp) _ he⟩, hi.at fun o q => k it (by simp) o q, hne⟩
  item := by
    intro X hP hw hK hc i pins s σ H E I hf st hg
    subst hP hw hK
    obtain ⟨⟨old, he⟩, hit, hne, hn2, hn3⟩ := st
    obtain ⟨xs, x, hq, hx⟩ := hg
    obtain ⟨its, rv, p, hz⟩ := I.tuple hq
    obtain ⟨u, hu, ru⟩ := rv.get hx
    have hel : e < s.heap.objs.size := Heap.lt_size he
    have hil : it < s.heap.objs.size := by obtain ⟨_, q, _⟩ := hit; exact Heap.lt_size q
    have hlt : i < its.toArray.size := by
      have := (List.getElem?_eq_some_iff.mp hu).1
      simpa using this
    refine wpAny_pyNext_enum_itemC (Draws.tuple (A := X.A.in1) (show X.A.in1.handled = none from I.ok.hd hc) it a hn2 its.toArray) he ⟨hit, p⟩ hlt hne (by simp [hne, hn3]) fun y h' tk hy ho hs' hT hsz hk => ?_
    have hyu : y = u := by
      have : its.toArray[i]? = some u := by simpa using hu
      rw [this] at hy; cases hy; rfl
    subst hyu
    obtain ⟨hit', _⟩ := hs'
    refine ⟨_, rfl, wpAny_letOwnedTupleGo_enum (s := { s with heap := h', toks := tk + 1 }) ho fun h'' he' sb => ?_⟩
    have hT2 : h''.get? s.heap.objs.size = some { cls := .type "tuple", data := .seq #[.int i tk, y] } := (sb.2 _ (Nat.ne_of_gt hel)).trans hT
    have new : ObjOk X.prog X.w (upd H s.heap.objs.size (.tup [.int (i : Nat), x])) h'' s.heap.objs.size (.tup [.int (i : Nat), x]) :=
      ⟨by show 2 ≤ sizeLine; decide, [.int i tk, y], .cons ⟨_, rfl⟩ (.cons ru .nil), ⟨_, hT2, rfl, _, rfl⟩⟩
    have I1 : Inv X pins σ (upd H s.heap.objs.size (.tup [.int (i : Nat), x])) { s with heap := h'', toks := tk + 1 } :=
      I.turnedNew (ch := [e, it]) (fun b ob hb q => (sb.2 b (fun z => hb (by simp [z]))).trans (hk b ob (fun z => hb (by simp [z])) (fun z => hb (by simp [z])) q)) hf (Nat.le_refl _) new
    refine ⟨.ref s.heap.objs.size, _, I1, rfl, ⟨_, x, rfl, I.hok.fresh (Nat.le_refl _), rfl, fun ys hy => by rw [I.tuple_inj hy hq]; exact hx⟩, ⟨⟨y, ?_⟩, hit'.at fun o q => (sb.2 it (Ne.symm hne)).trans q, hne, hn2, hn3⟩, fun b hb => ?_⟩
    · have e1 : ((i + 1 : Nat) : Int) = (i : Int) + 1 := by omega
      rw [e1]; exact he'
    · have hb' : b < s.heap.objs.size := by
        have e' : b = e ∨ b = it := by simpa using hb
        rcases e' with z | z
        · rw [z]; exact hel
        · rw [z]; exact hil
      rw [upd_ne (Nat.ne_of_lt hb')]
      exact (hf b hb).1
  done := by
    intro X hP hw hK hc i pins s σ H E I hf st hg
    subst hP hw hK
    obtain ⟨⟨old, he⟩, hit, hne, hn2, hn3⟩ := st
    obtain ⟨xs, hq, hx⟩ := hg
    obtain ⟨its, rv, p, hz⟩ := I.tuple hq
    obtain ⟨f0, f1, f2, f3, f4, f5⟩ := hf it (by simp)
    have hl := rv.length
    have hi : its.toArray.size = i := by simp; omega
    exact wpAny_pyNext_enum_endD (Draws.tuple (A := X.A.in1) (show X.A.in1.handled = none from I.ok.hd hc) it a hn2 its.toArray) he ⟨by rw [hi]; exact hit, p⟩ fun h' eb => ⟨rfl, I.turned (t' := s.toks) (fun b o hb q => eb b o hb q) f0 f1 f3 f4 f5⟩
  self := fun A i s Q E st h => let ⟨⟨_, he⟩, _⟩ := st; wpAny_pyIter_enum he h
def iEnumA (K : PySem.W.Frag) (ta : TA) : TI := fun σ H R => ta σ H fun vs H1 => ∃ a xs, vs = [.ref a] ∧ ((SqL K H1 a xs ∧ R (Ite K a) H1) ∨ (SqT K H1 a xs ∧ R (IteT K a) H1))
theorem pi_enumA {X : Cx} {e : Expr} {ta : TA} {p pos tpos : Pos} {elts : List Expr} {kk : Nat} (hg : Gl X "enumerate") (hm : X.mg "enumerate" = none) (ha : PA X [e] ta) (hs : starEach [e] X.env = [(false, eval e X.env)] := by rfl) :
    PI X (.Tuple elts kk tpos) (.Call (.Name "enumerate" p) [e] [] pos) (iEnumA X.K ta) := by
  refine ⟨fun pins s σ H R I h => ?_⟩
  refine Call_ (ld_blt I hg hm boot_enumerate (PyProof.Rows.callWith_type1 (thn (ha.run pos pins s σ H _ I h) fun us s1 ⟨vs, H1, I1, r1, q1⟩ => ?_) hs rfl))
  obtain ⟨a, xs, ex, q1⟩ := q1
  subst ex
  cases r1 with
  | cons r rr =>
    cases rr
    cases r
    have hfp : ∀ b ∈ [s1.heap.objs.size + 1, s1.heap.objs.size], FpOk X pins H1 b := fun b hb => by
      have e' : b = s1.heap.objs.size + 1 ∨ b = s1.heap.objs.size := by simpa using hb
      have hle : s1.heap.objs.size ≤ b := by
        rcases e' with z | z
        · rw [z]; exact Nat.le_add_right _ _
        · rw [z]; exact Nat.le_refl _
      exact I1.fpOk hle (I1.hok.fresh hle)
    rcases q1 with ⟨hq, q⟩ | ⟨hq, q⟩
    · obtain ⟨its, rv, p', hz⟩ := I1.list hq
      refine call_enumerate_list p'.isList fun h' he hit hsz hk => wpAny_pyIter_enum he ?_
      have I2 : Inv X pins σ H1 { s1 with heap := h' } := I1.kept (t' := s1.toks) hk
      exact ⟨s1.heap.objs.size + 1, [s1.heap.objs.size + 1, s1.heap.objs.size], _, _, H1, rfl, I2, turn_enum a (s1.heap.objs.size + 1) s1.heap.objs.size, ⟨⟨.none, he⟩, hit, Nat.succ_ne_self _⟩, hfp, q⟩
    · obtain ⟨its, rv, p', hz⟩ := I1.tuple hq
      obtain ⟨o1, ho1, _⟩ := id p'
      have hal : a < s1.heap.objs.size := Heap.lt_size ho1
      refine enum_begins1 (begins_tuple a its.toArray) p' fun h' he hit hsz hk => wpAny_pyIter_enum he ?_
      have I2 : Inv X pins σ H1 { s1 with heap := h' } := I1.kept (t' := s1.toks) hk
      exact ⟨s1.heap.objs.size + 1, [s1.heap.objs.size + 1, s1.heap.objs.size], _, _, H1, rfl, I2, turn_enumT a (s1.heap.objs.size + 1) s1.heap.objs.size, ⟨⟨.none, he⟩, ⟨_, hit, rfl, rfl⟩, Nat.succ_ne_self _, Nat.ne_of_lt hal, fun z => Nat.lt_irrefl a (Nat.lt_trans hal (by rw [← z]; exact Nat.lt_succ_self _))⟩, hfp, q⟩
theorem walk_enumT {K : KX} {B φ : List Addr} {H : Hp} {a : Addr} {xs : List D} {vs : List V} (hs : SqT K.K H a vs) (r : MP.RepL K H B φ xs vs) : WalkAt K B φ H (IteT K.K a) (enumD 0 xs) := by
  refine ⟨fun i d e => ?_, ⟨vs, hs, ?_⟩⟩
  · obtain ⟨x, e1, e3⟩ := enumD_get xs 0 i d e
    obtain ⟨v, ev, rv⟩ := RepL.get r e1
    refine ⟨⟨vs, v, hs, ev⟩, fun u H' ⟨T, v', eu, hT, eH, h1⟩ => ?_⟩
    subst eu eH e3
    have q1 := h1 vs hs
    rw [ev] at q1
    cases q1
    rw [Int.zero_add]
    exact pair_new (x := .int (i : Nat)) rfl rv hT
  · rw [enumD_len, RepL.length r]
end MP
set_option Elab.async false
set_option linter.all false
set_option maxRecDepth 100000
set_option autoImplicit false
set_option maxHeartbeats 1000000
/-! the rules of what is walked; targets; comprehensions -/
namespace MP
open PySem PySem.Spec PyProof.Rows L2
variable {c : Cc}
abbrev JI (c : Cc) (L : Lat) (tg e : Expr) (f : Xs) : Prop := PI c.X tg e (TIv c L f)

section
variable {L : Lat} {Ok : Sl → Mm → D → Prop} {tg a b d : Expr} {fa fb : Xe} {pos p : Pos}
theorem okIf {α : Type} {σ : L2.St} {H : Hp} {k : Bool} {r : Rv α} {P : α → Prop} (h : OutG c σ H (if k = true then r else none) P) : k = true ∧ OutG c σ H r P := OutG.if c h
theorem ji_val {gd : D → Bool} (hL : LOk c L Ok) (ha : JE c a fa) (hok : ∀ s m x, fa s m = some (.ok x) → gd x.1 = true → Ok s m x.1) : JI c L tg a (iVal gd fa) := by
  refine ⟨fun pins st σ H R I h => ?_⟩
  obtain ⟨s, φ, m, sr, h⟩ := h
  have h1 := OutG.of c h
  cases e : fa s m with
  | none => rw [e] at h1; exact h1.elim
  | some r =>
    cases r with
    | exc x fs =>
      rw [e] at h1
      refine (pi_list ha).run pins st σ H R I ⟨s, φ, m, sr, ?_⟩
      rw [e]
      exact h1
    | ok x =>
      rw [e] at h1
      obtain ⟨hg, h2⟩ := okIf (c := c) (σ := σ) (H := H) h1
      have hk := hok s m x e hg
      cases e2 : seqV m x.1 with
      | none => rw [e2] at h2; exact h2.elim
      | some xs =>
        rw [e2] at h2
        have h3 := OutG.ok c h2
        rcases seqV_or e2 with e3 | e3
        · refine (pi_list ha).run pins st σ H R I ⟨s, φ, m, sr, ?_⟩
          rw [e]
          intro v H1 s1 rv _
          have sr1 := sr.same s1
          obtain ⟨p, vs, rfl, hs, rl⟩ := lstV_rep sr1 rv e3
          refine ⟨p, rfl, ⟨vs, hs⟩, h3 _ H1 s1 sr1 fun B' φ' H' l => ?_⟩
          obtain ⟨p', vs', e4, hs', rl'⟩ := hL.lst l sr1 hk e3 rv
          cases e4
          exact walk_list hs' rl'
        · refine (pi_tup ha).run pins st σ H R I ⟨s, φ, m, sr, ?_⟩
          rw [e]
          intro v H1 s1 rv _
          have sr1 := sr.same s1
          obtain ⟨p, vs, rfl, hs, rl⟩ := SqT.ofRep rv e3
          refine ⟨p, rfl, ⟨vs, hs⟩, h3 _ H1 s1 sr1 fun B' φ' H' l => ?_⟩
          obtain ⟨p', vs', e4, hs', rl'⟩ := SqT.ofRep (hL.rep l rv) e3
          cases e4
          exact walk_tup hs' rl'
theorem rngOk_ok {i : Int} (h : rngOk i = true) : -(2 ^ 62) ≤ i ∧ i < 2 ^ 62 := by
  have := Nat.le_of_ble_eq_true h
  omega
theorem ja_1 (ha : JE c a fa) (hn : noStar a = true) : JA c [a] (xCons fa xNil) := ja_cons ha ja_nil hn
theorem ja_2 (ha : JE c a fa) (hb : JE c b fb) (hn : noStar a = true) (hn2 : noStar b = true) : JA c [a, b] (xCons fa (xCons fb xNil)) := ja_cons ha (ja_1 hb hn2) hn
/-- two arguments -/
theorem two_run {φ : List Addr} {H : Hp} {s : Sl} {m : Mm} {σ : L2.St} {β : Type} {r : D × Bool → D × Bool → Rv β} {P : β → Prop} {G : List V → Hp → Prop} (ha : JE c a fa) (sr : c.SR s φ m σ H)
    (h : OutG c σ H (bd (fa s m) fun x => bd (fb s m) fun y => r x y) P)
    (w : ∀ x y v w H1, Same H H1 → c.Rep H1 φ x.1 v → c.Rep H1 φ y.1 w → c.SR s φ m σ H1 → OutG c σ H (r x y) P → G [v, w] H1) : TAv c (xCons fa (xCons fb xNil)) σ H G := by
  refine ⟨s, φ, m, sr, ?_⟩
  show OutG c σ H (bd (fa s m) fun x => bd (bd (fb s m) fun y => rt [y.1]) fun ds => rt (x.1 :: ds)) _
  have h1 := OutG.of c h
  cases ea : fa s m with
  | none => rw [ea] at h1; exact h1.elim
  | some ra =>
    cases ra with
    | exc x fs => rw [ea] at h1; exact h1
    | ok x =>
      rw [ea] at h1
      have h2 := OutG.of c (r := fb s m) (k := fun y => r x y) (σ := σ) (H := H) h1
      show OutG c σ H (bd (bd (fb s m) fun y => rt [y.1]) fun ds => rt (x.1 :: ds)) _
      cases eb : fb s m with
      | none => rw [eb] at h2; exact h2.elim
      | some rb =>
        cases rb with
        | exc x fs => rw [eb] at h2; exact h2
        | ok y =>
          rw [eb] at h2
          intro vs H1 s1 ⟨v, r1, e1, rv, w1, r2, e2, rw', e3⟩
          subst e1 e2 e3
          exact w x y v w1 H1 s1 rv rw' (sr.same s1) h2
theorem one_run {φ : List Addr} {H : Hp} {s : Sl} {m : Mm} {σ : L2.St} {β : Type} {r : D × Bool → Rv β} {P : β → Prop} {G : List V → Hp → Prop} (sr : c.SR s φ m σ H)
    (h : OutG c σ H (bd (fa s m) fun x => r x) P)
    (w : ∀ x v H1, Same H H1 → c.Rep H1 φ x.1 v → c.SR s φ m σ H1 → OutG c σ H (r x) P → G [v] H1) : TAv c (xCons fa xNil) σ H G := by
  refine ⟨s, φ, m, sr, ?_⟩
  show OutG c σ H (bd (fa s m) fun x => rt [x.1]) _
  have h1 := OutG.of c h
  cases ea : fa s m with
  | none => rw [ea] at h1; exact h1.elim
  | some ra =>
    cases ra with
    | exc x fs => rw [ea] at h1; exact h1
    | ok x =>
      rw [ea] at h1
      intro vs H1 s1 ⟨v, r1, e1, rv, e2⟩
      subst e1 e2
      exact w x v H1 s1 rv (sr.same s1) h1
theorem ji_rng1 (hg : Gl c.X "range") (hm : c.X.mg "range" = none) (ha : JE c a fa) (hn : noStar a = true) : JI c L tg (.Call (.Name "range" p) [a] [] pos) (iRng1 fa) := by
  refine PI.weak (pi_range1 hg hm (ja_1 ha hn) (starEach_cons hn)) fun σ H R ⟨s, φ, m, sr, h⟩ => ?_
  refine one_run sr h fun x v H1 s1 rv sr1 hx => ?_
  obtain ⟨x, k⟩ := x
  cases x with
  | int i =>
    obtain rfl : v = .int i := rv
    obtain ⟨hr, h2⟩ := okIf hx
    obtain ⟨r1, r2⟩ := rngOk_ok hr
    exact ⟨i, rfl, r1, r2, OutG.ok c h2 _ H1 s1 sr1 fun B' φ' H' _ => walk_rng⟩
  | _ => exact hx.elim
theorem starEach_2 {env : Env} (hn : noStar a = true) (hn2 : noStar b = true) : starEach [a, b] env = [(false, eval a env), (false, eval b env)] := by
  rw [starEach_cons hn, starEach_cons hn2]; rfl
theorem ji_rng2 (hg : Gl c.X "range") (hm : c.X.mg "range" = none) (ha : JE c a fa) (hb : JE c b fb) (hn : noStar a = true) (hn2 : noStar b = true) : JI c L tg (.Call (.Name "range" p) [a, b] [] pos) (iRng2 fa fb) := by
  refine PI.weak (pi_range2 hg hm (ja_2 ha hb hn hn2) (starEach_2 hn hn2) (starEach_cons hn2)) fun σ H R ⟨s, φ, m, sr, h⟩ => ?_
  refine two_run ha sr h fun x y v w H1 s1 rv rw' sr1 hx => ?_
  obtain ⟨x, k⟩ := x
  obtain ⟨y, k'⟩ := y
  cases x with
  | int i =>
    cases y with
    | int j =>
      obtain rfl : v = .int i := rv
      obtain rfl : w = .int j := rw'
      obtain ⟨hr, h2⟩ := okIf hx
      rw [Bool.and_eq_true] at hr
      obtain ⟨r1, r2⟩ := rngOk_ok hr.1
      obtain ⟨r3, r4⟩ := rngOk_ok hr.2
      exact ⟨i, j, rfl, ⟨r1, r2, r3, r4⟩, OutG.ok c h2 _ H1 s1 sr1 fun B' φ' H' _ => walk_rng⟩
    | _ => exact hx.elim
  | _ => exact hx.elim
theorem ji_rng3 {k : Nat} {p1 p2 : Pos} (hg : Gl c.X "range") (hm : c.X.mg "range" = none) (ha : JE c a fa) (hb : JE c b fb) (hn : noStar a = true) (hn2 : noStar b = true) : JI c L tg (.Call (.Name "range" p) [a, b, .UnaryOp .USub (.Constant (.int 1) k p1) p2] [] pos) (iRng3 fa fb (-1)) := by
  have hd : PE c.X (.UnaryOp .USub (.Constant (.int 1) k p1) p2) (fun σ H Q => Q (.int (-1)) H) := PE.weak (pe_un un_neg pe_int) fun σ H Q h => ⟨1, rfl, h⟩
  refine PI.weak (pi_range3 hg hm (pa_cons ha (pa_cons hb (pa_cons hd pa_nil) (starEach_cons hn2)) (starEach_cons hn)) (starEach_cons hn) (noStar_all (es := [b, _]) (by rw [List.all_cons, hn2]; rfl))) fun σ H R ⟨s, φ, m, sr, h⟩ => ?_
  refine TEv.mk sr (OutG.of c h) fun x hx v H1 s1 rv _ sr1 => ?_
  refine TEv.mk sr1 ((OutG.of c hx).imp c s1 fun _ z => z) fun y hy w H2 s2 rw' _ sr2 => ?_
  obtain ⟨x, k⟩ := x
  obtain ⟨y, k'⟩ := y
  cases x with
  | int i =>
    cases y with
    | int j =>
      obtain rfl : v = .int i := rv
      obtain rfl : w = .int j := rw'
      obtain ⟨hr, h2⟩ := okIf hy
      rw [Bool.and_eq_true, Bool.and_eq_true] at hr
      obtain ⟨r1, r2⟩ := rngOk_ok hr.1.1
      obtain ⟨r3, r4⟩ := rngOk_ok hr.1.2
      exact ⟨i, j, -1, _, rfl, RgC.neg r1 r2 r3 r4, OutG.ok c h2 _ H2 (s1.trans s2) sr2 fun B' φ' H' _ => walk_rngC⟩
    | _ => exact hy.elim
  | _ => cases y <;> exact hy.elim
theorem ji_zip {gd : D → Bool} {elts : List Expr} {kk : Nat} {tpos : Pos} (hL : LOk c L Ok) (hg : Gl c.X "zip") (hm : c.X.mg "zip" = none) (ha : JE c a fa) (hb : JE c b fb) (hn : noStar a = true) (hn2 : noStar b = true)
    (hok : ∀ s m x, gd x = true → Ok s m x) : JI c L (.Tuple elts kk tpos) (.Call (.Name "zip" p) [a, b] [] pos) (iZip gd fa fb) := by
  refine PI.weak (RZ.pi_zipA hg hm (ja_2 ha hb hn hn2) (starEach_cons hn) (noStar_all (es := [b]) (by rw [List.all_cons, hn2]; rfl))) fun σ H R ⟨s, φ, m, sr, h⟩ => ?_
  refine two_run ha sr h fun x y v w H1 s1 rv rw' sr1 hx => ?_
  obtain ⟨hr, h2⟩ := okIf hx
  rw [Bool.and_eq_true] at hr
  have k1 := hok s m x.1 hr.1
  have k2 := hok s m y.1 hr.2
  cases e1 : lstV m x.1 with
  | some xs =>
    simp only [e1] at h2
    cases e2 : lstV m y.1 with
    | none => simp only [e2] at h2; exact h2.elim
    | some ys =>
      simp only [e2] at h2
      obtain ⟨p1, vs, rfl, hs, rl⟩ := lstV_rep sr1 rv e1
      obtain ⟨p2, ws, rfl, hs2, rl2⟩ := lstV_rep sr1 rw' e2
      refine ⟨p1, p2, vs, ws, rfl, .inl ⟨hs, hs2, OutG.ok c h2 _ H1 s1 sr1 fun B' φ' H' l => ?_⟩⟩
      obtain ⟨q1, vs', z1, hs', rl'⟩ := hL.lst l sr1 k1 e1 rv
      obtain ⟨q2, ws', z2, hs2', rl2'⟩ := hL.lst l sr1 k2 e2 rw'
      cases z1; cases z2
      exact walk_zip hs' hs2' rl' rl2'
  | none =>
    simp only [e1] at h2
    cases e3 : tupV x.1 with
    | none => simp only [e3] at h2; exact h2.elim
    | some xs =>
      simp only [e3] at h2
      cases e4 : tupV y.1 with
      | none => simp only [e4] at h2; exact h2.elim
      | some ys =>
        simp only [e4] at h2
        obtain ⟨p1, vs, rfl, hs, rl⟩ := SqT.ofRep rv e3
        obtain ⟨p2, ws, rfl, hs2, rl2⟩ := SqT.ofRep rw' e4
        refine ⟨p1, p2, vs, ws, rfl, .inr ⟨hs, hs2, OutG.ok c h2 _ H1 s1 sr1 fun B' φ' H' l => ?_⟩⟩
        obtain ⟨q1, vs', z1, hs', rl'⟩ := SqT.ofRep (hL.rep l rv) e3
        obtain ⟨q2, ws', z2, hs2', rl2'⟩ := SqT.ofRep (hL.rep l rw') e4
        cases z1; cases z2
        exact walk_zipT hs' hs2' rl' rl2'
theorem ji_enum {gd : D → Bool} {elts : List Expr} {kk : Nat} {tpos : Pos} (hL : LOk c L Ok) (hg : Gl c.X "enumerate") (hm : c.X.mg "enumerate" = none) (ha : JE c a fa) (hn : noStar a = true)
    (hok : ∀ s m x, gd x = true → Ok s m x) : JI c L (.Tuple elts kk tpos) (.Call (.Name "enumerate" p) [a] [] pos) (iEnum gd fa 0) := by
  refine PI.weak (pi_enumA hg hm (ja_1 ha hn) (starEach_cons hn)) fun σ H R ⟨s, φ, m, sr, h⟩ => ?_
  refine one_run sr h fun x v H1 s1 rv sr1 hx => ?_
  obtain ⟨hr, h2⟩ := okIf hx
  cases e1 : lstV m x.1 with
  | none =>
    simp only [e1] at h2
    cases e3 : tupV x.1 with
    | none => simp only [e3] at h2; exact h2.elim
    | some xs =>
      simp only [e3] at h2
      obtain ⟨p1, vs, rfl, hs, rl⟩ := SqT.ofRep rv e3
      refine ⟨p1, vs, rfl, .inr ⟨hs, OutG.ok c h2 _ H1 s1 sr1 fun B' φ' H' l => ?_⟩⟩
      obtain ⟨q1, vs', z1, hs', rl'⟩ := SqT.ofRep (hL.rep l rv) e3
      cases z1
      exact walk_enumT hs' rl'
  | some xs =>
    simp only [e1] at h2
    obtain ⟨p1, vs, rfl, hs, rl⟩ := lstV_rep sr1 rv e1
    refine ⟨p1, vs, rfl, .inl ⟨hs, OutG.ok c h2 _ H1 s1 sr1 fun B' φ' H' l => ?_⟩⟩
    obtain ⟨q1, vs', z1, hs', rl'⟩ := hL.lst l sr1 (hok s m x.1 hr) e1 rv
    cases z1
    exact walk_enum hs' rl'
end

/-! ### dicts -/
section
variable {κ : Type} [DecidableEq κ] {K : KX} {H : Hp} {B φ : List Addr}
theorem hasK_any (q : κ) : ∀ (ks : List κ) (vs : List V), ks.length = vs.length → ((ks.zip vs).any fun kv => decide (kv.1 = q)) = hasK ks q
  | [], _, _ => rfl
  | _ :: _, [], h => by cases h
  | k :: ks, v :: vs, h => by
    rw [List.zip_cons_cons, List.any_cons, hasK, hasK_any q ks vs (by simpa using h)]
    by_cases e : k = q
    · rw [if_pos e]; simp [e]
    · rw [if_neg e]; simp [e]
theorem repK_rep (q : κ) {d : D} {v : V} (rd : MP.Rep K H B φ d v) : ∀ (ks : List κ) (xs : List D) (vs : List V), ks.length = vs.length → MP.RepL K H B φ xs vs → ∃ ws, (ks.zip vs).map (fun kv => if kv.1 = q then (kv.1, v) else kv) = ks.zip ws ∧ ks.length = ws.length ∧ MP.RepL K H B φ (repK ks xs q d) ws
  | [], [], _, h, r => by cases r; exact ⟨[], rfl, rfl, rfl⟩
  | [], _ :: _, _, h, ⟨_, _, e, _, _⟩ => by subst e; cases h
  | _ :: _, [], _, h, r => by cases r; cases h
  | k :: ks, x :: xs, _, h, ⟨w, ws, e, r1, r2⟩ => by
    subst e
    obtain ⟨us, h1, h2, h3⟩ := repK_rep q rd ks xs ws (by simpa using h) r2
    rw [List.zip_cons_cons, List.map_cons, h1]
    by_cases e : k = q
    · refine ⟨v :: us, by rw [if_pos e]; rfl, by simp [h2], v, us, rfl, ?_, h3⟩
      rw [if_pos e]; exact rd
    · refine ⟨w :: us, by rw [if_neg e]; rfl, by simp [h2], w, us, rfl, ?_, h3⟩
      rw [if_neg e]; exact r1
theorem put_rep (q : κ) {d : D} {v : V} (rd : MP.Rep K H B φ d v) {ks : List κ} {xs : List D} {vs : List V} (h : ks.length = vs.length) (r : MP.RepL K H B φ xs vs) : ∃ ws, putK (ks.zip vs) q v = (put ks xs q d).1.zip ws ∧ (put ks xs q d).1.length = ws.length ∧ MP.RepL K H B φ (put ks xs q d).2 ws := by
  unfold putK put
  rw [hasK_any q ks vs h]
  by_cases e : hasK ks q = true
  · rw [if_pos e, if_pos e]
    exact repK_rep q rd ks xs vs h r
  · rw [if_neg e, if_neg e]
    refine ⟨vs ++ [v], ?_, by simp [h], r.append (RepL.one rd)⟩
    rw [List.zip_append h]; rfl
end

/-! ### targets -/
mutual
/-- the names of a target are among these -/
def tgIn (vs : List Nat) : Tg → Bool
  | .nm i => vs.contains i
  | .tp ts => tgsIn vs ts
def tgsIn (vs : List Nat) : Tgs → Bool
  | .nil => true
  | .cons t ts => tgIn vs t && tgsIn vs ts
end
mutual
def tgNms : Tg → List Nat
  | .nm i => [i]
  | .tp ts => tgsNms ts
def tgsNms : Tgs → List Nat
  | .nil => []
  | .cons t ts => tgNms t ++ tgsNms ts
end
def tgsLen : Tgs → Nat
  | .nil => 0
  | .cons _ ts => tgsLen ts + 1
/-- other slots stay -/
def Oth (ns : List Nat) (σ σ' : L2.St) : Prop := σ'.length = σ.length ∧ ∀ j, j ∉ ns → σ'[j]? = σ[j]?
theorem Oth.refl {ns : List Nat} {σ : L2.St} : Oth ns σ σ := ⟨rfl, fun _ _ => rfl⟩
theorem Oth.trans {ns ms : List Nat} {σ σ' σ2 : L2.St} (a : Oth ns σ σ') (b : Oth ms σ' σ2) : Oth (ns ++ ms) σ σ2 :=
  ⟨b.1.trans a.1, fun j h => by
    rw [b.2 j (fun z => h (List.mem_append_right _ z)), a.2 j (fun z => h (List.mem_append_left _ z))]⟩
def TGv (c : Cc) (tg : Tg) : TG := fun v σ H Q => ∃ d s φ m s', c.SR s φ m σ H ∧ c.Rep H φ d v ∧ asgT tg d s = some s' ∧ ∀ σ', c.SR s' φ m σ' H → Oth (tgNms tg) σ σ' → Q σ' H
def TGvs (c : Cc) (tgs : Tgs) : TGs := fun vs σ H Q => ∃ ds s φ m s', c.SR s φ m σ H ∧ c.RepL H φ ds vs ∧ asgTs tgs ds s = some s' ∧ ∀ σ', c.SR s' φ m σ' H → Oth (tgsNms tgs) σ σ' → Q σ' H
abbrev JG (c : Cc) (e : Expr) (tg : Tg) : Prop := PG c.X e (TGv c tg)
abbrev JGs (c : Cc) (e : List Expr) (tg : Tgs) : Prop := PGs c.X e (TGvs c tg)
theorem PG.weak {X : Cx} {e : Expr} {t t' : TG} (h : PG X e t) (w : ∀ v σ H Q, t' v σ H Q → t v σ H Q) : PG X e t' := ⟨fun pins s σ H v u Q I r hq => h.run pins s σ H v u Q I r (w v σ H Q hq)⟩
theorem PGs.weak {X : Cx} {e : List Expr} {t t' : TGs} (h : PGs X e t) (w : ∀ v σ H Q, t' v σ H Q → t v σ H Q) : PGs X e t' := ⟨fun pins s σ H v u Q I r hq => h.run pins s σ H v u Q I r (w v σ H Q hq)⟩
theorem jg_name {i : Nat} {x : Str} {pos : Pos} (hN : c.X.N.Nodup) (hi : c.X.N[i]? = some x) (hx : Loc c.X.env.scope x) (hf : c.X.fn x = true ∨ c.X.env.scope.names.lookup x = some .local) : JG c (.Name x pos) (.nm i) := by
  refine PG.weak (pg_name hN hi hx hf) fun v σ H Q ⟨d, s, φ, m, s', sr, r, e, k⟩ => ?_
  have e' : s' = s.set i (some d) := by
    have : frL (setL s i (some d)) some = some s' := e
    rw [frL_eq, setL_eq] at this
    exact (Option.some.inj this).symm
  subst e'
  refine k _ (sr.set i r) ⟨List.length_set, fun j hj => List.getElem?_set_ne fun z => hj (by rw [z]; exact List.mem_singleton_self j)⟩
theorem jgs_nil : JGs c [] .nil := PGs.weak pgs_nil fun v σ H Q ⟨ds, s, φ, m, s', sr, r, e, k⟩ => by
  cases ds with
  | nil => cases r; cases e; exact ⟨rfl, k σ sr Oth.refl⟩
  | cons d ds => cases e
theorem jgs_cons {e : Expr} {es : List Expr} {tg : Tg} {tgs : Tgs} (h : JG c e tg) (hs : JGs c es tgs) (hn : noStar e = true) : JGs c (e :: es) (.cons tg tgs) := by
  have hc : ∀ env, assignEach (e :: es) env = (false, assign e env) :: assignEach es env := fun env => by
    cases e <;> first | rfl | cases hn
  refine PGs.weak (pgs_cons h hs (by rw [hc]; rfl)) fun v σ H Q ⟨ds, s, φ, m, s', sr, r, ee, k⟩ => ?_
  cases ds with
  | nil => cases ee
  | cons d ds =>
    obtain ⟨v, w, ev, rv, rl⟩ := r
    have ee' : (match asgT tg d s with
      | some s1 => asgTs tgs ds s1
      | none => none) = some s' := ee
    cases e1 : asgT tg d s with
    | none => rw [e1] at ee'; cases ee'
    | some s1 =>
      rw [e1] at ee'
      exact ⟨v, w, ev, d, s, φ, m, s1, sr, rv, e1, fun σ1 sr1 o1 => ⟨ds, s1, φ, m, s', sr1, rl, ee', fun σ2 sr2 o2 => k σ2 sr2 (o1.trans o2)⟩⟩
theorem asgTs_len : ∀ {tgs : Tgs} {ds : List D} {s s' : Sl}, asgTs tgs ds s = some s' → ds.length = tgsLen tgs
  | .nil, [], _, _, _ => rfl
  | .nil, _ :: _, _, _, h => by cases h
  | .cons t ts, [], _, _, h => by cases h
  | .cons t ts, d :: ds, s, s', h => by
    have h' : (match asgT t d s with
      | some s1 => asgTs ts ds s1
      | none => none) = some s' := h
    cases e1 : asgT t d s with
    | none => rw [e1] at h'; cases h'
    | some s1 => rw [e1] at h'; rw [List.length_cons, asgTs_len h']; rfl
theorem each_len {env : Env} : ∀ {es : List Expr}, (assignEach es env).length = es.length
  | [] => rfl
  | e :: es => by cases e <;> exact congrArg (· + 1) each_len
theorem each_star {env : Env} : ∀ {es : List Expr}, es.all noStar = true → (assignEach es env).findIdx? (·.1) = none
  | [], _ => rfl
  | e :: es, h => by
    rw [List.all_cons, Bool.and_eq_true] at h
    have hc : assignEach (e :: es) env = (false, assign e env) :: assignEach es env := by cases e <;> first | rfl | cases h.1
    rw [hc, List.findIdx?_cons]
    simp [each_star h.2]
theorem jg_tup {es : List Expr} {k0 : Nat} {tgs : Tgs} {pos : Pos} (hc : c.X.calm = true) (h : JGs c es tgs) (hn : es.all noStar = true) (hl : es.length = tgsLen tgs) : JG c (.Tuple es k0 pos) (.tp tgs) := by
  refine ⟨fun pins st σ H v u Q I r hw => ?_⟩
  obtain ⟨d, s, φ, m, s', sr, rv, e, k⟩ := hw
  have tup : ∀ xs, tupV d = some xs → asgTs tgs xs s = some s' → wpAny (model c.X.prog c.X.w) c.X.A (assign (.Tuple es k0 pos) c.X.env u) (fun _ s' => ∃ σ' H', L2.Inv c.X pins σ' H' s' ∧ Q σ' H') c.X.xe st := fun xs e1 e2 => by
    obtain ⟨a, vs, ev, hs, rl⟩ := SqT.ofRep rv e1
    exact (pg_tup hc h (n := es.length) each_len (each_star hn)).run pins st σ H v u Q I r ⟨a, vs, ev, hs, by rw [← RepL.length rl, asgTs_len e2, hl], xs, s, φ, m, s', sr, rl, e2, k⟩
  cases d with
  | tup xs => exact tup xs rfl e
  | ktup xs => exact tup xs rfl e
  | lst xs =>
    obtain ⟨a, vs, ev, hs, rl⟩ := lstV_rep (m := m) sr rv (show lstV m (.lst xs) = some xs from rfl)
    have e2 : asgTs tgs xs s = some s' := e
    exact (pg_lst hc h (n := es.length) each_len (each_star hn)).run pins st σ H v u Q I r ⟨a, vs, ev, hs, by rw [← RepL.length rl, asgTs_len e2, hl], xs, s, φ, m, s', sr, rl, e2, k⟩
  | _ => cases e
theorem tgIn_ok : ∀ {vs : List Nat} (tg : Tg), tgIn vs tg = true → ∀ j ∈ tgNms tg, j ∈ vs
  | vs, .nm i, h, j, hj => by
    have hj' : j = i := by simpa [tgNms] using hj
    subst hj'
    exact List.contains_iff_mem.mp h
  | vs, .tp ts, h, j, hj => go ts h j hj
where
  go : ∀ {vs : List Nat} (ts : Tgs), tgsIn vs ts = true → ∀ j ∈ tgsNms ts, j ∈ vs
    | _, .nil, _, j, hj => by cases hj
    | vs, .cons t ts, h, j, hj => by
      have h' : (tgIn vs t && tgsIn vs ts) = true := h
      rw [Bool.and_eq_true] at h'
      rcases List.mem_append.mp (show j ∈ tgNms t ++ tgsNms ts from hj) with z | z
      · exact tgIn_ok t h'.1 j z
      · exact go ts h'.2 j z

/-! ### comprehensions -/
/-- the context of a block -/
abbrev Cc.blk (c : Cc) (B : List Addr) : Cc := { c with W := fun _ _ _ _ => False, B := B }
def TTb (c : Cc) (f : Xt) : TT := fun σ H Q => ∃ B, TTv (c.blk B) f σ H Q
def TEb (c : Cc) (f : Xe) : TE := fun σ H Q => ∃ B, TEv (c.blk B) f σ H Q
def TGb (c : Cc) (tg : Tg) : TG := fun v σ H Q => ∃ B, TGv (c.blk B) tg v σ H Q
def TIb (c : Cc) (f : Xs) : TI := fun σ H R => ∃ B, TIv (c.blk B) (LC (c.blk B)) f σ H R
theorem wipe_oth {ns vs : List Nat} {σ σ' : L2.St} (h : Oth ns (wipe σ vs) σ') (w : ∀ j ∈ ns, j ∈ vs) : wipe σ' vs = wipe σ vs := by
  have hl : σ'.length = σ.length := by rw [h.1, wipe_length]
  have set_at : ∀ (τ : L2.St) (us : List Nat) (j : Nat), j ∈ us → j < τ.length → (wipe τ us)[j]? = some none := fun τ us => by
    induction us with
    | nil => intro j hj; cases hj
    | cons u us ih =>
      intro j hj hlt
      unfold wipe
      by_cases e : u = j
      · subst e; rw [List.getElem?_set_self (by rw [wipe_length]; exact hlt)]
      · rw [List.getElem?_set_ne e]
        rcases List.mem_cons.mp hj with z | z
        · exact absurd z.symm e
        · exact ih j z hlt
  refine List.ext_getElem? fun j => ?_
  by_cases hj : j ∈ vs
  · by_cases hlt : j < σ.length
    · rw [set_at σ vs j hj hlt, set_at σ' vs j hj (by rw [hl]; exact hlt)]
    · rw [List.getElem?_eq_none (by rw [wipe_length, hl]; omega), List.getElem?_eq_none (by rw [wipe_length]; omega)]
  · rw [wipe_out hj, h.2 j (fun z => hj (w j z)), wipe_out hj]
/-- a loop that gathers -/
theorem acc_loop {J : L2.It} {ds : List D} {P : List D → Hp → Prop} {Fin : Hp → Prop} {step : D → Rv (List D)} {body : (Hp → Prop) → V → Hp → Prop} {acc0 zs : List D} {H : Hp} (hz : compL step ds = some (.ok zs)) (h0 : P acc0 H)
    (hend : ∀ H', P (acc0 ++ zs) H' → J.stop ds.length H' ∧ Fin H')
    (hturn : ∀ i d ys acc rest H', ds[i]? = some d → P acc H' → step d = some (.ok ys) → acc ++ (ys ++ rest) = acc0 ++ zs → J.go i H' ∧ ∀ x H2, J.yld i H' x H2 → ∀ N : Hp → Prop, (∀ H3, P (acc ++ ys) H3 → N H3) → body N x H2) :
    ∃ W : Nat → Nat → Hp → Prop, (∃ m, W 0 m H) ∧ ∀ i m H, W i m H → (J.stop i H ∧ Fin H) ∨ (J.go i H ∧ ∃ Nx : Hp → Prop, (∀ H', Nx H' → ∃ m', m' < m ∧ W (i + 1) m' H') ∧ ∀ x H', J.yld i H x H' → body Nx x H') := by
  refine ⟨fun i k H => k = ds.length - i ∧ i ≤ ds.length ∧ ∃ acc rest, P acc H ∧ compL step (ds.drop i) = some (.ok rest) ∧ acc ++ rest = acc0 ++ zs, ⟨ds.length, by simp, Nat.zero_le _, acc0, zs, h0, by simpa using hz, rfl⟩, ?_⟩
  rintro i k H ⟨rfl, hi, acc, rest, p, hc, e⟩
  by_cases hlt : i < ds.length
  · have hd : ds[i]? = some ds[i] := List.getElem?_eq_getElem hlt
    rw [List.drop_eq_getElem_cons hlt] at hc
    have hc' : bd (step ds[i]) (fun ys => bd (compL step (ds.drop (i + 1))) fun zs => appF ys zs rt) = some (.ok rest) := hc
    cases e1 : step ds[i] with
    | none => rw [e1] at hc'; cases hc'
    | some r1 =>
      cases r1 with
      | exc x fs => rw [e1] at hc'; cases hc'
      | ok ys =>
        rw [e1] at hc'
        have hc2 : bd (compL step (ds.drop (i + 1))) (fun zs => appF ys zs rt) = some (.ok rest) := hc'
        cases e2 : compL step (ds.drop (i + 1)) with
        | none => rw [e2] at hc2; cases hc2
        | some r2 =>
          cases r2 with
          | exc x fs => rw [e2] at hc2; cases hc2
          | ok rest2 =>
            rw [e2] at hc2
            have hc3 : appF ys rest2 rt = some (.ok rest) := hc2
            rw [appF_eq] at hc3
            have hr : ys ++ rest2 = rest := by
              have := Option.some.inj hc3
              injection this
            obtain ⟨g, t⟩ := hturn i ds[i] ys acc rest2 H hd p e1 (by rw [hr]; exact e)
            refine .inr ⟨g, _, fun H' q => q, fun x H2 y => t x H2 y _ fun H3 p3 => ⟨ds.length - (i + 1), by omega, rfl, hlt, acc ++ ys, rest2, p3, e2, ?_⟩⟩
            rw [List.append_assoc, hr, e]
  · have e0 : i = ds.length := by omega
    subst e0
    rw [List.drop_length] at hc
    have hr : rest = [] := by
      have := Option.some.inj hc
      injection this with this
      exact this.symm
    subst hr
    rw [List.append_nil] at e
    subst e
    exact .inl (hend H p)
theorem turn_inv {g : Xg} {t : Xt} {e : Xs} {s : Sl} {m : Mm} {d : D} {ys : List D} (h : xTurn g t e s m d = some (.ok ys)) : ∃ s1 k, g d s = some s1 ∧ t s1 m = some (.ok k) ∧ ((k = true ∧ e s1 m = some (.ok ys)) ∨ (k = false ∧ ys = [])) := by
  unfold xTurn at h
  cases e1 : g d s with
  | none => rw [e1] at h; cases h
  | some s1 =>
    rw [e1] at h
    have h2 : bd (t s1 m) (fun k => if k = true then e s1 m else rt []) = some (.ok ys) := h
    cases e2 : t s1 m with
    | none => rw [e2] at h2; cases h2
    | some r =>
      cases r with
      | exc x fs => rw [e2] at h2; cases h2
      | ok k =>
        rw [e2] at h2
        have h3 : (if k = true then e s1 m else rt []) = some (.ok ys) := h2
        cases k with
        | true => exact ⟨s1, true, rfl, e2, .inl ⟨rfl, h3⟩⟩
        | false =>
          refine ⟨s1, false, rfl, e2, .inr ⟨rfl, ?_⟩⟩
          have h4 : some (Re.ok ([] : List D)) = some (.ok ys) := h3
          have := Option.some.inj h4
          injection this with this
          exact this.symm
theorem one_inv {e : Xe} {s : Sl} {m : Mm} {ys : List D} (h : xOne e s m = some (.ok ys)) : ∃ y, e s m = some (.ok y) ∧ ys = [y.1] := by
  have h' : bd (e s m) (fun y => rt [y.1]) = some (.ok ys) := h
  cases e1 : e s m with
  | none => rw [e1] at h'; cases h'
  | some r =>
    cases r with
    | exc x fs => rw [e1] at h'; cases h'
    | ok y =>
      rw [e1] at h'
      have h4 : some (Re.ok [y.1]) = some (.ok ys) := h'
      have := Option.some.inj h4
      injection this with this
      exact ⟨y, rfl, this.symm⟩
/-- what is known while the list at x is made -/
def AccP (c : Cc) (x : Addr) (s : Sl) (φ : List Addr) (m : Mm) (σ : L2.St) (H1 : Hp) (acc : List D) (H : Hp) : Prop :=
  ∃ vs, H x = some (.lst vs) ∧ MP.RepL c.R H (x :: c.B) φ acc vs ∧ MP.SR c.R c.H0 (x :: c.B) s φ m σ H ∧ Same H1 H
theorem AccP.same {x : Addr} {s : Sl} {φ : List Addr} {m : Mm} {σ : L2.St} {H1 H H' : Hp} {acc : List D} (h : AccP c x s φ m σ H1 acc H) (q : Same H H') : AccP c x s φ m σ H1 acc H' := by
  obtain ⟨vs, h1, h2, h3, h4⟩ := h
  exact ⟨vs, q _ _ h1, RepL.same q h2, h3.same q, h4.trans q⟩
theorem AccP.slots {x : Addr} {s s' : Sl} {φ : List Addr} {m : Mm} {σ σ' : L2.St} {H1 H : Hp} {acc : List D} (h : AccP c x s φ m σ H1 acc H) (q : MP.SR c.R c.H0 (x :: c.B) s' φ m σ' H) : AccP c x s' φ m σ' H1 acc H := by
  obtain ⟨vs, h1, h2, h3, h4⟩ := h
  exact ⟨vs, h1, h2, q, h4⟩
theorem AccP.push {x : Addr} {s : Sl} {φ : List Addr} {m : Mm} {σ : L2.St} {H1 H : Hp} {acc : List D} {vs : List V} {d : D} {v : V} (n1 : H1 x = none) (n0 : c.H0 x = none) (h : AccP c x s φ m σ H1 acc H) (hx : H x = some (.lst vs)) (r : MP.Rep c.R H (x :: c.B) φ d v) :
    AccP c x s φ m σ H1 (acc ++ [d]) (upd H x (.lst (vs ++ [v]))) := by
  obtain ⟨vs', h1, h2, h3, h4⟩ := h
  rw [hx] at h1
  cases h1
  refine ⟨vs ++ [v], upd_same, RepL.off (.l hx) off_upd _ _ (h2.append (RepL.one r)), h3.off n0 (.l hx), fun b o e => ?_⟩
  rw [upd_ne (ne_of_none e n1)]
  exact h4 b o e
theorem ok_OutG {α : Type} {c' : Cc} {σ : L2.St} {H : Hp} {r : Rv α} {a : α} {P : α → Prop} (e : r = some (.ok a)) (h : P a) : OutG c' σ H r P := by
  subst e; exact h
theorem noX_inv {α : Type} {r : Rv α} {P : Rv α → Prop} {a : α} (h : noX r = some (.ok a)) : r = some (.ok a) := by
  unfold noX at h
  split at h
  · exact h
  · cases h
theorem szOk_le' {n : Nat} (h : szOk n = true) : n ≤ sizeLine := szOk_le h
/-- the end of a comprehension -/
theorem comp_end {φ : List Addr} {σ : L2.St} {H : Hp} {Q : VK} {r : Rv (List D)} (h : OutG c σ H (bd (noX r) fun ys => if szOk ys.length = true then rt (D.lst ys, true) else none) (VOk c φ H Q)) :
    ∃ ys, r = some (.ok ys) ∧ ys.length ≤ sizeLine ∧ VOk c φ H Q (.lst ys, true) := by
  cases e : noX r with
  | none => rw [e] at h; exact h.elim
  | some q =>
    cases q with
    | exc x fs => unfold noX at e; split at e <;> cases e
    | ok ys =>
      rw [e] at h
      obtain ⟨k, h2⟩ := okIf (c := c) (σ := σ) (H := H) h
      exact ⟨ys, noX_inv (P := fun _ => True) e, szOk_le k, OutG.ok c h2⟩
theorem comp_q {x : Addr} {s' s : Sl} {φ : List Addr} {m : Mm} {σ' σ : L2.St} {H H1 H' : Hp} {Q : VK} {ys : List D} (s1 : Same H H1) (sr1 : c.SR s φ m σ H1) (hx : H1 x = none) (h : AccP c x s' φ m σ' H1 ys H') (q : VOk c φ H Q (.lst ys, true)) : Q (.ref x) H' := by
  obtain ⟨vs, h1, h2, h3, h4⟩ := h
  exact q _ H' (s1.trans h4) ⟨x, vs, rfl, h1, sr1.newB hx, sr1.newφ hx, RepL.bare _ _ h2⟩ fun _ => ⟨x, rfl, s1.free hx, fun zs e => (by cases e; exact ⟨vs, h1, h2⟩)⟩
theorem tlc_of {it : Xs} {tg : Tg} {t : Xt} {e : Xe} {own : List Nat} {σ : L2.St} {H : Hp} {Q : VK} (ho : tgIn own tg = true) (h : TEv c (xComp own (asgT tg) it t e) σ H Q) :
    tLc (TIv c (LC c) it) (TGb c tg) (TTb c t) (TEb c e) own σ H Q := by
  obtain ⟨s, φ, m, sr, h⟩ := h
  have h1 := OutG.of c h
  refine ⟨s, φ, m, sr, h1.imp c (Same.refl H) fun ds hd J H1 s1 sr1 hw x hx => ?_⟩
  obtain ⟨ys, hc, hl, q⟩ := comp_end hd
  have n0 : c.H0 x = none := sr1.fresh hx
  have w0 := hw (x :: c.B) φ
  have base : AccP c x (wipeD s own) φ m (wipe σ own) H1 [] (upd H1 x (.lst [])) := ⟨[], upd_same, rfl, (sr1.wipe own).hide hx (.lst []), same_upd hx⟩
  refine acc_loop (P := AccP c x (wipeD s own) φ m (wipe σ own) H1) (Fin := fun H' => Q (.ref x) H') (body := fun N v H' => TGb c tg v (wipe σ own) H' fun σ2 H2 => wipe σ2 own = wipe σ own ∧ TTb c t σ2 H2 fun b H3 => if b = true then TEb c e σ2 H3 fun y H4 => ∃ acc, H4 x = some (.lst acc) ∧ acc.length < sizeLine ∧ N (upd H4 x (.lst (acc ++ [y]))) else N H3) hc base (fun H' p => ?_) fun i d zs acc rest H' hd p hs he => ?_
  · have ⟨vs, h1, h2, h3, h4⟩ := p
    exact ⟨(w0 H' ⟨rfl, h4, .inr ⟨x, hx, rfl⟩⟩).2, comp_q s1 sr1 hx p q⟩
  · have ⟨vs, h1, h2, h3, h4⟩ := p
    obtain ⟨g, y⟩ := (w0 H' ⟨rfl, h4, .inr ⟨x, hx, rfl⟩⟩).1 i d hd
    refine ⟨g, fun v H2 hy N hN => ?_⟩
    obtain ⟨s2, rv⟩ := y v H2 hy
    obtain ⟨sl1, k, e1, e2, e3⟩ := turn_inv hs
    have p2 := p.same s2
    refine ⟨x :: c.B, d, wipeD s own, φ, m, sl1, (let ⟨_, _, _, z, _⟩ := p2; z), rv, e1, fun σ2 sr2 o2 => ⟨wipe_oth o2 (tgIn_ok tg ho), x :: c.B, sl1, φ, m, sr2, ok_OutG e2 fun H3 s3 => ?_⟩⟩
    rcases e3 with ⟨rfl, e3⟩ | ⟨rfl, rfl⟩
    · rw [if_pos rfl]
      obtain ⟨yv, e4, rfl⟩ := one_inv e3
      refine ⟨x :: c.B, sl1, φ, m, sr2.same s3, ok_OutG e4 fun w H4 s4 rw' _ => ?_⟩
      have p4 := (p2.same s3).same s4
      have ⟨vs4, z1, z2, z3, z4⟩ := p4
      refine ⟨vs4, z1, ?_, hN _ (p4.push hx n0 z1 rw')⟩
      rw [← RepL.length z2]
      have : (acc ++ ([yv.1] ++ rest)).length = ([] ++ ys).length := by rw [he]
      simp at this
      omega
    · rw [if_neg Bool.false_ne_true]
      refine hN _ ?_
      rw [List.append_nil]
      exact p2.same s3
/-- the context in a block -/
abbrev Cc.inb (c : Cc) (s : Shared) (H : Hp) (scope : Scope) (C : Addr) (cl : List (Str × Addr)) (fp : List Addr) (B : List Addr) : Cc :=
  ⟨c.X.blk s H scope (compEnvC scope cl C c.X.env) fp, fun _ _ _ _ => False, c.H0, B, c.xi, c.ex⟩
abbrev AllB (c : Cc) (scope : Scope) (P : Cc → Prop) : Prop := ∀ (s : Shared) (H : Hp) (C : Addr) (cl : List (Str × Addr)) (fp : List Addr) (B : List Addr), P (c.inb s H scope C cl fp B)
abbrev JTs (c : Cc) (ifs : List Expr) (t : Xt) : Prop := PTs c.X ifs (TTv c t)
theorem PTs.weak {X : Cx} {e : List Expr} {t t' : TT} (h : PTs X e t) (w : ∀ σ H Q, t' σ H Q → t σ H Q) : PTs X e t' := ⟨fun pins s σ H Q I hq => h.run pins s σ H Q I (w σ H Q hq)⟩
theorem jts_nil : JTs c [] MP.tYes := PTs.weak pts_nil fun σ H Q ⟨s, φ, m, sr, h⟩ => OutG.ok c h H (Same.refl H)
theorem jts_one {e : Expr} {t : Xt} (h : JT c e t) : JTs c [e] t := pts_one h
section
variable {elt tgx iterx : Expr} {ifs : List Expr} {scope : Scope} {own : List (Str × Nat)} {pos : Pos} {it : Xs} {tg : Tg} {t : Xt} {e : Xe}
theorem jgB (hg : AllB c scope fun cb => JG cb tgx tg) (s : Shared) (H : Hp) (C : Addr) (cl : List (Str × Addr)) (fp : List Addr) : PG (c.X.blk s H scope (compEnvC scope cl C c.X.env) fp) tgx (TGb c tg) :=
  ⟨fun pins st σ H' v u Q I r ⟨B, h⟩ => (hg s H C cl fp B).run pins st σ H' v u Q I r h⟩
theorem jtB (ht : AllB c scope fun cb => JTs cb ifs t) (s : Shared) (H : Hp) (C : Addr) (cl : List (Str × Addr)) (fp : List Addr) : PTs (c.X.blk s H scope (compEnvC scope cl C c.X.env) fp) ifs (TTb c t) :=
  ⟨fun pins st σ H' Q I ⟨B, h⟩ => (ht s H C cl fp B).run pins st σ H' Q I h⟩
theorem jeB (he : AllB c scope fun cb => JE cb elt e) (s : Shared) (H : Hp) (C : Addr) (cl : List (Str × Addr)) (fp : List Addr) : PE (c.X.blk s H scope (compEnvC scope cl C c.X.env) fp) elt (TEb c e) :=
  ⟨fun pins st σ H' Q I ⟨B, h⟩ => (he s H C cl fp B).run pins st σ H' Q I h⟩
theorem je_comp (hc : c.X.calm = true) (hN : c.X.N.Nodup) (hi : JI c (LC c) tgx iterx it) (ok : BlkOk c.X.N c.X.env.scope scope own) (ho : tgIn (own.map (·.2)) tg = true) (hg : AllB c scope fun cb => JG cb tgx tg) (ht : AllB c scope fun cb => JTs cb ifs t) (he : AllB c scope fun cb => JE cb elt e)
    (hs : ∀ x, foldedSetIterable iterx c.X.env x = pure x) : JE c (.ListComp elt [⟨tgx, iterx, ifs, 0⟩] scope pos) (xComp (own.map (·.2)) (asgT tg) it t e) :=
  PE.weak (pe_lc hc hN hi ok (jgB hg) (jtB ht) (jeB he) hs) fun σ H Q h => tlc_of ho h

/-! two clauses -/
/-- the list at x may grow -/
def LX (c : Cc) (x : Addr) : Lat := fun _ _ φ H B' φ' H' => φ' = φ ∧ B' = c.B ∧ (∃ ws, H x = some (.lst ws)) ∧ Off x H H'
theorem seq_off {K : PySem.W.Frag} {H H' : Hp} {x a : Addr} {vs : List V} (o : Off x H H') (n : a ≠ x) (h : SqL K H a vs) : SqL K H' a vs := by
  rcases h with (h | ⟨u, h⟩) | h
  · exact .inl (.inl (o _ _ n h))
  · exact .inl (.inr ⟨u, o _ _ n h⟩)
  · exact .inr h
theorem lx_ok {x : Addr} {B : List Addr} (hB : c.B = x :: B) : LOk c (LX c x) fun _ _ _ => True where
  rep := fun {s m φ H B' φ' H' d v} ⟨e, eb, ⟨ws, hx⟩, o⟩ r => by
    subst e eb
    have r' : MP.Rep c.R H (x :: B) φ' d v := by rw [← hB]; exact r
    have := Rep.off (.l hx) o d v r'
    rw [hB]; exact this
  lst := fun {s m φ σ H B' φ' H' d v xs} ⟨e, eb, ⟨ws, hx⟩, o⟩ sr _ hl r => by
    subst e eb
    have mem : x ∈ c.B := by rw [hB]; exact List.mem_cons_self
    have rl' : ∀ {vs : List V}, c.RepL H φ' xs vs → MP.RepL c.R H' c.B φ' xs vs := fun {vs} rl => by
      have r' : MP.RepL c.R H (x :: B) φ' xs vs := by rw [← hB]; exact rl
      have := RepL.off (.l hx) o xs vs r'
      rw [hB]; exact this
    cases d with
    | lst ys =>
      cases hl
      obtain ⟨p, vs, e1, e2, nb, _, rl⟩ := r
      exact ⟨p, vs, e1, .of (o _ _ (fun z => nb (by rw [z]; exact mem)) e2), rl' rl⟩
    | klst ys =>
      cases hl
      obtain ⟨p, vs, e1, e2, rl⟩ := r
      rcases e2 with ⟨e2, nb, _⟩ | e2
      · exact ⟨p, vs, e1, seq_off o (fun z => nb (by rw [z]; exact mem)) (.inl e2), rl' rl⟩
      · exact ⟨p, vs, e1, .inr e2, rl' rl⟩
    | ref n =>
      obtain ⟨p, vs, e1, hs, rl⟩ := lstV_rep sr r hl
      obtain ⟨a, e2, e3⟩ := r
      rw [e1] at e3
      cases e3
      exact ⟨p, vs, e1, seq_off o (fun z => sr.dj p (List.mem_of_getElem? e2) (by rw [z]; exact mem)) hs, rl' rl⟩
    | _ => cases hl
def TIx (c : Cc) (f : Xs) : TI := fun σ H R => ∃ x B, TIv (c.blk (x :: B)) (LX (c.blk (x :: B)) x) f σ H R
theorem in2_inv {own1 : List Nat} {g1 : Xg} {it1 : Xs} {t1 : Xt} {e : Xe} {s : Sl} {m : Mm} {ys : List D} (h : xIn2 own1 g1 it1 t1 e s m = some (.ok ys)) : ∃ ds, it1 s m = some (.ok ds) ∧ compL (xTurn g1 t1 (xOne e) (wipeD s own1) m) ds = some (.ok ys) := by
  have h' : bd (it1 s m) (fun ds => compL (xTurn g1 t1 (xOne e) (wipeD s own1) m) ds) = some (.ok ys) := h
  cases e1 : it1 s m with
  | none => rw [e1] at h'; cases h'
  | some r =>
    cases r with
    | exc x fs => rw [e1] at h'; cases h'
    | ok ds => rw [e1] at h'; exact ⟨ds, rfl, h'⟩
theorem tlc2_of {it1 : Xs} {tg1 : Tg} {t1 : Xt} {own0 own1 : List Nat} {σ : L2.St} {H : Hp} {Q : VK} (ho : tgIn own0 tg = true) (ho1 : tgIn own1 tg1 = true) (h : TEv c (xComp2 own0 own1 (asgT tg) it t (asgT tg1) it1 t1 e) σ H Q) :
    tLc2 (TIv c (LC c) it) (TGb c tg) (TTb c t) (TIx c it1) (TGb c tg1) (TTb c t1) (TEb c e) own0 own1 σ H Q := by
  obtain ⟨s, φ, m, sr, h⟩ := h
  have h1 := OutG.of c h
  refine ⟨s, φ, m, sr, h1.imp c (Same.refl H) fun ds hd J H1 s1 sr1 hw x hx => ?_⟩
  obtain ⟨ys, hc, hl, q⟩ := comp_end hd
  have n0 : c.H0 x = none := sr1.fresh hx
  have w0 := hw (x :: c.B) φ
  have base : AccP c x (wipeD s own0) φ m (wipe σ own0) H1 [] (upd H1 x (.lst [])) := ⟨[], upd_same, rfl, (sr1.wipe own0).hide hx (.lst []), same_upd hx⟩
  refine acc_loop (P := AccP c x (wipeD s own0) φ m (wipe σ own0) H1) (Fin := fun H' => Q (.ref x) H') (body := fun N v H' => TGb c tg v (wipe σ own0) H' fun σ2 H2 => wipe σ2 own0 = wipe σ own0 ∧ TTb c t σ2 H2 fun b H3 => if b = true then TIx c it1 σ2 H3 fun J1 H4 => ∃ W1 : Nat → Nat → Hp → Prop, (∃ m, W1 0 m H4) ∧ ∀ j k H, W1 j k H →
      (J1.stop j H ∧ N H) ∨ (J1.go j H ∧ ∃ Nx1 : Hp → Prop, (∀ H', Nx1 H' → ∃ k', k' < k ∧ W1 (j + 1) k' H') ∧ ∀ v H', J1.yld j H v H' → TGb c tg1 v (wipe σ2 own1) H' fun σ3 H5 => wipe σ3 own1 = wipe σ2 own1 ∧ TTb c t1 σ3 H5 fun b H6 =>
        if b = true then TEb c e σ3 H6 fun y H7 => ∃ acc, H7 x = some (.lst acc) ∧ acc.length < sizeLine ∧ Nx1 (upd H7 x (.lst (acc ++ [y]))) else Nx1 H6)
    else N H3) hc base (fun H' p => ?_) fun i d zs acc rest H' hd p hs he => ?_
  · have ⟨vs, h1, h2, h3, h4⟩ := p
    exact ⟨(w0 H' ⟨rfl, h4, .inr ⟨x, hx, rfl⟩⟩).2, comp_q s1 sr1 hx p q⟩
  · have ⟨vs, h1, h2, h3, h4⟩ := p
    obtain ⟨g, y⟩ := (w0 H' ⟨rfl, h4, .inr ⟨x, hx, rfl⟩⟩).1 i d hd
    refine ⟨g, fun v H2 hy N hN => ?_⟩
    obtain ⟨s2, rv⟩ := y v H2 hy
    obtain ⟨sl1, k, e1, e2, e3⟩ := turn_inv hs
    have p2 := p.same s2
    refine ⟨x :: c.B, d, wipeD s own0, φ, m, sl1, (let ⟨_, _, _, z, _⟩ := p2; z), rv, e1, fun σ2 sr2 o2 => ⟨wipe_oth o2 (tgIn_ok tg ho), x :: c.B, sl1, φ, m, sr2, ok_OutG e2 fun H3 s3 => ?_⟩⟩
    rcases e3 with ⟨rfl, e3⟩ | ⟨rfl, rfl⟩
    · rw [if_pos rfl]
      obtain ⟨ds1, e4, hc1⟩ := in2_inv e3
      refine ⟨x, c.B, sl1, φ, m, sr2.same s3, ok_OutG e4 fun J1 H4 s4 sr4 hw1 => ?_⟩
      have p4 : AccP c x (wipeD s own0) φ m (wipe σ own0) H1 acc H4 := (p2.same s3).same s4
      have ⟨vs4, z1, z2, z3, z4⟩ := p4
      refine acc_loop (P := fun acc' H' => AccP c x (wipeD s own0) φ m (wipe σ own0) H1 acc' H' ∧ MP.SR c.R c.H0 (x :: c.B) (wipeD sl1 own1) φ m (wipe σ2 own1) H' ∧ Off x H4 H') (Fin := N) (body := fun Nx1 v H' => TGb c tg1 v (wipe σ2 own1) H' fun σ3 H5 => wipe σ3 own1 = wipe σ2 own1 ∧ TTb c t1 σ3 H5 fun b H6 =>
        if b = true then TEb c e σ3 H6 fun y H7 => ∃ acc, H7 x = some (.lst acc) ∧ acc.length < sizeLine ∧ Nx1 (upd H7 x (.lst (acc ++ [y]))) else Nx1 H6) hc1 (acc0 := acc) ⟨p4, sr4.wipe own1, fun _ _ _ z => z⟩ (fun H5 ⟨p5, _, o5⟩ => ⟨(hw1 (x :: c.B) φ H5 ⟨rfl, rfl, ⟨vs4, z1⟩, o5⟩).2, hN _ p5⟩) fun i1 d1 zs1 acc1 rest1 H5 hd1 ⟨p5, sr5, o5⟩ hs1 he1 => ?_
      obtain ⟨g1, y1⟩ := (hw1 (x :: c.B) φ H5 ⟨rfl, rfl, ⟨vs4, z1⟩, o5⟩).1 i1 d1 hd1
      refine ⟨g1, fun v1 H6 hy1 N1 hN1 => ?_⟩
      obtain ⟨s6, rv1⟩ := y1 v1 H6 hy1
      obtain ⟨sl2, k1, f1, f2, f3⟩ := turn_inv hs1
      have sr6 := sr5.same s6
      have o6 : Off x H4 H6 := fun b o nb z => s6 b o (o5 b o nb z)
      refine ⟨x :: c.B, d1, wipeD sl1 own1, φ, m, sl2, sr6, rv1, f1, fun σ3 sr7 o7 => ⟨wipe_oth o7 (tgIn_ok tg1 ho1), x :: c.B, sl2, φ, m, sr7, ok_OutG f2 fun H7 s7 => ?_⟩⟩
      have p7 := (p5.same s6).same s7
      have sr7' := sr6.same s7
      have o7 : Off x H4 H7 := fun b o nb z => s7 b o (o6 b o nb z)
      rcases f3 with ⟨rfl, f3⟩ | ⟨rfl, rfl⟩
      · dsimp only
        rw [if_pos rfl]
        obtain ⟨yv, f4, rfl⟩ := one_inv f3
        refine ⟨x :: c.B, sl2, φ, m, sr7.same s7, ok_OutG f4 fun w H8 s8 rw' _ => ?_⟩
        have p8 := p7.same s8
        have ⟨vs8, a1, a2, a3, a4⟩ := p8
        refine ⟨vs8, a1, ?_, hN1 _ ⟨p8.push hx n0 a1 rw', (sr7'.same s8).off n0 (.l a1), fun b o nb z => off_upd b o nb (s8 b o (o7 b o nb z))⟩⟩
        rw [← RepL.length a2]
        have t1 : (acc1 ++ ([yv.1] ++ rest1)).length = (acc ++ zs).length := by rw [he1]
        have t2 : (acc ++ (zs ++ rest)).length = ([] ++ ys).length := by rw [he]
        simp at t1 t2
        omega
      · dsimp only
        rw [if_neg Bool.false_ne_true]
        refine hN1 _ ⟨?_, sr7', o7⟩
        rw [List.append_nil]
        exact p7
    · rw [if_neg Bool.false_ne_true]
      refine hN _ ?_
      rw [List.append_nil]
      exact p2.same s3
variable {tgx1 iterx1 : Expr} {ifs1 : List Expr} {it1 : Xs} {tg1 : Tg} {t1 : Xt} {own1 : List Nat}
theorem jiX (hi1 : AllB c scope fun cb => ∀ L, LOk cb L (fun _ _ _ => True) → JI cb L tgx1 iterx1 it1) (s : Shared) (H : Hp) (C : Addr) (cl : List (Str × Addr)) (fp : List Addr) : PI (c.X.blk s H scope (compEnvC scope cl C c.X.env) fp) tgx1 iterx1 (TIx c it1) :=
  ⟨fun pins st σ H' R I ⟨x, B, h⟩ => (hi1 s H C cl fp (x :: B) _ (lx_ok (x := x) (B := B) rfl)).run pins st σ H' R I h⟩
theorem je_comp2 (hc : c.X.calm = true) (hN : c.X.N.Nodup) (hi : JI c (LC c) tgx iterx it) (ok : BlkOk c.X.N c.X.env.scope scope own) (hv : ∀ i ∈ own1, i ∈ own.map (·.2)) (ho : tgIn (own.map (·.2)) tg = true) (ho1 : tgIn own1 tg1 = true)
    (hg : AllB c scope fun cb => JG cb tgx tg) (ht : AllB c scope fun cb => JTs cb ifs t) (hi1 : AllB c scope fun cb => ∀ L, LOk cb L (fun _ _ _ => True) → JI cb L tgx1 iterx1 it1) (hg1 : AllB c scope fun cb => JG cb tgx1 tg1) (ht1 : AllB c scope fun cb => JTs cb ifs1 t1) (he : AllB c scope fun cb => JE cb elt e)
    (hs : ∀ x, foldedSetIterable iterx c.X.env x = pure x) (hs1 : ∀ env x, foldedSetIterable iterx1 env x = pure x) : JE c (.ListComp elt [⟨tgx, iterx, ifs, 0⟩, ⟨tgx1, iterx1, ifs1, 0⟩] scope pos) (xComp2 (own.map (·.2)) own1 (asgT tg) it t (asgT tg1) it1 t1 e) :=
  PE.weak (pe_lc2 hc hN hi ok hv (jgB hg) (jtB ht) (jiX hi1) (jgB hg1) (jtB ht1) (jeB he) hs hs1) fun σ H Q h => tlc2_of ho ho1 h

/-! dicts -/
theorem dPut_inv {acc acc' : Ac} {k v : D} (h : dPut acc k v = some (.ok acc')) : ∃ q, keyD k = some q ∧ acc.1.length < sizeLine ∧ acc' = put acc.1 acc.2 q v := by
  unfold dPut at h
  cases e1 : keyD k with
  | none => rw [e1] at h; cases h
  | some q =>
    rw [e1] at h
    by_cases hz : Nat.blt acc.1.length 16777216 = true
    · have h2 : (if Nat.blt acc.1.length 16777216 = true then frL (put acc.1 acc.2 q v).1 fun a => frL (put acc.1 acc.2 q v).2 fun b => rt (a, b) else none) = some (.ok acc') := h
      rw [if_pos hz, frL_eq, frL_eq] at h2
      have h3 : some (Re.ok ((put acc.1 acc.2 q v).1, (put acc.1 acc.2 q v).2)) = some (.ok acc') := h2
      have h4 := Option.some.inj h3
      injection h4 with h5
      refine ⟨q, rfl, ?_, h5.symm⟩
      have := Nat.le_of_ble_eq_true hz
      rw [sizeLine_eq]; omega
    · have h2 : (if Nat.blt acc.1.length 16777216 = true then frL (put acc.1 acc.2 q v).1 fun a => frL (put acc.1 acc.2 q v).2 fun b => rt (a, b) else none) = some (.ok acc') := h
      rw [if_neg hz] at h2; cases h2
theorem dTurn_inv {g : Xg} {t : Xt} {k e : Xe} {s : Sl} {m : Mm} {acc acc' : Ac} {d : D} (h : dTurn g t k e s m acc d = some (.ok acc')) : ∃ s1 b, g d s = some s1 ∧ t s1 m = some (.ok b) ∧ ((b = true ∧ ∃ x y, k s1 m = some (.ok x) ∧ e s1 m = some (.ok y) ∧ dPut acc x.1 y.1 = some (.ok acc')) ∨ (b = false ∧ acc' = acc)) := by
  unfold dTurn at h
  cases e1 : g d s with
  | none => rw [e1] at h; cases h
  | some s1 =>
    rw [e1] at h
    have h : bd (t s1 m) (fun b => if b = true then bd (k s1 m) fun x => bd (e s1 m) fun y => dPut acc x.1 y.1 else rt acc) = some (.ok acc') := h
    cases e2 : t s1 m with
    | none => rw [e2] at h; cases h
    | some r =>
      cases r with
      | exc x fs => rw [e2] at h; cases h
      | ok b =>
        rw [e2] at h
        cases b with
        | false =>
          have h2 : some (Re.ok acc) = some (.ok acc') := h
          have h3 := Option.some.inj h2
          injection h3 with h4
          exact ⟨s1, false, rfl, e2, .inr ⟨rfl, h4.symm⟩⟩
        | true =>
          have h2 : bd (k s1 m) (fun x => bd (e s1 m) fun y => dPut acc x.1 y.1) = some (.ok acc') := h
          cases e3 : k s1 m with
          | none => rw [e3] at h2; cases h2
          | some r3 =>
            cases r3 with
            | exc x fs => rw [e3] at h2; cases h2
            | ok x =>
              rw [e3] at h2
              have h5 : bd (e s1 m) (fun y => dPut acc x.1 y.1) = some (.ok acc') := h2
              cases e4 : e s1 m with
              | none => rw [e4] at h5; cases h5
              | some r4 =>
                cases r4 with
                | exc x fs => rw [e4] at h5; cases h5
                | ok y =>
                  rw [e4] at h5
                  exact ⟨s1, true, rfl, e2, .inl ⟨rfl, x, y, e3, e4, h5⟩⟩
def AccD (c : Cc) (x : Addr) (s : Sl) (φ : List Addr) (m : Mm) (σ : L2.St) (H1 : Hp) (acc : Ac) (H : Hp) : Prop :=
  ∃ vs, H x = some (.dK (acc.1.zip vs)) ∧ acc.1.length = vs.length ∧ MP.RepL c.R H (x :: c.B) φ acc.2 vs ∧ MP.SR c.R c.H0 (x :: c.B) s φ m σ H ∧ Same H1 H
theorem AccD.same {x : Addr} {s : Sl} {φ : List Addr} {m : Mm} {σ : L2.St} {H1 H H' : Hp} {acc : Ac} (h : AccD c x s φ m σ H1 acc H) (q : Same H H') : AccD c x s φ m σ H1 acc H' := by
  obtain ⟨vs, h1, hl, h2, h3, h4⟩ := h
  exact ⟨vs, q _ _ h1, hl, RepL.same q h2, h3.same q, h4.trans q⟩
/-- a loop that folds -/
theorem fold_loop {J : L2.It} {ds : List D} {P : Ac → Hp → Prop} {Fin : Hp → Prop} {step : Ac → D → Rv Ac} {body : (Hp → Prop) → V → Hp → Prop} {acc0 accE : Ac} {H : Hp} (hz : dcL step ds acc0 = some (.ok accE)) (h0 : P acc0 H)
    (hend : ∀ H', P accE H' → J.stop ds.length H' ∧ Fin H')
    (hturn : ∀ i d acc acc' H', ds[i]? = some d → P acc H' → step acc d = some (.ok acc') → J.go i H' ∧ ∀ x H2, J.yld i H' x H2 → ∀ N : Hp → Prop, (∀ H3, P acc' H3 → N H3) → body N x H2) :
    ∃ W : Nat → Nat → Hp → Prop, (∃ m, W 0 m H) ∧ ∀ i m H, W i m H → (J.stop i H ∧ Fin H) ∨ (J.go i H ∧ ∃ Nx : Hp → Prop, (∀ H', Nx H' → ∃ m', m' < m ∧ W (i + 1) m' H') ∧ ∀ x H', J.yld i H x H' → body Nx x H') := by
  refine ⟨fun i k H => k = ds.length - i ∧ i ≤ ds.length ∧ ∃ acc, P acc H ∧ dcL step (ds.drop i) acc = some (.ok accE), ⟨ds.length, by simp, Nat.zero_le _, acc0, h0, by simpa using hz⟩, ?_⟩
  rintro i k H ⟨rfl, hi, acc, p, hc⟩
  by_cases hlt : i < ds.length
  · have hd : ds[i]? = some ds[i] := List.getElem?_eq_getElem hlt
    rw [List.drop_eq_getElem_cons hlt] at hc
    have hc' : bd (step acc ds[i]) (fun a => dcL step (ds.drop (i + 1)) a) = some (.ok accE) := hc
    cases e1 : step acc ds[i] with
    | none => rw [e1] at hc'; cases hc'
    | some r1 =>
      cases r1 with
      | exc x fs => rw [e1] at hc'; cases hc'
      | ok acc' =>
        rw [e1] at hc'
        obtain ⟨g, t⟩ := hturn i ds[i] acc acc' H hd p e1
        exact .inr ⟨g, _, fun H' q => q, fun x H2 y => t x H2 y _ fun H3 p3 => ⟨ds.length - (i + 1), by omega, rfl, hlt, acc', p3, hc'⟩⟩
  · have e0 : i = ds.length := by omega
    subst e0
    rw [List.drop_length] at hc
    have h2 : some (Re.ok acc) = some (.ok accE) := hc
    have h3 := Option.some.inj h2
    injection h3 with h4
    subst h4
    exact .inl (hend H p)
theorem tdc_of {k : Xe} {own0 : List Nat} {σ : L2.St} {H : Hp} {Q : VK} (ho : tgIn own0 tg = true) (h : TEv c (xDc own0 (asgT tg) it t k e) σ H Q) :
    tDc (TIv c (LC c) it) (TGb c tg) (TTb c t) (TEb c k) (TEb c e) own0 σ H Q := by
  obtain ⟨s, φ, m, sr, h⟩ := h
  have h1 := OutG.of c h
  refine ⟨s, φ, m, sr, h1.imp c (Same.refl H) fun ds hd J H1 s1 sr1 hw x hx => ?_⟩
  obtain ⟨accE, hc, q⟩ : ∃ accE : Ac, dcL (dTurn (asgT tg) t k e (wipeD s own0) m) ds ([], []) = some (.ok accE) ∧ VOk c φ H Q (.dk accE.1 accE.2, true) := by
    cases e1 : noX (dcL (dTurn (asgT tg) t k e (wipeD s own0) m) ds ([], [])) with
    | none => rw [e1] at hd; exact hd.elim
    | some r =>
      cases r with
      | exc x fs => unfold noX at e1; split at e1 <;> cases e1
      | ok a => rw [e1] at hd; exact ⟨a, noX_inv (P := fun _ => True) e1, hd⟩
  have n0 : c.H0 x = none := sr1.fresh hx
  have w0 := hw (x :: c.B) φ
  have base : AccD c x (wipeD s own0) φ m (wipe σ own0) H1 ([], []) (upd H1 x (.dK [])) := ⟨[], upd_same, rfl, rfl, (sr1.wipe own0).hide hx (.dK []), same_upd hx⟩
  refine fold_loop (P := AccD c x (wipeD s own0) φ m (wipe σ own0) H1) (Fin := fun H' => Q (.ref x) H') (body := fun N v H' => TGb c tg v (wipe σ own0) H' fun σ2 H2 => wipe σ2 own0 = wipe σ own0 ∧ TTb c t σ2 H2 fun b H3 => if b = true then TEb c k σ2 H3 fun y H4 => TEb c e σ2 H4 fun z H5 => ∃ kvs q, y = kV q ∧ H5 x = some (.dK kvs) ∧ kvs.length < sizeLine ∧ N (upd H5 x (.dK (putK kvs q z))) else N H3) hc base (fun H' p => ?_) fun i d acc acc' H' hd p hs => ?_
  · have ⟨vs, h1, hl, h2, h3, h4⟩ := p
    exact ⟨(w0 H' ⟨rfl, h4, .inr ⟨x, hx, rfl⟩⟩).2, q _ H' (s1.trans h4) ⟨x, vs, rfl, h1, hl, sr1.newB hx, sr1.newφ hx, RepL.bare _ _ h2⟩ fun _ => ⟨x, rfl, s1.free hx, fun zs e => nomatch e⟩⟩
  · have ⟨vs, h1, hl, h2, h3, h4⟩ := p
    obtain ⟨g, y⟩ := (w0 H' ⟨rfl, h4, .inr ⟨x, hx, rfl⟩⟩).1 i d hd
    refine ⟨g, fun v H2 hy N hN => ?_⟩
    obtain ⟨s2, rv⟩ := y v H2 hy
    obtain ⟨sl1, b, e1, e2, e3⟩ := dTurn_inv hs
    have p2 := p.same s2
    refine ⟨x :: c.B, d, wipeD s own0, φ, m, sl1, (let ⟨_, _, _, _, z, _⟩ := p2; z), rv, e1, fun σ2 sr2 o2 => ⟨wipe_oth o2 (tgIn_ok tg ho), x :: c.B, sl1, φ, m, sr2, ok_OutG e2 fun H3 s3 => ?_⟩⟩
    rcases e3 with ⟨rfl, kd, vd, e4, e5, e6⟩ | ⟨rfl, rfl⟩
    · rw [if_pos rfl]
      refine ⟨x :: c.B, sl1, φ, m, sr2.same s3, ok_OutG e4 fun w H4 s4 rk _ => ?_⟩
      refine ⟨x :: c.B, sl1, φ, m, (sr2.same s3).same s4, ok_OutG e5 fun u H5 s5 ru _ => ?_⟩
      obtain ⟨qk, f1, f2, rfl⟩ := dPut_inv e6
      have p5 := ((p2.same s3).same s4).same s5
      have ⟨vs5, z1, zl, z2, z3, z4⟩ := p5
      obtain ⟨ws, b1, b2, b3⟩ := put_rep qk ru zl z2
      refine ⟨acc.1.zip vs5, qk, kD_rep rk f1, z1, by rw [List.length_zip]; omega, hN _ ⟨ws, by rw [upd_same, b1], b2, RepL.off (.d z1) off_upd _ _ b3, z3.off n0 (.d z1), fun b' o' e' => ?_⟩⟩
      rw [upd_ne (ne_of_none e' hx)]
      exact z4 b' o' e'
    · rw [if_neg Bool.false_ne_true]
      exact hN _ (p2.same s3)
theorem je_dcomp {kx vx : Expr} {k : Xe} (hc : c.X.calm = true) (hN : c.X.N.Nodup) (hi : JI c (LC c) tgx iterx it) (ok : BlkOk c.X.N c.X.env.scope scope own) (ho : tgIn (own.map (·.2)) tg = true) (hg : AllB c scope fun cb => JG cb tgx tg) (ht : AllB c scope fun cb => JTs cb ifs t) (hk : AllB c scope fun cb => JE cb kx k) (he : AllB c scope fun cb => JE cb vx e)
    (hs : ∀ x, foldedSetIterable iterx c.X.env x = pure x) : JE c (.DictComp kx vx [⟨tgx, iterx, ifs, 0⟩] scope pos) (xDc (own.map (·.2)) (asgT tg) it t k e) :=
  PE.weak (pe_dc hc hN hi ok (jgB hg) (jtB ht) (jeB hk) (jeB he) hs) fun σ H Q h => tdc_of ho h
end
end MP
set_option Elab.async false
set_option linter.all false
set_option maxRecDepth 100000
set_option autoImplicit false
set_option maxHeartbeats 1000000
/-! x in range(a, b, k); zip(*a) -/
namespace MP
open PySem PySem.Spec PyProof.Rows L2
variable {c : Cc}
section
variable {X : Cx}
/-- a range object -/
def RngO (p : Addr) (lo hi k : Int) : HO := .ext fun h => ∃ t u v, h.get? p = some { cls := .type "range", data := .fields #[.int lo t, .int hi u, .int k v] }
def rRng3 : RC := fun vs H Q => ∃ lo hi k : Int, vs = [.int lo, .int hi, .int k] ∧ 0 < k ∧ k.natAbs < 1073741824 ∧ ∀ p, H p = none → Q (.ref p) (upd H p (RngO p lo hi k))
theorem cr_rng3 : CallR X (.type "range") rRng3 := by
  intro pins s σ H vs us Q I r h
  obtain ⟨lo, hi, k, rfl, k0, k1, q⟩ := h
  cases r with
  | cons r1 r =>
    obtain ⟨u2, u3, rfl, r2, r3⟩ := vals2 r
    obtain ⟨t, rfl⟩ := r1
    obtain ⟨t2, rfl⟩ := r2
    obtain ⟨t3, rfl⟩ := r3
    refine call_range_3 (by omega) ⟨.ref s.heap.objs.size, upd H s.heap.objs.size (RngO s.heap.objs.size lo hi k), ?_, rfl, q _ (I.hok.fresh (Nat.le_refl _))⟩ (.inl (PyProof.noPylong_small k1))
    apply I.laid (t' := s.toks) (fun b o e => Heap.get?_push_of_some _ e) (Nat.le_refl _)
    exact ⟨⟨t, t2, t3, Heap.get?_push_size _ rfl⟩, ⟨_, Heap.get?_push_size _ rfl⟩, fun h1 h2 ⟨a, b, d, e⟩ g => ⟨a, b, d, g _ e⟩⟩
theorem rng_has (p : Addr) (lo hi j i : Int) (t u v k : Tok) :
    Meets (Builtin.«range.__contains__» ⟨[.ref p, .int i k], []⟩) (fun _ R s => s.heap.get? p = some { cls := .type "range", dict := none, data := .fields #[.int lo t, .int hi u, .int j v], slots := #[] } ∧ R (.ok (.ret (.bool (Builtin.Range.rangePlace? lo hi j i).isSome))) s) := by
  refine .of_wp fun prog w A R s h => ?_
  obtain ⟨hp, g, d, tk, os⟩ := s
  obtain ⟨hl, h⟩ := h
  wp_walk
  exact ⟨_, rfl, h⟩
theorem place_eq {lo hi k i : Int} (h : 0 < k) : (Builtin.Range.rangePlace? lo hi k i).isSome = rngIn lo hi k i := by
  unfold Builtin.Range.rangePlace? rngIn
  by_cases h1 : lo ≤ i <;> by_cases h2 : i < hi <;> by_cases h3 : (i - lo) % k = 0 <;> simp [h1, h2, h3, h]
def rInRng : R2 := fun x y H Q => ∃ i p lo hi k, x = .int i ∧ y = .ref p ∧ H p = some (RngO p lo hi k) ∧ 0 < k ∧ Q (.bl (rngIn lo hi k i)) H
theorem op_inRng : OpR X (compareOp .In) rInRng := by
  intro pins s σ H x y v u Q I rx ry h
  obtain ⟨i, p, lo, hi, j, rfl, rfl, hp, j0, q⟩ := h
  obtain ⟨k, rfl⟩ := rx
  obtain rfl : u = Value.ref p := ry
  obtain ⟨⟨t1, t2, t3, ho⟩, _, _⟩ := I.hok p _ hp
  show wpAny _ _ (do return Value.bool (← contains (Value.ref p) (Value.int i k))) _ _ s
  have hT : s.TypeIs (.ref p) "range" := ⟨_, ho, rfl⟩
  refine wpAny_bind (wpAny_contains_slot hT F.slot_range_contains (call_meets F.slot_range_contains hT F.entry_range_contains (F.args_range_contains_2 _ _) (rng_has p lo hi j i t1 t2 t3 k) ?_))
  refine ⟨ho, wpAny_truthy_bool (wpAny_pure ⟨.bl _, H, I, rfl, ?_⟩)⟩
  rw [place_eq j0]
  exact q
end
section
variable {a b x xk : Expr} {fa fb fx : Xe} {p p1 p2 pos pos2 : Pos} {j : Nat} {k : Int}
theorem je_inRng (hg : Gl c.X "range") (hm : c.X.mg "range" = none) (hx : JE c x fx) (ha : JE c a fa) (hb : JE c b fb) (hn : noStar a = true) (hn2 : noStar b = true) : JE c (.Compare x [.In] [.Call (.Name "range" p) [a, b, .Constant (.int k) j p1] [] pos2] pos) (xInRng fx fa fb k) := by
  have hk : JE c (.Constant (.int k) j p1) (xCst (.int k)) := je_cn (n := .int k) rfl
  have args : JA c [a, b, .Constant (.int k) j p1] (xCons fa (xCons fb (xCons (xCst (.int k)) xNil))) := ja_cons ha (ja_2 hb hk hn2 rfl) hn
  refine PE.weak (pe_cmpR op_inRng hx (pe_callTy cr_rng3 hg hm PyProof.Rows.boot_range args (by decide) (by decide) (starEach_cons hn) (noStar_all (es := [b, .Constant (.int k) j p1]) (by rw [List.all_cons, hn2]; rfl))) rfl) fun σ H Q ⟨s, φ, m, sr, h⟩ => ?_
  refine TEv.mk sr (OutG.of c h) fun vx hvx v H1 s1 rv _ sr1 => ?_
  have h2 := OutG.of c hvx
  refine ⟨s, φ, m, sr1, ?_⟩
  show OutG c σ H1 (bd (fa s m) fun y => bd (bd (fb s m) fun z => bd (rt [D.int k]) fun ds => rt (z.1 :: ds)) fun ds => rt (y.1 :: ds)) _
  cases e1 : fa s m with
  | none => rw [e1] at h2; exact h2.elim
  | some r1 =>
    cases r1 with
    | exc q fs => rw [e1] at h2; exact fun cls dd H' s' e => h2 cls dd H' (s1.trans s') e
    | ok y =>
      rw [e1] at h2
      have h3 := OutG.of c h2
      cases e2 : fb s m with
      | none => rw [e2] at h3; exact h3.elim
      | some r2 =>
        cases r2 with
        | exc q fs => rw [e2] at h3; exact fun cls dd H' s' e => h3 cls dd H' (s1.trans s') e
        | ok z =>
          rw [e2] at h3
          intro vs H2 s2 rl
          obtain ⟨v1, r1, rfl, q1, t1⟩ := rl
          obtain ⟨v2, v3, rfl, q2, q3⟩ := RepL.inv2 t1
          obtain ⟨xd, xb⟩ := vx
          obtain ⟨yd, yb⟩ := y
          obtain ⟨zd, zb⟩ := z
          cases xd with
          | int i => cases yd with
            | int lo => cases zd with
              | int hi =>
                have h4 : OutG c σ H (if (decide (0 < k) && Nat.blt k.natAbs 1073741824) = true then rt (D.bl (rngIn lo hi k i), false) else none) (VOk c φ H Q) := h3
                obtain ⟨hk2, h5⟩ := h4.if c
                rw [Bool.and_eq_true] at hk2
                have k0 : 0 < k := of_decide_eq_true hk2.1
                obtain rfl : v = .int i := rv
                obtain rfl : v1 = .int lo := q1
                obtain rfl : v2 = .int hi := q2
                obtain rfl : v3 = .int k := q3
                refine ⟨lo, hi, k, rfl, k0, Nat.le_of_ble_eq_true hk2.2, fun p hp => ⟨i, p, lo, hi, k, rfl, rfl, upd_same, k0, ?_⟩⟩
                exact h5 (.bl _) _ ((s1.trans s2).trans (same_upd hp)) rfl fun e => nomatch e
              | _ => exact h3.elim
            | _ => exact h3.elim
          | _ => exact h3.elim
end
/-! zip(*a) -/
section
variable {prog : Program} {w : World} {A : Around} {E : Value → Shared → Prop} {s : Shared} {env : Env}
/-- a call of a built-in class with all its arguments from one starred thing -/
theorem call_tyS {T : String} {e : Expr} {p pos : Pos} {Q : Value → Shared → Prop} (h : wpAny (model prog w) A (eval e env) (fun v s1 => PySem.W.StarOf (model prog w) A E v (fun vs s2 => wpAny (model prog w) A (call (.type T) vs) Q E s2) s1) E s) :
    wpAny (model prog w) A (callWith pos (.type T) [] (backTo pos (starEach [.Starred e p] env)) []) Q E s := by
  rw [show starEach [.Starred e p] env = [(true, eval e env)] from rfl]
  unfold callWith
  have h2 := PySem.W.ks_lone (f := .type T) (pos := pos) (Q := fun (z : Args) s2 => wpAny (model prog w) A (call (.type T) ([] ++ z.pos) z.kw) Q E s2) h
  apply wpAny_bind
  apply wpAny_holding
  refine wpAny_mono h2 (fun z s1 h3 => ?_) fun _ _ x => x
  apply wpAny_bind
  apply wpAny_standAt
  apply wpAny_bind
  refine wpAny_pure ?_
  apply wpAny_bind
  refine wpAny_mono (wpAny_operating h3) (fun r s2 hr => ?_) fun _ _ x => x
  apply wpAny_bind
  apply wpAny_holding
  exact wpAny_point (wpAny_pure hr)
end
section
variable {X : Cx}
def iZipSR (K : PySem.W.Frag) (te : TE) : TI := fun σ H R => te σ H fun y H1 => ∃ p a b xs ys, y = .ref p ∧ SqT K H1 p [.ref a, .ref b] ∧ SqT K H1 a xs ∧ SqT K H1 b ys ∧ R (RZ.ItzT K a b) H1
theorem pi_zipS {e : Expr} {te : TE} {p sp pos tpos : Pos} {elts : List Expr} {kk : Nat} (hg : Gl X "zip") (hm : X.mg "zip" = none) (he : PE X e te) : PI X (.Tuple elts kk tpos) (.Call (.Name "zip" p) [.Starred e sp] [] pos) (iZipSR X.K te) := by
  constructor
  intro pins s σ H R I h
  refine Call_ (ld_blt I hg hm PyProof.Rows.boot_zip (call_tyS ?_))
  refine wpAny_mono (he.run pins s σ H _ I h) (fun v s1 hv => ?_) fun _ _ x => x
  obtain ⟨y, H1, I1, ry, q, a, b, xs, ys, rfl, hp, hx, hy, hR⟩ := hv
  obtain rfl : v = Value.ref q := ry
  refine StX.star_any I1 (.inl hp) fun us s2 I2 rv => ?_
  obtain ⟨u1, u2, rfl, r1, r2⟩ := vals2 rv
  obtain rfl : u1 = Value.ref a := r1
  obtain rfl : u2 = Value.ref b := r2
  obtain ⟨its, rv1, p1, _⟩ := I2.tuple hx
  obtain ⟨its2, rv2, p2, _⟩ := I2.tuple hy
  have fresh : ∀ d, d ∈ [s2.heap.objs.size + 4, s2.heap.objs.size + 2, s2.heap.objs.size + 3, s2.heap.objs.size, s2.heap.objs.size + 1] → FpOk X pins H1 d := by
    intro d hd
    have hle : s2.heap.objs.size ≤ d := by
      simp only [List.mem_cons, List.not_mem_nil, or_false] at hd
      omega
    exact I2.fpOk hle (I2.hok.fresh hle)
  obtain ⟨o1, ho1, z1⟩ := id p1
  obtain ⟨o2, ho2, z2⟩ := id p2
  refine RZ.call_zipT (show s2.heap.IsTuple a its.toArray from p1) (show s2.heap.IsTuple b its2.toArray from p2) fun h' hz hTI hTO h1 h2 hsz hk => wpAny_pyIter_zip hz ?_
  exact ⟨s2.heap.objs.size + 4, [s2.heap.objs.size + 4, s2.heap.objs.size + 2, s2.heap.objs.size + 3, s2.heap.objs.size, s2.heap.objs.size + 1], _, _, H1, rfl, I2.kept (t' := s2.toks) hk, RZ.turn_zipT (PySem.W.ktu_apart s2.heap.objs.size a b (Heap.lt_size ho1) (Heap.lt_size ho2)), ⟨hz, hTI, ⟨_, _, hTO⟩, h1, h2⟩, fresh, hR⟩
end
section
variable {a : Expr} {fa : Xe} {p sp pos : Pos} {L : Lat} {Ok : Sl → Mm → D → Prop}
theorem ji_zipS {elts : List Expr} {kk : Nat} {tpos : Pos} (hL : LOk c L Ok) (hg : Gl c.X "zip") (hm : c.X.mg "zip" = none) (ha : JE c a fa) : JI c L (.Tuple elts kk tpos) (.Call (.Name "zip" p) [.Starred a sp] [] pos) (iZipS fa) := by
  refine PI.weak (pi_zipS hg hm ha) fun σ H R ⟨s, φ, m, sr, h⟩ => ?_
  refine TEv.mk sr (OutG.of c h) fun x hx v H1 s1 rv _ sr1 => ?_
  cases e1 : tupV x.1 with
  | none => simp only [e1] at hx; exact hx.elim
  | some rows =>
    match rows, e1 with
    | [], e1 => simp only [e1] at hx; exact hx.elim
    | [_], e1 => simp only [e1] at hx; exact hx.elim
    | _ :: _ :: _ :: _, e1 => simp only [e1] at hx; exact hx.elim
    | [r1, r2], e1 =>
      simp only [e1] at hx
      cases e2 : tupV r1 with
      | none => simp only [e2] at hx; exact hx.elim
      | some xs =>
        simp only [e2] at hx
        cases e3 : tupV r2 with
        | none => simp only [e3] at hx; exact hx.elim
        | some ys =>
          simp only [e3] at hx
          obtain ⟨q, vs, rfl, hs, rl⟩ := SqT.ofRep rv e1
          obtain ⟨v1, v2, rfl, q1, q2⟩ := RepL.inv2 rl
          obtain ⟨a1, ws1, rfl, hs1, rl1⟩ := SqT.ofRep q1 e2
          obtain ⟨a2, ws2, rfl, hs2, rl2⟩ := SqT.ofRep q2 e3
          refine ⟨q, a1, a2, ws1, ws2, rfl, hs, hs1, hs2, OutG.ok c hx _ H1 s1 sr1 fun B' φ' H' l => ?_⟩
          obtain ⟨b1, us1, z1, hs1', rl1'⟩ := SqT.ofRep (hL.rep l q1) e2
          obtain ⟨b2, us2, z2, hs2', rl2'⟩ := SqT.ofRep (hL.rep l q2) e3
          cases z1; cases z2
          exact walk_zipT hs1' hs2' rl1' rl2'
end
/-! sorted(a, reverse=True) -/
section
variable {a : Expr} {fa : Xe} {p kp kp2 pos : Pos} {j : Nat}
theorem je_srtR (hu : c.X.A.units + 65 < cLine) (hg : Gl c.X "sorted") (hm : c.X.mg "sorted" = none) (ha : JE c a fa) (hn : noStar a = true) : JE c (.Call (.Name "sorted" p) [a] [⟨some (Str.ofString "reverse"), .Constant (.bool true) j kp, kp2⟩] pos) (xSrtR fa) := by
  have hs : (backTo pos (starEach [a] c.X.env)) = (false, eval a c.X.env) :: backTo pos (starEach [] c.X.env) := by rw [starEach_cons hn]; rfl
  refine PE.weak (pe_callBK (cr_sortedDR hu) hg hm PyProof.Rows.boot_sorted (ja_1 ha hn) (pk_cons pe_bl pk_nil) (by decide) (by decide) hs (by rw [hs]; rfl)) fun σ H Q ⟨s, φ, m, sr, h⟩ => ?_
  refine one_run sr h fun x v H1 s1 rv sr1 hx => ?_
  cases e1 : lstV m x.1 with
  | none => simp only [e1] at hx; exact hx.elim
  | some xs =>
    simp only [e1] at hx
    obtain ⟨hk, h2⟩ := hx.if c
    rw [Bool.and_eq_true] at hk
    rw [frL_eq] at h2
    obtain ⟨l, vs, rfl, hs, rl⟩ := lstV_rep sr1 rv e1
    refine ⟨rfl, l, vs, xs, rfl, hs, dps_of 3 _ _ (kd_eqOks hk.1) rl, (RepL.length rl).symm, hk.1, szOk_le hk.2, fun ys p he hp => ?_⟩
    exact lst_new sr1 (each_rep he fun v d hv => RepL.zip rl hv) (VOk.imp (OutG.ok c h2) s1) p hp
end
end MP
set_option Elab.async false
set_option linter.all false
set_option maxRecDepth 100000
set_option autoImplicit false
set_option maxHeartbeats 1000000
/-! repr(a) != repr(b) -/
namespace MP
open PySem PySem.Spec PyProof.Rows L2
mutual
theorem same_toP : ∀ (a b : D), sameD a b = true → toP a = toP b := fun a b h => by
  cases a <;> cases b <;> first | (simp [sameD] at h; done) | skip
  · rfl
  · rename_i x y; rw [toP, toP]; rw [sameD] at h; rw [eq_of_beq h]
  · rename_i x y; rw [toP, toP]; rw [sameD] at h; rw [eq_of_beq h]
  all_goals
    rename_i xs ys
    rw [toP, toP, sames_toP xs ys (by simpa [sameD] using h)]
theorem sames_toP : ∀ (a b : List D), sameDs a b = true → toPs a = toPs b
  | [], [], _ => rfl
  | [], _ :: _, h => by simp [sameDs] at h
  | _ :: _, [], h => by simp [sameDs] at h
  | x :: xs, y :: ys, h => by
    rw [sameDs, Bool.and_eq_true] at h
    rw [toPs, toPs, same_toP x y h.1, sames_toP xs ys h.2]
end
theorem strLen (x y : Str) : (x ++ y).length = x.length + y.length := strLen_append x y
theorem piled_le : ∀ ts : List Str, ∀ n, (∀ t ∈ ts, t.length ≤ n) → True := fun _ _ _ => trivial
theorem tupText_le (ts : List Str) : (tupleText ts).length ≤ 3 + piled ts := by
  unfold tupleText
  rw [strLen, strLen]
  have e1 : ((("(" : String) : Str)).length = 1 := rfl
  have e3 : (((if ts.length == 1 then ",)" else ")" : String) : Str)).length ≤ 2 := by split <;> decide
  rw [e1]
  by_cases h : ts = []
  · subst h
    have : (Str.join ", " ([] : List Str)).length = 0 := rfl
    omega
  · have := join_length_add ts h
    omega
theorem textFrom_le : ∀ (ts : List Str) (k : Nat) (acc : Str), (textFrom k acc ts).length ≤ acc.length + piled ts
  | [], k, acc => by show acc.length ≤ _; omega
  | t :: ts, k, acc => by
    have h := textFrom_le ts (k + 1) (acc ++ (if k > 0 then ", " else "" : String) ++ t)
    have e : (((if k > 0 then ", " else "" : String) : Str)).length ≤ 2 := by split <;> decide
    rw [strLen, strLen] at h
    have e2 : piled (t :: ts) = t.length + 2 + piled ts := piled_cons t ts
    show (textFrom (k + 1) _ ts).length ≤ _
    omega
theorem lstText_le (ts : List Str) : (listText ts).length ≤ 2 + piled ts := by
  unfold listText
  rw [strLen]
  have h := textFrom_le ts 0 "["
  have e1 : ((("[" : String) : Str)).length = 1 := rfl
  have e2 : ((("]" : String) : Str)).length = 1 := rfl
  rw [e1] at h
  rw [e2]
  omega
theorem int_le {i : Int} (h : i.natAbs < 10000000000000000000000000000000000000000) : (Str.ofString (toString i)).length ≤ 42 := by
  have := int_text_length_le10 (a := i) (k := 40) (by decide) (by show i.natAbs < 10 ^ 40; exact h)
  have e : (Str.ofString (toString i)).length ≤ (toString i).length := by
    rw [PySem.ofString_length]; exact Nat.le_refl _
  omega
mutual
theorem shI_ok : ∀ (n : Nat) (d : D), shI n d = true → (toP d).showable = true ∧ (toP d).hasDict = false ∧ (toP d).depth ≤ n ∧ (toP d).shown.length ≤ shW d
  | _, .non, _ => ⟨rfl, rfl, Nat.zero_le _, by decide⟩
  | _, .bl b, _ => ⟨rfl, rfl, Nat.zero_le _, by cases b <;> decide⟩
  | _, .int i, h => by
    have h' : i.natAbs < 10000000000000000000000000000000000000000 := by
      unfold shI at h
      exact Nat.le_of_ble_eq_true h
    refine ⟨?_, rfl, Nat.zero_le _, ?_⟩
    · show decide (i.natAbs.log2 < 1920) = true
      refine decide_eq_true ?_
      by_cases h0 : i.natAbs = 0
      · rw [h0]; decide
      · exact (Nat.log2_lt h0).mpr (Nat.lt_trans h' (by decide))
    · show (Str.ofString (toString i)).length ≤ 42
      exact int_le h'
  | n + 1, .tup xs, h => by
    obtain ⟨h1, h2, h3, h4⟩ := shIs_ok n xs (by simpa [shI] using h)
    refine ⟨h1, h2, by rw [toP, PyData.depth]; omega, ?_⟩
    rw [toP, PyData.shown, shW]
    exact Nat.le_trans (tupText_le _) (by omega)
  | n + 1, .ktup xs, h => by
    obtain ⟨h1, h2, h3, h4⟩ := shIs_ok n xs (by simpa [shI] using h)
    refine ⟨h1, h2, by rw [toP, PyData.depth]; omega, ?_⟩
    rw [toP, PyData.shown, shW]
    exact Nat.le_trans (tupText_le _) (by omega)
  | n + 1, .lst xs, h => by
    obtain ⟨h1, h2, h3, h4⟩ := shIs_ok n xs (by simpa [shI] using h)
    refine ⟨h1, h2, by rw [toP, PyData.depth]; omega, ?_⟩
    rw [toP, PyData.shown, shW]
    exact Nat.le_trans (lstText_le _) (by omega)
  | 0, .tup xs, h => by simp [shI] at h
  | 0, .ktup xs, h => by simp [shI] at h
  | 0, .lst xs, h => by simp [shI] at h
  | n, .str _, h => by cases n <;> simp [shI] at h
  | n, .klst xs, h => by cases n <;> simp [shI] at h
  | n, .dk _ xs, h => by cases n <;> simp [shI] at h
  | n, .dt _ xs, h => by cases n <;> simp [shI] at h
  | n, .ref _, h => by cases n <;> simp [shI] at h
  | n, .exc _ _, h => by cases n <;> simp [shI] at h
theorem shIs_ok : ∀ (n : Nat) (ds : List D), shIs n ds = true → PyData.showableAll (toPs ds) = true ∧ PyData.hasDictAll (toPs ds) = false ∧ PyData.depthAll (toPs ds) ≤ n ∧ piled (PyData.shownAll (toPs ds)) ≤ shWs ds
  | _, [], _ => ⟨rfl, rfl, Nat.zero_le _, Nat.zero_le _⟩
  | n, d :: ds, h => by
    rw [shIs, Bool.and_eq_true] at h
    obtain ⟨a1, a2, a3, a4⟩ := shI_ok n d h.1
    obtain ⟨b1, b2, b3, b4⟩ := shIs_ok n ds h.2
    refine ⟨by rw [toPs, PyData.showableAll, a1, b1]; rfl, by rw [toPs, PyData.hasDictAll, a2, b2]; rfl, by rw [toPs, PyData.depthAll]; omega, ?_⟩
    rw [toPs, PyData.shownAll, piled_cons, shWs]
    omega
end
mutual
theorem eqOk_sh : ∀ (n : Nat) (d : D), shI n d = true → eqOk n d = true
  | n, .non, _ => by cases n <;> rfl
  | n, .bl b, _ => by cases n <;> rfl
  | n, .int i, h => by cases n <;> rfl
  | n + 1, .tup xs, h => by rw [eqOk]; exact eqOk_shs n xs (by simpa [shI] using h)
  | n + 1, .ktup xs, h => by rw [eqOk]; exact eqOk_shs n xs (by simpa [shI] using h)
  | n + 1, .lst xs, h => by rw [eqOk]; exact eqOk_shs n xs (by simpa [shI] using h)
  | 0, .tup xs, h => by simp [shI] at h
  | 0, .ktup xs, h => by simp [shI] at h
  | 0, .lst xs, h => by simp [shI] at h
  | n, .str _, h => by cases n <;> simp [shI] at h
  | n, .klst xs, h => by cases n <;> simp [shI] at h
  | n, .dk _ xs, h => by cases n <;> simp [shI] at h
  | n, .dt _ xs, h => by cases n <;> simp [shI] at h
  | n, .ref _, h => by cases n <;> simp [shI] at h
  | n, .exc _ _, h => by cases n <;> simp [shI] at h
theorem eqOk_shs : ∀ (n : Nat) (ds : List D), shIs n ds = true → eqOkL (eqOk n) ds = true
  | _, [], _ => rfl
  | n, d :: ds, h => by
    rw [shIs, Bool.and_eq_true] at h
    rw [eqOkL, eqOk_sh n d h.1, eqOk_shs n ds h.2]; rfl
end
mutual
theorem same_eqOk : ∀ (n : Nat) (a b : D), sameD a b = true → eqOk n a = true → eqOk n b = true := fun n a b h q => by
  cases a <;> cases b <;> first | (simp [sameD] at h; done) | skip
  · exact q
  · cases n <;> rfl
  · cases n <;> rfl
  all_goals
    rename_i xs ys
    cases n with
    | zero => simp [eqOk] at q
    | succ n =>
      have q' : eqOkL (eqOk n) xs = true := by simpa [eqOk] using q
      have := sames_eqOk n xs ys (by simpa [sameD] using h) q'
      simpa [eqOk] using this
theorem sames_eqOk : ∀ (n : Nat) (a b : List D), sameDs a b = true → eqOkL (eqOk n) a = true → eqOkL (eqOk n) b = true
  | _, [], [], _, _ => rfl
  | _, [], _ :: _, h, _ => by simp [sameDs] at h
  | _, _ :: _, [], h, _ => by simp [sameDs] at h
  | n, x :: xs, y :: ys, h, q => by
    rw [sameDs, Bool.and_eq_true] at h
    rw [eqOkL, Bool.and_eq_true] at q
    rw [eqOkL, same_eqOk n x y h.1 q.1, sames_eqOk n xs ys h.2 q.2]; rfl
end
def rRepr (K : PySem.W.Frag) : List V → Hp → VK → Prop := fun xs H Q => ∃ (v : V) (d : PyData), xs = [v] ∧ Dp K H v d ∧ d.showable = true ∧ d.hasDict = false ∧ d.depth ≤ 20 ∧ d.shown.length ≤ 1000000 ∧ (∀ x, d ≠ .str x) ∧ Q (.str d.shown) H
theorem cr_repr {X : Cx} (hg : X.A.guards = some []) (hu : X.A.units + 65 < cLine) : CallR X (.builtin "repr") (rRepr X.K) := by
  intro pins s σ H xs us Q I r h
  obtain ⟨v, d, rfl, hd, h1, h2, h3, h4, h5, q⟩ := h
  obtain ⟨u, rfl, ru⟩ := vals1 r
  obtain ⟨as, rd⟩ := Dp.reads I d v u hd ru
  have hz : d.shown.length ≤ sizeLine := by rw [sizeLine_eq]; omega
  cases hd with
  | non => obtain rfl : u = Value.none := ru; exact P.repr_of_none ⟨.str _, H, I.tok _, ⟨_, rfl⟩, q⟩
  | bl b =>
    obtain rfl : u = Value.bool b := ru
    refine P.repr_of_bool ⟨.str _, H, I.tok _, ⟨s.toks, ?_⟩, q⟩
    cases b <;> rfl
  | int i =>
    obtain ⟨t, rfl⟩ := ru
    exact P.repr_of_int (of_decide_eq_true h1) ⟨.str _, H, I.tok _, ⟨s.toks, rfl⟩, q⟩
  | str x => exact absurd rfl (h5 x)
  | lst hs ha =>
    obtain rfl := ru
    exact repr_of_reads' rd h1 (PyData.noDict_hsm h2) hg (by omega) (fun _ _ e => e) (fun h' u tk hk => ⟨.str _, H, I.kept hk, ⟨u, rfl⟩, q⟩) hz
  | tup hs ha =>
    obtain rfl := ru
    exact repr_of_reads' rd h1 (PyData.noDict_hsm h2) hg (by omega) (fun _ _ e => e) (fun h' u tk hk => ⟨.str _, H, I.kept hk, ⟨u, rfl⟩, q⟩) hz
variable {c : Cc}
theorem shOk_rep {s : Sl} {φ : List Addr} {m : Mm} {σ : L2.St} {H : Hp} {Q : VK} {x : D} {v : V} (sr : c.SR s φ m σ H) (r : c.Rep H φ x v) (h : shOk (vwE m x) = true) (q : Q (.str (toP (vwE m x)).shown) H) : rRepr c.X.K [v] H Q := by
  unfold shOk at h
  rw [Bool.and_eq_true] at h
  obtain ⟨h1, h2⟩ := h
  have h2' := Nat.le_of_ble_eq_true h2
  obtain ⟨a1, a2, a3, a4⟩ := shI_ok 20 _ h1
  refine ⟨v, _, rfl, vwE_rep sr r (eqOk_sh 20 _ h1), a1, a2, a3, by omega, fun y hy => ?_, q⟩
  cases e : vwE m x <;> rw [e] at hy h1 <;> first | (simp [toP] at hy; done) | (simp [shI] at h1; done)
section
variable {a b : Expr} {fa fb : Xe} {pos p1 p2 p3 p4 : Pos} {ne : Bool}
theorem rep_run {s : Sl} {φ : List Addr} {m : Mm} {σ : L2.St} {H : Hp} {α : Type} {r : Bool → Rv α} {R : α → Prop} {F : VK} {o : Cop} (ho : o = .eq ∨ o = .ne) (sr : c.SR s φ m σ H) (h : OutG c σ H (repV fa fb r s m) R)
    (w : ∀ H', Same H H' → OutG c σ H' (r true) R → F (.bl (decide (o = .eq))) H') :
    tCB (rRepr c.X.K) (tCons (TEv c fa) tNil) σ H fun x H1 => tCB (rRepr c.X.K) (tCons (TEv c fb) tNil) σ H1 fun y H2 => rCmp c.X.K o x y H2 F := by
  show TEv c fa σ H fun x H1 => rRepr c.X.K [x] H1 fun y H2 => TEv c fb σ H2 fun z H3 => rRepr c.X.K [z] H3 fun u H4 => rCmp c.X.K o y u H4 F
  refine TEv.mk sr (OutG.of c h) fun x hx v H1 s1 rx _ sr1 => ?_
  obtain ⟨hk, hx⟩ := OutG.if c hx
  refine shOk_rep sr1 rx hk ?_
  refine TEv.mk sr1 ((OutG.of c hx).imp c s1 fun _ z => z) fun y hy w' H2 s2 ry _ sr2 => ?_
  obtain ⟨hs, hy⟩ := OutG.if c hy
  have e := same_toP _ _ hs
  -- what y shows
  have d2 : rRepr c.X.K [w'] H2 fun x' H' => H' = H2 ∧ x' = .str (toP (vwE m x.1)).shown := by
    have k1 := hk
    unfold shOk at k1
    rw [Bool.and_eq_true] at k1
    obtain ⟨a1, a2, a3, a4⟩ := shI_ok 20 _ k1.1
    have := Nat.le_of_ble_eq_true k1.2
    rw [e] at a1 a2 a3 a4
    refine ⟨w', _, rfl, vwE_rep sr2 ry (n := 20) (same_eqOk 20 _ _ hs (eqOk_sh 20 _ k1.1)), a1, a2, a3, by omega, fun z hz => ?_, rfl, by rw [e]⟩
    rw [← e] at hz
    cases ex : vwE m x.1 <;> rw [ex] at hz k1 <;> first | (simp [toP] at hz; done) | (simp [shI] at k1; done)
  obtain ⟨v2, dd, e1, d3, d4, d5, d6, d7, d8, d9, d10⟩ := d2
  refine ⟨v2, dd, e1, d3, d4, d5, d6, d7, d8, ?_⟩
  rw [d10]
  have fin := w H2 (s1.trans s2) (hy.imp c (s1.trans s2) fun _ z => z)
  rcases ho with rfl | rfl
  · exact .inl ⟨rfl, by rw [decide_eq_true rfl]; exact fin⟩
  · exact .inl ⟨rfl, by rw [decide_eq_true rfl]; exact fin⟩
theorem pe_rep {t1 : TE} {a : Expr} {p pos : Pos} (hgd : c.X.A.guards = some []) (hu : c.X.A.units + 65 < cLine) (hg : Gl c.X "repr") (hm : c.X.mg "repr" = none) (ha : PE c.X a t1) (hn : noStar a = true) : PE c.X (.Call (.Name "repr" p) [a] [] pos) (tCB (rRepr c.X.K) (tCons t1 tNil)) :=
  pe_callB (cr_repr hgd hu) hg hm (by decide +kernel) (pa_cons ha pa_nil (starEach_cons hn)) (by decide) (by decide) (starEach_cons hn) rfl
theorem je_rep {o : Cop} (ho : o = .eq ∨ o = .ne) (hne : (decide (o = .eq)) = !ne) (hgd : c.X.A.guards = some []) (hu : c.X.A.units + 65 < cLine) (hg : Gl c.X "repr") (hm : c.X.mg "repr" = none) (ha : JE c a fa) (hb : JE c b fb) (hna : noStar a = true) (hnb : noStar b = true) :
    JE c (.Compare (.Call (.Name "repr" p1) [a] [] p2) [opC o] [.Call (.Name "repr" p3) [b] [] p4] pos) (xRep ne fa fb) := by
  refine PE.weak (pe_cmpR (op_cmp hu o) (pe_rep hgd hu hg hm ha hna) (pe_rep hgd hu hg hm hb hnb) (by rcases ho with rfl | rfl <;> rfl)) fun σ H Q ⟨s, φ, m, sr, h⟩ => ?_
  refine rep_run ho sr h fun H' s' hk => ?_
  have : (ne ^^ true) = decide (o = .eq) := by rw [hne]; cases ne <;> rfl
  rw [← this]
  exact VOk.at (VOk.imp (OutG.ok c hk) s') rfl
theorem jt_rep {o : Cop} (ho : o = .eq ∨ o = .ne) (hne : (decide (o = .eq)) = !ne) (hgd : c.X.A.guards = some []) (hu : c.X.A.units + 65 < cLine) (hg : Gl c.X "repr") (hm : c.X.mg "repr" = none) (ha : JE c a fa) (hb : JE c b fb) (hna : noStar a = true) (hnb : noStar b = true) :
    JT c (.Compare (.Call (.Name "repr" p1) [a] [] p2) [opC o] [.Call (.Name "repr" p3) [b] [] p4] pos) (tRep ne fa fb) := by
  refine PT.weak (pt_cmpR (op_cmp hu o) (pe_rep hgd hu hg hm ha hna) (pe_rep hgd hu hg hm hb hnb) (by rcases ho with rfl | rfl <;> rfl)) fun σ H Q ⟨s, φ, m, sr, h⟩ => ?_
  refine rep_run ho sr h fun H' s' hk => ⟨decide (o = .eq), rfl, ?_⟩
  have : (ne ^^ true) = decide (o = .eq) := by rw [hne]; cases ne <;> rfl
  rw [← this]
  exact OutG.ok c hk H' s'
end
end MP
set_option Elab.async false
set_option linter.all false
set_option maxRecDepth 100000
set_option autoImplicit false
set_option maxHeartbeats 1000000
/-! comprehensions of any number of clauses -/
namespace MP
open PySem PySem.Spec PyProof.Rows L2

/-- nothing may be raised -/
abbrev noE : Value → Shared → Prop := fun _ _ => False
abbrev Wp (Y : Cx) {α : Type} (t : Sem α) (Q : α → Shared → Prop) (s : Shared) : Prop := wpAny (model Y.prog Y.w) Y.A t Q noE s
abbrev okR (G : Shared → Prop) : Result → Shared → Prop := fun r s' => match r with
  | .ok _ => G s'
  | .error _ => False
/-- the tests of a clause -/
abbrev asks (Y : Cx) (ifs : List Expr) : Sem Bool := forIn ifs true fun c r =>
  if r = true then do
    let ok ← isTrue c Y.env (eval c Y.env)
    pure (ForInStep.yield ok)
  else pure (ForInStep.yield r)
section
variable (Y : Cx) (elt : Expr) (gs : List Comprehension) (sc : Scope) (ps : Pos) (D : Addr)
/-- behind the tests of clause k: the item is appended, or the next clause is run; then G -/
def Give (k : Nat) (G : Shared → Prop) (s : Shared) : Prop := match gs[k + 1]? with
  | none => Wp Y (eval elt Y.env) (fun x s1 => Wp Y (call (.builtin "list.append") [.ref D, x]) (fun _ s2 => G s2) s1) s
  | some c => Wp Y (eval c.iter Y.env) (fun x s1 => Wp Y (pyIter x) (fun i s2 => codeAny (model Y.prog Y.w) Y.A (.compStart (.ListComp elt gs sc ps) (k + 1) i (.ref D) Y.env) (okR G) s2) s1) s
def TurnP (k : Nat) (tg : Expr) (ifs : List Expr) (it : Value) (Fin Nxt : Shared → Prop) (s : Shared) : Prop :=
  Wp Y (pyNext it) (fun r s1 => match r with
    | none => Fin s1
    | some v => Wp Y (letOwnedTupleGo tg it v) (fun _ s2 => Wp Y (assign tg Y.env v) (fun _ s3 => Wp Y (asks Y ifs) (fun ok s4 => if ok = true then Give Y elt gs sc ps D k Nxt s4 else Nxt s4) s3) s2) s1) s
end
section
variable {Y : Cx} {elt : Expr} {gs : List Comprehension} {sc : Scope} {ps : Pos} {D : Addr} {k : Nat} {t i : Expr} {ifs : List Expr}
theorem weakE {α : Type} {m : Sem α} {Q : α → Shared → Prop} {E : Value → Shared → Prop} {s : Shared} (h : Wp Y m Q s) : wpAny (model Y.prog Y.w) Y.A m Q E s :=
  wpAny_mono h (fun _ _ z => z) fun _ _ z => z.elim
theorem loop_code (hk : gs[k]? = some ⟨t, i, ifs, 0⟩) (hn : ∀ c', gs[k + 1]? = some c' → c'.is_async = 0 ∧ ∀ x, foldedSetIterable c'.iter Y.env x = pure x) {it : Value} {R : Result → Shared → Prop} (P : Nat → Shared → Prop)
    (turn : ∀ n s, P n s → TurnP Y elt gs sc ps D k t ifs it (fun s' => R (.ok .next) s') (fun s' => ∃ n', n' < n ∧ P n' s') s) {n : Nat} {s : Shared} (h : P n s) :
    codeAny (model Y.prog Y.w) Y.A (.compLoop (.ListComp elt gs sc ps) k it (.ref D) Y.env) R s := by
  apply codeAny_loop (I := P) rfl _ n h
  intro n1 s1 hp
  apply wpAny_noted (m := compTurn (.ListComp elt gs sc ps) k it (.ref D) Y.env)
  have T := turn n1 s1 hp
  unfold TurnP at T
  unfold compTurn
  simp only [hk]
  apply wpAny_bind
  apply wpAny_standAt
  apply wpAny_bind
  apply wpAny_mono (weakE T) _ (fun _ _ z => z)
  intro r s2 T2
  cases r with
  | none => exact wpAny_pure T2
  | some v =>
    apply wpAny_bind
    apply wpAny_mono (weakE T2) _ (fun _ _ z => z)
    intro _ s3 T3
    apply wpAny_bind
    apply wpAny_mono (weakE T3) _ (fun _ _ z => z)
    intro _ s4 T4
    apply wpAny_bind
    apply wpAny_mono (weakE T4) _ (fun _ _ z => z)
    intro ok s5 T5
    cases ok with
    | false => exact wpAny_pure ⟨rfl, T5⟩
    | true =>
      have T6 : Give Y elt gs sc ps D k (fun s' => ∃ n', n' < n1 ∧ P n' s') s5 := T5
      unfold Give at T6
      cases hg : gs[k + 1]? with
      | none =>
        rw [hg] at T6
        simp only [if_true]
        apply wpAny_bind
        apply wpAny_bind
        apply wpAny_mono (weakE T6) _ (fun _ _ z => z)
        intro x s6 T7
        apply wpAny_bind
        apply wpAny_mono (weakE T7) _ (fun _ _ z => z)
        intro _ s7 T8
        exact wpAny_pure (wpAny_pure ⟨rfl, T8⟩)
      | some c' =>
        rw [hg] at T6
        obtain ⟨t', i', ifs', a'⟩ := c'
        obtain ⟨ha, hf⟩ := hn _ hg
        cases ha
        simp only [if_true]
        apply wpAny_bind
        apply wpAny_mono (weakE T6) _ (fun _ _ z => z)
        intro x s6 T7
        apply wpAny_bind
        apply wpAny_standAt
        apply wpAny_bind
        apply wpAny_of_eq (hf x)
        apply wpAny_bind
        apply wpAny_holding
        apply wpAny_mono (weakE T7) _ (fun _ _ z => z)
        intro iv s7 T8
        apply wpAny_bind
        refine wpAny_runOwn (c := .compStart (.ListComp elt gs sc ps) (k + 1) iv (.ref D) Y.env) ?_
        rw [Around.mark_none]
        apply codeAny_mono T8
        intro r s8 T9
        cases r with
        | error e => exact T9.elim
        | ok f =>
          first
            | exact wpAny_pure ⟨rfl, T9⟩
            | exact wpAny_bind (wpAny_pure (wpAny_pure ⟨rfl, T9⟩))
theorem start_code (hk : gs[k]? = some ⟨t, i, ifs, 0⟩) {it : Addr} {R : Result → Shared → Prop} {s : Shared} (h0 : codeAny (model Y.prog Y.w) Y.A (.compLoop (.ListComp elt gs sc ps) k (.ref it) (.ref D) Y.env) R s)
    (h1 : ∀ E, wpAny (model Y.prog Y.w) Y.A (pyIter (.ref it)) (fun v s' => codeAny (model Y.prog Y.w) Y.A (.compLoop (.ListComp elt gs sc ps) k v (.ref D) Y.env) R s') E s) :
    codeAny (model Y.prog Y.w) Y.A (.compStart (.ListComp elt gs sc ps) k (.ref it) (.ref D) Y.env) R s := by
  apply codeAny_of_tree
  apply wpAny_notedAt (m := compStart (.ListComp elt gs sc ps) k (.ref it) (.ref D) Y.env)
  have e : (clausesOf (.ListComp elt gs sc ps))[k]? = some ⟨t, i, ifs, 0⟩ := hk
  unfold compStart
  simp only [e]
  show wpAny _ _ (ask >>= _) _ _ s
  apply wpAny_bind
  apply wpAny_askSetting
  apply wpAny_ite
  split
  · first
      | exact wpAny_bind (wpAny_pure (wpAny_pure ⟨rfl, h0⟩))
      | exact wpAny_pure (wpAny_pure ⟨rfl, h0⟩)
      | exact wpAny_pure ⟨rfl, h0⟩
  · apply wpAny_bind
    apply wpAny_rule
    first
      | (apply wpAny_bind; apply wpAny_standAt; apply wpAny_bind; apply wpAny_mono (h1 _) _ (fun _ _ z => z); intro v s2 h2; exact wpAny_pure ⟨rfl, h2⟩)
      | (show wpAny _ _ (standAt i.pos >>= _) _ _ s; apply wpAny_bind; apply wpAny_standAt; apply wpAny_bind; apply wpAny_mono (h1 _) _ (fun _ _ z => z); intro v s2 h2; exact wpAny_pure ⟨rfl, h2⟩)
end
/-! the readings of the clauses -/
structure Cl where
  wi : TI
  g : TG
  tt : TT
  vs : List Nat
/-- the clauses from one on, then the item; behind it N -/
def tCl : List Cl → TE → Addr → L2.St → Hp → (Hp → Prop) → Prop
  | [], te, D, σ, H, N => te σ H fun y H4 => ∃ acc, H4 D = some (.lst acc) ∧ acc.length < sizeLine ∧ N (upd H4 D (.lst (acc ++ [y])))
  | d :: r, te, D, σ, H, N => d.wi σ H fun J H1 => ∃ W : Nat → Nat → Hp → Prop, (∃ m, W 0 m H1) ∧ ∀ i m H, W i m H → (J.stop i H ∧ N H) ∨ (J.go i H ∧ ∃ Nx : Hp → Prop, (∀ H', Nx H' → ∃ m', m' < m ∧ W (i + 1) m' H') ∧
      ∀ x H', J.yld i H x H' → d.g x (wipe σ d.vs) H' fun σ2 H2 => wipe σ2 d.vs = wipe σ d.vs ∧ d.tt σ2 H2 fun b H3 => if b = true then tCl r te D σ2 H3 Nx else Nx H3)
def ownsOf : List Cl → List Nat
  | [] => []
  | d :: ds => d.vs ++ ownsOf ds
def ClsOk (Y : Cx) : List Comprehension → List Cl → Prop
  | [], [] => True
  | c :: cs, d :: ds => c.is_async = 0 ∧ PI Y c.target c.iter d.wi ∧ PG Y c.target d.g ∧ PTs Y c.ifs d.tt ∧ (∀ x, foldedSetIterable c.iter Y.env x = pure x) ∧ (∀ i ∈ d.vs, i ∉ ownsOf ds) ∧ ClsOk Y cs ds
  | _, _ => False
/-- what is known at σb is known at σ -/
def Wk (σb σ : L2.St) : Prop := σb.length = σ.length ∧ (∀ (j : Nat) v, σb[j]? = some (some v) → σ[j]? = some (some v))
/-- the names of the clauses to come are not known yet -/
def Kn (σ : L2.St) (ds : List Cl) : Prop := ∀ (j : Nat) v, σ[j]? = some (some v) → j ∉ ownsOf ds
theorem Wk.wiped {σb σ : L2.St} {d : Cl} {ds : List Cl} (wk : Wk σb σ) (kn : Kn σ (d :: ds)) : Wk σb (wipe σ d.vs) := by
  refine ⟨wk.1.trans (wipe_length _ _).symm, fun j v e => ?_⟩
  have e1 := wk.2 j v e
  rw [wipe_out fun z => kn j v e1 (List.mem_append_left _ z)]
  exact e1
theorem Wk.of_wipe {σ0 σ : L2.St} {vs : List Nat} (h : wipe σ vs = wipe σ0 vs) : Wk (wipe σ0 vs) σ := by
  refine ⟨by rw [← h, wipe_length], fun j v e => ?_⟩
  rw [← h] at e
  exact (wipe_some e).1
theorem Kn.next {σ σ2 : L2.St} {d : Cl} {ds : List Cl} (kn : Kn σ (d :: ds)) (hv : ∀ i ∈ d.vs, i ∉ ownsOf ds) (h : wipe σ2 d.vs = wipe σ d.vs) : Kn σ2 ds := by
  intro j v e
  by_cases hj : j ∈ d.vs
  · exact hv j hj
  · have e2 : (wipe σ2 d.vs)[j]? = some (some v) := by rw [wipe_out hj]; exact e
    rw [h] at e2
    exact fun z => kn j v (wipe_some e2).1 (List.mem_append_right _ z)
/-- one turn of a clause, from what is walked -/
theorem turn_of {Y : Cx} {elt : Expr} {gs : List Comprehension} {sc : Scope} {ps : Pos} {D : Addr} {k : Nat} {tg : Expr} {ifs : List Expr} {J : L2.It} {fp : List Addr} {it : Addr} {tn : Nat → Heap → Prop} {g : TG} {tt : TT} {vs : List Nat} {pins : List (Addr × Obj)} {σ0 : L2.St} {te : L2.St → Hp → (Hp → Prop) → Prop}
    {Fin : Shared → Prop} {W : Nat → Nat → Hp → Prop} {FinH : Hp → Prop} (hc : Y.calm = true) (hxe : Y.xe = noE) (T : Turn Y.prog Y.w Y.K tg J fp it tn) (pg : PG Y tg g) (pt : PTs Y ifs tt)
    (fk : ∀ (H : Hp) (s : Shared), Inv Y pins (wipe σ0 vs) H s → (∀ b ∈ fp, H b = none) → ∀ b ∈ fp, FpOk Y pins H b)
    (fin : ∀ (s : Shared) (H : Hp), Inv Y pins (wipe σ0 vs) H s → FinH H → Fin s)
    (hW : ∀ i m H, W i m H → (J.stop i H ∧ FinH H) ∨ (J.go i H ∧ ∃ Nx : Hp → Prop, (∀ H', Nx H' → ∃ m', m' < m ∧ W (i + 1) m' H') ∧ ∀ x H', J.yld i H x H' → g x (wipe σ0 vs) H' fun σ2 H2 => wipe σ2 vs = wipe σ0 vs ∧ tt σ2 H2 fun b H3 => if b = true then te σ2 H3 Nx else Nx H3))
    (give : ∀ (pins' : List (Addr × Obj)) (σ2 : L2.St) (H3 : Hp) (s3 : Shared) (Nx : Hp → Prop) (G : Shared → Prop), Inv Y pins' σ2 H3 s3 → wipe σ2 vs = wipe σ0 vs → te σ2 H3 Nx → (∀ (σ9 : L2.St) (s' : Shared) (H' : Hp), Inv Y pins' σ9 H' s' → Wk (wipe σ0 vs) σ9 → Nx H' → G s') → Give Y elt gs sc ps D k G s3)
    (n : Nat) (s : Shared) (h : ∃ j H, Inv Y pins (wipe σ0 vs) H s ∧ tn j s.heap ∧ (∀ b ∈ fp, H b = none) ∧ W j n H) :
    TurnP Y elt gs sc ps D k tg ifs (.ref it) Fin (fun s' => ∃ m, m < n ∧ ∃ j H, Inv Y pins (wipe σ0 vs) H s' ∧ tn j s'.heap ∧ (∀ b ∈ fp, H b = none) ∧ W j m H) s := by
  obtain ⟨j, H, I, st, nf, w⟩ := h
  unfold TurnP
  rcases hW j n H w with ⟨stop, z⟩ | ⟨go, Nx, hNx, step⟩
  · apply wpAny_mono (T.done Y rfl rfl rfl hc j pins s (wipe σ0 vs) H noE I (fk H s I nf) st stop) _ (fun _ _ z => z)
    rintro r s2 ⟨rfl, I2⟩
    exact fin s2 H I2 z
  · apply wpAny_mono (T.item Y rfl rfl rfl hc j pins s (wipe σ0 vs) H noE I (fk H s I nf) st go) _ (fun _ _ z => z)
    rintro r s2 ⟨u, rfl, h2⟩
    apply wpAny_mono h2 _ (fun _ _ z => z)
    rintro _ s3 ⟨x, H3, I3, r3, y3, st3, n3⟩
    have I3' := I3.pinned (fk H3 s3 I3 n3) (T.obj _ _ st3)
    have q := pg.run _ s3 (wipe σ0 vs) H3 x u _ I3' r3 (step x H3 y3)
    rw [hxe] at q
    apply wpAny_mono q _ (fun _ _ z => z)
    rintro _ s4 ⟨σ4, H4, I4, hw4, q4⟩
    have q5 := pt.run _ s4 σ4 H4 _ I4 q4
    rw [hxe] at q5
    apply wpAny_mono q5 _ (fun _ _ z => z)
    rintro b s5 ⟨H5, I5, q6⟩
    have back : ∀ (σ9 : L2.St) (s' : Shared) (H' : Hp), Inv Y (pins ++ pinsAt fp s3.heap) σ9 H' s' → Wk (wipe σ0 vs) σ9 → Nx H' → ∃ m, m < n ∧ ∃ j H, Inv Y pins (wipe σ0 vs) H s' ∧ tn j s'.heap ∧ (∀ b ∈ fp, H b = none) ∧ W j m H := by
      intro σ9 s' H' I' wk nx
      obtain ⟨m', hm, w'⟩ := hNx H' nx
      have pk : ∀ b ∈ fp, ∀ o, s3.heap.get? b = some o → s'.heap.get? b = some o ∧ H' b = none := by
        intro b hb o e
        have z := I'.pin (b, o) (List.mem_append_right _ (List.mem_append_right _ (mem_pinsAt hb e)))
        exact ⟨z.1, z.2.1⟩
      refine ⟨m', hm, j + 1, H', I'.unpinned.weak wk.1 wk.2, T.keep _ _ _ st3 (fun b hb o e => (pk b hb o e).1), ?_, w'⟩
      intro b hb
      obtain ⟨o, e, _⟩ := T.obj _ _ st3 b hb
      exact (pk b hb o e).2
    cases b with
    | false => exact back σ4 s5 H5 I5 (Wk.of_wipe hw4) q6
    | true => exact give _ σ4 H5 s5 Nx _ I5 hw4 q6 back
theorem drop_at {α : Type} {l cs : List α} {k : Nat} {c : α} (h : l.drop k = c :: cs) : l[k]? = some c ∧ l.drop (k + 1) = cs := by
  constructor
  · have := congrArg (·[0]?) h
    simpa using this
  · rw [← List.drop_drop, h]; rfl
theorem give_run {Y : Cx} {elt : Expr} {gs : List Comprehension} {sc : Scope} {ps : Pos} {te : TE} {D : Addr} (hc : Y.calm = true) (hxe : Y.xe = noE) (pe : PE Y elt te) :
    ∀ (cs : List Comprehension) (ds : List Cl) (k : Nat), gs.drop (k + 1) = cs → ClsOk Y cs ds → ∀ (pins : List (Addr × Obj)) (σb σ : L2.St) (H : Hp) (s : Shared) (N : Hp → Prop) (G : Shared → Prop), Inv Y pins σ H s → Wk σb σ → Kn σ ds → tCl ds te D σ H N →
      (∀ (σ9 : L2.St) (s' : Shared) (H' : Hp), Inv Y pins σ9 H' s' → Wk σb σ9 → N H' → G s') → Give Y elt gs sc ps D k G s
  | [], [], k, hk, _, pins, σb, σ, H, s, N, G, I, wk, kn, h, hG => by
    have e : gs[k + 1]? = none := by
      have := congrArg (·[0]?) hk
      simpa using this
    unfold Give
    rw [e]
    have q := pe.run pins s σ H _ I h
    rw [hxe] at q
    apply wpAny_mono q _ (fun _ _ z => z)
    rintro z s2 ⟨yv, H2, I2, r2, acc, hD, hz, nx⟩
    exact app_ok (X := Y) I2 hD hz r2 fun s3 I3 => hG σ s3 _ I3 wk nx
  | [], _ :: _, _, _, hcl, _, _, _, _, _, _, _, _, _, _, _, _ => hcl.elim
  | _ :: _, [], _, _, hcl, _, _, _, _, _, _, _, _, _, _, _, _ => hcl.elim
  | c :: cs, d :: ds, k, hk, hcl, pins, σb, σ, H, s, N, G, I, wk, kn, h, hG => by
    obtain ⟨ha, hi, hg, ht, hs, hv, hcl⟩ := hcl
    obtain ⟨tg, iter, ifs, as⟩ := c
    obtain rfl : as = 0 := ha
    obtain ⟨e1, e2⟩ := drop_at hk
    unfold Give
    rw [e1]
    have q := hi.run pins s σ H _ I h
    rw [hxe] at q
    apply wpAny_mono q _ (fun _ _ z => z)
    intro xv s2 h2
    apply wpAny_mono h2 _ (fun _ _ z => z)
    rintro iv s3 ⟨it, fp, tn, J, H3, rfl, I3, T, st3, f3, W, ⟨m0, w0⟩, turn⟩
    have hn : ∀ c', gs[k + 1 + 1]? = some c' → c'.is_async = 0 ∧ ∀ x, foldedSetIterable c'.iter Y.env x = pure x := by
      intro c' hc'
      cases cs with
      | nil =>
        have := congrArg (·[0]?) e2
        simp [hc'] at this
      | cons c2 cs2 =>
        have e3 := (drop_at e2).1
        rw [hc'] at e3
        cases e3
        cases ds with
        | nil => exact hcl.elim
        | cons d2 ds2 => exact ⟨hcl.1, hcl.2.2.2.2.1⟩
    have body := turn_of (elt := elt) (gs := gs) (sc := sc) (ps := ps) (D := D) (k := k + 1) (vs := d.vs) (pins := pins) (σ0 := σ) (te := fun σ2 H3 Nx => tCl ds te D σ2 H3 Nx) (Fin := G) (FinH := N) hc hxe T hg ht
      (fun H' s' _ nf b hb => ⟨nf b hb, (f3 b hb).2⟩) (fun s' H' I' nx => hG _ s' H' I' (wk.wiped kn) nx) turn
      (fun pins' σ2 H3 s3 Nx G' I' hw h' hb => give_run hc hxe pe cs ds (k + 1) e2 hcl pins' (wipe σ d.vs) σ2 H3 s3 Nx G' I' (Wk.of_wipe hw) (kn.next hv hw) h' hb)
    have start : ∃ j H', Inv Y pins (wipe σ d.vs) H' s3 ∧ tn j s3.heap ∧ (∀ b ∈ fp, H' b = none) ∧ W j m0 H' := ⟨0, H3, I3.weak (wipe_length _ _) (fun j v e => (wipe_some e).1), st3, fun b hb => (f3 b hb).1, w0⟩
    have L := loop_code (R := okR G) (it := .ref it) (ps := ps) (sc := sc) (elt := elt) (D := D) e1 hn _ body start
    exact start_code e1 L fun E => T.self Y.A 0 _ _ _ st3 L
/-! the whole comprehension -/
def tLcN (d : Cl) (ds : List Cl) (te : TE) (vs : List Nat) : TE := fun σ H Q => d.wi σ H fun J H1 => ∀ D, H1 D = none → ∃ W : Nat → Nat → Hp → Prop, (∃ m, W 0 m (upd H1 D (.lst []))) ∧ ∀ i m H, W i m H → (J.stop i H ∧ Q (.ref D) H) ∨ (J.go i H ∧ ∃ Nx : Hp → Prop, (∀ H', Nx H' → ∃ m', m' < m ∧ W (i + 1) m' H') ∧
  ∀ x H', J.yld i H x H' → d.g x (wipe (wipe σ vs) d.vs) H' fun σ2 H2 => wipe σ2 d.vs = wipe (wipe σ vs) d.vs ∧ d.tt σ2 H2 fun b H3 => if b = true then tCl ds te D σ2 H3 Nx else Nx H3)
/-- the clauses' rules, in any block -/
structure BlkR (X : Cx) (scope : Scope) (P : Cx → Prop) : Prop where
  at_ : ∀ (s : Shared) (H : Hp) (C : Addr) (cl : List (Str × Addr)) (fp : List Addr), P (X.blk s H scope (compEnvC scope cl C X.env) fp)
section
variable {X : Cx} {elt : Expr} {scope : Scope} {own : List (Str × Nat)} {pos : Pos} {te : TE} {tg iter : Expr} {ifs : List Expr} {cs : List Comprehension} {d : Cl} {ds : List Cl}
theorem kn_wiped {σ : L2.St} {vs : List Nat} (h : ∀ i ∈ ownsOf (d :: ds), i ∈ vs) : Kn (wipe σ vs) (d :: ds) := fun j v e z => (wipe_some e).2 (h j z)
theorem lcN_core {pins : List (Addr × Obj)} {s : Shared} {σ : L2.St} {H : Hp} {Q : VK} {pos' : Pos} {use : Option (Value → Sem Unit)} {Qf : Value → Shared → Prop} (hc : X.calm = true) (hN : X.N.Nodup) (I : Inv X pins σ H s) (hi : PI X tg iter d.wi) (ok : BlkOk X.N X.env.scope scope own)
    (hs : ∀ x, foldedSetIterable iter X.env x = pure x) (hg : BlkR X scope fun Y => PG Y tg d.g) (ht : BlkR X scope fun Y => PTs Y ifs d.tt) (hv : ∀ i ∈ d.vs, i ∉ ownsOf ds) (ho : ∀ i ∈ ownsOf (d :: ds), i ∈ own.map (·.2)) (hcl : BlkR X scope fun Y => ClsOk Y cs ds) (he : BlkR X scope fun Y => PE Y elt te)
    (h : tLcN d ds te (own.map (·.2)) σ H Q)
    (post : ∀ D C s' m H', Inv X pins σ H' s' → Q (.ref D) H' → s'.heap.Ns C m → FpOk X pins H' C → compPost (model X.prog X.w) X.A X.xe use Qf (.ref D) C (.ok .next) s') :
    wpAny (model X.prog X.w) X.A (comprehension (.ListComp elt (⟨tg, iter, ifs, 0⟩ :: cs) scope pos) scope X.env pos' (newList []) false (eval iter X.env) use) Qf X.xe s := by
  have hfr : ∀ y ∈ scope.names, y.2 = .free → ∃ c, X.env.cells.lookup y.1 = some c := by
    intro y hy e
    rcases ok.free y hy e with k | k
    · exact I.ok.has _ (.inl k)
    · exact I.ok.has _ (.inr k)
  apply wpAny_comprehension_free (e := .ListComp elt (⟨tg, iter, ifs, 0⟩ :: cs) scope pos) (use := use) rfl hs (closure_ok hfr) ok.kind (fun y hy e => by rw [ok.uniq y hy, e])
  apply wpAny_mono (hi.run pins s σ H _ I h) _ (fun _ _ z => z)
  intro xv s1 hx
  apply wpAny_mono hx _ (fun _ _ z => z)
  rintro itv s2 ⟨it, fp, tn, J, H2, rfl, I2, T, st2, f2, q⟩
  refine wpAny_newObj_type ?_ (by show 0 ≤ sizeLine; decide)
  refine newEnv_comp ?_
  generalize eD : s2.heap.objs.size = D
  obtain ⟨W, ⟨m0, w0⟩, turn⟩ := q D (I2.hok.fresh (Nat.le_of_eq eD))
  generalize es3 : ({ s2 with heap := s2.heap.push { cls := .type "list", data := .seq ([] : List Value).toArray } } : Shared) = s3
  have hp3 : s3.heap = s2.heap.push { cls := .type "list", data := .seq ([] : List Value).toArray } := by rw [← es3]
  have I3 : Inv X pins σ (upd H2 D (.lst [])) s3 := by
    rw [← es3]
    apply I2.laid (t' := s2.toks) (fun b o e => Heap.get?_push_of_some _ e) (Nat.le_of_eq eD)
    refine ⟨Nat.zero_le _, [], 0, .nil, ?_⟩
    rw [← eD]
    exact Heap.get?_push_size _ rfl
  have low : ∀ b ∈ fp, b < s2.heap.objs.size := by
    intro b hb
    obtain ⟨o, e, _⟩ := T.obj _ _ st2 b hb
    exact Heap.lt_size e
  have f3 : ∀ b ∈ fp, FpOk X pins (upd H2 D (.lst [])) b ∧ b < s3.heap.objs.size := by
    intro b hb
    have hlt := low b hb
    refine ⟨⟨?_, (f2 b hb).2⟩, by rw [hp3, Heap.size_push]; exact Nat.lt_succ_of_lt hlt⟩
    rw [upd_ne (by rw [← eD]; exact Nat.ne_of_lt hlt)]
    exact (f2 b hb).1
  have st3 : tn 0 s3.heap := by
    apply T.keep _ _ _ st2
    intro b _ o e
    rw [hp3]
    exact Heap.get?_push_of_some _ e
  have I4 := block_start I3 ok hN f3
  have pg := hg.at_ s3 (upd H2 D (.lst [])) s3.heap.objs.size (cellsFrom (s3.heap.objs.size + 1) scope.names (cloFrom X.env.cells scope.names [])) fp
  have pt := ht.at_ s3 (upd H2 D (.lst [])) s3.heap.objs.size (cellsFrom (s3.heap.objs.size + 1) scope.names (cloFrom X.env.cells scope.names [])) fp
  have pe := he.at_ s3 (upd H2 D (.lst [])) s3.heap.objs.size (cellsFrom (s3.heap.objs.size + 1) scope.names (cloFrom X.env.cells scope.names [])) fp
  have pc := hcl.at_ s3 (upd H2 D (.lst [])) s3.heap.objs.size (cellsFrom (s3.heap.objs.size + 1) scope.names (cloFrom X.env.cells scope.names [])) fp
  show codeAny _ _ (.compStart (.ListComp elt (⟨tg, iter, ifs, 0⟩ :: cs) scope pos) 0 (.ref it) (.ref D) (compEnvC scope (cellsFrom (s3.heap.objs.size + 1) scope.names (cloFrom X.env.cells scope.names [])) s3.heap.objs.size X.env)) (compPost (model X.prog X.w) X.A X.xe use Qf (.ref D) s3.heap.objs.size) { s3 with heap := pushCells (s3.heap.push { cls := .type "dict", data := .dict #[] }) scope.names }
  have nf : ∀ b ∈ fp, (upd H2 D (.lst [])) b = none := fun b hb => (f3 b hb).1.1
  generalize ece : compEnvC scope (cellsFrom (s3.heap.objs.size + 1) scope.names (cloFrom X.env.cells scope.names [])) s3.heap.objs.size X.env = ce at I4 pg pt pe pc ⊢
  have cL : ce.locals = s3.heap.objs.size := by subst ece; rfl
  generalize eH : upd H2 D (.lst []) = H3 at I3 I4 pg pt pe pc w0 nf f3
  generalize es4 : ({ s3 with heap := pushCells (s3.heap.push { cls := .type "dict", data := .dict #[] }) scope.names } : Shared) = s4 at I4 ⊢
  have st4 : tn 0 s4.heap := by
    apply T.keep _ _ _ st3
    intro b _ o e
    rw [← es4]
    exact pushCells_keeps _ _ _ _ (Heap.get?_push_of_some _ e)
  let Y : Cx := X.blk s3 H3 scope ce fp
  have hn : ∀ c', (⟨tg, iter, ifs, 0⟩ :: cs : List Comprehension)[0 + 1]? = some c' → c'.is_async = 0 ∧ ∀ x, foldedSetIterable c'.iter Y.env x = pure x := by
    intro c' hc'
    cases cs with
    | nil => cases hc'
    | cons c2 cs2 =>
      cases hc'
      cases ds with
      | nil => exact pc.elim
      | cons d2 ds2 => exact ⟨pc.1, pc.2.2.2.2.1⟩
  have body := turn_of (Y := Y) (elt := elt) (gs := ⟨tg, iter, ifs, 0⟩ :: cs) (sc := scope) (ps := pos) (D := D) (k := 0) (vs := d.vs) (pins := []) (σ0 := wipe σ (own.map (·.2))) (te := fun σ2 H3 Nx => tCl ds te D σ2 H3 Nx)
    (Fin := fun s' => compPost (model X.prog X.w) X.A X.xe use Qf (.ref D) s3.heap.objs.size (.ok .next) s') (FinH := fun H' => Q (.ref D) H') hc rfl T pg pt
    (fun H' s' I' n' b hb => ⟨n' b hb, (I'.ok.exf b hb).1, I'.ok.exfs b hb, .inl hb, fun x c e => (I'.ok.exf b hb).2 x c e, fun p hp => absurd (show p ∈ ([] : List (Addr × Obj)) ++ [] from hp) (by simp)⟩)
    (fun s6 H5 I6 qq => by
      have I7 : Inv X pins σ H5 s6 := by
        apply I3.call' (ch := fp) I6.os I6.base I6.hok I6.bare
        intro b hb
        have f := (f3 b hb).1.2
        exact ⟨f.2.2.1, f.1, f.2.2.2.1, f.2.2.2.2⟩
      have nC : H5 s3.heap.objs.size = none := by
        have z : H5 ce.locals = none := I6.free
        rw [cL] at z
        exact z
      obtain ⟨m, hm, _⟩ := I6.loc
      have hm : s6.heap.Ns ce.locals m := hm
      rw [cL] at hm
      exact post D s3.heap.objs.size s6 m H5 I7 qq hm (I3.fpOk (Nat.le_refl _) nC))
    turn
    (fun pins' σ2 H5 s5 Nx G' I' hw h' hb => give_run (Y := Y) hc rfl pe cs ds 0 rfl pc pins' (wipe (wipe σ (own.map (·.2))) d.vs) σ2 H5 s5 Nx G' I' (Wk.of_wipe hw) ((kn_wiped ho).next hv hw) h' hb)
  have start : ∃ j H', Inv Y [] (wipe (wipe σ (own.map (·.2))) d.vs) H' s4 ∧ tn j s4.heap ∧ (∀ b ∈ fp, H' b = none) ∧ W j m0 H' := ⟨0, H3, I4.weak (wipe_length _ _) (fun j v e => (wipe_some e).1), st4, nf, w0⟩
  have L := loop_code (Y := Y) (R := compPost (model X.prog X.w) X.A X.xe use Qf (.ref D) s3.heap.objs.size) (it := .ref it) (ps := pos) (sc := scope) (elt := elt) (D := D) (gs := ⟨tg, iter, ifs, 0⟩ :: cs) (k := 0) rfl hn _ body start
  exact start_code (Y := Y) rfl L fun E => T.self X.A 0 _ _ _ st4 L
theorem pe_lcN (hc : X.calm = true) (hN : X.N.Nodup) (hi : PI X tg iter d.wi) (ok : BlkOk X.N X.env.scope scope own) (hs : ∀ x, foldedSetIterable iter X.env x = pure x) (hg : BlkR X scope fun Y => PG Y tg d.g) (ht : BlkR X scope fun Y => PTs Y ifs d.tt)
    (hv : ∀ i ∈ d.vs, i ∉ ownsOf ds) (ho : ∀ i ∈ ownsOf (d :: ds), i ∈ own.map (·.2)) (hcl : BlkR X scope fun Y => ClsOk Y cs ds) (he : BlkR X scope fun Y => PE Y elt te) : PE X (.ListComp elt (⟨tg, iter, ifs, 0⟩ :: cs) scope pos) (tLcN d ds te (own.map (·.2))) := by
  constructor
  intro pins s σ H Q I h
  rw [eval_ListComp]
  apply lcN_core hc hN I hi ok hs hg ht hv ho hcl he h
  intro D C s' m H' I' q hn f
  refine ⟨m, hn, fun h2 sb => ?_⟩
  obtain ⟨f0, f1, f2, f3, f4, f5⟩ := f
  exact ⟨.ref D, H', I'.turned (t' := s'.toks) (fun b o hb e => (sb.2 b hb).trans e) f0 f1 f3 f4 f5, rfl, q⟩
theorem ps_setLcN {i : Nat} {y : Str} {py spos : Pos} (hc : X.calm = true) (hN : X.N.Nodup) (hy : X.N[i]? = some y) (hyl : X.env.scope.names.lookup y = some .local) (hsw : swapsWith (.ListComp elt (⟨tg, iter, ifs, 0⟩ :: cs) scope pos) (some (.Name y py)) spos.line X.env = pure true)
    (hi : PI X tg iter d.wi) (ok : BlkOk X.N X.env.scope scope own) (hs : ∀ x, foldedSetIterable iter X.env x = pure x) (hg : BlkR X scope fun Y => PG Y tg d.g) (ht : BlkR X scope fun Y => PTs Y ifs d.tt)
    (hv : ∀ i ∈ d.vs, i ∉ ownsOf ds) (ho : ∀ i ∈ ownsOf (d :: ds), i ∈ own.map (·.2)) (hcl : BlkR X scope fun Y => ClsOk Y cs ds) (he : BlkR X scope fun Y => PE Y elt te) :
    PS X (.Assign [.Name y py] (.ListComp elt (⟨tg, iter, ifs, 0⟩ :: cs) scope pos) spos) (tAsg (tLcN d ds te (own.map (·.2))) (gName i)) := by
  constructor
  intro pins s σ H En I h
  rw [exec_Assign_Name_used _ _ _ _ hsw]
  apply wpAny_bind
  apply wpAny_standAt
  apply wpAny_bind
  show wpAny _ X.A (do
    let _ ← comprehension (.ListComp elt (⟨tg, iter, ifs, 0⟩ :: cs) scope pos) scope X.env (firstIterPos (⟨tg, iter, ifs, 0⟩ :: cs) pos) (newList []) false (eval iter X.env) (some (assign (.Name y py) X.env))) _ _ s
  have h' : tLcN d ds te (own.map (·.2)) σ H (fun x H1 => gName i x σ H1 En.nx) := h
  have core := lcN_core (pos := pos) (elt := elt) (pos' := firstIterPos (⟨tg, iter, ifs, 0⟩ :: cs) pos) (use := some (assign (.Name y py) X.env)) (Qf := fun _ s' => SP X pins En .next s') hc hN I hi ok hs hg ht hv ho hcl he h' (by
    intro L C s' m H' I' q hn f
    show wpAny _ _ (assign (.Name y py) X.env (.ref L)) _ _ _
    apply wpAny_assign_Name
    apply store_ok2 (v := V.ref L) I' hN hy (.inl hyl) rfl _ (.inr hyl)
    rintro s2 I2 ⟨a, sb, ha⟩
    obtain ⟨f0, f1, f2, f3, f4, f5⟩ := f
    have hne : C ≠ a := by
      rcases ha with z | z
      · rw [z]; exact f1
      · exact fun e => f4 y a z e.symm
    exact ⟨m, hn.sameBut sb hne, fun h3 sb3 => ⟨_, H', I2.turned (t' := s2.toks) (fun b o hb e => (sb3.2 b hb).trans e) f0 f1 f3 f4 f5, q⟩⟩)
  apply wpAny_bind
  apply wpAny_mono core _ (fun _ _ z => z)
  intro _ s' hq
  exact wpAny_pure (wpAny_pure hq)
end
/-! told by plain data -/
section
variable {c : Cc}
/-- what encloses a clause: it stays while the list at x grows -/
structure Encl (x : Addr) (Jv : Hp → Prop) : Prop where
  same : ∀ H H', Same H H' → Jv H → Jv H'
  push : ∀ H vs v, Jv H → H x = some (.lst vs) → Jv (upd H x (.lst (vs ++ [v])))
def AccJ (c : Cc) (x : Addr) (φ : List Addr) (Jv : Hp → Prop) (acc : List D) (H : Hp) : Prop := (∃ vs, H x = some (.lst vs) ∧ MP.RepL c.R H (x :: c.B) φ acc vs) ∧ Jv H
theorem AccJ.same {x : Addr} {φ : List Addr} {Jv : Hp → Prop} {acc : List D} {H H' : Hp} (e : Encl x Jv) (h : AccJ c x φ Jv acc H) (q : Same H H') : AccJ c x φ Jv acc H' := by
  obtain ⟨⟨vs, h1, h2⟩, h3⟩ := h
  exact ⟨⟨vs, q _ _ h1, RepL.same q h2⟩, e.same _ _ q h3⟩
theorem AccJ.push {x : Addr} {φ : List Addr} {Jv : Hp → Prop} {acc : List D} {H : Hp} {vs : List V} {d : D} {v : V} (e : Encl x Jv) (h : AccJ c x φ Jv acc H) (hx : H x = some (.lst vs)) (r : MP.Rep c.R H (x :: c.B) φ d v) : AccJ c x φ Jv (acc ++ [d]) (upd H x (.lst (vs ++ [v]))) := by
  obtain ⟨⟨vs', h1, h2⟩, h3⟩ := h
  rw [hx] at h1
  cases h1
  exact ⟨⟨vs ++ [v], upd_same, RepL.off (.l hx) off_upd _ _ (h2.append (RepL.one r))⟩, e.push _ _ _ h3 hx⟩
/-- a clause with its block's names -/
structure ClM where
  own : List Nat
  tg : Tg
  it : Xs
  t : Xt
def ClM.rd (c : Cc) (q : ClM) : Cl := ⟨TIx c q.it, TGb c q.tg, TTb c q.t, q.own⟩
noncomputable def nestM : List ClM → Xs → Xs
  | [], r => r
  | q :: qs, r => xInN q.own (asgT q.tg) q.it q.t (nestM qs r)
theorem inN_inv {own1 : List Nat} {g1 : Xg} {it1 : Xs} {t1 : Xt} {rest : Xs} {s : Sl} {m : Mm} {ys : List D} (h : xInN own1 g1 it1 t1 rest s m = some (.ok ys)) : ∃ ds, it1 s m = some (.ok ds) ∧ compL (xTurn g1 t1 rest (wipeD s own1) m) ds = some (.ok ys) := by
  have h' : bd (it1 s m) (fun ds => compL (xTurn g1 t1 rest (wipeD s own1) m) ds) = some (.ok ys) := h
  cases e1 : it1 s m with
  | none => rw [e1] at h'; cases h'
  | some r =>
    cases r with
    | exc x fs => rw [e1] at h'; cases h'
    | ok ds => rw [e1] at h'; exact ⟨ds, rfl, h'⟩
theorem tcl_of {e : Xe} {x : Addr} {φ : List Addr} {m : Mm} (n0 : c.H0 x = none) : ∀ (qs : List ClM), (∀ q ∈ qs, tgIn q.own q.tg = true) → ∀ (sl : Sl) (σ : L2.St) (H : Hp) (acc zs : List D) (N : Hp → Prop) (Jv : Hp → Prop), Encl x Jv → MP.SR c.R c.H0 (x :: c.B) sl φ m σ H → AccJ c x φ Jv acc H →
    nestM qs (xOne e) sl m = some (.ok zs) → (acc ++ zs).length ≤ sizeLine → (∀ H', AccJ c x φ Jv (acc ++ zs) H' → N H') → tCl (qs.map (ClM.rd c)) (TEb c e) x σ H N
  | [], _, sl, σ, H, acc, zs, N, Jv, en, sr, p, hz, hl, hN => by
    obtain ⟨yv, e4, rfl⟩ := one_inv hz
    refine ⟨x :: c.B, sl, φ, m, sr, ok_OutG e4 fun w H4 s4 rw' _ => ?_⟩
    have p4 := p.same en s4
    have ⟨⟨vs4, z1, z2⟩, z3⟩ := p4
    refine ⟨vs4, z1, ?_, hN _ (p4.push en z1 rw')⟩
    rw [← RepL.length z2]
    simp at hl
    omega
  | q :: qs, ho, sl, σ, H, acc, zs, N, Jv, en, sr, p, hz, hl, hN => by
    obtain ⟨ds1, e4, hc1⟩ := inN_inv hz
    refine ⟨x, c.B, sl, φ, m, sr, ok_OutG e4 fun J1 H4 s4 sr4 hw1 => ?_⟩
    have p4 := p.same en s4
    have ⟨⟨vs4, z1, z2⟩, z3⟩ := p4
    have oq := ho q List.mem_cons_self
    -- what encloses the turns
    have en2 : Encl x (fun H' => Jv H' ∧ MP.SR c.R c.H0 (x :: c.B) (wipeD sl q.own) φ m (wipe σ q.own) H' ∧ Off x H4 H') := by
      constructor
      · rintro Ha Hb sa ⟨a1, a2, a3⟩
        exact ⟨en.same _ _ sa a1, a2.same sa, fun b o nb z => sa b o (a3 b o nb z)⟩
      · rintro Ha vs v ⟨a1, a2, a3⟩ hx
        exact ⟨en.push _ _ _ a1 hx, a2.off n0 (.l hx), fun b o nb z => off_upd b o nb (a3 b o nb z)⟩
    refine acc_loop (P := AccJ c x φ (fun H' => Jv H' ∧ MP.SR c.R c.H0 (x :: c.B) (wipeD sl q.own) φ m (wipe σ q.own) H' ∧ Off x H4 H')) (Fin := N)
      (body := fun Nx v H' => (ClM.rd c q).g v (wipe σ q.own) H' fun σ3 H5 => wipe σ3 q.own = wipe σ q.own ∧ (ClM.rd c q).tt σ3 H5 fun b H6 => if b = true then tCl (qs.map (ClM.rd c)) (TEb c e) x σ3 H6 Nx else Nx H6) hc1 (acc0 := acc)
      ⟨⟨vs4, z1, z2⟩, z3, sr4.wipe q.own, fun _ _ _ z => z⟩ (fun H5 ⟨p5, j5, _, o5⟩ => ⟨(hw1 (x :: c.B) φ H5 ⟨rfl, rfl, ⟨vs4, z1⟩, o5⟩).2, hN _ ⟨p5, j5⟩⟩) fun i1 d1 zs1 acc1 rest1 H5 hd1 p5 hs1 he1 => ?_
    have ⟨_, _, sr5, o5⟩ := p5
    obtain ⟨g1, y1⟩ := (hw1 (x :: c.B) φ H5 ⟨rfl, rfl, ⟨vs4, z1⟩, o5⟩).1 i1 d1 hd1
    refine ⟨g1, fun v1 H6 hy1 N1 hN1 => ?_⟩
    obtain ⟨s6, rv1⟩ := y1 v1 H6 hy1
    obtain ⟨sl2, k1, f1, f2, f3⟩ := turn_inv hs1
    have p6 := p5.same en2 s6
    have ⟨_, _, sr6, _⟩ := p6
    refine ⟨x :: c.B, d1, wipeD sl q.own, φ, m, sl2, sr6, rv1, f1, fun σ3 sr7 o7 => ⟨wipe_oth o7 (tgIn_ok q.tg oq), x :: c.B, sl2, φ, m, sr7, ok_OutG f2 fun H7 s7 => ?_⟩⟩
    have p7 := p6.same en2 s7
    rcases f3 with ⟨rfl, f3⟩ | ⟨rfl, rfl⟩
    · show (if true = true then _ else _)
      rw [if_pos rfl]
      refine tcl_of n0 qs (fun q' hq' => ho q' (List.mem_cons_of_mem _ hq')) sl2 σ3 H7 acc1 zs1 N1 _ en2 (sr7.same s7) p7 f3 ?_ hN1
      have t1 : (acc1 ++ (zs1 ++ rest1)).length = (acc ++ zs).length := by rw [he1]
      simp at t1 hl ⊢
      omega
    · show (if false = true then _ else _)
      rw [if_neg Bool.false_ne_true]
      refine hN1 _ ?_
      rw [List.append_nil]
      exact p7
theorem tlcN_of {q : ClM} {qs : List ClM} {own0 : List Nat} {e : Xe} {σ : L2.St} {H : Hp} {Q : VK} (ho : tgIn q.own q.tg = true) (hos : ∀ p ∈ qs, tgIn p.own p.tg = true) (h : TEv c (xCompN own0 q.own (asgT q.tg) q.it q.t (nestM qs (xOne e))) σ H Q) :
    tLcN ⟨TIv c (LC c) q.it, TGb c q.tg, TTb c q.t, q.own⟩ (qs.map (ClM.rd c)) (TEb c e) own0 σ H Q := by
  obtain ⟨s, φ, m, sr, h⟩ := h
  have h1 := OutG.of c h
  refine ⟨s, φ, m, sr, h1.imp c (Same.refl H) fun ds hd J H1 s1 sr1 hw x hx => ?_⟩
  obtain ⟨ys, hc, hl, qq⟩ := comp_end hd
  have n0 : c.H0 x = none := sr1.fresh hx
  have w0 := hw (x :: c.B) φ
  let s0 := wipeD (wipeD s own0) q.own
  let σ0 := wipe (wipe σ own0) q.own
  have en : Encl x (fun H' => MP.SR c.R c.H0 (x :: c.B) s0 φ m σ0 H' ∧ Same H1 H') := by
    constructor
    · rintro Ha Hb sa ⟨a1, a2⟩
      exact ⟨a1.same sa, a2.trans sa⟩
    · rintro Ha vs v ⟨a1, a2⟩ hxa
      refine ⟨a1.off n0 (.l hxa), fun b o z => ?_⟩
      rw [upd_ne (ne_of_none z hx)]
      exact a2 b o z
  have base : AccJ c x φ (fun H' => MP.SR c.R c.H0 (x :: c.B) s0 φ m σ0 H' ∧ Same H1 H') [] (upd H1 x (.lst [])) := ⟨⟨[], upd_same, rfl⟩, ((sr1.wipe own0).wipe q.own).hide hx (.lst []), same_upd hx⟩
  refine acc_loop (P := AccJ c x φ (fun H' => MP.SR c.R c.H0 (x :: c.B) s0 φ m σ0 H' ∧ Same H1 H')) (Fin := fun H' => Q (.ref x) H')
    (body := fun N v H' => TGb c q.tg v σ0 H' fun σ2 H2 => wipe σ2 q.own = σ0 ∧ TTb c q.t σ2 H2 fun b H3 => if b = true then tCl (qs.map (ClM.rd c)) (TEb c e) x σ2 H3 N else N H3) hc base (fun H' p => ?_) fun i d zs acc rest H' hd p hs he => ?_
  · have ⟨⟨vs, h1, h2⟩, h3, h4⟩ := p
    refine ⟨(w0 H' ⟨rfl, h4, .inr ⟨x, hx, rfl⟩⟩).2, ?_⟩
    exact qq _ H' (s1.trans h4) ⟨x, vs, rfl, h1, sr1.newB hx, sr1.newφ hx, RepL.bare _ _ h2⟩ fun _ => ⟨x, rfl, s1.free hx, fun zs e => (by cases e; exact ⟨vs, h1, h2⟩)⟩
  · have ⟨_, _, h4⟩ := p
    obtain ⟨g, y⟩ := (w0 H' ⟨rfl, h4, .inr ⟨x, hx, rfl⟩⟩).1 i d hd
    refine ⟨g, fun v H2 hy N hN => ?_⟩
    obtain ⟨s2, rv⟩ := y v H2 hy
    obtain ⟨sl1, k, e1, e2, e3⟩ := turn_inv hs
    have p2 := p.same en s2
    have ⟨_, sr2, _⟩ := p2
    refine ⟨x :: c.B, d, s0, φ, m, sl1, sr2, rv, e1, fun σ2 sr3 o2 => ⟨wipe_oth o2 (tgIn_ok q.tg ho), x :: c.B, sl1, φ, m, sr3, ok_OutG e2 fun H3 s3 => ?_⟩⟩
    have p3 := p2.same en s3
    rcases e3 with ⟨rfl, e3⟩ | ⟨rfl, rfl⟩
    · show (if true = true then _ else _)
      rw [if_pos rfl]
      refine tcl_of n0 qs hos sl1 σ2 H3 acc zs N _ en (sr3.same s3) p3 e3 ?_ hN
      have t2 : (acc ++ (zs ++ rest)).length = ([] ++ ys).length := by rw [he]
      simp at t2 ⊢
      omega
    · show (if false = true then _ else _)
      rw [if_neg Bool.false_ne_true]
      refine hN _ ?_
      rw [List.append_nil]
      exact p3
/-- a clause with its rules -/
structure ClJ (scope : Scope) (c : Cc) (q : ClM) (g : Comprehension) : Prop where
  as : g.is_async = 0
  tgi : tgIn q.own q.tg = true
  it : AllB c scope fun cb => ∀ L, LOk cb L (fun _ _ _ => True) → JI cb L g.target g.iter q.it
  tg : AllB c scope fun cb => JG cb g.target q.tg
  ts : AllB c scope fun cb => JTs cb g.ifs q.t
  fs : ∀ env x, foldedSetIterable g.iter env x = pure x
def ClJs (scope : Scope) (c : Cc) : List ClM → List Comprehension → Prop
  | [], [] => True
  | q :: qs, g :: gs => ClJ scope c q g ∧ ClJs scope c qs gs
  | _, _ => False
def ownsM : List ClM → List Nat
  | [] => []
  | q :: qs => q.own ++ ownsM qs
theorem owns_map : ∀ qs : List ClM, ownsOf (qs.map (ClM.rd c)) = ownsM qs
  | [] => rfl
  | q :: qs => by
    show q.own ++ ownsOf (qs.map (ClM.rd c)) = _
    rw [owns_map qs]; rfl
def apartM : List ClM → Prop
  | [] => True
  | q :: qs => (∀ i ∈ q.own, i ∉ ownsM qs) ∧ apartM qs
theorem cls_ok {scope : Scope} : ∀ (qs : List ClM) (gs : List Comprehension), ClJs scope c qs gs → apartM qs → BlkR c.X scope fun Y => ClsOk Y gs (qs.map (ClM.rd c))
  | [], [], _, _ => ⟨fun _ _ _ _ _ => trivial⟩
  | [], _ :: _, h, _ => h.elim
  | _ :: _, [], h, _ => h.elim
  | q :: qs, g :: gs, ⟨h, hs⟩, ⟨a, as⟩ => ⟨fun s H C cl fp => ⟨h.as, jiX h.it s H C cl fp, jgB h.tg s H C cl fp, jtB h.ts s H C cl fp, h.fs _, (by rw [owns_map]; exact a), (cls_ok qs gs hs as).at_ s H C cl fp⟩⟩
theorem clj_tgi {scope : Scope} : ∀ (qs : List ClM) (gs : List Comprehension), ClJs scope c qs gs → ∀ p ∈ qs, tgIn p.own p.tg = true
  | [], _, _, p, hp => absurd hp (by simp)
  | _ :: _, [], h, _, _ => h.elim
  | q :: qs, g :: gs, ⟨h, hs⟩, p, hp => (List.mem_cons.mp hp).elim (fun e => by rw [e]; exact h.tgi) (clj_tgi qs gs hs p)
section
variable {elt tgx iterx : Expr} {ifs : List Expr} {scope : Scope} {own : List (Str × Nat)} {pos : Pos} {q : ClM} {qs : List ClM} {gs : List Comprehension} {e : Xe}
/-- all that a comprehension of n clauses asks -/
structure CompJ (c : Cc) (elt tgx iterx : Expr) (ifs : List Expr) (gs : List Comprehension) (scope : Scope) (own : List (Str × Nat)) (q : ClM) (qs : List ClM) (e : Xe) : Prop where
  calm : c.X.calm = true
  nd : c.X.N.Nodup
  it : JI c (LC c) tgx iterx q.it
  ok : BlkOk c.X.N c.X.env.scope scope own
  fs : ∀ x, foldedSetIterable iterx c.X.env x = pure x
  tgi : tgIn q.own q.tg = true
  tg : AllB c scope fun cb => JG cb tgx q.tg
  ts : AllB c scope fun cb => JTs cb ifs q.t
  ap : apartM (q :: qs)
  inn : ∀ i ∈ ownsM (q :: qs), i ∈ own.map (·.2)
  cls : ClJs scope c qs gs
  el : AllB c scope fun cb => JE cb elt e
theorem je_compN (h : CompJ c elt tgx iterx ifs gs scope own q qs e) : JE c (.ListComp elt (⟨tgx, iterx, ifs, 0⟩ :: gs) scope pos) (xCompN (own.map (·.2)) q.own (asgT q.tg) q.it q.t (nestM qs (xOne e))) := by
  have ho : ∀ i ∈ ownsOf ((⟨TIv c (LC c) q.it, TGb c q.tg, TTb c q.t, q.own⟩ : Cl) :: qs.map (ClM.rd c)), i ∈ own.map (·.2) := by
    intro i hi
    apply h.inn
    show i ∈ q.own ++ ownsM qs
    rw [← owns_map (c := c)]
    exact hi
  have hv : ∀ i ∈ q.own, i ∉ ownsOf (qs.map (ClM.rd c)) := by rw [owns_map]; exact h.ap.1
  exact PE.weak (pe_lcN (d := ⟨TIv c (LC c) q.it, TGb c q.tg, TTb c q.t, q.own⟩) (ds := qs.map (ClM.rd c)) h.calm h.nd h.it h.ok h.fs ⟨jgB h.tg⟩ ⟨jtB h.ts⟩ hv ho (cls_ok qs gs h.cls h.ap.2) ⟨jeB h.el⟩) fun σ H Q z => tlcN_of h.tgi (clj_tgi qs gs h.cls) z
end
end
end MP
set_option Elab.async false
set_option linter.all false
set_option maxRecDepth 100000
set_option autoImplicit false
set_option maxHeartbeats 1000000
/-! statements -/
namespace MP
open PySem PySem.Spec PyProof.Rows L2
variable {c : Cc}

/-! ### states under writes -/
section
variable {K : KX} {H H' H0 : Hp} {B φ : List Addr} {m : Mm} {s : Sl} {σ : L2.St} {a : Addr} {n : Nat} {o o' : MO} {u : HO}
theorem MRep.not_tup {xs : List V} (h : MRep K H B φ o a) : H a ≠ some (.tup xs) := fun e => by
  cases o with
  | lst lk ys => obtain ⟨vs, q, _⟩ := h; rw [q] at e; cases e
  | dk lk ks ys => obtain ⟨vs, q, _⟩ := h; rw [q] at e; cases e
  | dt lk ks ys => obtain ⟨vs, q, _⟩ := h; rw [q] at e; cases e
theorem MRep.not_frz {ob : Obj} {w : HO} (h : MRep K H B φ o a) : H a ≠ some (.frz ob w) := fun e => by
  cases o with
  | lst lk ys => obtain ⟨vs, q, _⟩ := h; rw [q] at e; cases e
  | dk lk ks ys => obtain ⟨vs, q, _⟩ := h; rw [q] at e; cases e
  | dt lk ks ys => obtain ⟨vs, q, _⟩ := h; rw [q] at e; cases e
theorem MRep.not_xd {w : List (Str × V)} (h : MRep K H B φ o a) : H a ≠ some (.xd w) := fun e => by
  cases o with
  | lst lk ys => obtain ⟨vs, q, _⟩ := h; rw [q] at e; cases e
  | dk lk ks ys => obtain ⟨vs, q, _⟩ := h; rw [q] at e; cases e
  | dt lk ks ys => obtain ⟨vs, q, _⟩ := h; rw [q] at e; cases e
theorem nodup_at {φ : List Addr} {n k : Nat} {a : Addr} (h : φ.Nodup) (e1 : φ[n]? = some a) (e2 : φ[k]? = some a) : n = k := by
  obtain ⟨h1, e1⟩ := List.getElem?_eq_some_iff.mp e1
  obtain ⟨h2, e2⟩ := List.getElem?_eq_some_iff.mp e2
  rw [List.nodup_iff_pairwise_ne, List.pairwise_iff_getElem] at h
  rcases Nat.lt_trichotomy n k with z | z | z
  · exact absurd (e1.trans e2.symm) (h n k h1 h2 z)
  · exact z
  · exact absurd (e2.trans e1.symm) (h k n h2 h1 z)
theorem Ext.write (sr : SR K H0 B s φ m σ H) (hn : φ[n]? = some a) (hm : m[n]? = some o) (hl : o.lk = false) : Ext φ m H φ (m.set n o') (upd H a u) := by
  have r := sr.ob n a o hn hm
  refine ⟨⟨[], by simp, by simp⟩, fun b w e nb => ?_, fun b w e => ?_, fun b xs e => ?_, fun b w x e => ?_, fun b x e => ?_, fun k b w e1 e2 e3 => ?_⟩
  · rw [upd_ne (fun z => nb (by rw [z]; exact List.mem_of_getElem? hn))]; exact e
  · by_cases z : b = a
    · subst z; exact ⟨u, upd_same⟩
    · exact ⟨w, by rw [upd_ne z]; exact e⟩
  · rw [upd_ne (fun z => r.not_tup (by rw [← z]; exact e))]; exact e
  · rw [upd_ne (fun z => r.not_frz (by rw [← z]; exact e))]; exact e
  · rw [upd_ne (fun z => r.not_xd (by rw [← z]; exact e))]; exact e
  · have hk : n ≠ k := fun z => by
      subst z
      rw [hm] at e2
      cases e2
      rw [hl] at e3
      cases e3
    refine ⟨by rw [List.getElem?_set_ne hk]; exact e2, fun v q => ?_⟩
    rw [upd_ne (fun z => hk (nodup_at sr.nd hn (by rw [← z]; exact e1)))]
    exact q
theorem SR.write (sr : SR K H0 B s φ m σ H) (hn : φ[n]? = some a) (hm : m[n]? = some o) (hl : o.lk = false) (h : MRep K (upd H a u) B φ o' a) : SR K H0 B s φ (m.set n o') σ (upd H a u) := by
  have x : Ext φ m H φ (m.set n o') (upd H a u) := Ext.write sr hn hm hl
  refine ⟨sr.len, fun i d e => ?_, sr.nd, by rw [List.length_set]; exact sr.ml, fun k b w e1 e2 => ?_, sr.own, sr.dj, fun b hb => ?_, fun b w e => ?_⟩
  · obtain ⟨v, h1, h2⟩ := sr.sl i d e
    exact ⟨v, h1, Rep.ext x d v h2⟩
  · by_cases z : n = k
    · subst z
      rw [hn] at e1
      cases e1
      rw [List.getElem?_set_self (List.getElem?_eq_some_iff.mp hm).1] at e2
      cases e2
      exact h
    · rw [List.getElem?_set_ne z] at e2
      refine MRep.ext x (fun v q => ?_) (sr.ob k b w e1 e2)
      rw [upd_ne (fun y => z (nodup_at sr.nd hn (by rw [← y]; exact e1)))]
      exact q
  · obtain ⟨w, e⟩ := sr.bs b hb
    exact x.dom b w e
  · rw [upd_ne (fun z => by rw [z, sr.own a (List.mem_of_getElem? hn)] at e; cases e)]
    exact sr.gr b w e
/-- a thing that changes, laid at a -/
theorem Ext.alloc (ha : H a = none) (q : Same H H') : Ext φ m H (φ ++ [a]) (m ++ [o]) H' :=
  ⟨⟨[a], rfl, fun b hb => by rw [List.mem_singleton.mp hb]; exact ha⟩, fun b w e _ => q b w e, fun b w e => ⟨w, q b w e⟩, fun b xs e => q b _ e, fun b w x e => q b _ e, fun b x e => q b _ e,
    fun k b w e1 e2 e3 => ⟨by rw [List.getElem?_append_left (List.getElem?_eq_some_iff.mp e2).1]; exact e2, fun v z => q b v z⟩⟩
theorem SR.alloc (sr : SR K H0 B s φ m σ H) (ha : H a = Option.none) (q : Same H H') (h : MRep K H' B (φ ++ [a]) o a) : SR K H0 B s (φ ++ [a]) (m ++ [o]) σ H' := by
  have x : Ext φ m H (φ ++ [a]) (m ++ [o]) H' := Ext.alloc ha q
  refine ⟨sr.len, fun i d e => ?_, ?_, by simp [sr.ml], fun k b w e1 e2 => ?_, fun b hb => ?_, fun b hb => ?_, fun b hb => ?_, fun b w e => q b w (sr.gr b w e)⟩
  · obtain ⟨v, h1, h2⟩ := sr.sl i d e
    exact ⟨v, h1, Rep.ext x d v h2⟩
  · rw [List.nodup_append]
    refine ⟨sr.nd, by simp, fun b hb d hd => ?_⟩
    rw [List.mem_singleton.mp hd]
    exact fun z => sr.newφ ha (by rw [← z]; exact hb)
  · by_cases z : k < φ.length
    · rw [List.getElem?_append_left z] at e1
      rw [List.getElem?_append_left (by rw [← sr.ml]; exact z)] at e2
      exact MRep.ext x (fun v z => q b v z) (sr.ob k b w e1 e2)
    · have hk : k = φ.length := by
        have := (List.getElem?_eq_some_iff.mp e1).1
        simp at this
        omega
      subst hk
      have e1' : b = a := by simpa using e1.symm
      have e2' : o = w := by rw [sr.ml] at e2; simpa using e2
      subst e1' e2'
      exact h
  · rcases List.mem_append.mp hb with z | z
    · exact sr.own b z
    · rw [List.mem_singleton.mp z]; exact sr.fresh ha
  · rcases List.mem_append.mp hb with z | z
    · exact sr.dj b z
    · rw [List.mem_singleton.mp z]; exact sr.newB ha
  · obtain ⟨w, e⟩ := sr.bs b hb
    exact ⟨w, q b w e⟩
/-- .. hidden: it is in no value of the state -/
theorem SR.hideS (sr : SR K H0 B s φ m σ H) (ha : H a = Option.none) (q : Same H H') (h : ∃ u, H' a = some u) : SR K H0 (a :: B) s φ m σ H' := by
  refine ⟨sr.len, fun i d e => ?_, sr.nd, sr.ml, fun n b ob e1 e2 => ?_, sr.own, fun b hb hc => ?_, fun b hb => ?_, fun b ob e => q b ob (sr.gr b ob e)⟩
  · obtain ⟨v, e1, e2⟩ := sr.sl i d e
    exact ⟨v, e1, Rep.same q (Rep.hide ha d v e2)⟩
  · have z := sr.ob n b ob e1 e2
    cases ob with
    | lst lk xs => obtain ⟨vs, h1, h2⟩ := z; exact ⟨vs, q _ _ h1, RepL.same q (RepL.hide ha xs vs h2)⟩
    | dk lk ks xs => obtain ⟨vs, h1, hl, h2⟩ := z; exact ⟨vs, q _ _ h1, hl, RepL.same q (RepL.hide ha xs vs h2)⟩
    | dt lk ks xs => obtain ⟨vs, h1, hl, h2⟩ := z; exact ⟨vs, q _ _ h1, hl, RepL.same q (RepL.hide ha xs vs h2)⟩
  · rcases List.mem_cons.mp hc with e | e
    · subst e; exact sr.newφ ha hb
    · exact sr.dj b hb e
  · rcases List.mem_cons.mp hb with e | e
    · subst e; exact h
    · obtain ⟨w, z⟩ := sr.bs b e; exact ⟨w, q _ _ z⟩
end

/-! ### outcomes -/
def RetOk (c : Cc) (φ : List Addr) (m : Mm) (s : Sl) (σ : L2.St) (H : Hp) (d : D) (fr : Bool) (v : V) : Prop :=
  fr = true → ∃ a, v = .ref a ∧ c.H0 a = none ∧ ∀ xs, d = .lst xs → ∃ vs, H a = some (.lst vs) ∧ MP.RepL c.R H (a :: c.B) φ xs vs ∧ MP.SR c.R c.H0 (a :: c.B) s φ m σ H
def OutS (c : Cc) (D : Ends) (φ : List Addr) (m : Mm) (H : Hp) (r : Os) : Prop :=
  match r with
  | some (.nx s' m') => ∀ σ' H' φ', Ext φ m H φ' m' H' → c.SR s' φ' m' σ' H' → D.nx σ' H'
  | some (.rt d fr m') => ∀ v s' σ' H' φ', Ext φ m H φ' m' H' → c.SR s' φ' m' σ' H' → c.Rep H' φ' d v → RetOk c φ' m' s' σ' H' d fr v → D.rt v H'
  | some (.bk s' m') => ∀ σ' H' φ', Ext φ m H φ' m' H' → c.SR s' φ' m' σ' H' → D.bk σ' H'
  | some (.ct s' m') => ∀ σ' H' φ', Ext φ m H φ' m' H' → c.SR s' φ' m' σ' H' → D.ct σ' H'
  | some (.ex x fs s' m') => ∀ cls d σ' H' φ', Ext φ m H φ' m' H' → c.SR s' φ' m' σ' H' → ExcR c.xi x fs cls d H' → c.W cls d σ' H'
  | none => False
def TSv (c : Cc) (f : Xst) : TS := fun D σ H => ∃ s φ m, c.SR s φ m σ H ∧ OutS c D φ m H (f s m)
abbrev JS (c : Cc) (st : Stmt) (f : Xst) : Prop := PS c.X st (TSv c f)
abbrev JSs (c : Cc) (st : List Stmt) (f : Xst) : Prop := PSs c.X st (TSv c f)
theorem PS.weak {X : Cx} {st : Stmt} {t t' : TS} (h : PS X st t) (w : ∀ D σ H, t' D σ H → t D σ H) : PS X st t' := ⟨fun pins s σ H D I q => h.run pins s σ H D I (w D σ H q)⟩
theorem PSs.weak {X : Cx} {st : List Stmt} {t t' : TS} (h : PSs X st t) (w : ∀ D σ H, t' D σ H → t D σ H) : PSs X st t' := ⟨fun pins s σ H D I q => h.run pins s σ H D I (w D σ H q)⟩
section
variable {En : Ends} {φ φ1 : List Addr} {m m1 : Mm} {H H1 : Hp} {s : Sl} {σ : L2.St} {r : Os}
theorem OutS.imp (h : OutS c En φ m H r) (x : Ext φ m H φ1 m1 H1) : OutS c En φ1 m1 H1 r := by
  cases r with
  | none => exact h
  | some o => cases o with
    | nx s' m' => exact fun σ' H' φ' y sr => h σ' H' φ' (x.trans y) sr
    | rt d fr m' => exact fun v s' σ' H' φ' y sr => h v s' σ' H' φ' (x.trans y) sr
    | bk s' m' => exact fun σ' H' φ' y sr => h σ' H' φ' (x.trans y) sr
    | ct s' m' => exact fun σ' H' φ' y sr => h σ' H' φ' (x.trans y) sr
    | ex x' fs s' m' => exact fun cls d σ' H' φ' y sr => h cls d σ' H' φ' (x.trans y) sr
theorem OutS.ofB {α : Type} {r : Rv α} {k : α → Os} (sr : c.SR s φ m σ H) (h : OutS c En φ m H (bs r s m k)) : OutG c σ H r fun a => OutS c En φ m H (k a) := by
  unfold bs at h
  cases r with
  | none => exact h
  | some a => cases a with
    | ok a => exact h
    | exc x fs => exact fun cls d H' s1 e => h cls d σ H' φ (Ext.same s1) (sr.same s1) e
theorem OutS.ofO {α : Type} {r : Option α} {k : α → Os} (h : OutS c En φ m H (os r k)) : ∃ a, r = some a ∧ OutS c En φ m H (k a) := by
  unfold os at h
  cases r with
  | none => exact h.elim
  | some a => exact ⟨a, rfl, h⟩
theorem OutS.nxt {s' : Sl} {m' : Mm} (h : OutS c En φ m H (MP.nxt s' m')) {σ' : L2.St} {H' : Hp} {φ' : List Addr} (x : Ext φ m H φ' m' H') (sr : c.SR s' φ' m' σ' H') : En.nx σ' H' := by
  rw [nxt_eq] at h
  exact h σ' H' φ' x sr
/-- ahead of an expression -/
theorem TEv.of {f : Xe} {k : D × Bool → Os} {Q : VK} (sr : c.SR s φ m σ H) (h : OutS c En φ m H (bs (f s m) s m k)) (w : ∀ x v H1, Same H H1 → c.SR s φ m σ H1 → c.Rep H1 φ x.1 v → (x.2 = true → FrV c.R c.B φ H H1 x.1 v) → OutS c En φ m H (k x) → Q v H1) : TEv c f σ H Q :=
  TEv.mk sr (OutS.ofB sr h) fun p hp v H1 s1 r f sr1 => w p v H1 s1 sr1 r f hp
theorem TTv.of {f : Xt} {k : Bool → Os} {Q : Bool → Hp → Prop} (sr : c.SR s φ m σ H) (h : OutS c En φ m H (bs (f s m) s m k)) (w : ∀ x H1, Same H H1 → c.SR s φ m σ H1 → OutS c En φ m H (k x) → Q x H1) : TTv c f σ H Q :=
  TTv.mk sr (OutS.ofB sr h) fun p hp H1 s1 sr1 => w p H1 s1 sr1 hp
end

/-! ### the plain ones -/
section
variable {pos : Pos} {st : Stmt} {sts : List Stmt} {f g : Xst} {e : Expr} {fe : Xe}
theorem jss_nil : JSs c [] sPss := PSs.weak pss_nil fun D σ H ⟨s, φ, m, sr, h⟩ => h.nxt Ext.refl sr
theorem tsv_seq {D : Ends} {σ : L2.St} {H : Hp} (h : TSv c (sSeq f g) D σ H) : tSeq (TSv c f) (TSv c g) D σ H := by
  obtain ⟨s, φ, m, sr, h⟩ := h
  refine ⟨s, φ, m, sr, ?_⟩
  have h' : OutS c D φ m H (match f s m with
    | some (.nx s' m') => g s' m'
    | r => r) := h
  cases e : f s m with
  | none => rw [e] at h'; exact h'
  | some o =>
    rw [e] at h'
    cases o with
    | nx s' m' => exact fun σ' H' φ' x sr' => ⟨s', φ', m', sr', OutS.imp h' x⟩
    | rt _ _ _ => exact h'
    | bk _ _ => exact h'
    | ct _ _ => exact h'
    | ex _ _ _ _ => exact h'
theorem jss_cons (h1 : JS c st f) (h2 : JSs c sts g) : JSs c (st :: sts) (sSeq f g) := PSs.weak (pss_cons h1 h2) fun D σ H h => tsv_seq h
theorem js_pass : JS c (.Pass pos) sPss := PS.weak ps_pass fun D σ H ⟨s, φ, m, sr, h⟩ => h.nxt Ext.refl sr
theorem js_doc {x : Str} {j : Nat} {p : Pos} : JS c (.Expr (.Constant (.str x) j p) pos) sPss := PS.weak ps_doc fun D σ H ⟨s, φ, m, sr, h⟩ => h.nxt Ext.refl sr
theorem js_brk : JS c (.Break pos) sBrk := PS.weak ps_break fun D σ H ⟨s, φ, m, sr, h⟩ => h σ H φ Ext.refl sr
theorem js_cnt : JS c (.Continue pos) sCnt := PS.weak ps_continue fun D σ H ⟨s, φ, m, sr, h⟩ => h σ H φ Ext.refl sr
theorem js_nev : JS c st sNev := PS.weak ps_never fun D σ H ⟨s, φ, m, sr, h⟩ => h
theorem js_expr (he : JE c e fe) (hs : swapsWith e none pos.line c.X.env = pure false) : JS c (.Expr e pos) (sExpr fe) :=
  PS.weak (ps_expr he hs) fun D σ H ⟨s, φ, m, sr, h⟩ => TEv.of sr h fun x v H1 s1 sr1 _ _ hk => hk.nxt (Ext.same s1) sr1
theorem js_ret (he : JE c e fe) : JS c (.Return (some e) pos) (sRet fe) := by
  refine PS.weak (ps_ret he) fun D σ H ⟨s, φ, m, sr, h⟩ => TEv.of sr h fun x v H1 s1 sr1 r fr hk => ?_
  refine hk v s σ H1 φ (Ext.same s1) sr1 r fun e => ?_
  obtain ⟨a, e1, e2, e3⟩ := fr e
  refine ⟨a, e1, sr.fresh e2, fun xs ed => ?_⟩
  obtain ⟨vs, z1, z2⟩ := e3 xs ed
  exact ⟨vs, z1, z2, sr.hideS e2 s1 ⟨_, z1⟩⟩
theorem js_retN : JS c (.Return none pos) sRetN := PS.weak ps_retN fun D σ H ⟨s, φ, m, sr, h⟩ => h .non s σ H φ Ext.refl sr rfl fun e => nomatch e
theorem js_if {t : Expr} {a b : List Stmt} {ft : Xt} (ht : JT c t ft) (ha : JSs c a f) (hb : JSs c b g) : JS c (.If t a b pos) (sIte ft f g) := by
  refine PS.weak (ps_if ht ha hb) fun D σ H ⟨s, φ, m, sr, h⟩ => TTv.of sr h fun k H1 s1 sr1 hk => ?_
  cases k with
  | true => exact ⟨s, φ, m, sr1, OutS.imp hk (Ext.same s1)⟩
  | false => exact ⟨s, φ, m, sr1, OutS.imp hk (Ext.same s1)⟩

/-! ### assignments -/
theorem tgv_of {tg : Tg} {En : Ends} {φ : List Addr} {m : Mm} {H H1 : Hp} {s : Sl} {σ : L2.St} {d : D} {v : V} (s1 : Same H H1) (sr1 : c.SR s φ m σ H1) (r : c.Rep H1 φ d v) (h : OutS c En φ m H (os (asgT tg d s) fun s' => nxt s' m)) : TGv c tg v σ H1 En.nx := by
  obtain ⟨s', e, h⟩ := OutS.ofO h
  exact ⟨d, s, φ, m, s', sr1, r, e, fun σ' sr' _ => h.nxt (Ext.same s1) sr'⟩
theorem js_asg {tgx : Expr} {tg : Tg} (he : JE c e fe) (hg : JG c tgx tg) (hs : swapsWithSole [tgx] e pos.line c.X.env = pure false) (hw : swappedStores [tgx] e c.X.env = pure none) (h1 : (assignEach [tgx] c.X.env).map (·.2) = [assign tgx c.X.env]) :
    JS c (.Assign [tgx] e pos) (sAsg (asgT tg) fe) :=
  PS.weak (ps_asg he hg hs hw h1) fun D σ H ⟨s, φ, m, sr, h⟩ => TEv.of sr h fun x v H1 s1 sr1 r _ hk => tgv_of s1 sr1 r hk
/-- what a store at a name leaves -/
theorem gname_of {i : Nat} {En : Ends} {φ : List Addr} {m : Mm} {H H1 : Hp} {s : Sl} {σ : L2.St} {d : D} {v : V} (s1 : Same H H1) (sr1 : c.SR s φ m σ H1) (r : c.Rep H1 φ d v) (h : OutS c En φ m H (nxt (setL s i (some d)) m)) : gName i v σ H1 En.nx := by
  rw [setL_eq] at h
  exact h.nxt (Ext.same s1) (sr1.set i r)
theorem gnew_of {i : Nat} {En : Ends} {φ : List Addr} {m : Mm} {H H1 : Hp} {s : Sl} {σ : L2.St} {x : D × Bool} {v : V} (sr : c.SR s φ m σ H) (s1 : Same H H1) (fr : x.2 = true → FrV c.R c.B φ H H1 x.1 v) (h : OutS c En φ m H (newV i s m x)) : gName i v σ H1 En.nx := by
  obtain ⟨d, k⟩ := x
  unfold newV at h
  cases d with
  | lst xs =>
    cases k with
    | false => exact h.elim
    | true =>
      obtain ⟨a, rfl, e2, e3⟩ := fr rfl
      obtain ⟨vs, z1, z2⟩ := e3 xs rfl
      have sr2 : c.SR s (φ ++ [a]) (m ++ [.lst false xs]) σ H1 := SR.alloc sr e2 s1 ⟨vs, z1, RepL.grow xs vs z2⟩
      have h' : OutS c En φ m H (nxt (setL s i (some (.ref m.length))) (m ++ [.lst false xs])) := h
      rw [setL_eq] at h'
      refine h'.nxt (Ext.alloc e2 s1) (sr2.set i ⟨a, ?_, rfl⟩)
      rw [← sr.ml]; simp
  | _ => cases k <;> exact h.elim
theorem js_set {tgx : Expr} {i : Nat} {x : Str} {p : Pos} (hN : c.X.N.Nodup) (hi : c.X.N[i]? = some x) (hx : Loc c.X.env.scope x) (hf : c.X.fn x = true ∨ c.X.env.scope.names.lookup x = some .local) (he : JE c e fe) (hs : swapsWith e (some (.Name x p)) pos.line c.X.env = pure false) :
    JS c (.Assign [.Name x p] e pos) (sAsgC i fe) :=
  PS.weak (ps_set hN hi hx he hs hf) fun D σ H ⟨s, φ, m, sr, h⟩ => TEv.of sr h fun x v H1 s1 sr1 r _ hk => gname_of s1 sr1 r hk
theorem js_new {i : Nat} {x : Str} {p : Pos} (hN : c.X.N.Nodup) (hi : c.X.N[i]? = some x) (hx : Loc c.X.env.scope x) (hf : c.X.fn x = true ∨ c.X.env.scope.names.lookup x = some .local) (he : JE c e fe) (hs : swapsWith e (some (.Name x p)) pos.line c.X.env = pure false) :
    JS c (.Assign [.Name x p] e pos) (sNew i fe) :=
  PS.weak (ps_set hN hi hx he hs hf) fun D σ H ⟨s, φ, m, sr, h⟩ => TEv.of sr h fun x v H1 s1 sr1 r fr hk => gnew_of sr s1 fr hk
theorem js_newD {i : Nat} {x : Str} {p p2 : Pos} {tk : Bool} (hN : c.X.N.Nodup) (hi : c.X.N[i]? = some x) (hx : Loc c.X.env.scope x) (hf : c.X.fn x = true ∨ c.X.env.scope.names.lookup x = some .local) :
    JS c (.Assign [.Name x p] (.Dict [] [] p2) pos) (sNewD i tk) := by
  have key : ∀ (En : Ends) (s : Sl) (φ : List Addr) (m : Mm) (σ : L2.St) (H : Hp) (a : Addr) (o : MO) (u : HO), c.SR s φ m σ H → H a = none → OutS c En φ m H (nxt (setL s i (some (.ref m.length))) (m ++ [o])) → MRep c.R (upd H a u) c.B (φ ++ [a]) o a → gName i (.ref a) σ (upd H a u) En.nx := fun En s φ m σ H a o u sr ha h hr => by
    rw [setL_eq] at h
    refine h.nxt (Ext.alloc ha (same_upd ha)) ((SR.alloc sr ha (same_upd ha) hr).set i ⟨a, ?_, rfl⟩)
    rw [← sr.ml]; simp
  cases tk with
  | false =>
    exact PS.weak (ps_set hN hi hx pe_dnewK rfl hf) fun D σ H ⟨s, φ, m, sr, h⟩ a ha => key D s φ m σ H a (.dk false [] []) _ sr ha h ⟨[], upd_same, rfl, rfl⟩
  | true =>
    exact PS.weak (ps_set hN hi hx pe_dnewT rfl hf) fun D σ H ⟨s, φ, m, sr, h⟩ a ha => key D s φ m σ H a (.dt false [] []) _ sr ha h ⟨[], upd_same, rfl, rfl⟩
section
variable {i : Nat} {x : Str} {p : Pos} {elt tgx iterx : Expr} {ifs : List Expr} {scope : Scope} {own : List (Str × Nat)} {pc : Pos} {it : Xs} {tg : Tg} {t : Xt} {el : Xe}
theorem js_setC (hc : c.X.calm = true) (hN : c.X.N.Nodup) (hy : c.X.N[i]? = some x) (hyl : c.X.env.scope.names.lookup x = some .local) (hsw : swapsWith (.ListComp elt [⟨tgx, iterx, ifs, 0⟩] scope pc) (some (.Name x p)) pos.line c.X.env = pure true)
    (hi : JI c (LC c) tgx iterx it) (ok : BlkOk c.X.N c.X.env.scope scope own) (ho : tgIn (own.map (·.2)) tg = true) (hg : AllB c scope fun cb => JG cb tgx tg) (ht : AllB c scope fun cb => JTs cb ifs t) (he : AllB c scope fun cb => JE cb elt el)
    (hs : ∀ x, foldedSetIterable iterx c.X.env x = pure x) (nw : Bool) : JS c (.Assign [.Name x p] (.ListComp elt [⟨tgx, iterx, ifs, 0⟩] scope pc) pos) (if nw = true then sNew i (xComp (own.map (·.2)) (asgT tg) it t el) else sAsgC i (xComp (own.map (·.2)) (asgT tg) it t el)) := by
  refine PS.weak (ps_setLc hc hN hy hyl hsw hi ok (jgB hg) (jtB ht) (jeB he) hs) fun D σ H h => ?_
  cases nw with
  | true =>
    obtain ⟨s, φ, m, sr, h⟩ := h
    exact tlc_of ho (TEv.of sr h fun x v H1 s1 sr1 r fr hk => gnew_of sr s1 fr hk)
  | false =>
    obtain ⟨s, φ, m, sr, h⟩ := h
    exact tlc_of ho (TEv.of sr h fun x v H1 s1 sr1 r fr hk => gname_of s1 sr1 r hk)
variable {tgx1 iterx1 : Expr} {ifs1 : List Expr} {it1 : Xs} {tg1 : Tg} {t1 : Xt} {own1 : List Nat}
theorem js_setC2 (hc : c.X.calm = true) (hN : c.X.N.Nodup) (hy : c.X.N[i]? = some x) (hyl : c.X.env.scope.names.lookup x = some .local) (hsw : swapsWith (.ListComp elt [⟨tgx, iterx, ifs, 0⟩, ⟨tgx1, iterx1, ifs1, 0⟩] scope pc) (some (.Name x p)) pos.line c.X.env = pure true)
    (hi : JI c (LC c) tgx iterx it) (ok : BlkOk c.X.N c.X.env.scope scope own) (hv : ∀ i ∈ own1, i ∈ own.map (·.2)) (ho : tgIn (own.map (·.2)) tg = true) (ho1 : tgIn own1 tg1 = true)
    (hg : AllB c scope fun cb => JG cb tgx tg) (ht : AllB c scope fun cb => JTs cb ifs t) (hi1 : AllB c scope fun cb => ∀ L, LOk cb L (fun _ _ _ => True) → JI cb L tgx1 iterx1 it1) (hg1 : AllB c scope fun cb => JG cb tgx1 tg1) (ht1 : AllB c scope fun cb => JTs cb ifs1 t1) (he : AllB c scope fun cb => JE cb elt el)
    (hs : ∀ x, foldedSetIterable iterx c.X.env x = pure x) (hs1 : ∀ env x, foldedSetIterable iterx1 env x = pure x) (nw : Bool) : JS c (.Assign [.Name x p] (.ListComp elt [⟨tgx, iterx, ifs, 0⟩, ⟨tgx1, iterx1, ifs1, 0⟩] scope pc) pos) (if nw = true then sNew i (xComp2 (own.map (·.2)) own1 (asgT tg) it t (asgT tg1) it1 t1 el) else sAsgC i (xComp2 (own.map (·.2)) own1 (asgT tg) it t (asgT tg1) it1 t1 el)) := by
  refine PS.weak (ps_setLc2 hc hN hy hyl hsw hi ok hv (jgB hg) (jtB ht) (jiX hi1) (jgB hg1) (jtB ht1) (jeB he) hs hs1) fun D σ H h => ?_
  cases nw with
  | true =>
    obtain ⟨s, φ, m, sr, h⟩ := h
    exact tlc2_of ho ho1 (TEv.of sr h fun x v H1 s1 sr1 r fr hk => gnew_of sr s1 fr hk)
  | false =>
    obtain ⟨s, φ, m, sr, h⟩ := h
    exact tlc2_of ho ho1 (TEv.of sr h fun x v H1 s1 sr1 r fr hk => gname_of s1 sr1 r hk)
end
theorem js_setCN {i : Nat} {x : Str} {p : Pos} {elt tgx iterx : Expr} {ifs : List Expr} {gs : List Comprehension} {scope : Scope} {own : List (Str × Nat)} {pc : Pos} {q : ClM} {qs : List ClM} {el : Xe} (hy : c.X.N[i]? = some x) (hyl : c.X.env.scope.names.lookup x = some .local)
    (hsw : swapsWith (.ListComp elt (⟨tgx, iterx, ifs, 0⟩ :: gs) scope pc) (some (.Name x p)) pos.line c.X.env = pure true) (h : CompJ c elt tgx iterx ifs gs scope own q qs el) (nw : Bool) :
    JS c (.Assign [.Name x p] (.ListComp elt (⟨tgx, iterx, ifs, 0⟩ :: gs) scope pc) pos) (if nw = true then sNew i (xCompN (own.map (·.2)) q.own (asgT q.tg) q.it q.t (nestM qs (xOne el))) else sAsgC i (xCompN (own.map (·.2)) q.own (asgT q.tg) q.it q.t (nestM qs (xOne el)))) := by
  have ho : ∀ i ∈ ownsOf ((⟨TIv c (LC c) q.it, TGb c q.tg, TTb c q.t, q.own⟩ : Cl) :: qs.map (ClM.rd c)), i ∈ own.map (·.2) := by
    intro i hi
    apply h.inn
    show i ∈ q.own ++ ownsM qs
    rw [← owns_map (c := c)]
    exact hi
  have hv : ∀ i ∈ q.own, i ∉ ownsOf (qs.map (ClM.rd c)) := by rw [owns_map]; exact h.ap.1
  refine PS.weak (ps_setLcN (d := ⟨TIv c (LC c) q.it, TGb c q.tg, TTb c q.t, q.own⟩) (ds := qs.map (ClM.rd c)) h.calm h.nd hy hyl hsw h.it h.ok h.fs ⟨jgB h.tg⟩ ⟨jtB h.ts⟩ hv ho (cls_ok qs gs h.cls h.ap.2) ⟨jeB h.el⟩) fun D σ H z => ?_
  obtain ⟨s, φ, m, sr, z⟩ := z
  cases nw with
  | true => exact tlcN_of h.tgi (clj_tgi qs gs h.cls) (TEv.of sr z fun x v H1 s1 sr1 r fr hk => gnew_of sr s1 fr hk)
  | false => exact tlcN_of h.tgi (clj_tgi qs gs h.cls) (TEv.of sr z fun x v H1 s1 sr1 r fr hk => gname_of s1 sr1 r hk)
theorem js_par {i j : Nat} {x y : Str} {a b : Expr} {fa fb : Xe} {px py pt : Pos} {kt k2 : Nat} {pt2 : Pos} (hc : c.X.calm = true) (hN : c.X.N.Nodup) (hi : c.X.N[i]? = some x) (hj : c.X.N[j]? = some y) (hij : i ≠ j)
    (hx : c.X.env.scope.names.lookup x = some .local) (hy : c.X.env.scope.names.lookup y = some .local) (ha : JE c a fa) (hb : JE c b fb) (hn : noStar a = true) (hn2 : noStar b = true)
    (hw : swappedStores [.Tuple [.Name x px, .Name y py] kt pt] (.Tuple [a, b] k2 pt2) c.X.env = pure (some [x, y])) :
    JS c (.Assign [.Tuple [.Name x px, .Name y py] kt pt] (.Tuple [a, b] k2 pt2) pos) (sPar i j fa fb) := by
  refine PS.weak (ps_par hc hN hi hj hij hx hy (ja_2 ha hb hn hn2) hw rfl) fun D σ H ⟨s, φ, m, sr, h⟩ => ?_
  have h1 := OutS.ofB sr h
  refine two_run (r := fun x y => rt (x, y)) (P := fun p => OutS c D φ m H (nxt (setL (setL s i (some p.1.1)) j (some p.2.1)) m)) ha sr ?_ fun p q v w H1 s1 rv rw' sr1 hk => ?_
  · cases e1 : fa s m with
    | none => rw [e1] at h1; exact h1.elim
    | some r =>
      cases r with
      | exc x fs => rw [e1] at h1; exact h1
      | ok p =>
        rw [e1] at h1
        have h2 := OutS.ofB sr (show OutS c D φ m H (bs (fb s m) s m fun y => nxt (setL (setL s i (some p.1)) j (some y.1)) m) from h1)
        show OutG c σ H (bd (fb s m) fun y => rt (p, y)) _
        cases e2 : fb s m with
        | none => rw [e2] at h2; exact h2.elim
        | some r2 =>
          cases r2 with
          | exc x fs => rw [e2] at h2; exact h2
          | ok q => rw [e2] at h2; exact h2
  · have hk' := OutG.ok c hk
    rw [setL_eq, setL_eq] at hk'
    exact ⟨v, w, rfl, hk'.nxt (Ext.same s1) ((sr1.set i rv).set j rw')⟩
end
end MP
set_option Elab.async false
set_option linter.all false
set_option maxRecDepth 100000
set_option autoImplicit false
set_option maxHeartbeats 1000000
/-! statements: loops, writes, raise -/
namespace MP
open PySem PySem.Spec PyProof.Rows L2
variable {c : Cc}
section
variable {pos : Pos} {f g : Xst} {e o : Expr} {fe fo : Xe}

/-! ### while -/
theorem js_while {t : Expr} {b : List Stmt} {ft : Xt} (hp : PassesOwn (model c.X.prog c.X.w) c.X.A c.X.env c.X.xe) (ht : JT c t ft) (hb : JSs c b f) : JS c (.While t b [] pos) (sWhl ft f) := by
  refine PS.weak (ps_while hp ht hb) fun En σ H ⟨s, φ, m, sr, h⟩ => ?_
  have h' : OutS c En φ m H (whlV ft f fuel s m) := h
  clear h
  generalize fuel = n0 at h'
  refine ⟨fun n σ' H' => ∃ s φ m, c.SR s φ m σ' H' ∧ OutS c En φ m H' (whlV ft f n s m), ⟨n0, s, φ, m, sr, h'⟩, ?_⟩
  rintro n σ' H' ⟨s, φ, m, sr, h⟩
  cases n with
  | zero => exact h.elim
  | succ n =>
    have h2 : OutS c En φ m H' (bs (ft s m) s m fun k => if k = true then match f s m with
      | some (.nx s' m') => whlV ft f n s' m'
      | some (.ct s' m') => whlV ft f n s' m'
      | some (.bk s' m') => some (.nx s' m')
      | r => r
    else some (.nx s m)) := h
    refine TTv.of sr h2 fun k H1 s1 sr1 hk => ?_
    cases k with
    | false => exact hk σ' H1 φ (Ext.same s1) sr1
    | true =>
      have hk' : OutS c En φ m H' (match f s m with
        | some (.nx s' m') => whlV ft f n s' m'
        | some (.ct s' m') => whlV ft f n s' m'
        | some (.bk s' m') => some (.nx s' m')
        | r => r) := hk
      refine ⟨_, fun σ2 H2 q => ⟨n, Nat.lt_succ_self n, q⟩, s, φ, m, sr1, ?_⟩
      refine OutS.imp (H := H') (φ := φ) (m := m) ?_ (Ext.same s1)
      cases er : f s m with
      | none => rw [er] at hk'; exact hk'
      | some r =>
        rw [er] at hk'
        cases r with
        | nx s' m' => exact fun σ2 H2 φ2 x sr2 => ⟨s', φ2, m', sr2, OutS.imp hk' x⟩
        | ct s' m' => exact fun σ2 H2 φ2 x sr2 => ⟨s', φ2, m', sr2, OutS.imp hk' x⟩
        | bk s' m' => exact hk'
        | rt _ _ _ => exact hk'
        | ex _ _ _ _ => exact hk'

/-! ### for -/
/-- later states of a loop's turns; w: the thing that the loop keeps -/
noncomputable def lockW (w : Sl → Option Nat) (s : Sl) (m : Mm) : Mm := match w s with
  | some n => lockR m n true
  | none => m
def LF (c : Cc) (w : Sl → Option Nat) : Lat := fun s m φ H B' φ' H' => B' = c.B ∧ ∃ m', Ext φ (lockW w s m) H φ' m' H'
def OkF (w : Sl → Option Nat) : Sl → Mm → D → Prop := fun s m d => isRef d = false ∨ ∃ n, d = .ref n ∧ w s = some n
theorem lockR_at {m : Mm} {n : Nat} {o : MO} {b : Bool} (h : m[n]? = some o) : lockR m n b = m.set n (o.setLk b) := by
  unfold lockR
  rw [nthL_eq, h]
  exact setL_eq _ _ _
theorem lk_set (o : MO) (b : Bool) : (o.setLk b).lk = b := by cases o <;> rfl
theorem lf_ok {w : Sl → Option Nat} : LOk c (LF c w) (OkF w) where
  rep := fun {s m φ H B' φ' H' d v} ⟨eb, m', x⟩ r => by
    subst eb
    exact Rep.ext x d v r
  lst := fun {s m φ σ H B' φ' H' d v xs} ⟨eb, m', x⟩ sr ok hl r => by
    subst eb
    cases d with
    | lst ys =>
      cases hl
      obtain ⟨p, vs, e1, e2, _, _, rl⟩ := Rep.ext x (.lst xs) v r
      exact ⟨p, vs, e1, .of e2, rl⟩
    | klst ys =>
      cases hl
      obtain ⟨p, vs, e1, e2, rl⟩ := Rep.ext x (.klst xs) v r
      rcases e2 with ⟨e2, _, _⟩ | e2
      · exact ⟨p, vs, e1, .inl e2, rl⟩
      · exact ⟨p, vs, e1, .inr e2, rl⟩
    | ref n =>
      rcases ok with ok | ⟨n', en, hw⟩
      · cases ok
      · cases en
        cases q : m[n]? with
        | none => rw [lstV_ref m n q] at hl; cases hl
        | some ob =>
          rw [lstV_ref m n q] at hl
          cases ob with
          | lst lk ys =>
            cases hl
            obtain ⟨a, e1, rfl⟩ := r
            obtain ⟨vs, e2, rl⟩ := sr.ob n a _ e1 q
            have q2 : (lockW w s m)[n]? = some (MO.lst true xs) := by
              unfold lockW
              rw [hw]
              show (lockR m n true)[n]? = _
              rw [lockR_at q, List.getElem?_set_self (List.getElem?_eq_some_iff.mp q).1]
              rfl
            obtain ⟨_, k⟩ := x.lck n a _ e1 q2 rfl
            exact ⟨a, vs, rfl, .of (k _ e2), RepL.ext x xs vs rl⟩
          | dk _ _ _ => cases hl
          | dt _ _ _ => cases hl
    | _ => cases hl
section
variable {K : KX} {H H0 : Hp} {B φ φ' : List Addr} {m m' : Mm} {s : Sl} {σ : L2.St} {n : Nat} {ob : MO} {b : Bool}
theorem MRep.lk {o : MO} {a : Addr} (h : MRep K H B φ o a) : MRep K H B φ (o.setLk b) a := by cases o <;> exact h
theorem SR.lk (sr : SR K H0 B s φ m σ H) (n : Nat) (b : Bool) : SR K H0 B s φ (lockR m n b) σ H := by
  cases q : m[n]? with
  | none =>
    have : lockR m n b = m := by unfold lockR; rw [nthL_eq, q]
    rw [this]; exact sr
  | some o =>
    rw [lockR_at q]
    refine ⟨sr.len, sr.sl, sr.nd, by rw [List.length_set]; exact sr.ml, fun k a w e1 e2 => ?_, sr.own, sr.dj, sr.bs, sr.gr⟩
    by_cases z : n = k
    · subst z
      rw [List.getElem?_set_self (List.getElem?_eq_some_iff.mp q).1] at e2
      cases e2
      exact MRep.lk (sr.ob n a o e1 q)
    · rw [List.getElem?_set_ne z] at e2
      exact sr.ob k a w e1 e2
/-- the lock away again -/
theorem Ext.unlk {H' : Hp} (q : m[n]? = some ob) (hl : ob.lk = false) (x : Ext φ (lockR m n true) H φ' m' H') : Ext φ m H φ' (lockR m' n false) H' := by
  refine ⟨x.pre, x.keep, x.dom, x.tup, x.frz, x.xd, fun k a o e1 e2 e3 => ?_⟩
  have hk : n ≠ k := fun z => by
    subst z
    rw [q] at e2
    cases e2
    rw [hl] at e3
    cases e3
  have e4 : (lockR m n true)[k]? = some o := by rw [lockR_at q, List.getElem?_set_ne hk]; exact e2
  obtain ⟨h1, h2⟩ := x.lck k a o e1 e4 e3
  refine ⟨?_, h2⟩
  cases q2 : m'[n]? with
  | none =>
    have : lockR m' n false = m' := by unfold lockR; rw [nthL_eq, q2]
    rw [this]; exact h1
  | some o2 => rw [lockR_at q2, List.getElem?_set_ne hk]; exact h1
end
theorem OutS.unlk {En : Ends} {φ : List Addr} {m : Mm} {H : Hp} {n : Nat} {ob : MO} {r : Os} (q : m[n]? = some ob) (hl : ob.lk = false) (h : OutS c En φ m H (unlO n r)) : OutS c En φ (lockR m n true) H r := by
  cases r with
  | none => exact h
  | some o =>
    cases o with
    | nx s' m' => exact fun σ' H' φ' x sr => h σ' H' φ' (Ext.unlk q hl x) (sr.lk n false)
    | rt d fr m' =>
      refine fun v s' σ' H' φ' x sr r hf => h v s' σ' H' φ' (Ext.unlk q hl x) (sr.lk n false) r fun e => ?_
      obtain ⟨a, e1, e2, e3⟩ := hf e
      refine ⟨a, e1, e2, fun xs ed => ?_⟩
      obtain ⟨vs, z1, z2, z3⟩ := e3 xs ed
      exact ⟨vs, z1, z2, z3.lk n false⟩
    | bk s' m' => exact fun σ' H' φ' x sr => h σ' H' φ' (Ext.unlk q hl x) (sr.lk n false)
    | ct s' m' => exact fun σ' H' φ' x sr => h σ' H' φ' (Ext.unlk q hl x) (sr.lk n false)
    | ex x' fs s' m' => exact fun cls d σ' H' φ' x sr => h cls d σ' H' φ' (Ext.unlk q hl x) (sr.lk n false)
/-- the turns -/
theorem for_turns {J : L2.It} {tg : Tg} {En : Ends} {ds : List D} {s : Sl} {φ : List Addr} {m : Mm} {σ : L2.St} {H : Hp} (sr : c.SR s φ m σ H) (h : OutS c En φ m H (forV (asgT tg) f ds s m)) (hw : ∀ φ' m' H', Ext φ m H φ' m' H' → WalkAt c.R c.B φ' H' J ds) :
    ∃ W : Nat → Nat → L2.St → Hp → Prop, (∃ m, W 0 m σ H) ∧ ∀ i m σ H, W i m σ H → (J.stop i H ∧ En.nx σ H) ∨ (J.go i H ∧ ∃ N : L2.St → Hp → Prop, (∀ σ' H', N σ' H' → ∃ m', m' < m ∧ W (i + 1) m' σ' H') ∧
      ∀ x H', J.yld i H x H' → TGv c tg x σ H' fun σ2 H2 => TSv c f { En with nx := N, ct := N, bk := En.nx } σ2 H2) := by
  refine ⟨fun i k σ' H' => k = ds.length - i ∧ i ≤ ds.length ∧ ∃ s' φ' m', Ext φ m H φ' m' H' ∧ c.SR s' φ' m' σ' H' ∧ OutS c En φ' m' H' (forV (asgT tg) f (ds.drop i) s' m'), ⟨ds.length, by simp, Nat.zero_le _, s, φ, m, Ext.refl, sr, h⟩, ?_⟩
  rintro i k σ' H' ⟨rfl, hi, s', φ', m', x, sr', h'⟩
  obtain ⟨w1, w2⟩ := hw φ' m' H' x
  by_cases hlt : i < ds.length
  · have hd : ds[i]? = some ds[i] := List.getElem?_eq_getElem hlt
    rw [List.drop_eq_getElem_cons hlt] at h'
    have h2 : OutS c En φ' m' H' (os (asgT tg ds[i] s') fun s1 => match f s1 m' with
      | some (.nx s' m') => forV (asgT tg) f (ds.drop (i + 1)) s' m'
      | some (.ct s' m') => forV (asgT tg) f (ds.drop (i + 1)) s' m'
      | some (.bk s' m') => some (.nx s' m')
      | r => r) := h'
    obtain ⟨s1, e1, h3⟩ := OutS.ofO h2
    obtain ⟨gg, y⟩ := w1 i ds[i] hd
    refine .inr ⟨gg, fun σ2 H2 => ∃ s' φ' m', Ext φ m H φ' m' H2 ∧ c.SR s' φ' m' σ2 H2 ∧ OutS c En φ' m' H2 (forV (asgT tg) f (ds.drop (i + 1)) s' m'), fun σ2 H2 q => ⟨ds.length - (i + 1), by omega, rfl, hlt, q⟩, fun v H2 hy => ?_⟩
    obtain ⟨s2, rv⟩ := y v H2 hy
    refine ⟨ds[i], s', φ', m', s1, sr'.same s2, rv, e1, fun σ3 sr3 _ => ⟨s1, φ', m', sr3, ?_⟩⟩
    refine OutS.imp (H := H') (φ := φ') (m := m') ?_ (Ext.same s2)
    cases er : f s1 m' with
    | none => rw [er] at h3; exact h3
    | some r =>
      rw [er] at h3
      cases r with
      | nx s4 m4 => exact fun σ4 H4 φ4 x4 sr4 => ⟨s4, φ4, m4, x.trans x4, sr4, OutS.imp h3 x4⟩
      | ct s4 m4 => exact fun σ4 H4 φ4 x4 sr4 => ⟨s4, φ4, m4, x.trans x4, sr4, OutS.imp h3 x4⟩
      | bk s4 m4 => exact h3
      | rt _ _ _ => exact h3
      | ex _ _ _ _ => exact h3
  · have e0 : i = ds.length := by omega
    subst e0
    rw [List.drop_length] at h'
    exact .inl ⟨w2, h' σ' H' φ' Ext.refl sr'⟩
theorem js_for {tgx iterx : Expr} {b : List Stmt} {tg : Tg} {it : Xs} {w : Sl → Option Nat} (hp : PassesOwn (model c.X.prog c.X.w) c.X.A c.X.env c.X.xe) (hc : c.X.calm = true) (hi : JI c (LF c w) tgx iterx it) (hg : JG c tgx tg) (hb : JSs c b f)
    (hs : ∀ x, foldedSetIterable iterx c.X.env x = pure x) : JS c (.For tgx iterx b [] pos) (sFor w (asgT tg) it f) := by
  refine PS.weak (ps_for hp hc hi hg hb hs) fun En σ H ⟨s, φ, m, sr, h⟩ => ?_
  have h1 := OutS.ofB sr h
  refine ⟨s, φ, m, sr, h1.imp c (Same.refl H) fun ds hd J H1 s1 sr1 hw => ?_⟩
  have hd1 := OutS.imp hd (Ext.same s1)
  have hw' := hw c.B
  cases e : w s with
  | none =>
    rw [e] at hd1
    refine for_turns sr1 hd1 fun φ' m' H' x => hw' φ' H' ⟨rfl, m', ?_⟩
    unfold lockW
    rw [e]
    exact x
  | some n =>
    rw [e] at hd1
    have lw : lockW w s m = lockR m n true := by unfold lockW; rw [e]
    have hd2 : OutS c En φ m H1 (match nthL m n with
      | some o => if o.lk = true then forV (asgT tg) f ds s m else unlO n (forV (asgT tg) f ds s (lockR m n true))
      | none => none) := hd1
    rw [nthL_eq] at hd2
    cases q : m[n]? with
    | none => rw [q] at hd2; exact hd2.elim
    | some o =>
      rw [q] at hd2
      have hd3 : OutS c En φ m H1 (if o.lk = true then forV (asgT tg) f ds s m else unlO n (forV (asgT tg) f ds s (lockR m n true))) := hd2
      by_cases hl : o.lk = true
      · rw [if_pos hl] at hd3
        refine for_turns sr1 hd3 fun φ' m' H' x => hw' φ' H' ⟨rfl, m', ?_⟩
        have : lockR m n true = m := by
          rw [lockR_at q]
          have e3 : o.setLk true = o := by
            cases o with
            | lst lk xs => cases (show lk = true from hl); rfl
            | dk lk ks xs => cases (show lk = true from hl); rfl
            | dt lk ks xs => cases (show lk = true from hl); rfl
          rw [e3]
          obtain ⟨h1, h2⟩ := List.getElem?_eq_some_iff.mp q
          rw [← h2, List.set_getElem_self]
        rw [lw, this]
        exact x
      · rw [if_neg hl] at hd3
        have hl' : o.lk = false := by cases h : o.lk; rfl; exact absurd h hl
        have hd4 := OutS.unlk q hl' hd3
        refine for_turns (sr1.lk n true) hd4 fun φ' m' H' x => hw' φ' H' ⟨rfl, m', ?_⟩
        rw [lw]
        exact x
end
end MP
set_option Elab.async false
set_option linter.all false
set_option maxRecDepth 100000
set_option autoImplicit false
set_option maxHeartbeats 1000000
/-! statements: writes, raise -/
namespace MP
open PySem PySem.Spec PyProof.Rows L2
variable {c : Cc}

/-! ### lists that change -/
theorem ref_rep {φ : List Addr} {H : Hp} {n : Nat} {v : V} (r : c.Rep H φ (.ref n) v) : ∃ a, φ[n]? = some a ∧ v = .ref a := r
theorem refL_inv {En : Ends} {φ : List Addr} {m : Mm} {H : Hp} {d : D} {k : Nat → Os} (h : OutS c En φ m H (refL m d k)) : ∃ n lk xs, d = .ref n ∧ m[n]? = some (.lst lk xs) ∧ OutS c En φ m H (k n) := by
  unfold refL at h
  cases d with
  | ref n =>
    simp only [nthL_eq] at h
    cases q : m[n]? with
    | none => rw [q] at h; exact h.elim
    | some o =>
      rw [q] at h
      cases o with
      | lst lk xs => exact ⟨n, lk, xs, rfl, q, h⟩
      | dk _ _ _ => exact h.elim
      | dt _ _ _ => exact h.elim
  | _ => exact h.elim
theorem appM_inv {m m' : Mm} {n : Nat} {ys : List D} (h : appM m n ys = some m') : ∃ xs, m[n]? = some (.lst false xs) ∧ xs.length + ys.length ≤ sizeLine ∧ m' = m.set n (.lst false (xs ++ ys)) := by
  unfold appM at h
  rw [nthL_eq] at h
  cases q : m[n]? with
  | none => rw [q] at h; cases h
  | some o =>
    rw [q] at h
    cases o with
    | lst lk xs =>
      cases lk with
      | true => cases h
      | false =>
        have h2 : (if szOk (xs.length + ys.length) = true then frL (xs ++ ys) fun zs => some (setL m n (.lst false zs)) else none) = some m' := h
        by_cases e : szOk (xs.length + ys.length) = true
        · rw [if_pos e, frL_eq, setL_eq] at h2
          exact ⟨xs, rfl, szOk_le e, (Option.some.inj h2).symm⟩
        · rw [if_neg e] at h2; cases h2
    | dk _ _ _ => cases h
    | dt _ _ _ => cases h
theorem lst_write {s : Sl} {φ : List Addr} {m : Mm} {σ : L2.St} {H : Hp} {n : Nat} {a : Addr} {xs ys : List D} {vs : List V} (sr : c.SR s φ m σ H) (hn : φ[n]? = some a) (hm : m[n]? = some (.lst false xs)) (r : c.RepL H φ ys vs) :
    c.SR s φ (m.set n (.lst false ys)) σ (upd H a (.lst vs)) ∧ Ext φ m H φ (m.set n (.lst false ys)) (upd H a (.lst vs)) := by
  have x : Ext φ m H φ (m.set n (.lst false ys)) (upd H a (.lst vs)) := Ext.write sr hn hm rfl
  exact ⟨SR.write sr hn hm rfl ⟨vs, upd_same, RepL.ext x _ _ r⟩, x⟩
theorem app_go {s : Sl} {φ : List Addr} {m m' : Mm} {σ : L2.St} {H : Hp} {n : Nat} {a : Addr} {ys : List D} {ws : List V} (sr : c.SR s φ m σ H) (h : appM m n ys = some m') (hn : φ[n]? = some a) (r : c.RepL H φ ys ws) :
    ∃ vs, H a = some (.lst vs) ∧ vs.length + ws.length ≤ sizeLine ∧ c.SR s φ m' σ (upd H a (.lst (vs ++ ws))) ∧ Ext φ m H φ m' (upd H a (.lst (vs ++ ws))) := by
  obtain ⟨xs, hm, hz, rfl⟩ := appM_inv h
  obtain ⟨vs, e1, rl⟩ := sr.ob n a _ hn hm
  obtain ⟨h1, h2⟩ := lst_write sr hn hm (RepL.append rl r)
  exact ⟨vs, e1, by rw [← RepL.length rl, ← RepL.length r]; exact hz, h1, h2⟩
theorem tyL {K : PySem.W.Frag} {H : Hp} {a : Addr} {vs : List V} (h : H a = some (.lst vs)) : tyV K "list" (.ref a) H := .inl ⟨rfl, vs, .of h⟩
section
variable {pos apos : Pos} {e o : Expr} {fe fo : Xe}
theorem one_plain {env : Env} (h1 : noStar e = true) : backTo pos (starEach [e] env) = [(false, eval e env)] := by
  rw [starEach_cons h1]; rfl
theorem few_1 {env : Env} (h1 : noStar e = true) : ((backTo pos (starEach [e] env)).all (fun x => !x.1) && (backToKw pos (keywordEach [] env)).all (fun x => x.1.isSome) && decide (([e] : List Expr).length + ([] : List Keyword).length + (if ([] : List Keyword).isEmpty then 0 else 1) < 30)) = true := by
  rw [one_plain h1]; rfl
theorem js_app (ho : JE c o fo) (he : JE c e fe) (hn : noSup o = true) (hs : noStar e = true) (hl : (apos.endLine == pos.line) = true) {p2 : Pos} : JS c (.Expr (.Call (.Attribute o "append" apos) [e] [] pos) p2) (sApp fo fe) := by
  refine PS.weak (ps_expr (pe_bm PySem.F.plainAttrs_list PySem.F.slot_list_append PySem.F.type_list_append mt_append ho (ja_1 he hs) (attr_base hn) (few_1 hs) hl (starEach_cons hs) rfl) rfl) fun En σ H ⟨s, φ, m, sr, h⟩ => ?_
  refine TEv.of sr h fun x v H1 s1 sr1 r _ hk => ?_
  obtain ⟨n, lk, xs, ed, hm, hk⟩ := refL_inv hk
  rw [ed] at r
  obtain ⟨a, hn, rfl⟩ := ref_rep r
  obtain ⟨vs, e1, rl⟩ := sr1.ob n a _ hn hm
  refine ⟨tyL e1, ?_⟩
  refine one_run (r := fun y => rt y) (P := fun y => OutS c En φ m H (os (appM m n [y.1]) fun m' => nxt s m')) sr1 ?_ fun y w H2 s2 ry sr2 hy => ?_
  · have := (OutS.ofB sr hk).imp c s1 fun _ z => z
    cases e2 : fe s m with
    | none => rw [e2] at this; exact this.elim
    | some q => rw [e2] at this; cases q <;> exact this
  · obtain ⟨m', ha, hy⟩ := OutS.ofO (OutG.ok c (σ := σ) (H := H1) hy)
    obtain ⟨vs2, e2, hz, sr3, x3⟩ := app_go sr2 ha hn (RepL.one ry)
    exact ⟨a, vs2, w, rfl, rfl, e2, (show vs2.length + 1 ≤ sizeLine from hz), hy.nxt ((Ext.same (s1.trans s2)).trans x3) sr3⟩
theorem lsK_inv {En : Ends} {s : Sl} {φ : List Addr} {m m0 : Mm} {σ : L2.St} {H H0 : Hp} {φ0 : List Addr} {d : D} {v : V} {k : List D → Os} (sr : c.SR s φ m σ H) (r : c.Rep H φ d v) (h : OutS c En φ0 m0 H0 (lsK m d k)) : ∃ ys p vs, v = .ref p ∧ H p = some (.lst vs) ∧ c.RepL H φ ys vs ∧ OutS c En φ0 m0 H0 (k ys) := by
  unfold lsK at h
  rcases vw_rep sr r with ⟨n, e⟩ | ⟨l1, _⟩
  · rw [e] at h; exact h.elim
  · generalize vw m d = d' at h l1
    cases d' with
    | lst ys =>
      obtain ⟨p, vs, e1, e2, rl⟩ := l1 ys rfl
      exact ⟨ys, p, vs, e1, e2, rl, h⟩
    | _ => exact h.elim
theorem js_ext (ho : JE c o fo) (he : JE c e fe) (hn : noSup o = true) (hs : noStar e = true) (hl : (apos.endLine == pos.line) = true) {p2 : Pos} : JS c (.Expr (.Call (.Attribute o "extend" apos) [e] [] pos) p2) (sExt fo fe) := by
  refine PS.weak (ps_expr (pe_bm PySem.F.plainAttrs_list PySem.F.slot_list_extend PySem.F.type_list_extend mt_extend ho (ja_1 he hs) (attr_base hn) (few_1 hs) hl (starEach_cons hs) rfl) rfl) fun En σ H ⟨s, φ, m, sr, h⟩ => ?_
  refine TEv.of sr h fun x v H1 s1 sr1 r _ hk => ?_
  obtain ⟨n, lk, xs, ed, hm, hk⟩ := refL_inv hk
  rw [ed] at r
  obtain ⟨a, hn, rfl⟩ := ref_rep r
  obtain ⟨vs, e1, rl⟩ := sr1.ob n a _ hn hm
  refine ⟨tyL e1, ?_⟩
  refine one_run (r := fun y => rt y) (P := fun y => OutS c En φ m H (lsK m y.1 fun ys => os (appM m n ys) fun m' => nxt s m')) sr1 ?_ fun y w H2 s2 ry sr2 hy => ?_
  · have := (OutS.ofB sr hk).imp c s1 fun _ z => z
    cases e2 : fe s m with
    | none => rw [e2] at this; exact this.elim
    | some q => rw [e2] at this; cases q <;> exact this
  · obtain ⟨ys, p, ws, rfl, e3, rl3, hy⟩ := lsK_inv sr2 ry (OutG.ok c (σ := σ) (H := H1) hy)
    obtain ⟨m', ha, hy⟩ := OutS.ofO hy
    obtain ⟨vs2, e2, hz, sr3, x3⟩ := app_go sr2 ha hn rl3
    exact ⟨a, p, vs2, ws, rfl, rfl, e2, e3, hz, hy.nxt ((Ext.same (s1.trans s2)).trans x3) sr3⟩
theorem popM_inv {m m' : Mm} {n : Nat} (h : popM m n = some m') : ∃ xs, m[n]? = some (.lst false xs) ∧ xs ≠ [] ∧ m' = m.set n (.lst false xs.dropLast) := by
  unfold popM at h
  rw [nthL_eq] at h
  cases q : m[n]? with
  | none => rw [q] at h; cases h
  | some o =>
    rw [q] at h
    cases o with
    | lst lk xs =>
      cases lk with
      | true => cases h
      | false =>
        have h2 : (if xs.isEmpty = true then none else frL xs.dropLast fun zs => some (setL m n (.lst false zs))) = some m' := h
        by_cases e : xs.isEmpty = true
        · rw [if_pos e] at h2; cases h2
        · rw [if_neg e, frL_eq, setL_eq] at h2
          exact ⟨xs, rfl, fun z => e (by rw [z]; rfl), (Option.some.inj h2).symm⟩
    | dk _ _ _ => cases h
    | dt _ _ _ => cases h
theorem js_pop (ho : JE c o fo) (hn : noSup o = true) (hl : (apos.endLine == pos.line) = true) {p2 : Pos} : JS c (.Expr (.Call (.Attribute o "pop" apos) [] [] pos) p2) (sPop fo) := by
  refine PS.weak (ps_expr (pe_bm0 PySem.F.plainAttrs_list PySem.F.slot_list_pop PySem.F.type_list_pop mt_pop ho (attr_base hn) hl) rfl) fun En σ H ⟨s, φ, m, sr, h⟩ => ?_
  refine TEv.of sr h fun x v H1 s1 sr1 r _ hk => ?_
  obtain ⟨n, lk, xs, ed, hm, hk⟩ := refL_inv hk
  rw [ed] at r
  obtain ⟨a, hn, rfl⟩ := ref_rep r
  obtain ⟨m', hp, hk⟩ := OutS.ofO hk
  obtain ⟨ys, hm2, hne, rfl⟩ := popM_inv hp
  obtain ⟨vs, e1, rl⟩ := sr1.ob n a _ hn hm2
  refine ⟨tyL e1, ?_⟩
  have hl2 := RepL.length rl
  have hpos : 0 < vs.length := by rw [← hl2]; exact List.length_pos_iff.mpr hne
  have rd : c.RepL H1 φ ys.dropLast vs.dropLast := by
    rw [List.dropLast_eq_take, List.dropLast_eq_take, hl2]
    exact RepL.take _ rl
  obtain ⟨sr2, x2⟩ := lst_write sr1 hn hm2 rd
  exact ⟨a, vs, vs[vs.length - 1], rfl, rfl, e1, List.getElem?_eq_getElem (by omega), hk.nxt ((Ext.same s1).trans x2) sr2⟩

/-! ### setdefault(k, []).append(e) -/
theorem app_end {En : Ends} {φ φ2 : List Addr} {m m2 : Mm} {H H4 : Hp} {s : Sl} {σ : L2.St} {l : Nat} {al : Addr} {lk : Bool} {xs : List D} (sr : c.SR s φ2 m2 σ H4) (x : Ext φ m H φ2 m2 H4) (hl : φ2[l]? = some al) (hm : m2[l]? = some (.lst lk xs))
    (h : OutS c En φ m H (bs (fe s m2) s m2 fun z => os (appM m2 l [z.1]) fun m' => nxt s m')) : tyV c.X.K "list" (.ref al) H4 ∧ TAv c (xCons fe xNil) σ H4 fun vs H5 => rAppend (.ref al) vs H5 fun _ H6 => En.nx σ H6 := by
  obtain ⟨vs, e1, rl⟩ := sr.ob l al _ hl hm
  refine ⟨tyL e1, ?_⟩
  have h2 := OutS.imp h x
  refine one_run (r := fun y => rt y) (P := fun y => OutS c En φ2 m2 H4 (os (appM m2 l [y.1]) fun m' => nxt s m')) sr ?_ fun y w H5 s5 ry sr5 hy => ?_
  · have := OutS.ofB sr h2
    cases e2 : fe s m2 with
    | none => rw [e2] at this; exact this.elim
    | some q => rw [e2] at this; cases q <;> exact this
  · obtain ⟨m', ha, hy⟩ := OutS.ofO (OutG.ok c (σ := σ) (H := H4) hy)
    obtain ⟨vs2, e2, hz, sr3, x3⟩ := app_go sr5 ha hl (RepL.one ry)
    exact ⟨al, vs2, w, rfl, rfl, e2, (show vs2.length + 1 ≤ sizeLine from hz), hy.nxt ((Ext.same s5).trans x3) sr3⟩
theorem refK_inv {En : Ends} {φ : List Addr} {m : Mm} {H : Hp} {d : D} {k : Nat → Os} (h : OutS c En φ m H (refK m d k)) : ∃ n lk ks xs, d = .ref n ∧ m[n]? = some (.dk lk ks xs) ∧ OutS c En φ m H (k n) := by
  unfold refK at h
  cases d with
  | ref n =>
    simp only [nthL_eq] at h
    cases q : m[n]? with
    | none => rw [q] at h; exact h.elim
    | some o =>
      rw [q] at h
      cases o with
      | dk lk ks xs => exact ⟨n, lk, ks, xs, rfl, q, h⟩
      | lst _ _ => exact h.elim
      | dt _ _ _ => exact h.elim
  | _ => exact h.elim
theorem sdaM_inv {m : Mm} {n : Nat} {lk : Bool} {ks : List Key} {xs : List D} {k : D} {p : Mm × Nat} (hm : m[n]? = some (.dk lk ks xs)) (h : sdaM m n k = some p) : ∃ q, keyD k = some q ∧ lk = false ∧ ks.length < sizeLine ∧
    ((∃ l lk2 ys, look ks xs q = some (.ref l) ∧ m[l]? = some (.lst lk2 ys) ∧ p = (m, l)) ∨
     (look ks xs q = none ∧ p = ((m ++ [MO.lst false []]).set n (.dk false (ks ++ [q]) (xs ++ [D.ref m.length])), m.length))) := by
  unfold sdaM at h
  rw [nthL_eq, hm] at h
  cases lk with
  | true => cases h
  | false =>
    have h2 : (match keyD k with
      | some q => if Nat.blt ks.length 16777216 = true then match look ks xs q with
        | some (.ref l) => match nthL m l with
          | some (.lst _ _) => some (m, l)
          | _ => none
        | some _ => none
        | none => frL (ks ++ [q]) fun ks' => frL (xs ++ [D.ref m.length]) fun xs' => some (setL m n (.dk false ks' xs') ++ [.lst false []], m.length)
        else none
      | none => none) = some p := h
    cases e1 : keyD k with
    | none => rw [e1] at h2; cases h2
    | some q =>
      rw [e1] at h2
      by_cases hz : Nat.blt ks.length 16777216 = true
      · have h3 : (match look ks xs q with
          | some (.ref l) => match nthL m l with
            | some (.lst _ _) => some (m, l)
            | _ => none
          | some _ => none
          | none => frL (ks ++ [q]) fun ks' => frL (xs ++ [D.ref m.length]) fun xs' => some (setL m n (.dk false ks' xs') ++ [.lst false []], m.length)) = some p := by
          have h4 : (if Nat.blt ks.length 16777216 = true then match look ks xs q with
            | some (.ref l) => match nthL m l with
              | some (.lst _ _) => some (m, l)
              | _ => none
            | some _ => none
            | none => frL (ks ++ [q]) fun ks' => frL (xs ++ [D.ref m.length]) fun xs' => some (setL m n (.dk false ks' xs') ++ [.lst false []], m.length)
            else none) = some p := h2
          rw [if_pos hz] at h4
          exact h4
        have hz' := Nat.le_of_ble_eq_true hz
        refine ⟨q, rfl, rfl, by rw [sizeLine_eq]; omega, ?_⟩
        cases e2 : look ks xs q with
        | some d =>
          simp only [e2] at h3
          cases d with
          | ref l =>
            simp only [nthL_eq] at h3
            cases e3 : m[l]? with
            | none => rw [e3] at h3; cases h3
            | some o =>
              rw [e3] at h3
              cases o with
              | lst lk2 ys => exact .inl ⟨l, lk2, ys, rfl, e3, (Option.some.inj h3).symm⟩
              | dk _ _ _ => cases h3
              | dt _ _ _ => cases h3
          | _ => cases h3
        | none =>
          simp only [e2, frL_eq, setL_eq] at h3
          refine .inr ⟨rfl, ?_⟩
          rw [List.set_append_left _ _ (List.getElem?_eq_some_iff.mp hm).1]
          exact (Option.some.inj h3).symm
      · have h4 : (if Nat.blt ks.length 16777216 = true then match look ks xs q with
            | some (.ref l) => match nthL m l with
              | some (.lst _ _) => some (m, l)
              | _ => none
            | some _ => none
            | none => frL (ks ++ [q]) fun ks' => frL (xs ++ [D.ref m.length]) fun xs' => some (setL m n (.dk false ks' xs') ++ [.lst false []], m.length)
            else none) = some p := h2
        rw [if_neg hz] at h4; cases h4
theorem js_sda {k : Expr} {fk : Xe} {ap1 ap2 p1 p2 p3 pl : Pos} (ho : JE c o fo) (hk : JE c k fk) (he : JE c e fe) (hn : noSup o = true) (hsk : noStar k = true) (hs : noStar e = true) (hl1 : (ap1.endLine == p1.line) = true) (hl2 : (ap2.endLine == p2.line) = true) :
    JS c (.Expr (.Call (.Attribute (.Call (.Attribute o "setdefault" ap1) [k, .List [] pl] [] p1) "append" ap2) [e] [] p2) p3) (sSda fo fk fe) := by
  have hd := pe_dsetd ho hk (pe_lst (pos := pl) (pa_nil (X := c.X))) ⟨attr_base (n := "setdefault") hn, by rw [two_plain hsk rfl]; rfl, hl1, two_plain hsk rfl⟩
  refine PS.weak (ps_expr (pe_bm PySem.F.plainAttrs_list PySem.F.slot_list_append PySem.F.type_list_append mt_append hd (ja_1 he hs) (attr_base rfl) (few_1 hs) hl2 (starEach_cons hs) rfl) rfl) fun En σ H ⟨s, φ, m, sr, h⟩ => ?_
  refine TEv.of sr h fun x v H1 s1 sr1 r _ hk1 => ?_
  obtain ⟨n, lk, ks, xs, ed, hm, hk1⟩ := refK_inv hk1
  rw [ed] at r
  obtain ⟨a, ha, rfl⟩ := ref_rep r
  obtain ⟨vs0, e1, _, _⟩ := sr1.ob n a _ ha hm
  refine ⟨a, rfl, .inl ⟨_, .inl e1⟩, ?_⟩
  refine TEv.mk sr1 ((OutS.ofB sr hk1).imp c s1 fun _ z => z) fun y hy w H2 s2 ry _ sr2 => ?_
  refine ⟨Nat.zero_le _, fun p hp => ?_⟩
  obtain ⟨q, hq, hy⟩ := OutS.ofO hy
  obtain ⟨kk, ek, rfl, hz1, hcase⟩ := sdaM_inv hm hq
  obtain ⟨vs, e2, hl, rl⟩ := sr2.ob n a _ ha hm
  have na : a ≠ p := ne_of_none e2 hp
  have s3 : Same H2 (upd H2 p (.lst [])) := same_upd hp
  have e3 : upd H2 p (.lst []) a = some (.dK (ks.zip vs)) := s3 _ _ e2
  have hz2 : (ks.zip vs).length < sizeLine := by rw [List.length_zip]; omega
  refine ⟨ks.zip vs, kk, e3, kD_rep ry ek, hz2, fun u hu => ?_, fun hu => ?_⟩
  · rcases hcase with ⟨l, lk2, ys, h1, h2, rfl⟩ | ⟨h1, rfl⟩
    · obtain ⟨u', hu', ru⟩ := (valV_zip kk rl hl).1 _ h1
      rw [hu] at hu'
      cases hu'
      obtain ⟨al, hal, rfl⟩ := ref_rep ru
      exact app_end (sr2.same s3) (Ext.same ((s1.trans s2).trans s3)) hal h2 hy
    · rw [(valV_zip kk rl hl).2 h1] at hu; cases hu
  · rcases hcase with ⟨l, lk2, ys, h1, h2, rfl⟩ | ⟨h1, rfl⟩
    · obtain ⟨u', hu', ru⟩ := (valV_zip kk rl hl).1 _ h1
      rw [hu] at hu'; cases hu'
    · have sr3 : c.SR s (φ ++ [p]) (m ++ [.lst false []]) σ (upd H2 p (.lst [])) := SR.alloc sr2 hp s3 ⟨[], upd_same, rfl⟩
      have x3 : Ext φ m H2 (φ ++ [p]) (m ++ [.lst false []]) (upd H2 p (.lst [])) := Ext.alloc hp s3
      have hn3 : (φ ++ [p])[n]? = some a := by rw [List.getElem?_append_left (List.getElem?_eq_some_iff.mp ha).1]; exact ha
      have hm3 : (m ++ [MO.lst false []])[n]? = some (.dk false ks xs) := by rw [List.getElem?_append_left (List.getElem?_eq_some_iff.mp hm).1]; exact hm
      have x4 : Ext (φ ++ [p]) (m ++ [.lst false []]) (upd H2 p (.lst [])) (φ ++ [p]) ((m ++ [MO.lst false []]).set n (.dk false (ks ++ [kk]) (xs ++ [.ref m.length]))) (upd (upd H2 p (.lst [])) a (.dK (putK (ks.zip vs) kk (.ref p)))) := Ext.write sr3 hn3 hm3 rfl
      have pe : putK (ks.zip vs) kk (.ref p) = (ks ++ [kk]).zip (vs ++ [.ref p]) := by
        unfold putK
        rw [valV_any, hu]
        show (if false = true then _ else _) = _
        rw [if_neg Bool.false_ne_true, List.zip_append hl]; rfl
      have hp3 : (φ ++ [p])[m.length]? = some p := by rw [← sr2.ml]; simp
      have rl3 : MP.RepL c.R (upd (upd H2 p (.lst [])) a (.dK (putK (ks.zip vs) kk (.ref p)))) c.B (φ ++ [p]) (xs ++ [.ref m.length]) (vs ++ [.ref p]) :=
        RepL.append (RepL.ext (x3.trans x4) _ _ rl) (RepL.one ⟨p, hp3, rfl⟩)
      have sr4 := SR.write (o' := .dk false (ks ++ [kk]) (xs ++ [.ref m.length])) sr3 hn3 hm3 rfl ⟨_, by rw [upd_same, pe], by simp [hl], rl3⟩
      refine app_end (l := m.length) (lk := false) (xs := []) sr4 ((Ext.same (s1.trans s2)).trans (x3.trans x4)) hp3 ?_ hy
      rw [List.getElem?_set_ne (Nat.ne_of_lt (List.getElem?_eq_some_iff.mp hm).1)]
      simp

/-! ### augmented -/
def rAug : Bop → R2
  | .add => rI0 fun i j => .int (i + j)
  | .sub => rI0 fun i j => .int (i - j)
  | .mul => rI CMul fun i j => .int (i * j)
  | .fdiv => fun x y H Q => rI CDiv (fun i j => .int (i / j)) x y H Q ∨ rI CDivW (fun i j => .int (i / j)) x y H Q
  | .mod => rI (fun _ j => 0 < j) fun i j => .int (i % j)
  | .pow => fun _ _ _ _ => False
theorem OpR.orI {X : Cx} {op : Operator} {r r' : R2} (h : OpR X (inplaceOp op) r) (h' : OpR X (inplaceOp op) r') : OpR X (inplaceOp op) fun x y H Q => r x y H Q ∨ r' x y H Q := OpR.or h h'
theorem ip_aug {X : Cx} (o : Bop) : PIp X (opB o) (rAug o) := by
  cases o with
  | add => exact iop_add
  | sub => exact iop_sub
  | mul => exact iop_mul
  | fdiv => exact OpR.or iop_fdiv iop_fdivW
  | mod => exact iop_mod
  | pow => exact fun _ _ _ _ _ _ _ _ _ _ _ _ h => h.elim
theorem js_aug {i : Nat} {x : Str} {p : Pos} {op : Bop} (hN : c.X.N.Nodup) (hi : c.X.N[i]? = some x) (hx : Loc c.X.env.scope x) (hf : c.X.fn x = true ∨ c.X.env.scope.names.lookup x = some .local) (he : JE c e fe) :
    JS c (.AugAssign (.Name x p) (opB op) e pos) (sAug i op fe) := by
  refine PS.weak (ps_aug hN hi hx he (ip_aug op) hf) fun En σ H ⟨s, φ, m, sr, h⟩ => ?_
  unfold sAug at h
  rw [nthL_eq] at h
  cases q : s[i]? with
  | none => rw [q] at h; exact h.elim
  | some od =>
    cases od with
    | none => rw [q] at h; exact h.elim
    | some d =>
      rw [q] at h
      cases d with
      | int a =>
        obtain ⟨v, e1, rv⟩ := sr.sl i _ q
        obtain rfl : v = .int a := rv
        refine ⟨_, e1, ?_⟩
        have h' : OutS c En φ m H (bs (fe s m) s m fun x => if augOk op a x.1 = true then bs (binV op (.int a) x.1) s m fun y => nxt (setL s i (some y.1)) m else none) := h
        refine TEv.of sr h' fun x v H1 s1 sr1 r _ hk => ?_
        obtain ⟨x, kx⟩ := x
        by_cases ho : augOk op a x = true
        · rw [if_pos ho] at hk
          cases x with
          | int j =>
            obtain rfl : v = .int j := r
            have fin : ∀ z : Int, OutS c En φ m H (nxt (setL s i (some (.int z))) m) → En.nx (σ.set i (some (.int z))) H1 := fun z hz => by
              rw [setL_eq] at hz
              exact hz.nxt (Ext.same s1) (sr1.set i rfl)
            cases op with
            | add => simp only [binV, frI_eq] at hk; exact ⟨a, j, rfl, rfl, fin _ hk⟩
            | sub => simp only [binV, frI_eq] at hk; exact ⟨a, j, rfl, rfl, fin _ hk⟩
            | mul =>
              have hb := OutS.ofB sr hk
              simp only [binV, frI_eq] at hb
              obtain ⟨k, hb⟩ := OutG.if c hb
              have ho' : (Nat.blt a.natAbs 18446744073709551616 || Nat.blt j.natAbs 18446744073709551616) = true := ho
              rw [Bool.or_eq_true] at ho'
              refine ⟨a, j, rfl, rfl, ?_, fin _ (OutG.ok c (σ := σ) (H := H) hb)⟩
              rcases ho' with z | z
              · have := Nat.le_of_ble_eq_true z
                exact .inl (by omega)
              · have := Nat.le_of_ble_eq_true z
                exact .inr (by omega)
            | fdiv =>
              have hb := OutS.ofB sr hk
              simp only [binV, frI_eq] at hb
              obtain ⟨k, hb⟩ := OutG.if c hb
              have hj : 0 < j := of_decide_eq_true ho
              have ed : a.fdiv j = a / j := by rw [Int.fdiv_eq_ediv_of_nonneg a (by omega)]
              have hb' := OutG.ok c (σ := σ) (H := H) hb
              rw [ed] at hb'
              rw [Bool.or_eq_true] at k
              rcases k with k | k
              · unfold divOk at k
                rw [Bool.and_eq_true] at k
                have := Nat.le_of_ble_eq_true k.2
                exact .inl ⟨a, j, rfl, rfl, ⟨hj, by omega⟩, fin _ hb'⟩
              · unfold divOkW at k
                rw [Bool.and_eq_true] at k
                exact .inr ⟨a, j, rfl, rfl, ⟨hj, Nat.le_of_ble_eq_true k.2⟩, fin _ hb'⟩
            | mod =>
              have hb := OutS.ofB sr hk
              simp only [binV, frI_eq] at hb
              obtain ⟨k, hb⟩ := OutG.if c hb
              have hj : 0 < j := of_decide_eq_true ho
              have ed : a.fmod j = a % j := by rw [Int.fmod_eq_emod_of_nonneg a (by omega)]
              have hb' := OutG.ok c (σ := σ) (H := H) hb
              rw [ed] at hb'
              exact ⟨a, j, rfl, rfl, hj, fin _ hb'⟩
            | pow => cases ho
          | _ => cases ho
        · rw [if_neg ho] at hk; exact hk.elim
      | _ => exact h.elim
theorem js_augL {i : Nat} {x : Str} {p : Pos} (hN : c.X.N.Nodup) (hi : c.X.N[i]? = some x) (hx : Loc c.X.env.scope x) (hf : c.X.fn x = true ∨ c.X.env.scope.names.lookup x = some .local) (he : JE c e fe) :
    JS c (.AugAssign (.Name x p) .Add e pos) (sAugL i fe) := by
  refine PS.weak (ps_aug hN hi hx he (show PIp c.X .Add rExt2 from iop_ext) hf) fun En σ H ⟨s, φ, m, sr, h⟩ => ?_
  unfold sAugL at h
  rw [nthL_eq] at h
  cases q : s[i]? with
  | none => rw [q] at h; exact h.elim
  | some od =>
    cases od with
    | none => rw [q] at h; exact h.elim
    | some d =>
      rw [q] at h
      obtain ⟨v, e1, rv⟩ := sr.sl i _ q
      refine ⟨v, e1, ?_⟩
      have h' : OutS c En φ m H (bs (fe s m) s m fun x => refL m d fun n => lsK m x.1 fun ys => os (appM m n ys) fun m' => nxt s m') := h
      refine TEv.of sr h' fun x w H1 s1 sr1 r _ hk => ?_
      obtain ⟨n, lk, xs, ed, hm, hk⟩ := refL_inv hk
      rw [ed] at rv
      obtain ⟨a, hn, rfl⟩ := ref_rep rv
      obtain ⟨ys, p, ws, rfl, e3, rl3, hy⟩ := lsK_inv sr1 r hk
      obtain ⟨m', ha, hy⟩ := OutS.ofO hy
      obtain ⟨vs2, e2, hz, sr3, x3⟩ := app_go sr1 ha hn rl3
      refine ⟨a, p, vs2, ws, rfl, rfl, e2, e3, hz, ?_⟩
      have e4 : σ.set i (some (.ref a)) = σ := by
        obtain ⟨h1, h2⟩ := List.getElem?_eq_some_iff.mp e1
        rw [← h2, List.set_getElem_self]
      show En.nx (σ.set i (some (V.ref a))) _
      rw [e4]
      exact hy.nxt ((Ext.same s1).trans x3) sr3

/-! ### stores at a place -/
def rSetI : TSet := fun o i v H Q => rSetL o i v H Q ∨ rSetD o i v H Q
theorem set_any (hu : c.X.A.units + 65 < cLine) : PSet c.X rSetI := fun pins s σ H o i v ov iv u Q I ro ri rv h =>
  h.elim (set_list pins s σ H o i v ov iv u Q I ro ri rv) (set_dict (by omega) pins s σ H o i v ov iv u Q I ro ri rv)
theorem setM_go {s : Sl} {φ : List Addr} {m m' : Mm} {σ : L2.St} {H : Hp} {n : Nat} {i d : D} {w v : V} {Q : Hp → Prop} {a : Addr} (sr : c.SR s φ m σ H) (h : setM m n i d = some m') (hn : φ[n]? = some a) (ri : c.Rep H φ i w) (rd : c.Rep H φ d v)
    (k : ∀ H', c.SR s φ m' σ H' → Ext φ m H φ m' H' → Q H') : rSetI (.ref a) w v H Q := by
  unfold setM at h
  rw [nthL_eq] at h
  cases q : m[n]? with
  | none => rw [q] at h; cases h
  | some o =>
    rw [q] at h
    cases o with
    | lst lk xs =>
      cases lk with
      | true => cases h
      | false =>
        cases i with
        | int j =>
          obtain rfl : w = .int j := ri
          have h2 : (match ixAt xs.length j with
            | some k => frL (setL xs k d) fun zs => some (setL m n (.lst false zs))
            | none => none) = some m' := h
          cases e1 : ixAt xs.length j with
          | none => rw [e1] at h2; cases h2
          | some k1 =>
            rw [e1] at h2
            simp only [frL_eq, setL_eq] at h2
            obtain ⟨vs, e2, rl⟩ := sr.ob n a _ hn q
            have x : Ext φ m H φ (m.set n (.lst false (xs.set k1 d))) (upd H a (.lst (vs.set k1 v))) := Ext.write sr hn q rfl
            have hm' := (Option.some.inj h2)
            subst hm'
            refine .inl ⟨a, vs, j, k1, rfl, rfl, e2, ?_, k _ (SR.write sr hn q rfl ⟨_, upd_same, RepL.ext x _ _ (RepL.set k1 rl rd)⟩) x⟩
            rw [← RepL.length rl]; exact e1
        | _ => cases h
    | dk lk ks xs =>
      cases lk with
      | true => cases h
      | false =>
        have h2 : (match keyD i with
          | some k => if Nat.blt ks.length 16777216 = true then frP (put ks xs k d) fun a b => some (setL m n (.dk false a b)) else none
          | none => none) = some m' := h
        cases e1 : keyD i with
        | none => rw [e1] at h2; cases h2
        | some k1 =>
          rw [e1] at h2
          by_cases hz : Nat.blt ks.length 16777216 = true
          · simp only [hz, if_true, frP, frL_eq, setL_eq] at h2
            obtain ⟨vs, e2, hl, rl⟩ := sr.ob n a _ hn q
            obtain ⟨ws, p1, p2, p3⟩ := put_rep k1 rd hl rl
            have x : Ext φ m H φ (m.set n (.dk false (put ks xs k1 d).1 (put ks xs k1 d).2)) (upd H a (.dK (putK (ks.zip vs) k1 v))) := Ext.write sr hn q rfl
            have hm' := (Option.some.inj h2)
            subst hm'
            rw [kD_rep ri e1]
            refine .inr ⟨a, _, rfl, DPut.k e2 ?_, k _ (SR.write sr hn q rfl ⟨ws, by rw [upd_same, p1], p2, RepL.ext x _ _ p3⟩) x⟩
            have := Nat.le_of_ble_eq_true hz
            rw [List.length_zip, sizeLine_eq]
            omega
          · simp only [hz] at h2; cases h2
    | dt lk ks xs =>
      cases lk with
      | true => cases h
      | false =>
        have h2 : (match tkeyD i with
          | some k => if Nat.blt ks.length 16777216 = true then frP (put ks xs k d) fun a b => some (setL m n (.dt false a b)) else none
          | none => none) = some m' := h
        cases e1 : tkeyD i with
        | none => rw [e1] at h2; cases h2
        | some k1 =>
          rw [e1] at h2
          by_cases hz : Nat.blt ks.length 16777216 = true
          · simp only [hz, if_true, frP, frL_eq, setL_eq] at h2
            obtain ⟨vs, e2, hl, rl⟩ := sr.ob n a _ hn q
            obtain ⟨ws, p1, p2, p3⟩ := put_rep k1 rd hl rl
            have x : Ext φ m H φ (m.set n (.dt false (put ks xs k1 d).1 (put ks xs k1 d).2)) (upd H a (.dT (putK (ks.zip vs) k1 v))) := Ext.write sr hn q rfl
            have hm' := (Option.some.inj h2)
            subst hm'
            obtain ⟨b, rfl, eb⟩ := tk_rep ri e1
            refine .inr ⟨a, _, rfl, DPut.t e2 eb ?_, k _ (SR.write sr hn q rfl ⟨ws, by rw [upd_same, p1], p2, RepL.ext x _ _ p3⟩) x⟩
            have := Nat.le_of_ble_eq_true hz
            rw [List.length_zip, sizeLine_eq]
            omega
          · simp only [hz] at h2; cases h2
theorem js_setI {i : Expr} {fi : Xe} {p2 : Pos} (hu : c.X.A.units + 65 < cLine) (ho : JE c o fo) (hi : JE c i fi) (he : JE c e fe) (hn : noSlice i = true) : JS c (.Assign [.Subscript o i p2] e pos) (sSetI fo fi fe) := by
  have ha : ∀ v, assign (.Subscript o i p2) c.X.env v = (do
      let ov ← holding [v] (eval o c.X.env)
      let iv ← holding [v, ov] (eval i c.X.env)
      standAt p2
      holding [v, ov, iv] (setItem ov iv v)
      release [v, ov, iv] []) := fun v => by cases i <;> first | rfl | cases hn
  have hs : swapsWithSole [.Subscript o i p2] e pos.line c.X.env = pure false := by cases e <;> rfl
  refine PS.weak (ps_asg he (pg_sub ho hi (set_any hu) ha) hs rfl rfl) fun En σ H ⟨s, φ, m, sr, h⟩ => ?_
  refine TEv.of sr h fun z v H1 s1 sr1 rz _ hk => ?_
  refine TEv.mk sr1 ((OutS.ofB sr hk).imp c s1 fun _ z => z) fun x hx w H2 s2 rx _ sr2 => ?_
  refine TEv.mk sr2 ((OutS.ofB sr hx).imp c (s1.trans s2) fun _ z => z) fun y hy u H3 s3 ry _ sr3 => ?_
  have hd : ∃ n, x.1 = .ref n ∧ OutS c En φ m H (os (setM m n y.1 z.1) fun m' => nxt s m') := by
    unfold refD at hy
    cases hx1 : x.1 with
    | ref n => rw [hx1] at hy; exact ⟨n, rfl, hy⟩
    | _ => rw [hx1] at hy; exact hy.elim
  obtain ⟨n, en, hy⟩ := hd
  obtain ⟨m', hm, hy⟩ := OutS.ofO hy
  rw [en] at rx
  obtain ⟨a, ha, rfl⟩ := ref_rep rx
  exact setM_go sr3 hm ha ry (((rz.same s2).same s3)) fun H' sr' x' => hy.nxt ((Ext.same ((s1.trans s2).trans s3)).trans x') sr'

/-! ### raise -/
structure ExcOk (c : Cc) (x : Str) (k : Nat) : Prop where
  ok : ∃ (B newId initId : String) (bmB : List Value), ExcBaseFacts B newId initId bmB ∧ PySem.W.excIn c.X.K (c.xi.at_ k) bmB newId = true ∧ c.X.mg x = some (.ref (c.xi.at_ k)) ∧ PySem.W.keepIn c.X.K (.ref (c.xi.at_ k)) = true ∧ Raises c.X (.ref (c.xi.at_ k))
theorem js_raise {x t : Str} {k j : Nat} {p1 p2 p3 : Pos} (hc : c.X.calm = true) (tk : Takes c.X c.W) (E : ExcOk c x k) (hg : Gl c.X x) (hdb : (x == ("__debug__" : Str)) = false) : JS c (.Raise (some (.Call (.Name x p1) [.Constant (.str t) j p2] [] p3)) none pos) (sRaise k) := by
  obtain ⟨B, newId, initId, bmB, F, q, gC, kC, r⟩ := E.ok
  exact PS.weak (ps_raise hc tk (pmk_own F q gC kC r hg hdb)) fun En σ H ⟨s, φ, m, sr, h⟩ => h _ _ σ H φ Ext.refl sr ⟨rfl, rfl⟩
end
end MP
set_option Elab.async false
set_option linter.all false
set_option maxRecDepth 100000
set_option autoImplicit false
set_option maxHeartbeats 1000000
/-! l.index(x), l.count(x) -/
namespace MP
open PySem PySem.Spec PyProof.Rows L2
theorem idxL_spec (y : D) (hy : eqOk 60 y = true) : ∀ (xs : List D) (j : Nat), eqOkL (eqOk 60) xs = true → idxL xs y = some j → ∃ z, (toPs xs)[j]? = some z ∧ PyData.eqv z (toP y) = true ∧ ∀ (m : Nat) (z' : PyData), m < j → (toPs xs)[m]? = some z' → PyData.eqv z' (toP y) = false
  | [], j, _, h => by cases h
  | x :: xs, j, hx, h => by
    rw [eqOkL, Bool.and_eq_true] at hx
    have h' : (if beqD x y = true then some 0 else match idxL xs y with
      | some n => some (n + 1)
      | none => none) = some j := h
    have ev := eqv_of 60 60 x y hx.1 hy
    by_cases e : beqD x y = true
    · rw [if_pos e] at h'
      cases h'
      exact ⟨toP x, rfl, ev.trans e, fun m z' hm => absurd hm (Nat.not_lt_zero m)⟩
    · rw [if_neg e] at h'
      cases hi : idxL xs y with
      | none => rw [hi] at h'; cases h'
      | some n =>
        rw [hi] at h'
        cases h'
        obtain ⟨z, z1, z2, z3⟩ := idxL_spec y hy xs n hx.2 hi
        refine ⟨z, z1, z2, fun m z' hm hz => ?_⟩
        cases m with
        | zero => cases hz; rw [ev]; simpa using e
        | succ m => exact z3 m z' (by omega) hz
theorem cntL_spec (y : D) (hy : eqOk 60 y = true) : ∀ (xs : List D), eqOkL (eqOk 60) xs = true → cntL xs y = (toPs xs).countP fun z => PyData.eqv z (toP y)
  | [], _ => rfl
  | x :: xs, hx => by
    rw [eqOkL, Bool.and_eq_true] at hx
    have ev := eqv_of 60 60 x y hx.1 hy
    show (if beqD x y = true then cntL xs y + 1 else cntL xs y) = _
    rw [toPs, List.countP_cons, ev, cntL_spec y hy xs hx.2]
    split <;> simp
/-- l.count(x) -/
def rCountD (K : PySem.W.Frag) : V → List V → Hp → VK → Prop := fun x xs H Q => ∃ (a : Addr) (y : V) (d : PyData) (ds : List PyData), x = V.ref a ∧ xs = [y] ∧ Dp K H (V.ref a) (.list ds) ∧ Dp K H y d ∧
  SeqAt.shaped (.list ds) = true ∧ SeqAt.shaped d = true ∧ Q (.int ((ds.countP fun z => PyData.eqv z d : Nat) : Int)) H
theorem mt_countD {X : Cx} (hu : X.A.units + 65 < cLine) : MtR X "list.count" (rCountD X.K) := by
  intro pins s σ H x xs v us Q I rx rxs h
  obtain ⟨a, y, d, ds, rfl, rfl, hl, hy, sl, sd, q⟩ := h
  obtain rfl : v = Value.ref a := rx
  obtain ⟨uy, rfl, ry⟩ := vals1 rxs
  obtain ⟨bs, r1⟩ := Dp.reads I d y uy hy ry
  cases hl with
  | lst hs ha =>
    obtain ⟨its, rv, ⟨⟨cls, dd, data, sls⟩, n, ho, hc, hdn, hdt⟩, hlen⟩ := I.list hs
    dsimp only at hc hdt
    subst hc hdt
    obtain ⟨as, h4⟩ := Dp.readsAll I ds _ its ha rv
    have lay := SeqAt.canLay_of_shaped sl
    have hmap : its.map (SeqAt.readOf s.heap) = ds := SeqAt.readsAll_map ds its as lay h4
    refine call_meets PySem.F.slot_list_count ⟨_, ho, rfl⟩ PySem.F.entry_list_count (PySem.F.args_list_count_2 _ _) (SeqAt.list_countAt a its.toArray n dd sls uy fun u => PyData.eqv (SeqAt.readOf s.heap u) d)
      ⟨ho, SeqAt.items_eqAt (vs := its.toArray) (show ReadsAll s.heap its.toArray.toList ds as from h4) r1 lay (SeqAt.canLay_of_shaped sd) (room_in_shaped sd hu), ⟨.int _, H, I.tok _, ⟨_, rfl⟩, ?_⟩⟩
    have e : List.countP (fun u => PyData.eqv (SeqAt.readOf s.heap u) d) its.toArray.toList = ds.countP fun z => PyData.eqv z d := by
      rw [← hmap, List.countP_map]; rfl
    rw [e]
    exact q
variable {c : Cc}
theorem lsD_rep {s : Sl} {φ : List Addr} {m : Mm} {σ : L2.St} {H : Hp} (sr : c.SR s φ m σ H) {x : D} {v : V} {xs : List D} (h : c.Rep H φ x v) (e : lsD m x = some xs) : ∃ p vs, v = .ref p ∧ H p = some (.lst vs) ∧ c.RepL H φ xs vs := by
  unfold lsD at e
  rcases vw_rep sr h with ⟨n, hn⟩ | ⟨h1, _⟩
  · rw [hn] at e; cases e
  · split at e
    · rename_i ys hy
      cases e
      exact h1 xs hy
    · cases e
section
variable {o a : Expr} {fo fa : Xe} {pos apos : Pos}
theorem mth1_run {q : Mth} {s : Sl} {φ : List Addr} {m : Mm} {σ : L2.St} {H : Hp} {Q : VK} {r : V → List V → Hp → VK → Prop} (hq : q = .index ∨ q = .count) (sr : c.SR s φ m σ H) (h : OutG c σ H (xMth q fo (xCons fa xNil) s m) (VOk c φ H Q))
    (w : ∀ (xs : List D) (p : Addr) (vs : List V) (y : D) (v : V) (H' : Hp) (d : D), H' p = some (.lst vs) → c.RepL H' φ xs vs → c.Rep H' φ y v → mthV m q (.lst xs) [y] = some (d, false) → (∀ u, c.Rep H' φ d u → Q u H') → r (.ref p) [v] H' Q) :
    TEv c fo σ H fun x H1 => tyV c.X.K "list" x H1 ∧ TAv c (xCons fa xNil) σ H1 fun vs H2 => r x vs H2 Q := by
  have h0 : OutG c σ H (bd (fo s m) fun x => if mthPre m q x.1 then bd (xCons fa xNil s m) fun ds => ob (mthV m q x.1 ds) rt else none) (VOk c φ H Q) := h
  refine TEv.mk sr (OutG.of c h0) fun x hx v H1 s1 rx _ sr1 => ?_
  obtain ⟨hp, hx⟩ := OutG.if c hx
  have hp' : (lsD m x.1).isSome = true := by rcases hq with rfl | rfl <;> exact hp
  obtain ⟨xs, hxs⟩ := Option.isSome_iff_exists.mp hp'
  obtain ⟨p, vs, rfl, h1, rl⟩ := lsD_rep sr1 rx hxs
  refine ⟨tyL h1, s, φ, m, sr1, ?_⟩
  have h2 := OutG.of c hx
  refine h2.imp c s1 fun ds hds ws H2 s2 rws => ?_
  obtain ⟨e, he, hk⟩ := OutG.ofO c hds
  have eqm : mthV m q x.1 ds = mthV m q (.lst xs) ds := by
    have e1 : lsD m (.lst xs) = some xs := rfl
    rcases hq with rfl | rfl <;> (unfold mthV; cases ds with
      | nil => rfl
      | cons d r => cases r with
        | nil => rw [hxs, e1]
        | cons _ _ => rfl)
  rw [eqm] at he
  match ds, he, rws with
  | [], he, _ => rcases hq with rfl | rfl <;> cases he
  | _ :: _ :: _, he, _ => rcases hq with rfl | rfl <;> cases he
  | [y], he, rws =>
    obtain ⟨u, rfl, ru⟩ := RepL.inv1 rws
    have fe : e.2 = false := by
      rcases hq with rfl | rfl
      · have he' : (match lsD m (.lst xs) with
          | some xs => if eqOk 60 y && eqOkL (eqOk 60) xs then match idxL xs y with
            | some j => frI (j : Int) fun r => some (D.int r, false)
            | none => none
            else none
          | none => none) = some e := he
        simp only [show lsD m (.lst xs) = some xs from rfl] at he'
        split at he'
        · split at he'
          · rw [frI_eq] at he'; cases he'; rfl
          · cases he'
        · cases he'
      · have he' : (match lsD m (.lst xs) with
          | some xs => if eqOk 60 y && eqOkL (eqOk 60) xs then frI (cntL xs y : Int) fun r => some (D.int r, false) else none
          | none => none) = some e := he
        simp only [show lsD m (.lst xs) = some xs from rfl] at he'
        split at he'
        · rw [frI_eq] at he'; cases he'; rfl
        · cases he'
    obtain ⟨d, fr⟩ := e
    cases fe
    refine w xs p vs y u H2 d (s2 p _ h1) (rl.same s2) ru he fun z rz => ?_
    have hk' := OutG.ok c hk
    exact VOk.val (VOk.imp (VOk.imp hk' s1) s2) (Same.refl H2) rz fun e => nomatch e
theorem je_idx (hu : c.X.A.units + 65 < cLine) (ho : JE c o fo) (ha : JE c a fa) (hn : noSup o = true) (hs : noStar a = true) (hl : (apos.endLine == pos.line) = true) : JE c (.Call (.Attribute o "index" apos) [a] [] pos) (xMth .index fo (xCons fa xNil)) := by
  refine PE.weak (pe_bm PySem.F.plainAttrs_list PySem.F.slot_list_index PySem.F.type_list_index (mt_indexD hu) ho (ja_1 ha hs) (attr_base hn) (few_1 hs) hl (starEach_cons hs) rfl) fun σ H Q ⟨s, φ, m, sr, h⟩ => ?_
  refine mth1_run (.inl rfl) sr h fun xs p vs y v H' d h1 rl ry he k => ?_
  have he' : (if (eqOk 60 y && eqOkL (eqOk 60) xs) = true then match idxL xs y with
      | some j => frI (j : Int) fun r => some (D.int r, false)
      | none => none
      else none) = some (d, false) := he
  split at he'
  · rename_i hq
    rw [Bool.and_eq_true] at hq
    split at he'
    · rename_i j hj
      rw [frI_eq] at he'
      cases he'
      obtain ⟨z, z1, z2, z3⟩ := idxL_spec y hq.1 xs j hq.2 hj
      exact ⟨p, v, toP y, toPs xs, j, z, rfl, rfl, .lst (.of h1) (dps_of 60 xs vs hq.2 rl), dp_of 60 y v hq.1 ry, shaped_ofL hq.2 (by decide), shaped_of hq.1 (by decide), z1, z2, z3, k _ rfl⟩
    · cases he'
  · cases he'
theorem je_cnt (hu : c.X.A.units + 65 < cLine) (ho : JE c o fo) (ha : JE c a fa) (hn : noSup o = true) (hs : noStar a = true) (hl : (apos.endLine == pos.line) = true) : JE c (.Call (.Attribute o "count" apos) [a] [] pos) (xMth .count fo (xCons fa xNil)) := by
  refine PE.weak (pe_bm PySem.F.plainAttrs_list PySem.F.slot_list_count PySem.F.type_list_count (mt_countD hu) ho (ja_1 ha hs) (attr_base hn) (few_1 hs) hl (starEach_cons hs) rfl) fun σ H Q ⟨s, φ, m, sr, h⟩ => ?_
  refine mth1_run (.inr rfl) sr h fun xs p vs y v H' d h1 rl ry he k => ?_
  have he' : (if (eqOk 60 y && eqOkL (eqOk 60) xs) = true then frI (cntL xs y : Int) fun r => some (D.int r, false) else none) = some (d, false) := he
  split at he'
  · rename_i hq
    rw [Bool.and_eq_true] at hq
    rw [frI_eq] at he'
    cases he'
    refine ⟨p, v, toP y, toPs xs, rfl, rfl, .lst (.of h1) (dps_of 60 xs vs hq.2 rl), dp_of 60 y v hq.1 ry, shaped_ofL hq.2 (by decide), shaped_of hq.1 (by decide), ?_⟩
    rw [← cntL_spec y hq.1 xs hq.2]
    exact k _ rfl
  · cases he'
end
end MP
set_option Elab.async false
set_option linter.all false
set_option maxRecDepth 100000
set_option autoImplicit false
set_option maxHeartbeats 1000000
/-! a try with any clauses, some with a name -/
namespace MP
open PySem PySem.Spec PyProof.Rows L2
/-- a clause: its class, the slot of its name, its suite's reading -/
structure Hd where
  cl : Value
  sl : Option Nat
  ts : Addr → Value → Option Addr → TS
/-- a suite's ends: behind it its name is gone -/
def endN (i : Nat) (D : Ends) : Ends where
  nx := fun σ H => D.nx (σ.set i none) H
  rt := D.rt
  bk := fun σ H => D.bk (σ.set i none) H
  ct := fun σ H => D.ct (σ.set i none) H
def sufR (h : Hd) (D : Ends) (cls : Value) (d : Option Addr) (a : Addr) (σ : L2.St) (H : Hp) : Prop :=
  match h.sl with
  | none => h.ts a cls d D σ H
  | some i => h.ts a cls d (endN i D) (σ.set i (some (.ref a))) H
def wMix (K : PySem.W.Frag) (Wout : WX) (D : Ends) : List Hd → WX
  | [] => Wout
  | h :: r => fun cls d σ H => ∃ b, PySem.W.exmOne K cls h.cl = some b ∧ (b = true → ∀ a, H a = none → sufR h D cls d a σ H) ∧ (b = false → wMix K Wout D r cls d σ H)
/-- a clause's name is the slot's -/
def NmOk (X : Cx) : Option Str → Option Nat → Prop
  | none, none => True
  | some n, some i => X.N[i]? = some n ∧ X.env.kindOf n = some .local
  | _, _ => False
structure HdOk (X : Cx) (eh : ExceptHandler) (h : Hd) : Prop where
  ok : ∃ (x : Str) (np : Pos) (nm : Option Str) (b₀ : Stmt) (suite : List Stmt) (pos' : Pos), eh = .ExceptHandler (some (.Name x np)) nm (b₀ :: suite) pos' ∧ Names X x h.cl ∧ NmOk X nm h.sl ∧
    ∀ (a : Addr) (oe : Obj) (cls : Value) (d : Option Addr) (pn : List (Addr × Obj)), Zc cls d oe → (∃ vs, oe.data = .fields vs) → PSs (X.suite a ((a, oe) :: pn)) (b₀ :: suite) (h.ts a cls d)
inductive MixOk (X : Cx) : List ExceptHandler → List Hd → Prop
  | nil : MixOk X [] []
  | cons {eh : ExceptHandler} {h : Hd} {es : List ExceptHandler} {hs : List Hd} (x : HdOk X eh h) (r : MixOk X es hs) : MixOk X (eh :: es) (h :: hs)
section
variable {X : Cx} {pins : List (Addr × Obj)} {σ : L2.St} {H : Hp} {D : Ends} {f : Flow}
/-- what a suite leaves, seen from outside -/
theorem sp_out {a : Addr} {q : Addr × Obj} {s : Shared} (ok : X.Ok) (h : SP (X.suite a (q :: (X.pn ++ pins))) [] D f s) : SP X pins D f s := by
  cases f with
  | ret u => exact (let ⟨v, σ', H', S, r, z⟩ := h; ⟨v, σ', H', S.unsuite ok, r, z⟩)
  | next => exact (let ⟨σ', H', S, z⟩ := h; ⟨σ', H', S.unsuite ok, z⟩)
  | brk => exact (let ⟨σ', H', S, z⟩ := h; ⟨σ', H', S.unsuite ok, z⟩)
  | cont => exact (let ⟨σ', H', S, z⟩ := h; ⟨σ', H', S.unsuite ok, z⟩)
/-- what a body leaves, seen from outside -/
theorem sp_tr {pn : List (Addr × Obj)} {xe : Value → Shared → Prop} {s : Shared} (ok : X.Ok) (h : SP (X.tr (X.pn ++ pins) xe) pn D f s) : SP X pins D f s := by
  cases f with
  | ret u => exact (let ⟨v, σ', H', S, r, z⟩ := h; ⟨v, σ', H', S.ofTry ok, r, z⟩)
  | next => exact (let ⟨σ', H', S, z⟩ := h; ⟨σ', H', S.ofTry ok, z⟩)
  | brk => exact (let ⟨σ', H', S, z⟩ := h; ⟨σ', H', S.ofTry ok, z⟩)
  | cont => exact (let ⟨σ', H', S, z⟩ := h; ⟨σ', H', S.ofTry ok, z⟩)
/-- the caught exception on the ground, at the clauses -/
structure Land (X : Cx) (pins : List (Addr × Obj)) (B : Heap) (a : Addr) (cls : Value) (d : Option Addr) (σ : L2.St) (H : Hp) (s : Shared) : Prop where
  fly : HandSPX.FlyingZ B (X.env :: X.outer) a (Zc cls d) s.heap
  inv : Inv X pins σ H s
  na : H a = none
  nL : a ≠ X.env.locals
  nF : a ∉ X.fs
  again : ∀ h', HandSPX.FlyingZ B (X.env :: X.outer) a (Zc cls d) h' → s.heap.UpToSlots h' → Inv X pins σ H { s with heap := h' }
theorem clauses_ok {B : Heap} {a : Addr} {cls : Value} {d : Option Addr} {Wout : WX} {s : Shared} (hf : X.env.frame = some X.env.locals) (hN : X.N.Nodup) (ld : Land X pins B a cls d σ H s)
    (out : Wout cls d σ H → ∀ h4, HandSPX.HeldZ B (X.env :: X.outer) a (Zc cls d) X.env.locals h4 → s.heap.UpToSlots h4 → X.xe (.ref a) { s with heap := h4 }) :
    ∀ {es : List ExceptHandler} {hs : List Hd}, MixOk X es hs → wMix X.K Wout D hs cls d σ H → wpAny (model X.prog X.w) X.A (handleBy (.ref a) X.env es) (SP X pins D) X.xe s := by
  intro es hs hk
  have ok := ld.inv.ok
  induction hk with
  | nil =>
    intro w
    refine wpAny_handleBy_nil ?_
    obtain ⟨_, _, _, oe, vs, T, oT, ts', he, hz, hd, h1, hr⟩ := id ld.fly
    have fin : wpAny (model X.prog X.w) X.A (setFlight (.ref a) X.env.frame) (fun _ s4 => wpAny (model X.prog X.w) X.A (throw (.ref a) : Sem Flow) (SP X pins D) X.xe s4) X.xe s := by
      rw [hf]
      exact HandSPX.setFlight_upZ ld.fly fun h4 hh4 up4 => wpAny_throw (out w h4 hh4 up4)
    unfold PySem.passOn
    refine wpAny_bind (wpAny_field he hd h1 ?_)
    rw [if_neg (by simp)]
    first
      | exact wpAny_bind fin
      | exact wpAny_bind (wpAny_pure (wpAny_bind fin))
  | @cons eh h es2 hs2 hx r ih =>
    rintro ⟨b, hb, yes, no⟩
    obtain ⟨x, np, nm, b₀, suite, pos', rfl, hc, hnm, hsu⟩ := hx.ok
    obtain ⟨oe3, vs3, he3, hz3, hd3⟩ := ld.fly.there
    have S3 := ld.inv.suite he3 hd3 ld.na ld.nL ld.nF
    have ty : PySem.W.Looks (model X.prog X.w) s.heap (typeOf (.ref a)) cls := fun A Q E s' k q => wpAny_typeOf_ref (k _ _ he3) (by rw [hz3.1]; exact q)
    have LM := PySem.W.exm_one (M := model X.prog X.w) ld.inv.kIn ty hb
    have nmE : ∀ {Q : Value → Shared → Prop} {E : Value → Shared → Prop}, Q h.cl s → wpAny (model X.prog X.w) (X.A.mark (some (.ref a))) (eval (.Name x np) X.env) Q E s := fun {Q E} q => by
      rcases hc with ⟨hg, hdbg, hm | ⟨hm, hv, hnn⟩⟩
      · exact ld_glob (X := X.suite a ((a, oe3) :: (X.pn ++ pins))) S3 hg hm q hdbg
      · exact ld_blt (X := X.suite a ((a, oe3) :: (X.pn ++ pins))) S3 hg hm hv q hnn hdbg
    refine wpAny_handleBy_cons (codeAny_handlers_test (nmE (LM.here ?_))) (by intro q; cases q)
    cases b with
    | false => exact ih (no rfl)
    | true =>
      have y := yes rfl a ld.na
      unfold sufR at y
      cases hsl : h.sl with
      | none =>
        rw [hsl] at y hnm
        cases nm with
        | some n => exact hnm.elim
        | none =>
          refine codeAny_handlers_suite (HandSPX.lands_againZ ld.fly fun h4 fl4 up4 => ?_)
          obtain ⟨oe4, vs4, he4, hz4, hd4⟩ := fl4.there
          have S4 := (ld.again h4 fl4 up4).suite he4 hd4 ld.na ld.nL ld.nF
          exact wpAny_mono ((hsu a oe4 cls d (X.pn ++ pins) hz4 ⟨_, hd4⟩).run [] _ _ H _ S4 y) (fun f s6 z => sp_out ok z) fun _ _ z => z.elim
      | some i =>
        rw [hsl] at y hnm
        cases nm with
        | none => exact hnm.elim
        | some n =>
          obtain ⟨hi, hln⟩ := hnm
          refine codeAny_handlers_suite_as (HandSPX.lands_againZ ld.fly fun h4 fl4 up4 => ?_)
          obtain ⟨oe4, vs4, he4, hz4, hd4⟩ := fl4.there
          have S4 := (ld.again h4 fl4 up4).suite he4 hd4 ld.na ld.nL ld.nF
          refine store_ok (X := X.suite a ((a, oe4) :: (X.pn ++ pins))) (v := .ref a) S4 hN hi (.inl hln) rfl (fun s5 S5 => ?_) (.inr hln)
          refine wpAny_mono ((hsu a oe4 cls d (X.pn ++ pins) hz4 ⟨_, hd4⟩).run [] s5 _ H _ S5 y) (fun f s6 z => ?_) fun _ _ z => z.elim
          cases f with
          | ret u => exact (let ⟨v, σ6, H6, S6, r6, q⟩ := z; gone_ok (S6.unsuite ok) hN hi hln fun s7 J7 => ⟨v, _, H6, J7, r6, q⟩)
          | next => exact (let ⟨σ6, H6, S6, q⟩ := z; gone_ok (S6.unsuite ok) hN hi hln fun s7 J7 => ⟨_, H6, J7, q⟩)
          | brk => exact (let ⟨σ6, H6, S6, q⟩ := z; gone_ok (S6.unsuite ok) hN hi hln fun s7 J7 => ⟨_, H6, J7, q⟩)
          | cont => exact (let ⟨σ6, H6, S6, q⟩ := z; gone_ok (S6.unsuite ok) hN hi hln fun s7 J7 => ⟨_, H6, J7, q⟩)
end
section
variable {X : Cx} {body : List Stmt} {eh : ExceptHandler} {es : List ExceptHandler} {hs : List Hd} {pos : Pos} {tb : WX → TS} {Wout : WX}
theorem ps_try_mix (hst : X.stack = X.env :: X.outer) (hf : X.env.frame = some X.env.locals) (hN : X.N.Nodup) (tk : Takes X Wout)
    (hb : ∀ (W : WX) (pn : List (Addr × Obj)) (xe : Value → Shared → Prop), Takes (X.tr pn xe) W → PassesOwn (model X.prog X.w) X.A X.env xe → PSs (X.tr pn xe) body (tb W))
    (hh : MixOk X (eh :: es) hs) : PS X (.Try body (eh :: es) [] [] pos) (fun D σ H => tb (wMix X.K Wout D hs) D σ H) := by
  refine ⟨fun pins s σ H D I h => wpAny_Try_except ?_⟩
  have ok := I.ok
  have hfr : X.A.frames = some (X.env :: X.outer) := hst ▸ ok.frames
  let cat : Value → Shared → Prop := fun e s₁ => wpAny (model X.prog X.w) X.A (noteFrame e X.env) (fun _ s₂ => wpAny (model X.prog X.w) X.A (setFlight e none) (fun _ s₃ => wpAny (model X.prog X.w) X.A (handleBy e X.env (eh :: es)) (SP X pins D) X.xe s₃) X.xe s₂) X.xe s₁
  have takes : Takes (X.tr (X.pn ++ pins) cat) (wMix X.K Wout D hs) := fun u s' xx => by
    obtain ⟨a, B, sI, pins', σ', H', cls, d, rfl, J', nb, up, sky, na, os, ag, w⟩ := xx
    have J : Inv X pins σ' H' sI := J'.ofTry ok
    refine Sky.land Zc.steady hfr hf (by rw [← hst]; exact sky) fun h3 fl3 up3 => ?_
    obtain ⟨oe, vs, he, hz, hd⟩ := fl3.there
    have ff := fl3.2.2.1
    have nfr : a ∉ frs (X.env :: X.outer) := fun hm => by
      obtain ⟨_, o', e', hnf⟩ := ff.mem hm
      rw [he] at e'; cases e'
      exact hnf _ hd
    have up3' := up.trans up3
    have J3 : Inv X pins σ' H' { s' with heap := h3 } := J.landed nb fl3.1 up3' os ag
    have J4 : ∀ h', HandSPX.FlyingZ B (X.env :: X.outer) a (Zc cls d) h' → h3.UpToSlots h' → Inv X pins σ' H' { s' with heap := h' } := fun h' fl' up' => J.landed nb fl'.1 (up3'.trans up') os ag
    refine clauses_ok (Wout := Wout) hf hN ⟨fl3, J3, na, fun z => nfr (List.mem_filterMap.mpr ⟨X.env, List.mem_cons_self, by rw [hf, z]⟩), fun hm => ?_, fun h' fl' up' => J4 h' fl' up'⟩ (fun w h4 hh4 up4 => tk _ _ ?_) hh w
    · obtain ⟨e, he', q⟩ := List.mem_filterMap.mp hm
      exact nfr (List.mem_filterMap.mpr ⟨e, List.mem_cons_of_mem _ he', q⟩)
    · exact ⟨a, B, sI, pins, σ', H', cls, d, rfl, J, nb, up3'.trans up4, .inr (.inr (by rw [hst]; exact hh4)), na, os, ag, w⟩
  refine wpAny_mono ((hb (wMix X.K Wout D hs) (X.pn ++ pins) cat takes PassesOwn.looking).run [] s σ H D (I.toTry _) h) (fun f s1 z => ?_) fun e s1 he => he
  cases f with
  | next => exact wpAny_execs_nil (sp_tr (f := .next) ok z)
  | ret u => exact sp_tr (f := .ret u) ok z
  | brk => exact sp_tr (f := .brk) ok z
  | cont => exact sp_tr (f := .cont) ok z
end
end MP
set_option Elab.async false
set_option linter.all false
set_option maxRecDepth 100000
set_option autoImplicit false
set_option maxHeartbeats 4000000
/-! isinstance of a caught exception, with a field or without -/
namespace MP
open PySem PySem.Spec PySem.Calls PyProof.Rows L2
section
variable {prog : Program} {w : World} {A : Around} {E : Value → Shared → Prop} {s : Shared} {K : PySem.W.Frag} {x C : Addr} {ox : Obj} {od : Option Obj}
theorem findObj_bound (T : ExcC K C) : PySem.W.findObj K C od "__class__" = some (.bind (.builtin "getset_descriptor.__get__") (.builtin "object.__class__")) := by
  obtain ⟨cd, hc, _⟩ := PySem.W.any_some T.hd
  rw [PySem.W.findObj, hc, Option.bind_some, T.ha, Option.bind_some]
  simp [T.hn, T.ht]
/-- x.__class__ -/
theorem exc_class {Q : Option Value → Shared → Prop} (T : ExcC K C) (X : K.In s.heap) (I : PySem.W.InstAt s.heap x ox C od) (h : Q (some (.ref C)) { s with toks := s.toks + 1 }) :
    wpAny (model prog w) A (getAttr? (.ref x) "__class__") Q E s := by
  obtain ⟨hp, g, dr, t, os⟩ := s
  have T0 := I.type (M := model prog w)
  have T1 := PySem.W.looks_findIn (M := model prog w) X T.hg
  have T2 := PySem.W.looks_findIn (M := model prog w) X T.hk
  have T3 := PySem.W.looks_find (M := model prog w) X I (findObj_bound (od := od) T)
  have isB : PySem.W.Looks (model prog w) hp (isInstance (.ref x) (.type "BaseException")) true := T0.andThen (PySem.W.looks_subIn X T.hs)
  have ga : (onTheHeap (Value.ref C) && Value.builtin "BaseException.__getattribute__" == Value.builtin "object.__getattribute__") = false := by
    show (true && Value.builtin "BaseException.__getattribute__" == Value.builtin "object.__getattribute__") = false
    decide +kernel
  unfold getAttr? getAttrBy? getAttrBy; refine wpAny_bind (wpAny_mkText (wpAny_bind (wpAny_attempt (wpAny_holding (wpAny_bind (T0.at (wpAny_bind (T1.at ?_))))))))
  dsimp only
  rw [if_neg (by rw [ga]; exact Bool.false_ne_true)]
  unfold getAttrByItsOwn hookBefore; rw [if_pos (show onTheHeap (Value.ref C) = true from rfl)]; refine wpAny_bind (T2.at (wpAny_bind (wpAny_attempt (wpAny_holding ?_))))
  unfold callGetattribute; rw [if_neg (show ¬ ((false && onTheHeap (Value.builtin "BaseException.__getattribute__")) = true) from Bool.false_ne_true)]
  unfold boundAndCalled; rw [PySem.F.excAttr_ValueError.ga.bind (.ref x)]; refine wpAny_bind (wpAny_pure (wpAny_call (codeAny_call_builtin PySem.F.excAttr_ValueError.ga.plain PySem.F.entry_bexc_ga ?_)))
  refine @PySem.W.check_slot (model prog w) _ _ ⟨hp, g, dr, t + 1, os⟩ "BaseException.__getattribute__" "BaseException" "__getattribute__" (.ref x) [.str "__class__" t] [] _ (by decide +kernel) (by decide +kernel) isB (PySem.F.args_bexc_ga (.ref x) (.str "__class__" t)) ?_
  unfold Builtin.«object.__getattribute__»; refine wpAny_bind (wpAny_of_eq (a := ((Value.ref x : Value), [Value.str "__class__" t])) (by first | rfl | (simp only [slotArgs]; rfl)) (wpAny_bind (wpAny_pure (wpAny_bind (T0.at (wpAny_bind (T3.at ?_)))))))
  refine wpAny_bind (wpAny_holding (wpAny_call (PySem.W.class_get (s := ⟨hp, g, dr, t + 1, os⟩) X I T.hm (wpAny_pure ?_))))
  dsimp only
  rw [PySem.W.handedOut_of (v := .ref C) rfl]
  first
    | exact wpAny_pure h
    | exact wpAny_pure (wpAny_pure h)
    | exact wpAny_pure (wpAny_bind (wpAny_pure (wpAny_pure h)))
theorem exc_kit (T : ExcC K C) : PySem.W.KitX K (.ref x) (.ref C) (fun h => PySem.W.InstAt h x ox C od) where
  ty := fun _ _ _ I => I.type
  it := fun _ h X _ => by
    obtain ⟨cd, hc, _⟩ := PySem.W.any_some T.hd
    unfold PySem.W.clsIn at hc
    split at hc
    · rename_i hl
      intro A' Q' E' s' k q
      unfold isType loadHead; exact wpAny_bind (wpAny_loadPart (k _ _ (X _ _ hl)) (wpAny_pure q))
    · cases hc
  ne := fun h tp dd its n sl X htp => by
    obtain ⟨cd, hc, _⟩ := PySem.W.any_some T.hd
    cases q : (Value.ref C == Value.ref tp) with
    | false => rfl
    | true =>
      obtain rfl : C = tp := Value.ref.inj (beq_iff_eq.mp q)
      unfold PySem.W.clsIn at hc
      split at hc
      · rename_i hl
        have := (X _ _ hl).symm.trans htp
        cases this
      · cases hc
  ca := fun X I k => exc_class T X I k
end
/-- isinstance(e, X), e the exception that the suite holds -/
theorem cr_isE {X : Cx} {a C : Addr} {oe : Obj} {d : Option Addr} {pn : List (Addr × Obj)} (T : ExcC X.K C) (hz : Zc (.ref C) d oe) (hf : ∃ vs, oe.data = .fields vs) :
    CallR (X.suite a ((a, oe) :: pn)) (.builtin "isinstance") fun xs H Q => ∃ (c : V) (cv : Value) (b : Bool), xs = [.ref a, c] ∧ (∀ u, RelV c u → u = cv) ∧ (d = none ∨ ∃ dd u, d = some dd ∧ H dd = some (.xd u)) ∧ PySem.W.kitOne X.K (.ref C) cv = some b ∧ Q (.bl b) H := by
  intro pins s σ H xs us Q I r h
  obtain ⟨c, cv, b, rfl, hcv, hd, e, q⟩ := h
  obtain ⟨u1, u2, rfl, r1, r2⟩ : ∃ u1 u2, us = [u1, u2] ∧ RelV (.ref a) u1 ∧ RelV c u2 := by
    cases r with
    | cons r1 r => cases r with
      | cons r2 r => cases r; exact ⟨_, _, rfl, r1, r2⟩
  obtain rfl : u1 = .ref a := r1
  obtain rfl := hcv _ r2
  obtain ⟨hget, _⟩ := I.pin (a, oe) (List.mem_append.mpr (.inl List.mem_cons_self))
  obtain ⟨vs, hv⟩ := hf
  obtain ⟨od, J⟩ : ∃ od, PySem.W.InstAt s.heap a oe C od := by
    have hno : PySem.W.notCls oe = true := by unfold PySem.W.notCls; rw [hv]
    rcases hd with rfl | ⟨dd, u, rfl, hdd⟩
    · exact ⟨none, hget, hz.1, hno, by rw [hz.2]; trivial⟩
    · obtain ⟨mA, hns, _⟩ := (I.hok dd _ hdd : ObjOk X.prog X.w H s.heap dd (.xd u))
      obtain ⟨od, ho, _⟩ := lookIn_ns hns
      exact ⟨some od, hget, hz.1, hno, by rw [hz.2]; exact ho⟩
  exact PySem.W.kia_one (exc_kit T) I.kIn J e (fun z => nomatch z) fun tk => ⟨.bl b, H, I.kept (t' := tk) fun _ _ z => z, rfl, q⟩
end MP
set_option Elab.async false
set_option linter.all false
set_option maxRecDepth 100000
set_option autoImplicit false
set_option maxHeartbeats 1000000
/-! statements: try; expressions: what is asked of a caught exception -/
namespace MP
open PySem PySem.Spec PyProof.Rows L2

/-! ### data without exceptions -/
section
variable {K K' : KX} {H : Hp} {B φ : List Addr}
mutual
theorem Rep.cl (hK : K'.K = K.K) : ∀ (d : D) (v : V), clD d = true → Rep K H B φ d v → Rep K' H B φ d v
  | .non, _, _, h => h
  | .bl _, _, _, h => h
  | .int _, _, _, h => h
  | .str _, _, _, h => h
  | .tup xs, _, q, ⟨a, vs, e, z, r⟩ => ⟨a, vs, e, z, RepL.cl hK xs vs q r⟩
  | .ktup xs, _, q, ⟨a, vs, e, z, r⟩ => ⟨a, vs, e, hK ▸ z, RepL.cl hK xs vs q r⟩
  | .lst xs, _, q, ⟨a, vs, e, z, nb, np, r⟩ => ⟨a, vs, e, z, nb, np, RepL.cl hK xs vs q r⟩
  | .klst xs, _, q, ⟨a, vs, e, .inl z, r⟩ => ⟨a, vs, e, .inl z, RepL.cl hK xs vs q r⟩
  | .klst xs, _, q, ⟨a, vs, e, .inr z, r⟩ => ⟨a, vs, e, .inr (hK ▸ z), RepL.cl hK xs vs q r⟩
  | .dk ks xs, _, q, ⟨a, vs, e, z, l, nb, np, r⟩ => ⟨a, vs, e, z, l, nb, np, RepL.cl hK xs vs q r⟩
  | .dt ks xs, _, q, ⟨a, vs, e, z, l, nb, np, r⟩ => ⟨a, vs, e, z, l, nb, np, RepL.cl hK xs vs q r⟩
  | .ref _, _, _, h => h
  | .exc _ _, _, q, _ => by simp [clD] at q
theorem RepL.cl (hK : K'.K = K.K) : ∀ (ds : List D) (vs : List V), clDs ds = true → RepL K H B φ ds vs → RepL K' H B φ ds vs
  | [], _, _, h => h
  | d :: ds, _, q, ⟨v, r, e, h, t⟩ => by
    rw [clDs, Bool.and_eq_true] at q
    exact ⟨v, r, e, Rep.cl hK d v q.1 h, RepL.cl hK ds r q.2 t⟩
end
/-- where no exception is held, none is within -/
def NoEx (K : KX) : Prop := ∀ k d a, ¬ K.ex k d a
mutual
theorem Rep.clear (n : NoEx K) : ∀ (d : D) (v : V), Rep K H B φ d v → clD d = true
  | .non, _, _ => rfl
  | .bl _, _, _ => rfl
  | .int _, _, _ => rfl
  | .str _, _, _ => rfl
  | .tup xs, _, ⟨a, vs, e, z, r⟩ => RepL.clear n xs vs r
  | .ktup xs, _, ⟨a, vs, e, z, r⟩ => RepL.clear n xs vs r
  | .lst xs, _, ⟨a, vs, e, z, nb, np, r⟩ => RepL.clear n xs vs r
  | .klst xs, _, ⟨a, vs, e, z, r⟩ => RepL.clear n xs vs r
  | .dk ks xs, _, ⟨a, vs, e, z, l, nb, np, r⟩ => RepL.clear n xs vs r
  | .dt ks xs, _, ⟨a, vs, e, z, l, nb, np, r⟩ => RepL.clear n xs vs r
  | .ref _, _, _ => rfl
  | .exc k fs, _, ⟨a, od, e, q, r⟩ => (n _ _ _ q).elim
theorem RepL.clear (n : NoEx K) : ∀ (ds : List D) (vs : List V), RepL K H B φ ds vs → clDs ds = true
  | [], _, _ => rfl
  | d :: ds, _, ⟨v, r, e, h, t⟩ => by rw [clDs, Rep.clear n d v h, RepL.clear n ds r t]; rfl
end
theorem Rep.into (n : NoEx K) (hK : K'.K = K.K) {d : D} {v : V} (h : Rep K H B φ d v) : Rep K' H B φ d v := Rep.cl hK d v (Rep.clear n d v h) h
theorem MRep.cl (hK : K'.K = K.K) {o : MO} {a : Addr} (q : clMO o = true) (h : MRep K H B φ o a) : MRep K' H B φ o a := by
  cases o with
  | lst _ xs => obtain ⟨vs, e, r⟩ := h; exact ⟨vs, e, RepL.cl hK xs vs q r⟩
  | dk _ ks xs => obtain ⟨vs, e, l, r⟩ := h; exact ⟨vs, e, l, RepL.cl hK xs vs q r⟩
  | dt _ ks xs => obtain ⟨vs, e, l, r⟩ := h; exact ⟨vs, e, l, RepL.cl hK xs vs q r⟩
theorem MRep.into (n : NoEx K) (hK : K'.K = K.K) {o : MO} {a : Addr} (h : MRep K H B φ o a) : MRep K' H B φ o a := by
  cases o with
  | lst _ xs => obtain ⟨vs, e, r⟩ := h; exact ⟨vs, e, RepL.cl hK xs vs (RepL.clear n xs vs r) r⟩
  | dk _ ks xs => obtain ⟨vs, e, l, r⟩ := h; exact ⟨vs, e, l, RepL.cl hK xs vs (RepL.clear n xs vs r) r⟩
  | dt _ ks xs => obtain ⟨vs, e, l, r⟩ := h; exact ⟨vs, e, l, RepL.cl hK xs vs (RepL.clear n xs vs r) r⟩
variable {H0 : Hp} {s : Sl} {m : Mm} {σ : L2.St}
/-- into a suite -/
theorem SR.into (n : NoEx K) (hK : K'.K = K.K) (x : SR K H0 B s φ m σ H) : SR K' H0 B s φ m σ H :=
  ⟨x.len, fun i d e => let ⟨v, h1, h2⟩ := x.sl i d e; ⟨v, h1, h2.into n hK⟩, x.nd, x.ml, fun k a o h1 h2 => (x.ob k a o h1 h2).into n hK, x.own, x.dj, x.bs, x.gr⟩
/-- out of a suite -/
theorem SR.cl (hK : K'.K = K.K) (hs : clS s = true) (hm : clM m = true) (x : SR K H0 B s φ m σ H) : SR K' H0 B s φ m σ H := by
  refine ⟨x.len, fun i d e => ?_, x.nd, x.ml, fun k a o h1 h2 => (x.ob k a o h1 h2).cl hK (List.all_eq_true.mp hm o (List.mem_of_getElem? h2)), x.own, x.dj, x.bs, x.gr⟩
  obtain ⟨v, h1, h2⟩ := x.sl i d e
  exact ⟨v, h1, Rep.cl hK d v (List.all_eq_true.mp hs (some d) (List.mem_of_getElem? e)) h2⟩
/-- .. the slots forgotten -/
theorem SR.blank (x : SR K H0 B s φ m σ H) : SR K H0 B (List.replicate s.length Option.none) φ m σ H :=
  x.slots (by rw [List.length_replicate]; exact x.len) fun i d e => by
    have := List.eq_of_mem_replicate (List.mem_of_getElem? e)
    cases this
theorem clS_blank (n : Nat) : clS (List.replicate n Option.none) = true := List.all_eq_true.mpr fun x hx => by rw [List.eq_of_mem_replicate hx]; rfl
theorem SR.unset (x : SR K H0 B s φ m σ H) (i : Nat) (v : Option V) : SR K H0 B (s.set i Option.none) φ m (σ.set i v) H := by
  refine x.slots (by simp [x.len]) fun j e q => ?_
  by_cases hj : i = j
  · subst hj
    rw [List.getElem?_set] at q
    simp only [if_true] at q
    split at q <;> cases q
  · rw [List.getElem?_set_ne hj] at q
    obtain ⟨v, h1, h2⟩ := x.sl j e q
    exact ⟨v, by rw [List.getElem?_set_ne hj]; exact h1, h2⟩
end
theorem kIn_eq (ks : List Nat) (k : Nat) : kIn ks k = ks.contains k := by
  induction ks with
  | nil => rfl
  | cons x xs ih =>
    show (if Nat.beq x k then true else kIn xs k) = _
    rw [ih, List.contains_cons]
    cases h : Nat.beq x k with
    | true => have := Nat.eq_of_beq_eq_true h; subst this; simp
    | false =>
      have : ¬k = x := fun e => by subst e; rw [Nat.beq_refl] at h; cases h
      simp [this]

variable {c : Cc}
/-- the context of a try's body; of a suite that holds the exception -/
abbrev Cc.tr (c : Cc) (W : WX) (pn : List (Addr × Obj)) (xe : Value → Shared → Prop) : Cc := { c with X := c.X.tr pn xe, W := W }
abbrev Cc.su (c : Cc) (a : Addr) (pn : List (Addr × Obj)) (ex : Nat → Option Addr → Addr → Prop) : Cc := { c with X := c.X.suite a pn, W := fun _ _ _ _ => False, ex := ex }
/-- how a class is told -/
def ClsT (c : Cc) (x : Str) (cV : V) (cv : Value) : Prop := (∀ u, RelV cV u → u = cv) ∧ (x == ("__debug__" : Str)) = false ∧ ((c.X.mg x = some cv ∧ ∃ C, cv = .ref C ∧ cV = .ref C) ∨ (c.X.mg x = none ∧ x ≠ "__name__" ∧ ∃ T, bootBuiltins x = some cv ∧ cv = .type T ∧ cV = .ty T))
theorem ClsT.names {x : Str} {cV : V} {cv : Value} (h : ClsT c x cV cv) (h1 : Gl c.X x) : Names c.X x cv := by
  obtain ⟨_, h2, h3⟩ := h
  refine ⟨h1, h2, ?_⟩
  rcases h3 with ⟨h3, _⟩ | ⟨h3, h4, T, h5, _⟩
  · exact .inl h3
  · exact .inr ⟨h3, h5, h4⟩
theorem ClsT.pe {X : Cx} {x : Str} {cV : V} {cv : Value} {p : Pos} (h : ClsT c x cV cv) (hX : X.mg = c.X.mg) (hg : Gl X x) : PE X (.Name x p) (tC cV) := by
  obtain ⟨_, h2, h3⟩ := h
  rcases h3 with ⟨h3, C, rfl, rfl⟩ | ⟨h3, h4, T, h5, rfl, rfl⟩
  · exact pe_glob hg (by rw [hX]; exact h3) rfl h2
  · exact pe_bltn hg (by rw [hX]; exact h3) h5 rfl h4 h2
/-- what the known classes are to it -/
structure XCls (c : Cc) (N : Nat) (x : Str) (ks : List Nat) : Prop where
  ok : ∃ (cV : V) (cv : Value), ClsT c x cV cv ∧ ∀ k, k < N → PySem.W.exmOne c.X.K (.ref (c.xi.at_ k)) cv = some (kIn ks k) ∧ PySem.W.kitOne c.X.K (.ref (c.xi.at_ k)) cv = some (kIn ks k)
/-- where the exceptions that the context holds lie -/
structure HeldOk (c : Cc) : Prop where
  at_ : ∀ k d a, c.ex k d a → ∃ (X0 : Cx) (oe : Obj) (pn : List (Addr × Obj)), c.X = X0.suite a ((a, oe) :: pn) ∧ Zc (.ref (c.xi.at_ k)) d oe ∧ ∃ vs, oe.data = .fields vs
theorem xfld_dict {n : Str} {H : Hp} {fs : List D} {d : Option Addr} (h : XFld n H fs d) : d = none ∨ ∃ dd u, d = some dd ∧ H dd = some (.xd u) := by
  unfold XFld at h
  split at h
  · exact .inl h
  · obtain ⟨dd, w, e1, e2, _⟩ := h; exact .inr ⟨dd, _, e1, e2⟩
  · exact h.elim
theorem je_isE {i N : Nat} {x n : Str} {ks : List Nat} {p p1 p2 pos : Pos} (hh : HeldOk c) (hgx : Gl c.X x) (hx : XCls c N x ks) (hE : ∀ k, k < N → ExcC c.X.K (c.xi.at_ k)) (hN : c.X.N[i]? = some n) (hv : Vis c.X.env.scope n) (hd : (n == ("__debug__" : Str)) = false) (hcd : (n == ("__classdict__" : Str)) = false)
    (hg : Gl c.X "isinstance") (hm : c.X.mg "isinstance" = none) : JE c (.Call (.Name "isinstance" p) [.Name n p1, .Name x p2] [] pos) (xIsE i N ks) := by
  refine ⟨fun pins st σ H Q I hw => ?_⟩
  obtain ⟨s, φ, m, sr, h⟩ := hw
  have h' : OutG c σ H (match nthL s i with
    | some (some (.exc k _)) => if Nat.blt k N = true then rt (D.bl (kIn ks k), false) else none
    | _ => none) (VOk c φ H Q) := h
  clear h
  rw [nthL_eq] at h'
  cases e : s[i]? with
  | none => rw [e] at h'; exact h'.elim
  | some o => cases o with
    | none => rw [e] at h'; exact h'.elim
    | some d => cases d with
      | exc k fs =>
        rw [e] at h'
        dsimp only at h'
        obtain ⟨hlt, h'⟩ := OutG.if c h'
        have hlt' : k < N := Nat.le_of_ble_eq_true hlt
        have q := OutG.ok c h'
        obtain ⟨v, h1, a, od, rfl, hex, hfl⟩ := sr.sl i _ e
        obtain ⟨X0, oe, pn, eX, hz, hf⟩ := hh.at_ k od a hex
        obtain ⟨cV, cv, hc, tab⟩ := hx.ok
        have hc1 := hc.1
        have hpe : PE c.X (.Name x p2) (tC cV) := hc.pe rfl hgx
        have cr := cr_isE (X := X0) (a := a) (oe := oe) (d := od) (pn := pn) (C := c.xi.at_ k) (by have := hE k hlt'; rw [eX] at this; exact this) hz hf
        rw [← eX] at cr
        have pv := pe_var (X := c.X) (i := i) (x := n) (pos := p1) hN hv hd hcd
        refine (pe_callB cr hg hm (by decide +kernel) (pa_cons pv (pa_cons hpe pa_nil rfl) rfl) (by decide) (by decide) rfl rfl).run pins st σ H Q I ?_
        refine ⟨.ref a, h1, cV, cv, kIn ks k, rfl, hc1, xfld_dict hfl, ?_, VOk.at q rfl⟩
        have := (tab k hlt').2
        rw [eX] at this
        exact this
      | _ => rw [e] at h'; exact h'.elim
/-- e.f -/
theorem je_fldE {i : Nat} {kf : List Nat} {n f : Str} {p1 pos : Pos} (hh : HeldOk c) (hX : ∀ k, kIn kf k = true → c.xi.fld k = f ∧ XfC c.X.K (c.xi.at_ k) ∧ PySem.W.findIn c.X.K (.ref (c.xi.at_ k)) f = some none)
    (hN : c.X.N[i]? = some n) (hv : Vis c.X.env.scope n) (hd : (n == ("__debug__" : Str)) = false) (hcd : (n == ("__classdict__" : Str)) = false) : JE c (.Attribute (.Name n p1) f pos) (xFldE i kf) := by
  refine ⟨fun pins st σ H Q I hw => ?_⟩
  obtain ⟨s, φ, m, sr, h⟩ := hw
  have h' : OutG c σ H (match nthL s i with
    | some (some (.exc k [f])) => if kIn kf k = true then rt (f, false) else none
    | _ => none) (VOk c φ H Q) := h
  clear h
  rw [nthL_eq] at h'
  cases e : s[i]? with
  | none => rw [e] at h'; exact h'.elim
  | some o => cases o with
    | none => rw [e] at h'; exact h'.elim
    | some d => cases d with
      | exc k fs =>
        rw [e] at h'
        match fs, h', e with
        | [], h', e => exact h'.elim
        | _ :: _ :: _, h', e => exact h'.elim
        | [g], h', e =>
          obtain ⟨hkf, h'⟩ := OutG.if c (show OutG c σ H (if kIn kf k = true then rt (g, false) else none) (VOk c φ H Q) from h')
          have q : VOk c φ H Q (g, false) := h'
          obtain ⟨v, h1, a, od, rfl, hex, dd, w, rfl, hdd, hw⟩ := sr.sl i _ e
          obtain ⟨X0, oe, pn, eX, hz, hf⟩ := hh.at_ k _ a hex
          obtain ⟨hn, T, hno⟩ := hX k hkf
          have pv := pe_var (X := c.X) (i := i) (x := n) (pos := p1) hN hv hd hcd
          have hdd' : H dd = some (.xd [(f, w)]) := by rw [← hn]; exact hdd
          have T' : XfC X0.K (c.xi.at_ k) := by rw [eX] at T; exact T
          have hno' : PySem.W.findIn X0.K (.ref (c.xi.at_ k)) f = some none := by rw [eX] at hno; exact hno
          have pr : PE c.X (.Attribute (.Name n p1) f pos) (tXf a (.ref (c.xi.at_ k)) (some dd) (c.xi.at_ k) f (tVar i)) := by
            rw [eX] at pv ⊢
            exact pe_xf (X := X0) (cls := .ref (c.xi.at_ k)) T' hno' hz hf pv rfl
          refine pr.run pins st σ H Q I ⟨.ref a, h1, rfl, rfl, dd, _, w, rfl, hdd', by simp, VOk.at q ?_⟩
          cases g <;> first | exact hw | exact hw.elim
      | _ => rw [e] at h'; exact h'.elim

/-! ### try -/
theorem OutS.congrW {W : WX} {En : Ends} {φ : List Addr} {m : Mm} {H : Hp} {r : Os} (h : OutS c En φ m H r) (w : ∀ x fs s' m', r = some (.ex x fs s' m') → OutS { c with W := W } En φ m H r) : OutS { c with W := W } En φ m H r := by
  cases r with
  | none => exact h
  | some o => cases o with
    | nx s' m' => exact h
    | rt d fr m' => exact h
    | bk s' m' => exact h
    | ct s' m' => exact h
    | ex x fs s' m' => exact w x fs s' m' rfl
/-- a clause as it is read: its class, the numbers that it takes, its slot, its suite -/
structure Hq where
  cl : Value
  ks : List Nat
  sl : Option Nat
  su : Xst
noncomputable def Hq.run : List Hq → Nat → List D → Option Xst
  | [] => hNil
  | q :: qs => hCons q.ks q.sl q.su (Hq.run qs)
/-- the exception that lies at a, of class number k, with the dict d -/
def exAt (k : Nat) (d : Option Addr) (a : Addr) : Nat → Option Addr → Addr → Prop := fun k' d' a' => k' = k ∧ d' = d ∧ a' = a
/-- the reading of a clause's suite -/
def Hq.ts (c : Cc) (N : Nat) (q : Hq) (a : Addr) (cls : Value) (d : Option Addr) : TS := fun D σ H => ∃ k, k < N ∧ cls = .ref (c.xi.at_ k) ∧
  match q.sl with
  | none => TSv (c.su a [] c.ex) q.su D σ H
  | some _ => TSv (c.su a [] (exAt k d a)) q.su D σ H
def Hq.hd (c : Cc) (N : Nat) (q : Hq) : Hd := ⟨q.cl, q.sl, q.ts c N⟩
theorem TSv.pn {a : Addr} {pn pn' : List (Addr × Obj)} {ex : Nat → Option Addr → Addr → Prop} {f : Xst} {D : Ends} {σ : L2.St} {H : Hp} (h : TSv (c.su a pn ex) f D σ H) : TSv (c.su a pn' ex) f D σ H := by
  obtain ⟨s, φ, m, sr, h⟩ := h
  refine ⟨s, φ, m, sr, ?_⟩
  cases hr : f s m with
  | none => rw [hr] at h; exact h
  | some o => rw [hr] at h; cases o <;> exact h
theorem clauses_of {N : Nat} {D : Ends} {s' : Sl} {φ φ' : List Addr} {m m' : Mm} {σ' : L2.St} {H H' : Hp} {x : Nat} {fs : List MP.D} {cls : Value} {d : Option Addr} (hn : NoEx c.R) (hlt' : x < N) (hcls : cls = .ref (c.xi.at_ x)) (hfs : XFld (c.xi.fld x) H' fs d) (hx : Ext φ m H φ' m' H') (sr' : c.SR s' φ' m' σ' H') :
    ∀ (qs : List Hq), (∀ q ∈ qs, ∀ k, k < N → PySem.W.exmOne c.X.K (.ref (c.xi.at_ k)) q.cl = some (kIn q.ks k)) → OutS c D φ m H (match Hq.run qs x fs with
      | some su => su s' m'
      | none => some (.ex x fs s' m')) → wMix c.X.K c.W D (qs.map (Hq.hd c N)) cls d σ' H' := by
  intro qs
  induction qs with
  | nil => intro _ h'; exact h' cls d σ' H' φ' hx sr' ⟨hcls, hfs⟩
  | cons q qs ih =>
    intro tab h'
    have h2 : OutS c D φ m H (match (if kIn q.ks x then some (sAs q.sl x fs q.su) else Hq.run qs x fs) with
      | some su => su s' m'
      | none => some (.ex x fs s' m')) := h'
    refine ⟨kIn q.ks x, by rw [hcls]; exact tab q List.mem_cons_self x hlt', fun hk a ha => ?_, fun hk => ?_⟩
    · rw [if_pos hk] at h2
      have h3 : OutS c D φ' m' H' (sAs q.sl x fs q.su s' m') := OutS.imp h2 hx
      show sufR _ _ _ _ _ _ _
      unfold sufR Hq.hd Hq.ts
      dsimp only
      unfold sAs at h3
      cases hs : q.sl with
      | none =>
        rw [hs] at h3
        refine ⟨x, hlt', hcls, s', φ', m', sr', ?_⟩
        dsimp only at h3 ⊢
        generalize q.su s' m' = r at h3
        cases r with
        | none => exact h3
        | some o => cases o with
          | nx s2 m2 => exact h3
          | rt d2 fr2 m2 => exact h3
          | bk s2 m2 => exact h3
          | ct s2 m2 => exact h3
          | ex _ _ _ _ => exact h3.elim
      | some i =>
        rw [hs] at h3
        dsimp only at h3 ⊢
        rw [frL_eq, setL_eq] at h3
        have sr2 : SR (c.su a [] (exAt x d a)).R c.H0 c.B s' φ' m' σ' H' := SR.into hn rfl sr'
        have rx : Rep (c.su a [] (exAt x d a)).R H' c.B φ' (.exc x fs) (.ref a) := ⟨a, d, rfl, ⟨rfl, rfl, rfl⟩, hfs⟩
        refine ⟨x, hlt', hcls, s'.set i (some (.exc x fs)), φ', m', sr2.set i rx, ?_⟩
        generalize q.su (s'.set i (some (.exc x fs))) m' = r at h3
        have out : ∀ {s2 : Sl} {m2 : Mm} {σ2 : L2.St} {H2 : Hp} {φ2 : List Addr}, (clS (setL s2 i none) && clM m2) = true → SR (c.su a [] (exAt x d a)).R c.H0 c.B s2 φ2 m2 σ2 H2 → c.SR (setL s2 i none) φ2 m2 (σ2.set i none) H2 := fun {s2 m2 σ2 H2 φ2} hc z => by
          rw [Bool.and_eq_true] at hc
          rw [setL_eq] at hc ⊢
          exact SR.cl (by rfl) hc.1 hc.2 (z.unset i none)
        cases r with
        | none => exact h3
        | some o => cases o with
          | nx s2 m2 =>
            have h4 : OutS c D φ' m' H' (if (clS (setL s2 i none) && clM m2) = true then MP.nxt (setL s2 i none) m2 else none) := h3
            by_cases hc : (clS (setL s2 i none) && clM m2) = true
            · rw [if_pos hc] at h4
              exact fun σ2 H2 φ2 y z => OutS.nxt (c := c) h4 y (out hc z)
            · rw [if_neg hc] at h4; exact h4.elim
          | rt d2 fr2 m2 =>
            have h4 : OutS c D φ' m' H' (if (clD d2 && clM m2) = true then some (.rt d2 fr2 m2) else none) := h3
            by_cases hc : (clD d2 && clM m2) = true
            · rw [if_pos hc] at h4
              rw [Bool.and_eq_true] at hc
              intro v s2 σ2 H2 φ2 y z rv hr
              refine h4 v _ σ2 H2 φ2 y (SR.cl (by rfl) (clS_blank s2.length) hc.2 z.blank) (Rep.cl (by rfl) d2 v hc.1 rv) fun ef => ?_
              obtain ⟨b, e1, e2, e3⟩ := hr ef
              refine ⟨b, e1, e2, fun xs ed => ?_⟩
              obtain ⟨vs, z1, z2, z3⟩ := e3 xs ed
              refine ⟨vs, z1, RepL.cl (by rfl) xs vs (by rw [ed, clD] at hc; exact hc.1) z2, SR.cl (by rfl) (clS_blank s2.length) hc.2 z3.blank⟩
            · rw [if_neg hc] at h4; exact h4.elim
          | bk s2 m2 =>
            have h4 : OutS c D φ' m' H' (if (clS (setL s2 i none) && clM m2) = true then some (.bk (setL s2 i none) m2) else none) := h3
            by_cases hc : (clS (setL s2 i none) && clM m2) = true
            · rw [if_pos hc] at h4
              exact fun σ2 H2 φ2 y z => h4 _ _ _ y (out hc z)
            · rw [if_neg hc] at h4; exact h4.elim
          | ct s2 m2 =>
            have h4 : OutS c D φ' m' H' (if (clS (setL s2 i none) && clM m2) = true then some (.ct (setL s2 i none) m2) else none) := h3
            by_cases hc : (clS (setL s2 i none) && clM m2) = true
            · rw [if_pos hc] at h4
              exact fun σ2 H2 φ2 y z => h4 _ _ _ y (out hc z)
            · rw [if_neg hc] at h4; exact h4.elim
          | ex _ _ _ _ => exact h3.elim
    · rw [if_neg (by rw [hk]; simp)] at h2
      exact ih (fun q hq => tab q (List.mem_cons_of_mem _ hq)) h2
theorem js_try {N : Nat} {body : List Stmt} {eh : ExceptHandler} {es : List ExceptHandler} {pos : Pos} {fb : Xst} {qs : List Hq} (hst : c.X.stack = c.X.env :: c.X.outer) (hf : c.X.env.frame = some c.X.env.locals) (hN : c.X.N.Nodup) (tk : Takes c.X c.W) (hn : NoEx c.R)
    (hb : ∀ (W : WX) (pn : List (Addr × Obj)) (xe : Value → Shared → Prop), Takes (c.X.tr pn xe) W → PassesOwn (model c.X.prog c.X.w) c.X.A c.X.env xe → JSs (c.tr W pn xe) body fb)
    (tab : ∀ q ∈ qs, ∀ k, k < N → PySem.W.exmOne c.X.K (.ref (c.xi.at_ k)) q.cl = some (kIn q.ks k))
    (hh : MixOk c.X (eh :: es) (qs.map (Hq.hd c N))) : JS c (.Try body (eh :: es) [] [] pos) (sTry N fb (Hq.run qs)) := by
  have p := ps_try_mix (pos := pos) (tb := fun W D σ H => TSv { c with W := W } fb D σ H) (Wout := c.W) hst hf hN tk (fun W pn xe h1 h2 => hb W pn xe h1 h2) hh
  refine PS.weak p fun D σ H ⟨s, φ, m, sr, h⟩ => ⟨s, φ, m, sr, ?_⟩
  have h' : OutS c D φ m H (match fb s m with
    | some (.ex x fs s' m') => if Nat.blt x N then match Hq.run qs x fs with
      | some su => su s' m'
      | none => some (.ex x fs s' m')
      else none
    | r => r) := h
  clear h
  generalize fb s m = r at h'
  cases r with
  | none => exact h'
  | some o => cases o with
    | nx s' m' => exact h'
    | rt d fr m' => exact h'
    | bk s' m' => exact h'
    | ct s' m' => exact h'
    | ex x fs s' m' =>
      intro cls d σ' H' φ' hx sr' er
      obtain ⟨hcls, hfs⟩ := er
      dsimp only at h'
      by_cases hlt : Nat.blt x N = true
      · rw [if_pos hlt] at h'
        exact clauses_of hn (Nat.le_of_ble_eq_true hlt) hcls hfs hx sr' qs tab h'
      · rw [if_neg hlt] at h'; exact h'.elim
end MP
set_option Elab.async false
set_option linter.all false
set_option maxRecDepth 100000
set_option autoImplicit false
set_option maxHeartbeats 1000000
/-! a tree of the language stands for a text's tree: a look, proved -/
namespace MP
open PySem PySem.Spec PyProof.Rows L2
variable {c : Cc}

/-! ### looks at one tree -/
section
variable (x : Expr)
def vName (k : Str → Bool) : Bool := match x with
  | .Name n _ => k n
  | _ => false
def vCon (k : Const → Bool) : Bool := match x with
  | .Constant v _ _ => k v
  | _ => false
def vBin (k : Expr → Operator → Expr → Bool) : Bool := match x with
  | .BinOp a o b _ => k a o b
  | _ => false
def vUn (k : UnaryOp → Expr → Bool) : Bool := match x with
  | .UnaryOp o a _ => k o a
  | _ => false
def vCmp1 (k : Expr → CmpOp → Expr → Bool) : Bool := match x with
  | .Compare a [o] [b] _ => k a o b
  | _ => false
def vCmp2 (k : Expr → CmpOp → CmpOp → Expr → Expr → Bool) : Bool := match x with
  | .Compare a [o, p] [b, d] _ => k a o p b d
  | _ => false
def vBool (k : BoolOp → List Expr → Bool) : Bool := match x with
  | .BoolOp o es _ => k o es
  | _ => false
def vIf (k : Expr → Expr → Expr → Bool) : Bool := match x with
  | .IfExp t a b _ => k t a b
  | _ => false
def vTup (k : List Expr → Bool) : Bool := match x with
  | .Tuple es _ _ => k es
  | _ => false
def vLst (k : List Expr → Bool) : Bool := match x with
  | .List es _ => k es
  | _ => false
def vSub (k : Expr → Expr → Bool) : Bool := match x with
  | .Subscript a i _ => k a i
  | _ => false
def vSlc (k : Expr → Option Expr → Option Expr → Bool) : Bool := match x with
  | .Subscript a (.Slice lo hi none _) _ => k a lo hi
  | _ => false
def vRev (k : Expr → Bool) : Bool := match x with
  | .Subscript a (.Slice none none (some (.UnaryOp .USub (.Constant (.int 1) _ _) _)) _) _ => k a
  | _ => false
def vCall (k : Str → List Expr → Bool) : Bool := match x with
  | .Call (.Name n _) es [] _ => k n es
  | _ => false
def vMeth (k : Expr → Str → List Expr → Bool) : Bool := match x with
  | .Call (.Attribute o n ap) es [] p => (ap.endLine == p.line) && k o n es
  | _ => false
def vLc1 (k : Expr → Expr → Expr → List Expr → Scope → Bool) : Bool := match x with
  | .ListComp elt [⟨tg, iter, ifs, 0⟩] scope _ => k elt tg iter ifs scope
  | _ => false
def vLc2 (k : Expr → Expr → Expr → List Expr → Expr → Expr → List Expr → Scope → Bool) : Bool := match x with
  | .ListComp elt [⟨tg, iter, ifs, 0⟩, ⟨tg1, iter1, ifs1, 0⟩] scope _ => k elt tg iter ifs tg1 iter1 ifs1 scope
  | _ => false
def vDc (k : Expr → Expr → Expr → Expr → List Expr → Scope → Bool) : Bool := match x with
  | .DictComp kx vx [⟨tg, iter, ifs, 0⟩] scope _ => k kx vx tg iter ifs scope
  | _ => false
def isTup : Bool := match x with
  | .Tuple _ _ _ => true
  | _ => false
def notSet : Bool := match x with
  | .Set _ _ _ => false
  | _ => true
/-- as a test it is judged by its value -/
def plainT : Bool := match x with
  | .UnaryOp _ _ _ => false
  | .BoolOp _ _ _ => false
  | .IfExp _ _ _ _ => false
  | .Compare _ _ _ _ => false
  | _ => true
def isNone : Bool := match x with
  | .Constant .none _ _ => true
  | _ => false
end
def vLcN (x : Expr) (k : Expr → Expr → Expr → List Expr → List Comprehension → Scope → Bool) : Bool := match x with
  | .ListComp elt (⟨tg, iter, ifs, 0⟩ :: gs) scope _ => k elt tg iter ifs gs scope
  | _ => false
/-- e in range(a, b, k) -/
def vInR (x : Expr) (k : Expr → Str → Expr → Expr → Int → Bool) : Bool := match x with
  | .Compare e [.In] [.Call (.Name n _) [a, b, .Constant (.int j) _ _] [] _] _ => k e n a b j
  | _ => false
def vRevK (x : Expr) (k : Str → Expr → Str → Bool) : Bool := match x with
  | .Call (.Name n _) [a] [⟨some q, .Constant (.bool true) _ _, _⟩] _ => k n a q
  | _ => false
def vStarC (x : Expr) (k : Str → Expr → Bool) : Bool := match x with
  | .Call (.Name n _) [.Starred a _] [] _ => k n a
  | _ => false
section
variable {x : Expr}
theorem vLcN_ok {k : Expr → Expr → Expr → List Expr → List Comprehension → Scope → Bool} (h : vLcN x k = true) : ∃ elt tg iter ifs gs scope p, x = .ListComp elt (⟨tg, iter, ifs, 0⟩ :: gs) scope p ∧ k elt tg iter ifs gs scope = true := by
  unfold vLcN at h; split at h
  · exact ⟨_, _, _, _, _, _, _, rfl, h⟩
  · cases h
theorem vInR_ok {k : Expr → Str → Expr → Expr → Int → Bool} (h : vInR x k = true) : ∃ e n p a b j c1 c2 q p2, x = .Compare e [.In] [.Call (.Name n p) [a, b, .Constant (.int j) c1 c2] [] q] p2 ∧ k e n a b j = true := by
  unfold vInR at h; split at h
  · exact ⟨_, _, _, _, _, _, _, _, _, _, rfl, h⟩
  · cases h
theorem vRevK_ok {k : Str → Expr → Str → Bool} (h : vRevK x k = true) : ∃ n p a q j p1 p2 p3, x = .Call (.Name n p) [a] [⟨some q, .Constant (.bool true) j p1, p2⟩] p3 ∧ k n a q = true := by
  unfold vRevK at h; split at h
  · exact ⟨_, _, _, _, _, _, _, _, rfl, h⟩
  · cases h
theorem vStarC_ok {k : Str → Expr → Bool} (h : vStarC x k = true) : ∃ n p a p1 p2, x = .Call (.Name n p) [.Starred a p1] [] p2 ∧ k n a = true := by
  unfold vStarC at h; split at h
  · exact ⟨_, _, _, _, _, rfl, h⟩
  · cases h
theorem vName_ok {k : Str → Bool} (h : vName x k = true) : ∃ n p, x = .Name n p ∧ k n = true := by
  unfold vName at h; split at h
  · exact ⟨_, _, rfl, h⟩
  · cases h
theorem vCon_ok {k : Const → Bool} (h : vCon x k = true) : ∃ v j p, x = .Constant v j p ∧ k v = true := by
  unfold vCon at h; split at h
  · exact ⟨_, _, _, rfl, h⟩
  · cases h
theorem vBin_ok {k : Expr → Operator → Expr → Bool} (h : vBin x k = true) : ∃ a o b p, x = .BinOp a o b p ∧ k a o b = true := by
  unfold vBin at h; split at h
  · exact ⟨_, _, _, _, rfl, h⟩
  · cases h
theorem vUn_ok {k : UnaryOp → Expr → Bool} (h : vUn x k = true) : ∃ o a p, x = .UnaryOp o a p ∧ k o a = true := by
  unfold vUn at h; split at h
  · exact ⟨_, _, _, rfl, h⟩
  · cases h
theorem vCmp1_ok {k : Expr → CmpOp → Expr → Bool} (h : vCmp1 x k = true) : ∃ a o b p, x = .Compare a [o] [b] p ∧ k a o b = true := by
  unfold vCmp1 at h; split at h
  · exact ⟨_, _, _, _, rfl, h⟩
  · cases h
theorem vCmp2_ok {k : Expr → CmpOp → CmpOp → Expr → Expr → Bool} (h : vCmp2 x k = true) : ∃ a o q b d p, x = .Compare a [o, q] [b, d] p ∧ k a o q b d = true := by
  unfold vCmp2 at h; split at h
  · exact ⟨_, _, _, _, _, _, rfl, h⟩
  · cases h
theorem vBool_ok {k : BoolOp → List Expr → Bool} (h : vBool x k = true) : ∃ o es p, x = .BoolOp o es p ∧ k o es = true := by
  unfold vBool at h; split at h
  · exact ⟨_, _, _, rfl, h⟩
  · cases h
theorem vIf_ok {k : Expr → Expr → Expr → Bool} (h : vIf x k = true) : ∃ t a b p, x = .IfExp t a b p ∧ k t a b = true := by
  unfold vIf at h; split at h
  · exact ⟨_, _, _, _, rfl, h⟩
  · cases h
theorem vTup_ok {k : List Expr → Bool} (h : vTup x k = true) : ∃ es j p, x = .Tuple es j p ∧ k es = true := by
  unfold vTup at h; split at h
  · exact ⟨_, _, _, rfl, h⟩
  · cases h
theorem vLst_ok {k : List Expr → Bool} (h : vLst x k = true) : ∃ es p, x = .List es p ∧ k es = true := by
  unfold vLst at h; split at h
  · exact ⟨_, _, rfl, h⟩
  · cases h
theorem vSub_ok {k : Expr → Expr → Bool} (h : vSub x k = true) : ∃ a i p, x = .Subscript a i p ∧ k a i = true := by
  unfold vSub at h; split at h
  · exact ⟨_, _, _, rfl, h⟩
  · cases h
theorem vSlc_ok {k : Expr → Option Expr → Option Expr → Bool} (h : vSlc x k = true) : ∃ a lo hi p2 p, x = .Subscript a (.Slice lo hi none p2) p ∧ k a lo hi = true := by
  unfold vSlc at h; split at h
  · exact ⟨_, _, _, _, _, rfl, h⟩
  · cases h
theorem vRev_ok {k : Expr → Bool} (h : vRev x k = true) : ∃ a j p1 p2 p3 p, x = .Subscript a (.Slice none none (some (.UnaryOp .USub (.Constant (.int 1) j p1) p2)) p3) p ∧ k a = true := by
  unfold vRev at h; split at h
  · exact ⟨_, _, _, _, _, _, rfl, h⟩
  · cases h
theorem vCall_ok {k : Str → List Expr → Bool} (h : vCall x k = true) : ∃ n p es q, x = .Call (.Name n p) es [] q ∧ k n es = true := by
  unfold vCall at h; split at h
  · exact ⟨_, _, _, _, rfl, h⟩
  · cases h
theorem vMeth_ok {k : Expr → Str → List Expr → Bool} (h : vMeth x k = true) : ∃ o n ap es p, x = .Call (.Attribute o n ap) es [] p ∧ (ap.endLine == p.line) = true ∧ k o n es = true := by
  unfold vMeth at h; split at h
  · rw [Bool.and_eq_true] at h; exact ⟨_, _, _, _, _, rfl, h.1, h.2⟩
  · cases h
theorem vLc1_ok {k : Expr → Expr → Expr → List Expr → Scope → Bool} (h : vLc1 x k = true) : ∃ elt tg iter ifs scope p, x = .ListComp elt [⟨tg, iter, ifs, 0⟩] scope p ∧ k elt tg iter ifs scope = true := by
  unfold vLc1 at h; split at h
  · exact ⟨_, _, _, _, _, _, rfl, h⟩
  · cases h
theorem vLc2_ok {k : Expr → Expr → Expr → List Expr → Expr → Expr → List Expr → Scope → Bool} (h : vLc2 x k = true) : ∃ elt tg iter ifs tg1 iter1 ifs1 scope p, x = .ListComp elt [⟨tg, iter, ifs, 0⟩, ⟨tg1, iter1, ifs1, 0⟩] scope p ∧ k elt tg iter ifs tg1 iter1 ifs1 scope = true := by
  unfold vLc2 at h; split at h
  · exact ⟨_, _, _, _, _, _, _, _, _, rfl, h⟩
  · cases h
theorem vDc_ok {k : Expr → Expr → Expr → Expr → List Expr → Scope → Bool} (h : vDc x k = true) : ∃ kx vx tg iter ifs scope p, x = .DictComp kx vx [⟨tg, iter, ifs, 0⟩] scope p ∧ k kx vx tg iter ifs scope = true := by
  unfold vDc at h; split at h
  · exact ⟨_, _, _, _, _, _, _, rfl, h⟩
  · cases h
theorem isTup_ok (h : isTup x = true) : ∃ es k p, x = .Tuple es k p := by
  unfold isTup at h; split at h
  · exact ⟨_, _, _, rfl⟩
  · cases h
theorem notSet_ok (h : notSet x = true) (env : Env) (v : Value) : foldedSetIterable x env v = pure v := by
  cases x <;> first | rfl | cases h
theorem plainT_ok (h : plainT x = true) (env : Env) (whole : Sem Value) : isTrue x env whole = (do let v ← whole; standAt x.pos; holding [v] (truthy v)) := by
  cases x <;> first | rfl | cases h
theorem isNone_ok (h : isNone x = true) : ∃ j p, x = .Constant .none j p := by
  unfold isNone at h; split at h
  · exact ⟨_, _, rfl⟩
  · cases h
end

/-! ### names -/
structure Sg where
  N : List Str
  fns : List Str
  globs : List Str
  free : List Str
  maths : List Str
  xs : List Str
  calm : Bool
  cls : List (Str × List Nat)
  flds : List (Str × List Nat)
  rep : Bool
def nmB (ns : List Str) (i : Nat) (n : Str) : Bool := decide (ns[i]? = some n)
def visB (sc : Scope) (n : Str) : Bool := match sc.names.lookup n with
  | some .local => true
  | some .cell => true
  | some .free => true
  | _ => false
def locB (sc : Scope) (n : Str) : Bool := match sc.names.lookup n with
  | some .local => true
  | some .cell => true
  | _ => false
def lclB (sc : Scope) (n : Str) : Bool := match sc.names.lookup n with
  | some .local => true
  | _ => false
def glB (sc : Scope) (n : Str) : Bool := match sc.names.lookup n with
  | some .globalImplicit => true
  | _ => false
def inB (ns : List Str) (n : Str) : Bool := decide (n ∈ ns)
theorem nmB_ok {ns : List Str} {i : Nat} {n : Str} (h : nmB ns i n = true) : ns[i]? = some n := of_decide_eq_true h
theorem visB_ok {sc : Scope} {n : Str} (h : visB sc n = true) : Vis sc n := by
  unfold visB at h
  split at h
  · rename_i e; exact .inl e
  · rename_i e; exact .inr (.inl e)
  · rename_i e; exact .inr (.inr e)
  · cases h
theorem locB_ok {sc : Scope} {n : Str} (h : locB sc n = true) : Loc sc n := by
  unfold locB at h
  split at h
  · rename_i e; exact .inl e
  · rename_i e; exact .inr e
  · cases h
theorem lclB_ok {sc : Scope} {n : Str} (h : lclB sc n = true) : sc.names.lookup n = some .local := by
  unfold lclB at h
  split at h
  · rename_i e; exact e
  · cases h
theorem glB_ok {sc : Scope} {n : Str} (h : glB sc n = true) : sc.names.lookup n = some .globalImplicit := by
  unfold glB at h
  split at h
  · rename_i e; exact e
  · cases h
def opIs : Bop → Operator → Bool
  | .add, .Add => true | .sub, .Sub => true | .mul, .Mult => true | .fdiv, .FloorDiv => true | .mod, .Mod => true | .pow, .Pow => true
  | _, _ => false
theorem opIs_ok {o : Bop} {x : Operator} (h : opIs o x = true) : x = opB o := by cases o <;> cases x <;> first | rfl | cases h
def copIs : Cop → CmpOp → Bool
  | .eq, .Eq => true | .ne, .NotEq => true | .lt, .Lt => true | .le, .LtE => true | .gt, .Gt => true | .ge, .GtE => true | .isin, .In => true | .notin, .NotIn => true
  | _, _ => false
theorem copIs_ok {o : Cop} {x : CmpOp} (h : copIs o x = true) : x = opC o := by cases o <;> cases x <;> first | rfl | cases h
def cstB (n : Cn) (k : Const) : Bool := match n, k with
  | .non, .none => true
  | .bl b, .bool b' => b == b'
  | .int i, .int i' => i == i'
  | .str x, .str x' => decide (x = x')
  | _, _ => false
theorem cstB_ok {n : Cn} {k : Const} (h : cstB n k = true) : match n, k with
    | .non, .none => True
    | .bl b, .bool b' => b = b'
    | .int i, .int i' => i = i'
    | .str x, .str x' => x = x'
    | _, _ => False := by
  cases n <;> cases k <;> first | trivial | (cases h; done) | exact eq_of_beq h | exact of_decide_eq_true h
def nm0 : Str := "range"
def nmZ : Str := "zip"
def nmE : Str := "enumerate"
def nmI : Str := "isinstance"
def nmG : Str := "get"
def nmS : Str := "sorted"
def nmV : Str := "reverse"
def clOwns : Cls → List Nat
  | .nil => []
  | .cons own _ _ _ cs => own ++ clOwns cs
def clApart : Cls → Bool
  | .nil => true
  | .cons own _ _ _ cs => (own.all fun i => !(clOwns cs).contains i) && clApart cs
def minus1 : Expr → Bool
  | .UnaryOp .USub (.Constant (.int 1) _ _) _ => true
  | _ => false
theorem minus1_ok {x : Expr} (h : minus1 x = true) : ∃ j p1 p2, x = .UnaryOp .USub (.Constant (.int 1) j p1) p2 := by
  unfold minus1 at h; split at h
  · exact ⟨_, _, _, rfl⟩
  · cases h
def ownP (N : List Str) (own : List Nat) : List (Str × Nat) := own.map fun i => (N.getD i nm0, i)
theorem ownP_snd (N : List Str) (own : List Nat) : (ownP N own).map (·.2) = own := by
  unfold ownP
  rw [List.map_map]
  induction own with
  | nil => rfl
  | cons a r ih => rw [List.map_cons, ih]; rfl

/-! ### the look -/
def inP (l : List (Str × List Nat)) (x : Str) (ks : List Nat) : Bool := decide ((x, ks) ∈ l)
def vAttr (x : Expr) (k : Str → Str → Bool) : Bool := match x with
  | .Attribute (.Name n _) f _ => k n f
  | _ => false
theorem vAttr_ok {x : Expr} {k : Str → Str → Bool} (h : vAttr x k = true) : ∃ n p f q, x = .Attribute (.Name n p) f q ∧ k n f = true := by
  unfold vAttr at h; split at h
  · exact ⟨_, _, _, _, rfl, h⟩
  · cases h
def vCall1 (x : Expr) (k : Str → Expr → Bool) : Bool := match x with
  | .Call (.Name n _) [y] [] _ => k n y
  | _ => false
theorem vCall1_ok {x : Expr} {k : Str → Expr → Bool} (h : vCall1 x k = true) : ∃ n p y q, x = .Call (.Name n p) [y] [] q ∧ k n y = true := by
  unfold vCall1 at h; split at h
  · exact ⟨_, _, _, _, rfl, h⟩
  · cases h
def repO (ne : Bool) : CmpOp → Bool
  | .Eq => !ne
  | .NotEq => ne
  | _ => false
def nmR : Str := "repr"
def nmIx : Str := "index"
def nmCt : Str := "count"
variable (sg : Sg)
mutual
def mTg (sc : Scope) : Tg → Expr → Bool
  | .nm i, x => vName x fun n => nmB sg.N i n && locB sc n
  | .tp ts, x => sg.calm && vTup x fun es => mTgs sc ts es
def mTgs (sc : Scope) : Tgs → List Expr → Bool
  | .nil, es => es.isEmpty
  | .cons t ts, es => match es with
    | [] => false
    | e :: es => noStar e && mTg sc t e && mTgs sc ts es
end
def bltB (sc : Scope) (b : Blt) (n : Str) : Bool := decide (n = bltNm b) && glB sc n && (if bltM b then inB sg.maths n else inB sg.free n)
def freeB (sc : Scope) (m n : Str) : Bool := decide (n = m) && glB sc n && inB sg.free n
mutual
def mE (sc : Scope) : E → Expr → Bool
  | .var i, x => vName x fun n => nmB sg.N i n && visB sc n
  | .cst k, x => vCon x fun v => cstB k v
  | .glob g, x => vName x fun n => nmB sg.globs g n && glB sc n
  | .bin o a b, x => vBin x fun xa xo xb => opIs o xo && mE sc a xa && mE sc b xb
  | .neg a, x => vUn x fun o xa => (o == .USub) && mE sc a xa
  | .cmp o a b, x => vCmp1 x fun xa xo xb => copIs o xo && !behindInMarks xo xb && mE sc a xa && mE sc b xb
  | .isN a, x => vCmp1 x fun xa xo xb => (xo == .Is) && isNone xb && mE sc a xa
  | .notN a, x => vCmp1 x fun xa xo xb => (xo == .IsNot) && isNone xb && mE sc a xa
  | .chn o1 o2 a b d, x => vCmp2 x fun xa x1 x2 xb xd => copIs o1 x1 && copIs o2 x2 && !lastMarks [x1, x2] [xb, xd] && mE sc a xa && mE sc b xb && mE sc d xd
  | .andV es, x => vBool x fun o xs => (o == .And) && mEs sc es xs
  | .orV es, x => vBool x fun o xs => (o == .Or) && mEs sc es xs
  | .notV a, x => vUn x fun o xa => (o == .Not) && mE sc a xa
  | .ite t a b, x => vIf x fun xt xa xb => mT sc t xt && mE sc a xa && mE sc b xb
  | .tup es, x => vTup x fun xs => mD sc es xs
  | .lst es, x => vLst x fun xs => mD sc es xs
  | .sub a i, x => vSub x fun xa xi => noSlice xi && mE sc a xa && mE sc i xi
  | .slc a lo hi, x => vSlc x fun xa xl xh => mE sc a xa && mO sc lo xl && mO sc hi xh
  | .rev a, x => vRev x fun xa => mE sc a xa
  | .call f es, x => vCall x fun n xs => nmB sg.fns f n && glB sc n && mEs sc es xs
  | .blt b es, x => vCall x fun n xs => (sg.calm || bltQ b) && bltB sg sc b n && !xs.isEmpty && mEs sc es xs
  | .mth q a es, x => vMeth x fun xo n xs => match q, xs with
    | .get2, [_, _] => decide (n = nmG) && noSup xo && mE sc a xo && mEs sc es xs
    | .index, [_] => decide (n = nmIx) && noSup xo && mE sc a xo && mEs sc es xs
    | .count, [_] => decide (n = nmCt) && noSup xo && mE sc a xo && mEs sc es xs
    | _, _ => false
  | .inst a t, x => vCall x fun n xs => freeB sg sc nmI n && match xs with
    | [xa, xt] => vName xt fun m => freeB sg sc (Str.ofString (tyNm t)) m && noStar xa && mE sc a xa
    | _ => false
  | .comp own tg it t e, x => sg.calm && vLc1 x fun elt tgx iterx ifs scope => blkC sg.N sc scope (ownP sg.N own) && tgIn own tg && mTg sg scope tg tgx && notSet iterx && mI sc it iterx tgx && mOt scope t ifs && mE scope e elt
  | .comp2 own own1 tg it t tg1 it1 t1 e, x => sg.calm && vLc2 x fun elt tgx iterx ifs tgx1 iterx1 ifs1 scope => blkC sg.N sc scope (ownP sg.N own) && tgIn own tg && own1.all own.contains && tgIn own1 tg1 && mTg sg scope tg tgx && notSet iterx && mI sc it iterx tgx && mOt scope t ifs &&
      mTg sg scope tg1 tgx1 && notSet iterx1 && mI scope it1 iterx1 tgx1 && mOt scope t1 ifs1 && mE scope e elt
  | .inst2 a t1 t2, x => vCall x fun n xs => freeB sg sc nmI n && match xs with
    | [xa, .Tuple [.Name m1 _, .Name m2 _] _ _] => freeB sg sc (Str.ofString (tyNm t1)) m1 && freeB sg sc (Str.ofString (tyNm t2)) m2 && noStar xa && mE sc a xa
    | _ => false
  | .inRng a lo hi k, x => vInR x fun xa n xl xh j => freeB sg sc nm0 n && decide (j = k) && noStar xl && noStar xh && mE sc a xa && mE sc lo xl && mE sc hi xh
  | .srtR a, x => vRevK x fun n xa q => freeB sg sc nmS n && decide (q = nmV) && noStar xa && mE sc a xa
  | .compN own own0 tg it t cs e, x => sg.calm && vLcN x fun elt tgx iterx ifs gs scope => blkC sg.N sc scope (ownP sg.N own) && tgIn own0 tg && (own0.all fun i => !(clOwns cs).contains i) && clApart cs && (own0.all own.contains) && (clOwns cs).all own.contains && mTg sg scope tg tgx && notSet iterx && mI sc it iterx tgx && mOt scope t ifs && mCl scope cs gs && mE scope e elt
  | .dcomp own tg it t k e, x => sg.calm && vDc x fun kx vx tgx iterx ifs scope => blkC sg.N sc scope (ownP sg.N own) && tgIn own tg && mTg sg scope tg tgx && notSet iterx && mI sc it iterx tgx && mOt scope t ifs && mE scope k kx && mE scope e vx
  | .isE i n ks, x => vCall x fun q xs => freeB sg sc nmI q && decide (n = sg.xs.length) && match xs with
    | [.Name e _, .Name y _] => nmB sg.N i e && visB sc e && glB sc y && inP sg.cls y ks
    | _ => false
  | .repC ne a b, x => vCmp1 x fun xa xo xb => sg.rep && repO ne xo && (vCall1 xa fun n ya => freeB sg sc nmR n && noStar ya && mE sc a ya) && (vCall1 xb fun n yb => freeB sg sc nmR n && noStar yb && mE sc b yb)
  | .fldE i kf, x => vAttr x fun e f => nmB sg.N i e && visB sc e && inP sg.flds f kf
def mCl (sc : Scope) : Cls → List Comprehension → Bool
  | .nil, gs => gs.isEmpty
  | .cons own tg it t cs, gs => match gs with
    | ⟨tgx, iterx, ifs, 0⟩ :: gs => tgIn own tg && mTg sg sc tg tgx && notSet iterx && mI sc it iterx tgx && mOt sc t ifs && mCl sc cs gs
    | _ => false
def mEs (sc : Scope) : Es → List Expr → Bool
  | .nil, xs => xs.isEmpty
  | .cons e es, xs => match xs with
    | [] => false
    | x :: xs => noStar x && mE sc e x && mEs sc es xs
  | .star _ _, _ => false
/-- a display's items, stars among them -/
def mD (sc : Scope) : Es → List Expr → Bool
  | .nil, xs => xs.isEmpty
  | .cons e es, xs => match xs with
    | [] => false
    | x :: xs => noStar x && mE sc e x && mD sc es xs
  | .star e es, xs => match xs with
    | .Starred x _ :: xs => mE sc e x && mD sc es xs
    | _ => false
def mO (sc : Scope) : Oe → Option Expr → Bool
  | .none, x => x.isNone
  | .some e, x => match x with
    | some x => mE sc e x
    | none => false
def mT (sc : Scope) : T → Expr → Bool
  | .tru e, x => plainT x && mE sc e x
  | .cmp o a b, x => vCmp1 x fun xa xo xb => copIs o xo && !behindInMarks xo xb && mE sc a xa && mE sc b xb
  | .isN a, x => vCmp1 x fun xa xo xb => (xo == .Is) && isNone xb && mE sc a xa
  | .notN a, x => vCmp1 x fun xa xo xb => (xo == .IsNot) && isNone xb && mE sc a xa
  | .chn o1 o2 a b d, x => vCmp2 x fun xa x1 x2 xb xd => copIs o1 x1 && copIs o2 x2 && !lastMarks [x1, x2] [xb, xd] && mE sc a xa && mE sc b xb && mE sc d xd
  | .and ts, x => vBool x fun o xs => (o == .And) && mTs sc ts xs
  | .or ts, x => vBool x fun o xs => (o == .Or) && mTs sc ts xs
  | .not t, x => vUn x fun o xa => (o == .Not) && mT sc t xa
  | .ite t a b, x => vIf x fun xt xa xb => mT sc t xt && mT sc a xa && mT sc b xb
  | .repC ne a b, x => vCmp1 x fun xa xo xb => sg.rep && repO ne xo && (vCall1 xa fun n ya => freeB sg sc nmR n && noStar ya && mE sc a ya) && (vCall1 xb fun n yb => freeB sg sc nmR n && noStar yb && mE sc b yb)
def mTs (sc : Scope) : Ts → List Expr → Bool
  | .one t, xs => match xs with
    | [x] => mT sc t x
    | _ => false
  | .cons t ts, xs => match xs with
    | x :: xs => mT sc t x && mTs sc ts xs
    | [] => false
def mOt (sc : Scope) : Ot → List Expr → Bool
  | .none, xs => xs.isEmpty
  | .some t, xs => match xs with
    | [x] => mT sc t x
    | _ => false
def mI (sc : Scope) : It → Expr → Expr → Bool
  | .val e, x, _ => mE sc e x
  | .rng1 a, x, _ => vCall x fun n xs => freeB sg sc nm0 n && match xs with
    | [xa] => noStar xa && mE sc a xa
    | _ => false
  | .rng2 a b, x, _ => vCall x fun n xs => freeB sg sc nm0 n && match xs with
    | [xa, xb] => noStar xa && noStar xb && mE sc a xa && mE sc b xb
    | _ => false
  | .rng3 a b k, x, _ => vCall x fun n xs => freeB sg sc nm0 n && match xs with
    | [xa, xb, xk] => noStar xa && noStar xb && mE sc a xa && mE sc b xb && minus1 xk && decide (k = -1)
    | _ => false
  | .zip a b, x, tgx => isTup tgx && vCall x fun n xs => freeB sg sc nmZ n && match xs with
    | [xa, xb] => noStar xa && noStar xb && mE sc a xa && mE sc b xb
    | _ => false
  | .zipS a, x, tgx => isTup tgx && vStarC x fun n xa => freeB sg sc nmZ n && mE sc a xa
  | .enum a, x, tgx => isTup tgx && vCall x fun n xs => freeB sg sc nmE n && match xs with
    | [xa] => noStar xa && mE sc a xa
    | _ => false
  | .enumF _ _, _, _ => false
end
end MP
set_option Elab.async false
set_option linter.all false
set_option maxRecDepth 100000
set_option autoImplicit false
set_option maxHeartbeats 1000000
/-! the look is right: expressions -/
namespace MP
open PySem PySem.Spec PyProof.Rows L2

/-- the scope as it runs: a free name may have become a cell's -/
structure ScR (sc sc' : Scope) : Prop where
  loc : ∀ x, sc.names.lookup x = some .local → sc'.names.lookup x = some .local
  cel : ∀ x, sc.names.lookup x = some .cell → sc'.names.lookup x = some .cell
  fre : ∀ x, sc.names.lookup x = some .free → sc'.names.lookup x = some .cell ∨ sc'.names.lookup x = some .free
  gl : ∀ x, sc.names.lookup x = some .globalImplicit → sc'.names.lookup x = some .globalImplicit
theorem ScR.refl (sc : Scope) : ScR sc sc := ⟨fun _ h => h, fun _ h => h, fun _ h => .inr h, fun _ h => h⟩
theorem look_rel {env : Env} : ∀ (names : List (Str × NameKind)) (x : Str), ∃ b : Bool, (names.map fun (n, k) => if (k == NameKind.free && env.scope.kind == .function && env.kindOf n == some .cell) then (n, NameKind.cell) else (n, k)).lookup x = (names.lookup x).map fun k => if (k == NameKind.free && b) = true then NameKind.cell else k
  | [], _ => ⟨false, rfl⟩
  | (n, k) :: r, x => by
    obtain ⟨b, ih⟩ := look_rel (env := env) r x
    show ∃ b : Bool, List.lookup x ((if (k == NameKind.free && env.scope.kind == .function && env.kindOf n == some .cell) = true then (n, NameKind.cell) else (n, k)) :: _) = _
    cases hx : x == n with
    | true =>
      refine ⟨env.scope.kind == .function && env.kindOf n == some .cell, ?_⟩
      by_cases hc : (k == NameKind.free && env.scope.kind == .function && env.kindOf n == some .cell) = true
      · rw [if_pos hc]
        simp only [List.lookup_cons, hx, Option.map_some]
        rw [← Bool.and_assoc, if_pos hc]
      · rw [if_neg hc]
        simp only [List.lookup_cons, hx, Option.map_some]
        rw [← Bool.and_assoc, if_neg hc]
    | false =>
      refine ⟨b, ?_⟩
      by_cases hc : (k == NameKind.free && env.scope.kind == .function && env.kindOf n == some .cell) = true
      · rw [if_pos hc]; simp only [List.lookup_cons, hx]; exact ih
      · rw [if_neg hc]; simp only [List.lookup_cons, hx]; exact ih
theorem ScR.rel (sc : Scope) (env : Env) : ScR sc (relabel sc env) := by
  refine ⟨fun x h => ?_, fun x h => ?_, fun x h => ?_, fun x h => ?_⟩ <;>
  · obtain ⟨b, e⟩ := look_rel (env := env) sc.names x
    have e' : (relabel sc env).names.lookup x = _ := e
    rw [e', h]
    cases b <;> first | rfl | exact .inl rfl | exact .inr rfl
theorem ScR.vis {sc sc' : Scope} (r : ScR sc sc') {x : Str} (h : Vis sc x) : Vis sc' x := by
  rcases h with h | h | h
  · exact .inl (r.loc x h)
  · exact .inr (.inl (r.cel x h))
  · exact .inr (r.fre x h)
theorem ScR.locs {sc sc' : Scope} (r : ScR sc sc') {x : Str} (h : Loc sc x) : Loc sc' x := by
  rcases h with h | h
  · exact .inl (r.loc x h)
  · exact .inr (r.cel x h)
structure Fits (sg : Sg) (G : List D) (F : Fc) (sc : Scope) (c : Cc) : Prop where
  calm : sg.calm = true → c.X.calm = true
  noex : sg.calm = true → NoEx c.R
  held : HeldOk c
  cls : ∀ x ks, (x, ks) ∈ sg.cls → XCls c sg.xs.length x ks
  excC : ∀ k, k < sg.xs.length → ExcC c.X.K (c.xi.at_ k)
  flds : ∀ f kf, (f, kf) ∈ sg.flds → ∀ k, kIn kf k = true → c.xi.fld k = f ∧ XfC c.X.K (c.xi.at_ k) ∧ PySem.W.findIn c.X.K (.ref (c.xi.at_ k)) f = some none
  nm : c.X.N = sg.N
  nd : sg.N.Nodup
  env : ScR sc c.X.env.scope
  hu : c.X.A.units + 65 < cLine
  tk : Takes c.X c.W
  calls : ∀ f x, sg.fns[f]? = some x → CallOk c F f x
  glob : ∀ (g : Nat) (x : Str) (d : D), sg.globs[g]? = some x → G[g]? = some d → GlobOk c.X.K c.X.mg x d
  free : ∀ x ∈ sg.free, c.X.mg x = none
  maths : ∀ b, bltM b = true → bltNm b ∈ sg.maths → c.X.mg (bltNm b) = some (bltF b)
  dbg : ∀ x, x ∈ sg.N ∨ x ∈ sg.fns ∨ x ∈ sg.globs → (x == ("__debug__" : Str)) = false ∧ (x == ("__classdict__" : Str)) = false
  gd : sg.rep = true → c.X.A.guards = some []
  fnl : ∀ x, Loc sc x → c.X.fn x = true ∨ c.X.env.scope.names.lookup x = some .local
variable {sg : Sg} {G : List D} {F : Fc}
theorem Fits.blk {sc scope : Scope} {c : Cc} (g : Fits sg G F sc c) (hcm : sg.calm = true) (s : Shared) (H : Hp) (C : Addr) (cl : List (Str × Addr)) (fp : List Addr) (B : List Addr) : Fits sg G F scope (c.inb s H scope C cl fp B) where
  calm := g.calm
  noex := g.noex
  held := ⟨fun k d a h => (g.noex hcm k d a h).elim⟩
  cls := fun x ks h => ⟨(g.cls x ks h).ok⟩
  excC := g.excC
  flds := g.flds
  nm := g.nm
  nd := g.nd
  env := ScR.rel scope c.X.env
  hu := g.hu
  tk := takes0
  calls := fun f x h => ⟨(g.calls f x h).ok⟩
  glob := g.glob
  free := g.free
  maths := g.maths
  dbg := g.dbg
  gd := g.gd
  fnl := fun x h => by
    rcases h with h | h
    · exact .inr ((ScR.rel scope c.X.env).loc x h)
    · refine .inl ?_
      show (scope.names.lookup x == some .cell) = true
      rw [h]; rfl
theorem Fits.gl {sc : Scope} {c : Cc} (g : Fits sg G F sc c) {n : Str} (h : glB sc n = true) : Gl c.X n := by
  exact g.env.gl n (glB_ok h)
theorem Fits.N {sc : Scope} {c : Cc} (g : Fits sg G F sc c) {i : Nat} {n : Str} (h : nmB sg.N i n = true) : c.X.N[i]? = some n := by rw [g.nm]; exact nmB_ok h
theorem Fits.nd' {sc : Scope} {c : Cc} (g : Fits sg G F sc c) : c.X.N.Nodup := by rw [g.nm]; exact g.nd
theorem freeB_ok {sc : Scope} {c : Cc} (g : Fits sg G F sc c) {m n : Str} (h : freeB sg sc m n = true) : n = m ∧ Gl c.X m ∧ c.X.mg m = none := by
  unfold freeB at h
  rw [Bool.and_eq_true, Bool.and_eq_true] at h
  obtain ⟨⟨h1, h2⟩, h3⟩ := h
  have e : n = m := of_decide_eq_true h1
  subst e
  exact ⟨rfl, g.gl h2, g.free n (of_decide_eq_true h3)⟩
theorem beq_ok {α : Type} [DecidableEq α] {a b : α} (h : (a == b) = true) : a = b := by simpa using h
theorem je_cnB {c : Cc} {n : Cn} {k : Const} {j : Nat} {pos : Pos} (h : cstB n k = true) : JE c (.Constant k j pos) (xCst n) := by
  cases n <;> cases k <;> first | (cases h; done) | exact je_cn (by first | trivial | exact eq_of_beq h | exact of_decide_eq_true h)
theorem es_star : ∀ {sc : Scope} {es : Es} {xs : List Expr}, mEs sg sc es xs = true → xs.all noStar = true
  | _, .nil, [], _ => rfl
  | _, .nil, _ :: _, h => by rw [mEs] at h; cases h
  | _, .cons e es, [], h => by rw [mEs] at h; cases h
  | _, .cons e es, x :: xs, h => by
    rw [mEs] at h
    simp only [Bool.and_eq_true] at h
    rw [List.all_cons, h.1.1, es_star h.2]; rfl
  | _, .star _ _, _, h => by rw [mEs] at h; cases h
mutual
theorem mTg_ok : ∀ (t : Tg) {sc : Scope} {x : Expr}, mTg sg sc t x = true → ∀ {c : Cc}, Fits sg G F sc c → JG c x t
  | .nm i, sc, x, h, c, g => by
    rw [mTg] at h
    obtain ⟨n, p, e0, k0⟩ := vName_ok h
    clear h
    subst e0
    have h := k0
    clear k0
    rw [Bool.and_eq_true] at h
    have hl := locB_ok h.2
    exact jg_name g.nd' (g.N h.1) (g.env.locs hl) (g.fnl n hl)
  | .tp ts, sc, x, h, c, g => by
    rw [mTg, Bool.and_eq_true] at h
    obtain ⟨hcm, h⟩ := h
    obtain ⟨es, j, p, e0, k0⟩ := vTup_ok h
    clear h
    subst e0
    have h := k0
    clear k0
    obtain ⟨h1, h2, h3⟩ := mTgs_ok ts h g
    exact jg_tup (g.calm hcm) h1 h2 h3
theorem mTgs_ok : ∀ (t : Tgs) {sc : Scope} {xs : List Expr}, mTgs sg sc t xs = true → ∀ {c : Cc}, Fits sg G F sc c → JGs c xs t ∧ xs.all noStar = true ∧ xs.length = tgsLen t
  | .nil, sc, [], h, c, g => ⟨jgs_nil, rfl, rfl⟩
  | .nil, sc, _ :: _, h, c, g => by rw [mTgs] at h; cases h
  | .cons t ts, sc, [], h, c, g => by rw [mTgs] at h; cases h
  | .cons t ts, sc, x :: xs, h, c, g => by
    rw [mTgs] at h
    simp only [Bool.and_eq_true] at h
    obtain ⟨h1, h2, h3⟩ := mTgs_ok ts h.2 g
    exact ⟨jgs_cons (mTg_ok t h.1.2 g) h1 h.1.1, by rw [List.all_cons, h.1.1, h2]; rfl, by rw [List.length_cons, h3]; rfl⟩
end
theorem blt_mg {sc : Scope} {c : Cc} (g : Fits sg G F sc c) {b : Blt} {n : Str} (h : bltB sg sc b n = true) : n = bltNm b ∧ Gl c.X n ∧ (if bltM b = true then c.X.mg n = some (bltF b) else c.X.mg n = none) := by
  unfold bltB at h
  rw [Bool.and_eq_true, Bool.and_eq_true] at h
  obtain ⟨⟨h1, h2⟩, h3⟩ := h
  have e : n = bltNm b := of_decide_eq_true h1
  refine ⟨e, g.gl h2, ?_⟩
  subst e
  by_cases hb : bltM b = true
  · rw [if_pos hb] at h3 ⊢
    exact g.maths b hb (of_decide_eq_true h3)
  · rw [if_neg hb] at h3 ⊢
    exact g.free _ (of_decide_eq_true h3)
/-- what a comprehension's look says -/
theorem comp_ok {sc scope : Scope} {c : Cc} (g : Fits sg G F sc c) {own : List Nat} (h : blkC sg.N sc scope (ownP sg.N own) = true) : BlkOk c.X.N c.X.env.scope scope (ownP sg.N own) := by
  rw [g.nm]
  have b := blkOk_by h
  exact ⟨b.kind, b.uniq, b.ix, fun y hy e => (b.free y hy e).elim (fun z => .inl (g.env.cel _ z)) (fun z => g.env.fre _ z), b.own⟩
noncomputable def toM (G : List D) (F : Fc) : Cls → List ClM
  | .nil => []
  | .cons own tg it t cs => ⟨own, tg, evI G F gdA it, evOt G F t⟩ :: toM G F cs
theorem evCl_nest : ∀ (cs : Cls) (r : Xs), evCl G F cs r = nestM (toM G F cs) r
  | .nil, r => by rw [evCl]; rfl
  | .cons own tg it t cs, r => by rw [evCl, evCl_nest cs r]; rfl
theorem owns_toM : ∀ cs : Cls, ownsM (toM G F cs) = clOwns cs
  | .nil => rfl
  | .cons own tg it t cs => by
    show own ++ ownsM (toM G F cs) = _
    rw [owns_toM cs]; rfl
theorem apart_toM : ∀ cs : Cls, clApart cs = true → apartM (toM G F cs)
  | .nil, _ => trivial
  | .cons own tg it t cs, h => by
    unfold clApart at h
    rw [Bool.and_eq_true] at h
    refine ⟨fun i hi => ?_, apart_toM cs h.2⟩
    rw [owns_toM]
    have := List.all_eq_true.mp h.1 i hi
    simpa using this
/-- what the look at a comprehension of n clauses says -/
theorem compN_of (own own0 : List Nat) (tg : Tg) (it : It) (t : Ot) (cs : Cls) (e : E) {sc : Scope} {x : Expr} {c : Cc} (h : (vLcN x fun elt tgx iterx ifs gs scope => blkC sg.N sc scope (ownP sg.N own) && tgIn own0 tg && (own0.all fun i => !(clOwns cs).contains i) && clApart cs && (own0.all own.contains) && (clOwns cs).all own.contains && mTg sg scope tg tgx && notSet iterx && mI sg sc it iterx tgx && mOt sg scope t ifs && mCl sg scope cs gs && mE sg scope e elt) = true) (g : Fits sg G F sc c) :
    ∃ elt tgx iterx ifs gs scope p, x = .ListComp elt (⟨tgx, iterx, ifs, 0⟩ :: gs) scope p ∧ (mI sg sc it iterx tgx = true ∧ blkC sg.N sc scope (ownP sg.N own) = true ∧ notSet iterx = true ∧ tgIn own0 tg = true ∧ mTg sg scope tg tgx = true ∧ mOt sg scope t ifs = true ∧ apartM ((⟨own0, tg, evI G F gdA it, evOt G F t⟩ : ClM) :: toM G F cs) ∧ (∀ i ∈ ownsM ((⟨own0, tg, evI G F gdA it, evOt G F t⟩ : ClM) :: toM G F cs), i ∈ (ownP sg.N own).map (·.2))) ∧ mCl sg scope cs gs = true ∧ mE sg scope e elt = true := by
  obtain ⟨elt, tgx, iterx, ifs, gs, scope, p, e0, k0⟩ := vLcN_ok h
  simp only [Bool.and_eq_true] at k0
  obtain ⟨⟨⟨⟨⟨⟨⟨⟨⟨⟨⟨h1, h2⟩, h3⟩, h4⟩, h5⟩, h6⟩, h7⟩, h8⟩, h9⟩, h10⟩, h11⟩, h12⟩ := k0
  refine ⟨elt, tgx, iterx, ifs, gs, scope, p, e0, ⟨h9, h1, h8, h2, h7, h10, ⟨fun i hi => ?_, apart_toM cs h4⟩, fun i hi => ?_⟩, h11, h12⟩
  · rw [owns_toM]
    have := List.all_eq_true.mp h3 i hi
    simpa using this
  · rw [ownP_snd]
    have hi' : i ∈ own0 ++ ownsM (toM G F cs) := hi
    rw [owns_toM] at hi'
    rcases List.mem_append.mp hi' with z | z
    · exact List.contains_iff_mem.mp (List.all_eq_true.mp h5 i z)
    · exact List.contains_iff_mem.mp (List.all_eq_true.mp h6 i z)
mutual
theorem mE_ok : ∀ (e : E) {sc : Scope} {x : Expr}, mE sg sc e x = true → ∀ {c : Cc}, Fits sg G F sc c → JE c x (evE G F e)
  | .var i, sc, x, h, c, g => by
    rw [mE] at h
    obtain ⟨n, p, e0, k0⟩ := vName_ok h
    clear h
    subst e0
    have h := k0
    clear k0
    rw [Bool.and_eq_true] at h
    obtain ⟨d1, d2⟩ := g.dbg n (.inl (List.mem_of_getElem? (nmB_ok h.1)))
    exact je_var (g.N h.1) (g.env.vis (visB_ok h.2)) d1 d2
  | .cst k, sc, x, h, c, g => by
    rw [mE] at h
    obtain ⟨v, j, p, e0, k0⟩ := vCon_ok h
    clear h
    subst e0
    have h := k0
    clear k0
    exact je_cnB h
  | .glob i, sc, x, h, c, g => by
    rw [mE] at h
    obtain ⟨n, p, e0, k0⟩ := vName_ok h
    clear h
    subst e0
    have h := k0
    clear k0
    rw [Bool.and_eq_true] at h
    obtain ⟨d1, d2⟩ := g.dbg n (.inr (.inr (List.mem_of_getElem? (nmB_ok h.1))))
    exact je_glob (g.gl h.2) (fun d hd => g.glob i n d (nmB_ok h.1) hd) d1
  | .bin o a b, sc, x, h, c, g => by
    rw [mE] at h
    obtain ⟨xa, xo, xb, p, e0, k0⟩ := vBin_ok h
    clear h
    subst e0
    have h := k0
    clear k0
    simp only [Bool.and_eq_true] at h
    obtain rfl := opIs_ok h.1.1
    exact je_bin (mE_ok a h.1.2 g) (mE_ok b h.2 g)
  | .neg a, sc, x, h, c, g => by
    rw [mE] at h
    obtain ⟨o, xa, p, e0, k0⟩ := vUn_ok h
    clear h
    subst e0
    have h := k0
    clear k0
    simp only [Bool.and_eq_true] at h
    obtain rfl := beq_ok h.1
    exact je_neg (mE_ok a h.2 g)
  | .cmp o a b, sc, x, h, c, g => by
    rw [mE] at h
    obtain ⟨xa, xo, xb, p, e0, k0⟩ := vCmp1_ok h
    clear h
    subst e0
    have h := k0
    clear k0
    simp only [Bool.and_eq_true, Bool.not_eq_true'] at h
    obtain rfl := copIs_ok h.1.1.1
    exact je_cmp g.hu (mE_ok a h.1.2 g) (mE_ok b h.2 g) h.1.1.2
  | .isN a, sc, x, h, c, g => by
    rw [mE] at h
    obtain ⟨xa, xo, xb, p, e0, k0⟩ := vCmp1_ok h
    clear h
    subst e0
    have h := k0
    clear k0
    simp only [Bool.and_eq_true] at h
    obtain rfl := beq_ok h.1.1
    obtain ⟨j, p2, rfl⟩ := isNone_ok h.1.2
    exact je_isN (mE_ok a h.2 g)
  | .notN a, sc, x, h, c, g => by
    rw [mE] at h
    obtain ⟨xa, xo, xb, p, e0, k0⟩ := vCmp1_ok h
    clear h
    subst e0
    have h := k0
    clear k0
    simp only [Bool.and_eq_true] at h
    obtain rfl := beq_ok h.1.1
    obtain ⟨j, p2, rfl⟩ := isNone_ok h.1.2
    exact je_notN (mE_ok a h.2 g)
  | .chn o1 o2 a b d, sc, x, h, c, g => by
    rw [mE] at h
    obtain ⟨xa, x1, x2, xb, xd, p, e0, k0⟩ := vCmp2_ok h
    clear h
    subst e0
    have h := k0
    clear k0
    simp only [Bool.and_eq_true, Bool.not_eq_true'] at h
    obtain ⟨⟨⟨⟨⟨h1, h2⟩, h3⟩, h4⟩, h5⟩, h6⟩ := h
    obtain rfl := copIs_ok h1
    obtain rfl := copIs_ok h2
    exact je_chn g.hu (mE_ok a h4 g) (mE_ok b h5 g) (mE_ok d h6 g) h3
  | .andV es, sc, x, h, c, g => by
    rw [mE] at h
    obtain ⟨o, xs, p, e0, k0⟩ := vBool_ok h
    clear h
    subst e0
    have h := k0
    clear k0
    simp only [Bool.and_eq_true] at h
    obtain rfl := beq_ok h.1
    exact mAnd_ok es h.2 g
  | .orV es, sc, x, h, c, g => by
    rw [mE] at h
    obtain ⟨o, xs, p, e0, k0⟩ := vBool_ok h
    clear h
    subst e0
    have h := k0
    clear k0
    simp only [Bool.and_eq_true] at h
    obtain rfl := beq_ok h.1
    exact mOr_ok es h.2 g
  | .notV a, sc, x, h, c, g => by
    rw [mE] at h
    obtain ⟨o, xa, p, e0, k0⟩ := vUn_ok h
    clear h
    subst e0
    have h := k0
    clear k0
    simp only [Bool.and_eq_true] at h
    obtain rfl := beq_ok h.1
    exact je_notV (mE_ok a h.2 g)
  | .ite t a b, sc, x, h, c, g => by
    rw [mE] at h
    obtain ⟨xt, xa, xb, p, e0, k0⟩ := vIf_ok h
    clear h
    subst e0
    have h := k0
    clear k0
    simp only [Bool.and_eq_true] at h
    exact je_ite (mT_ok t h.1.1 g) (mE_ok a h.1.2 g) (mE_ok b h.2 g)
  | .tup es, sc, x, h, c, g => by
    rw [mE] at h
    obtain ⟨xs, j, p, e0, k0⟩ := vTup_ok h
    clear h
    subst e0
    have h := k0
    clear k0
    exact je_tup (mD_ok es h g)
  | .lst es, sc, x, h, c, g => by
    rw [mE] at h
    obtain ⟨xs, p, e0, k0⟩ := vLst_ok h
    clear h
    subst e0
    have h := k0
    clear k0
    exact je_lst (mD_ok es h g)
  | .sub a i, sc, x, h, c, g => by
    rw [mE] at h
    obtain ⟨xa, xi, p, e0, k0⟩ := vSub_ok h
    clear h
    subst e0
    have h := k0
    clear k0
    simp only [Bool.and_eq_true] at h
    exact je_sub g.hu (mE_ok a h.1.2 g) (mE_ok i h.2 g) h.1.1
  | .slc a lo hi, sc, x, h, c, g => by
    rw [mE] at h
    obtain ⟨xa, xl, xh, p2, p, e0, k0⟩ := vSlc_ok h
    clear h
    subst e0
    have h := k0
    clear k0
    simp only [Bool.and_eq_true] at h
    exact je_slc (mE_ok a h.1.1 g) (mO_ok lo h.1.2 g) (mO_ok hi h.2 g)
  | .rev a, sc, x, h, c, g => by
    rw [mE] at h
    obtain ⟨xa, j, p1, p2, p3, p, e0, k0⟩ := vRev_ok h
    clear h
    subst e0
    have h := k0
    clear k0
    exact je_rev (mE_ok a h g)
  | .call f es, sc, x, h, c, g => by
    rw [mE] at h
    obtain ⟨n, p, xs, q, e0, k0⟩ := vCall_ok h
    clear h
    subst e0
    have h := k0
    clear k0
    simp only [Bool.and_eq_true] at h
    have hn := nmB_ok h.1.1
    obtain ⟨d1, _⟩ := g.dbg n (.inr (.inl (List.mem_of_getElem? hn)))
    have hs := mEs_ok es h.2 g
    have hst := es_star h.2
    cases es with
    | nil =>
      cases xs with
      | nil => exact je_call0 g.tk (g.calls f n hn) (g.gl h.1.2) d1
      | cons _ _ => have := h.2; rw [mEs] at this; cases this
    | cons e es =>
      cases xs with
      | nil => have := h.2; rw [mEs] at this; cases this
      | cons y ys => exact je_call g.tk (g.calls f n hn) (g.gl h.1.2) d1 hs hst rfl
    | star e es => have := h.2; rw [mEs] at this; cases this
  | .blt b es, sc, x, h, c, g => by
    rw [mE] at h
    obtain ⟨n, p, xs, q, e0, k0⟩ := vCall_ok h
    clear h
    subst e0
    have h := k0
    clear k0
    simp only [Bool.and_eq_true, Bool.or_eq_true] at h
    obtain ⟨hq, h⟩ : (sg.calm = true ∨ bltQ b = true) ∧ _ := ⟨h.1.1.1, (⟨⟨h.1.1.2, h.1.2⟩, h.2⟩ : (_ ∧ _) ∧ _)⟩
    obtain ⟨e1, e2, e3⟩ := blt_mg g h.1.1
    have hs := mEs_ok es h.2 g
    have hst := es_star h.2
    cases xs with
    | nil => exact absurd h.1.2 (by decide)
    | cons y ys =>
      rw [List.all_cons, Bool.and_eq_true] at hst
      exact je_blt (fun z => hq.elim g.calm fun y => by rw [z] at y; cases y) g.hu e1 e2 e3 hs hst.1 hst.2
  | .mth q a es, sc, x, h, c, g => by
    rw [mE] at h
    obtain ⟨xo, n, ap, xs, p, e0, hl, k0⟩ := vMeth_ok h
    clear h
    subst e0
    have h := k0
    clear k0
    split at h
    · rename_i y1 y2
      simp only [Bool.and_eq_true] at h
      obtain ⟨⟨⟨h1, h2⟩, h3⟩, h4⟩ := h
      have e : n = nmG := of_decide_eq_true h1
      subst e
      cases es with
      | nil => rw [mEs] at h4; cases h4
      | star _ _ => rw [mEs] at h4; cases h4
      | cons e1 es1 =>
        cases es1 with
        | star _ _ => rw [mEs, mEs] at h4; simp at h4
        | nil => rw [mEs, mEs] at h4; simp at h4
        | cons e2 es2 =>
          cases es2 with
          | cons e3 es3 => rw [mEs, mEs, mEs] at h4; simp at h4
          | star _ _ => rw [mEs, mEs, mEs] at h4; simp at h4
          | nil =>
            rw [mEs, mEs, mEs] at h4
            simp only [Bool.and_eq_true] at h4
            exact je_get2 g.hu (mE_ok a h3 g) (mE_ok e1 h4.1.2 g) (mE_ok e2 h4.2.1.2 g) h2 h4.1.1 h4.2.1.1 hl
    · rename_i y1
      simp only [Bool.and_eq_true] at h
      obtain ⟨⟨⟨h1, h2⟩, h3⟩, h4⟩ := h
      have e : n = nmIx := of_decide_eq_true h1
      subst e
      cases es with
      | nil => rw [mEs] at h4; cases h4
      | star _ _ => rw [mEs] at h4; cases h4
      | cons e1 es1 =>
        cases es1 with
        | star _ _ => rw [mEs, mEs] at h4; simp at h4
        | cons e2 es2 => rw [mEs, mEs] at h4; simp at h4
        | nil =>
          rw [mEs, mEs] at h4
          simp only [Bool.and_eq_true] at h4
          exact je_idx g.hu (mE_ok a h3 g) (mE_ok e1 h4.1.2 g) h2 h4.1.1 hl
    · rename_i y1
      simp only [Bool.and_eq_true] at h
      obtain ⟨⟨⟨h1, h2⟩, h3⟩, h4⟩ := h
      have e : n = nmCt := of_decide_eq_true h1
      subst e
      cases es with
      | nil => rw [mEs] at h4; cases h4
      | star _ _ => rw [mEs] at h4; cases h4
      | cons e1 es1 =>
        cases es1 with
        | star _ _ => rw [mEs, mEs] at h4; simp at h4
        | cons e2 es2 => rw [mEs, mEs] at h4; simp at h4
        | nil =>
          rw [mEs, mEs] at h4
          simp only [Bool.and_eq_true] at h4
          exact je_cnt g.hu (mE_ok a h3 g) (mE_ok e1 h4.1.2 g) h2 h4.1.1 hl
    · cases h
  | .inst a t, sc, x, h, c, g => by
    rw [mE] at h
    obtain ⟨n, p, xs, q, e0, k0⟩ := vCall_ok h
    clear h
    subst e0
    have h := k0
    clear k0
    rw [Bool.and_eq_true] at h
    obtain ⟨e1, e2, e3⟩ := freeB_ok g h.1
    subst e1
    have h2 := h.2
    split at h2
    · rename_i xa xt
      obtain ⟨mm, p2, e0, h3⟩ := vName_ok h2
      clear h2
      subst e0
      simp only [Bool.and_eq_true] at h3
      obtain ⟨f1, f2, f3⟩ := freeB_ok g h3.1.1
      subst f1
      exact je_inst e2 e3 f2 f3 (mE_ok a h3.2 g) h3.1.2
    · cases h2
  | .comp own tg it t e, sc, x, h, c, g => by
    rw [mE, Bool.and_eq_true] at h
    obtain ⟨hcm, h⟩ := h
    obtain ⟨elt, tgx, iterx, ifs, scope, p, e0, k0⟩ := vLc1_ok h
    clear h
    subst e0
    have h := k0
    clear k0
    simp only [Bool.and_eq_true] at h
    obtain ⟨⟨⟨⟨⟨⟨h1, h2⟩, h3⟩, h4⟩, h5⟩, h6⟩, h7⟩ := h
    have := je_comp (own := ownP sg.N own) (pos := p) (g.calm hcm) g.nd' (mI_ok it gdA h5 g (LC c) _ lc_ok fun _ _ _ _ => trivial) (comp_ok g h1) (by rw [ownP_snd]; exact h2) (fun s H C cl fp B => mTg_ok tg h3 (g.blk hcm s H C cl fp B)) (fun s H C cl fp B => mOt_ok t h6 (g.blk hcm s H C cl fp B)) (fun s H C cl fp B => mE_ok e h7 (g.blk hcm s H C cl fp B)) (notSet_ok h4 _)
    rw [ownP_snd] at this
    exact this
  | .comp2 own own1 tg it t tg1 it1 t1 e, sc, x, h, c, g => by
    rw [mE, Bool.and_eq_true] at h
    obtain ⟨hcm, h⟩ := h
    obtain ⟨elt, tgx, iterx, ifs, tgx1, iterx1, ifs1, scope, p, e0, k0⟩ := vLc2_ok h
    clear h
    subst e0
    have h := k0
    clear k0
    simp only [Bool.and_eq_true] at h
    obtain ⟨⟨⟨⟨⟨⟨⟨⟨⟨⟨⟨⟨h1, h2⟩, ha⟩, hb⟩, h3⟩, h4⟩, h5⟩, h6⟩, h7⟩, h8⟩, h9⟩, h10⟩, h11⟩ := h
    have hv : ∀ i ∈ own1, i ∈ (ownP sg.N own).map (·.2) := fun i hi => by
      rw [ownP_snd]
      exact List.contains_iff_mem.mp (List.all_eq_true.mp ha i hi)
    have := je_comp2 (own := ownP sg.N own) (own1 := own1) (pos := p) (g.calm hcm) g.nd' (mI_ok it gdA h5 g (LC c) _ lc_ok fun _ _ _ _ => trivial) (comp_ok g h1) hv (by rw [ownP_snd]; exact h2) hb (fun s H C cl fp B => mTg_ok tg h3 (g.blk hcm s H C cl fp B)) (fun s H C cl fp B => mOt_ok t h6 (g.blk hcm s H C cl fp B))
      (fun s H C cl fp B L hL => mI_ok it1 gdA h9 (g.blk hcm s H C cl fp B) L _ hL fun _ _ _ _ => trivial) (fun s H C cl fp B => mTg_ok tg1 h7 (g.blk hcm s H C cl fp B)) (fun s H C cl fp B => mOt_ok t1 h10 (g.blk hcm s H C cl fp B)) (fun s H C cl fp B => mE_ok e h11 (g.blk hcm s H C cl fp B)) (notSet_ok h4 _) (fun env => notSet_ok h8 env)
    rw [ownP_snd] at this
    exact this
  | .inst2 a t1 t2, sc, x, h, c, g => by
    rw [mE] at h
    obtain ⟨n, p, xs, q, e0, k0⟩ := vCall_ok h
    clear h
    subst e0
    rw [Bool.and_eq_true] at k0
    obtain ⟨e1, e2, e3⟩ := freeB_ok g k0.1
    subst e1
    have h2 := k0.2
    clear k0
    split at h2
    · simp only [Bool.and_eq_true] at h2
      obtain ⟨⟨⟨h3, h4⟩, h5⟩, h6⟩ := h2
      obtain ⟨f1, f2, f3⟩ := freeB_ok g h3
      obtain ⟨f4, f5, f6⟩ := freeB_ok g h4
      subst f1
      subst f4
      exact je_inst2 e2 e3 f2 f3 f5 f6 (mE_ok a h6 g) h5
    · cases h2
  | .dcomp own tg it t k e, sc, x, h, c, g => by
    rw [mE, Bool.and_eq_true] at h
    obtain ⟨hcm, h⟩ := h
    obtain ⟨kx, vx, tgx, iterx, ifs, scope, p, e0, k0⟩ := vDc_ok h
    clear h
    subst e0
    simp only [Bool.and_eq_true] at k0
    obtain ⟨⟨⟨⟨⟨⟨⟨h1, h2⟩, h3⟩, h4⟩, h5⟩, h6⟩, h7⟩, h8⟩ := k0
    have := je_dcomp (own := ownP sg.N own) (pos := p) (g.calm hcm) g.nd' (mI_ok it gdA h5 g (LC c) _ lc_ok fun _ _ _ _ => trivial) (comp_ok g h1) (by rw [ownP_snd]; exact h2) (fun s H C cl fp B => mTg_ok tg h3 (g.blk hcm s H C cl fp B)) (fun s H C cl fp B => mOt_ok t h6 (g.blk hcm s H C cl fp B)) (fun s H C cl fp B => mE_ok k h7 (g.blk hcm s H C cl fp B)) (fun s H C cl fp B => mE_ok e h8 (g.blk hcm s H C cl fp B)) (notSet_ok h4 _)
    rw [ownP_snd] at this
    exact this
  | .inRng a lo hi k, sc, x, h, c, g => by
    rw [mE] at h
    obtain ⟨xa, n, p, xl, xh, j, c1, c2, q, p2, e0, k0⟩ := vInR_ok h
    clear h
    subst e0
    simp only [Bool.and_eq_true] at k0
    obtain ⟨⟨⟨⟨⟨⟨h1, h2⟩, h3⟩, h4⟩, h5⟩, h6⟩, h7⟩ := k0
    obtain ⟨e1, e2, e3⟩ := freeB_ok g h1
    subst e1
    have ej : j = k := of_decide_eq_true h2
    subst ej
    exact je_inRng e2 e3 (mE_ok a h5 g) (mE_ok lo h6 g) (mE_ok hi h7 g) h3 h4
  | .srtR a, sc, x, h, c, g => by
    rw [mE] at h
    obtain ⟨n, p, xa, q, j, p1, p2, p3, e0, k0⟩ := vRevK_ok h
    clear h
    subst e0
    simp only [Bool.and_eq_true] at k0
    obtain ⟨⟨⟨h1, h2⟩, h3⟩, h4⟩ := k0
    obtain ⟨e1, e2, e3⟩ := freeB_ok g h1
    subst e1
    have eq : q = nmV := of_decide_eq_true h2
    subst eq
    exact je_srtR g.hu e2 e3 (mE_ok a h4 g) h3
  | .compN own own0 tg it t cs e, sc, x, h, c, g => by
    rw [mE, Bool.and_eq_true] at h
    obtain ⟨hcm, h⟩ := h
    exact (compN_of own own0 tg it t cs e h g).elim fun elt z => by
      obtain ⟨tgx, iterx, ifs, gs, scope, p, e0, k0⟩ := z
      subst e0
      have := je_compN (pos := p) (c := c) (own := ownP sg.N own) (q := ⟨own0, tg, evI G F gdA it, evOt G F t⟩) (qs := toM G F cs) (gs := gs) (elt := elt) (tgx := tgx) (iterx := iterx) (ifs := ifs) (scope := scope) (e := evE G F e)
        ⟨g.calm hcm, g.nd', mI_ok it gdA k0.1.1 g (LC c) _ lc_ok fun _ _ _ _ => trivial, comp_ok g k0.1.2.1, notSet_ok k0.1.2.2.1 _, k0.1.2.2.2.1, fun s H C cl fp B => mTg_ok tg k0.1.2.2.2.2.1 (g.blk hcm s H C cl fp B), fun s H C cl fp B => mOt_ok t k0.1.2.2.2.2.2.1 (g.blk hcm s H C cl fp B), k0.1.2.2.2.2.2.2.1, k0.1.2.2.2.2.2.2.2,
          mCl_ok hcm cs k0.2.1 g, fun s H C cl fp B => mE_ok e k0.2.2 (g.blk hcm s H C cl fp B)⟩
      rw [ownP_snd] at this
      rw [evE, evCl_nest]
      exact this
  | .isE i n ks, sc, x, h, c, g => by
    rw [mE] at h
    obtain ⟨q, p, xs, pq, e0, k0⟩ := vCall_ok h
    clear h
    subst e0
    rw [Bool.and_eq_true, Bool.and_eq_true] at k0
    obtain ⟨⟨h1, h2⟩, h3⟩ := k0
    obtain ⟨e1, e2, e3⟩ := freeB_ok g h1
    subst e1
    have hn : n = sg.xs.length := of_decide_eq_true h2
    subst hn
    split at h3
    · rename_i e pe y py
      simp only [Bool.and_eq_true] at h3
      obtain ⟨⟨⟨k1, k2⟩, k3⟩, k4⟩ := h3
      have hN := g.N k1
      have hd := g.dbg e (.inl (List.mem_of_getElem? (nmB_ok k1)))
      exact je_isE g.held (g.gl k3) (g.cls y ks (of_decide_eq_true k4)) g.excC hN (g.env.vis (visB_ok k2)) hd.1 hd.2 e2 e3
    · cases h3
  | .repC ne a b, sc, x, h, c, g => by
    rw [mE] at h
    obtain ⟨xa, xo, xb, p, e0, k0⟩ := vCmp1_ok h
    clear h
    subst e0
    simp only [Bool.and_eq_true] at k0
    obtain ⟨⟨⟨h1, h2⟩, h3⟩, h4⟩ := k0
    obtain ⟨n1, p1, ya, p2, e1, k3⟩ := vCall1_ok h3
    obtain ⟨n2, p3, yb, p4, e2, k4⟩ := vCall1_ok h4
    clear h3 h4
    subst e1
    subst e2
    rw [Bool.and_eq_true, Bool.and_eq_true] at k3 k4
    obtain ⟨f1, f2, f3⟩ := freeB_ok g k3.1.1
    obtain ⟨g1, g2, g3⟩ := freeB_ok g k4.1.1
    subst f1
    subst g1
    have ho : ∃ o : Cop, xo = opC o ∧ (o = .eq ∨ o = .ne) ∧ decide (o = .eq) = !ne := by
      unfold repO at h2
      split at h2
      · exact ⟨.eq, rfl, .inl rfl, by rw [h2]; rfl⟩
      · exact ⟨.ne, rfl, .inr rfl, by rw [h2]; rfl⟩
      · cases h2
    obtain ⟨o, rfl, ho, hne⟩ := ho
    exact je_rep ho hne (g.gd h1) g.hu f2 f3 (mE_ok a k3.2 g) (mE_ok b k4.2 g) k3.1.2 k4.1.2
  | .fldE i kf, sc, x, h, c, g => by
    rw [mE] at h
    obtain ⟨e, p, f, q, e0, k0⟩ := vAttr_ok h
    clear h
    subst e0
    rw [Bool.and_eq_true, Bool.and_eq_true] at k0
    obtain ⟨⟨k1, k2⟩, k3⟩ := k0
    have hd := g.dbg e (.inl (List.mem_of_getElem? (nmB_ok k1)))
    exact je_fldE g.held (g.flds f kf (of_decide_eq_true k3)) (g.N k1) (g.env.vis (visB_ok k2)) hd.1 hd.2
theorem mCl_ok (hcm : sg.calm = true) : ∀ (cs : Cls) {scope : Scope} {gs : List Comprehension}, mCl sg scope cs gs = true → ∀ {sc : Scope} {c : Cc}, Fits sg G F sc c → ClJs scope c (toM G F cs) gs
  | .nil, scope, [], h, sc, c, g => trivial
  | .nil, scope, _ :: _, h, sc, c, g => by rw [mCl] at h; cases h
  | .cons own tg it t cs, scope, gs, h, sc, c, g => by
    unfold mCl at h
    split at h
    · rename_i tgx iterx ifs gs'
      simp only [Bool.and_eq_true] at h
      obtain ⟨⟨⟨⟨⟨h1, h2⟩, h3⟩, h4⟩, h5⟩, h6⟩ := h
      exact ⟨⟨rfl, h1, fun s H C cl fp B L hL => mI_ok it gdA h4 (g.blk hcm s H C cl fp B) L _ hL fun _ _ _ _ => trivial, fun s H C cl fp B => mTg_ok tg h2 (g.blk hcm s H C cl fp B), fun s H C cl fp B => mOt_ok t h5 (g.blk hcm s H C cl fp B), fun env => notSet_ok h3 env⟩, mCl_ok hcm cs h6 g⟩
    · cases h
theorem mEs_ok : ∀ (es : Es) {sc : Scope} {xs : List Expr}, mEs sg sc es xs = true → ∀ {c : Cc}, Fits sg G F sc c → JA c xs (evEs G F es)
  | .nil, sc, [], h, c, g => ja_nil
  | .nil, sc, _ :: _, h, c, g => by rw [mEs] at h; cases h
  | .cons e es, sc, [], h, c, g => by rw [mEs] at h; cases h
  | .cons e es, sc, x :: xs, h, c, g => by
    rw [mEs] at h
    simp only [Bool.and_eq_true] at h
    exact ja_cons (mE_ok e h.1.2 g) (mEs_ok es h.2 g) h.1.1
  | .star _ _, sc, _, h, c, g => by rw [mEs] at h; cases h
theorem mD_ok : ∀ (es : Es) {sc : Scope} {xs : List Expr}, mD sg sc es xs = true → ∀ {c : Cc}, Fits sg G F sc c → JA c xs (evEs G F es)
  | .nil, sc, [], h, c, g => ja_nil
  | .nil, sc, _ :: _, h, c, g => by rw [mD] at h; cases h
  | .cons e es, sc, [], h, c, g => by rw [mD] at h; cases h
  | .cons e es, sc, x :: xs, h, c, g => by
    rw [mD] at h
    simp only [Bool.and_eq_true] at h
    exact ja_cons (mE_ok e h.1.2 g) (mD_ok es h.2 g) h.1.1
  | .star e es, sc, xs, h, c, g => by
    unfold mD at h
    split at h
    · simp only [Bool.and_eq_true] at h
      exact ja_star (mE_ok e h.1 g) (mD_ok es h.2 g)
    · cases h
theorem mAnd_ok : ∀ (es : Es) {sc : Scope} {xs : List Expr}, mEs sg sc es xs = true → ∀ {c : Cc}, Fits sg G F sc c → ∀ {pos : Pos}, JE c (.BoolOp .And xs pos) (evAnd G F es)
  | .nil, sc, xs, h, c, g, pos => PE.weak (t := fun _ _ _ => False) ⟨fun _ _ _ _ _ _ z => z.elim⟩ fun σ H Q ⟨s, φ, m, sr, z⟩ => z
  | .cons e .nil, sc, [], h, c, g, pos => by rw [mEs] at h; cases h
  | .cons e .nil, sc, [x], h, c, g, pos => by
    rw [mEs] at h
    simp only [Bool.and_eq_true] at h
    exact je_one (mE_ok e h.1.2 g)
  | .cons e .nil, sc, _ :: _ :: _, h, c, g, pos => by rw [mEs, mEs] at h; simp at h
  | .cons e (.cons e2 es), sc, [], h, c, g, pos => by rw [mEs] at h; cases h
  | .cons e (.cons e2 es), sc, [x], h, c, g, pos => by rw [mEs, mEs] at h; simp at h
  | .cons e (.cons e2 es), sc, x :: y :: ys, h, c, g, pos => by
    rw [mEs] at h
    simp only [Bool.and_eq_true] at h
    exact je_and (mE_ok e h.1.2 g) (mAnd_ok (.cons e2 es) h.2 g)
  | .star _ _, sc, xs, h, c, g, pos => PE.weak (t := fun _ _ _ => False) ⟨fun _ _ _ _ _ _ z => z.elim⟩ fun σ H Q ⟨s, φ, m, sr, z⟩ => z
  | .cons e (.star _ _), sc, [], h, c, g, pos => by rw [mEs] at h; cases h
  | .cons e (.star _ _), sc, x :: xs, h, c, g, pos => by rw [mEs, mEs] at h; simp at h
theorem mOr_ok : ∀ (es : Es) {sc : Scope} {xs : List Expr}, mEs sg sc es xs = true → ∀ {c : Cc}, Fits sg G F sc c → ∀ {pos : Pos}, JE c (.BoolOp .Or xs pos) (evOr G F es)
  | .nil, sc, xs, h, c, g, pos => PE.weak (t := fun _ _ _ => False) ⟨fun _ _ _ _ _ _ z => z.elim⟩ fun σ H Q ⟨s, φ, m, sr, z⟩ => z
  | .cons e .nil, sc, [], h, c, g, pos => by rw [mEs] at h; cases h
  | .cons e .nil, sc, [x], h, c, g, pos => by
    rw [mEs] at h
    simp only [Bool.and_eq_true] at h
    exact je_one (mE_ok e h.1.2 g)
  | .cons e .nil, sc, _ :: _ :: _, h, c, g, pos => by rw [mEs, mEs] at h; simp at h
  | .cons e (.cons e2 es), sc, [], h, c, g, pos => by rw [mEs] at h; cases h
  | .cons e (.cons e2 es), sc, [x], h, c, g, pos => by rw [mEs, mEs] at h; simp at h
  | .cons e (.cons e2 es), sc, x :: y :: ys, h, c, g, pos => by
    rw [mEs] at h
    simp only [Bool.and_eq_true] at h
    exact je_or (mE_ok e h.1.2 g) (mOr_ok (.cons e2 es) h.2 g)
  | .star _ _, sc, xs, h, c, g, pos => PE.weak (t := fun _ _ _ => False) ⟨fun _ _ _ _ _ _ z => z.elim⟩ fun σ H Q ⟨s, φ, m, sr, z⟩ => z
  | .cons e (.star _ _), sc, [], h, c, g, pos => by rw [mEs] at h; cases h
  | .cons e (.star _ _), sc, x :: xs, h, c, g, pos => by rw [mEs, mEs] at h; simp at h
theorem mO_ok : ∀ (o : Oe) {sc : Scope} {x : Option Expr}, mO sg sc o x = true → ∀ {c : Cc}, Fits sg G F sc c → JO c x (evO G F o)
  | .none, sc, none, h, c, g => jo_none
  | .none, sc, some _, h, c, g => by rw [mO] at h; cases h
  | .some e, sc, none, h, c, g => by rw [mO] at h; cases h
  | .some e, sc, some x, h, c, g => by rw [mO] at h; exact jo_some (mE_ok e h g)
theorem mT_ok : ∀ (t : T) {sc : Scope} {x : Expr}, mT sg sc t x = true → ∀ {c : Cc}, Fits sg G F sc c → JT c x (evT G F t)
  | .tru e, sc, x, h, c, g => by
    rw [mT] at h
    simp only [Bool.and_eq_true] at h
    exact jt_tru (mE_ok e h.2 g) fun w => plainT_ok h.1 _ w
  | .cmp o a b, sc, x, h, c, g => by
    rw [mT] at h
    obtain ⟨xa, xo, xb, p, e0, k0⟩ := vCmp1_ok h
    clear h
    subst e0
    have h := k0
    clear k0
    simp only [Bool.and_eq_true, Bool.not_eq_true'] at h
    obtain rfl := copIs_ok h.1.1.1
    exact jt_cmp g.hu (mE_ok a h.1.2 g) (mE_ok b h.2 g) h.1.1.2
  | .isN a, sc, x, h, c, g => by
    rw [mT] at h
    obtain ⟨xa, xo, xb, p, e0, k0⟩ := vCmp1_ok h
    clear h
    subst e0
    have h := k0
    clear k0
    simp only [Bool.and_eq_true] at h
    obtain rfl := beq_ok h.1.1
    obtain ⟨j, p2, rfl⟩ := isNone_ok h.1.2
    exact jt_isN (mE_ok a h.2 g)
  | .notN a, sc, x, h, c, g => by
    rw [mT] at h
    obtain ⟨xa, xo, xb, p, e0, k0⟩ := vCmp1_ok h
    clear h
    subst e0
    have h := k0
    clear k0
    simp only [Bool.and_eq_true] at h
    obtain rfl := beq_ok h.1.1
    obtain ⟨j, p2, rfl⟩ := isNone_ok h.1.2
    exact jt_notN (mE_ok a h.2 g)
  | .chn o1 o2 a b d, sc, x, h, c, g => by
    rw [mT] at h
    obtain ⟨xa, x1, x2, xb, xd, p, e0, k0⟩ := vCmp2_ok h
    clear h
    subst e0
    have h := k0
    clear k0
    simp only [Bool.and_eq_true, Bool.not_eq_true'] at h
    obtain ⟨⟨⟨⟨⟨h1, h2⟩, h3⟩, h4⟩, h5⟩, h6⟩ := h
    obtain rfl := copIs_ok h1
    obtain rfl := copIs_ok h2
    exact jt_chn g.hu (mE_ok a h4 g) (mE_ok b h5 g) (mE_ok d h6 g) h3
  | .and ts, sc, x, h, c, g => by
    rw [mT] at h
    obtain ⟨o, xs, p, e0, k0⟩ := vBool_ok h
    clear h
    subst e0
    have h := k0
    clear k0
    simp only [Bool.and_eq_true] at h
    obtain rfl := beq_ok h.1
    exact PW.pt (mTa_ok ts h.2 g)
  | .or ts, sc, x, h, c, g => by
    rw [mT] at h
    obtain ⟨o, xs, p, e0, k0⟩ := vBool_ok h
    clear h
    subst e0
    have h := k0
    clear k0
    simp only [Bool.and_eq_true] at h
    obtain rfl := beq_ok h.1
    exact PW.pt (mTo_ok ts h.2 g)
  | .not t, sc, x, h, c, g => by
    rw [mT] at h
    obtain ⟨o, xa, p, e0, k0⟩ := vUn_ok h
    clear h
    subst e0
    have h := k0
    clear k0
    simp only [Bool.and_eq_true] at h
    obtain rfl := beq_ok h.1
    exact jt_not (mT_ok t h.2 g)
  | .ite t a b, sc, x, h, c, g => by
    rw [mT] at h
    obtain ⟨xt, xa, xb, p, e0, k0⟩ := vIf_ok h
    clear h
    subst e0
    simp only [Bool.and_eq_true] at k0
    exact jt_ite (mT_ok t k0.1.1 g) (mT_ok a k0.1.2 g) (mT_ok b k0.2 g)
  | .repC ne a b, sc, x, h, c, g => by
    rw [mT] at h
    obtain ⟨xa, xo, xb, p, e0, k0⟩ := vCmp1_ok h
    clear h
    subst e0
    simp only [Bool.and_eq_true] at k0
    obtain ⟨⟨⟨h1, h2⟩, h3⟩, h4⟩ := k0
    obtain ⟨n1, p1, ya, p2, e1, k3⟩ := vCall1_ok h3
    obtain ⟨n2, p3, yb, p4, e2, k4⟩ := vCall1_ok h4
    clear h3 h4
    subst e1
    subst e2
    rw [Bool.and_eq_true, Bool.and_eq_true] at k3 k4
    obtain ⟨f1, f2, f3⟩ := freeB_ok g k3.1.1
    obtain ⟨g1, g2, g3⟩ := freeB_ok g k4.1.1
    subst f1
    subst g1
    have ho : ∃ o : Cop, xo = opC o ∧ (o = .eq ∨ o = .ne) ∧ decide (o = .eq) = !ne := by
      unfold repO at h2
      split at h2
      · exact ⟨.eq, rfl, .inl rfl, by rw [h2]; rfl⟩
      · exact ⟨.ne, rfl, .inr rfl, by rw [h2]; rfl⟩
      · cases h2
    obtain ⟨o, rfl, ho, hne⟩ := ho
    exact jt_rep ho hne (g.gd h1) g.hu f2 f3 (mE_ok a k3.2 g) (mE_ok b k4.2 g) k3.1.2 k4.1.2
theorem mTa_ok : ∀ (ts : Ts) {sc : Scope} {xs : List Expr}, mTs sg sc ts xs = true → ∀ {c : Cc}, Fits sg G F sc c → ∀ {pos : Pos}, PW c.X (.BoolOp .And xs pos) (TTv c (evTa G F ts))
  | .one t, sc, [], h, c, g, pos => by unfold mTs at h; cases h
  | .one t, sc, [x], h, c, g, pos => by rw [mTs] at h; exact jw_and1 (mT_ok t h g)
  | .one t, sc, _ :: _ :: _, h, c, g, pos => by unfold mTs at h; cases h
  | .cons t ts, sc, [], h, c, g, pos => by rw [mTs] at h; cases h
  | .cons t ts, sc, [x], h, c, g, pos => by
    rw [mTs, Bool.and_eq_true] at h
    have h2 := h.2
    cases ts <;> (unfold mTs at h2; cases h2)
  | .cons t ts, sc, x :: y :: ys, h, c, g, pos => by
    rw [mTs, Bool.and_eq_true] at h
    exact jw_and (mT_ok t h.1 g) (mTa_ok ts h.2 g)
theorem mTo_ok : ∀ (ts : Ts) {sc : Scope} {xs : List Expr}, mTs sg sc ts xs = true → ∀ {c : Cc}, Fits sg G F sc c → ∀ {pos : Pos}, PW c.X (.BoolOp .Or xs pos) (TTv c (evTo G F ts))
  | .one t, sc, [], h, c, g, pos => by unfold mTs at h; cases h
  | .one t, sc, [x], h, c, g, pos => by rw [mTs] at h; exact jw_or1 (mT_ok t h g)
  | .one t, sc, _ :: _ :: _, h, c, g, pos => by unfold mTs at h; cases h
  | .cons t ts, sc, [], h, c, g, pos => by rw [mTs] at h; cases h
  | .cons t ts, sc, [x], h, c, g, pos => by
    rw [mTs, Bool.and_eq_true] at h
    have h2 := h.2
    cases ts <;> (unfold mTs at h2; cases h2)
  | .cons t ts, sc, x :: y :: ys, h, c, g, pos => by
    rw [mTs, Bool.and_eq_true] at h
    exact jw_or (mT_ok t h.1 g) (mTo_ok ts h.2 g)
theorem mOt_ok : ∀ (t : Ot) {sc : Scope} {xs : List Expr}, mOt sg sc t xs = true → ∀ {c : Cc}, Fits sg G F sc c → JTs c xs (evOt G F t)
  | .none, sc, [], h, c, g => jts_nil
  | .none, sc, _ :: _, h, c, g => by rw [mOt] at h; cases h
  | .some t, sc, [], h, c, g => by unfold mOt at h; cases h
  | .some t, sc, [x], h, c, g => by rw [mOt] at h; exact jts_one (mT_ok t h g)
  | .some t, sc, _ :: _ :: _, h, c, g => by unfold mOt at h; cases h
theorem mI_ok : ∀ (it : It) (gd : D → Bool) {sc : Scope} {x tgx : Expr}, mI sg sc it x tgx = true → ∀ {c : Cc}, Fits sg G F sc c → ∀ (L : Lat) (Ok : Sl → Mm → D → Prop), LOk c L Ok → (∀ s m d, gd d = true → Ok s m d) → JI c L tgx x (evI G F gd it)
  | .val e, gd, sc, x, tgx, h, c, g, L, Ok, hL, hk => by
    rw [mI] at h
    exact ji_val hL (mE_ok e h g) fun s m y _ hg => hk s m y.1 hg
  | .rng1 a, gd, sc, x, tgx, h, c, g, L, Ok, hL, hk => by
    rw [mI] at h
    obtain ⟨n, p, xs, q, e0, k0⟩ := vCall_ok h
    clear h
    subst e0
    have h := k0
    clear k0
    rw [Bool.and_eq_true] at h
    obtain ⟨rfl, e2, e3⟩ := freeB_ok g h.1
    have h2 := h.2
    split at h2
    · simp only [Bool.and_eq_true] at h2
      exact ji_rng1 e2 e3 (mE_ok a h2.2 g) h2.1
    · cases h2
  | .rng2 a b, gd, sc, x, tgx, h, c, g, L, Ok, hL, hk => by
    rw [mI] at h
    obtain ⟨n, p, xs, q, e0, k0⟩ := vCall_ok h
    clear h
    subst e0
    have h := k0
    clear k0
    rw [Bool.and_eq_true] at h
    obtain ⟨rfl, e2, e3⟩ := freeB_ok g h.1
    have h2 := h.2
    split at h2
    · simp only [Bool.and_eq_true] at h2
      exact ji_rng2 e2 e3 (mE_ok a h2.1.2 g) (mE_ok b h2.2 g) h2.1.1.1 h2.1.1.2
    · cases h2
  | .rng3 a b k, gd, sc, x, tgx, h, c, g, L, Ok, hL, hk => by
    rw [mI] at h
    obtain ⟨n, p, xs, q, e0, k0⟩ := vCall_ok h
    clear h
    subst e0
    have h := k0
    clear k0
    rw [Bool.and_eq_true] at h
    obtain ⟨rfl, e2, e3⟩ := freeB_ok g h.1
    have h2 := h.2
    split at h2
    · simp only [Bool.and_eq_true] at h2
      obtain ⟨⟨⟨⟨⟨h3, h4⟩, h5⟩, h6⟩, h7⟩, h8⟩ := h2
      obtain ⟨j, p1, p2, rfl⟩ := minus1_ok h7
      have ek : k = -1 := of_decide_eq_true h8
      subst ek
      exact ji_rng3 e2 e3 (mE_ok a h5 g) (mE_ok b h6 g) h3 h4
    · cases h2
  | .zip a b, gd, sc, x, tgx, h, c, g, L, Ok, hL, hk => by
    rw [mI, Bool.and_eq_true] at h
    obtain ⟨es, kk, tp, rfl⟩ := isTup_ok h.1
    obtain ⟨n, p, xs, q, e0, k0⟩ := vCall_ok h.2
    clear h
    subst e0
    have h := k0
    clear k0
    rw [Bool.and_eq_true] at h
    obtain ⟨rfl, e2, e3⟩ := freeB_ok g h.1
    have h2 := h.2
    split at h2
    · simp only [Bool.and_eq_true] at h2
      exact ji_zip hL e2 e3 (mE_ok a h2.1.2 g) (mE_ok b h2.2 g) h2.1.1.1 h2.1.1.2 hk
    · cases h2
  | .zipS a, gd, sc, x, tgx, h, c, g, L, Ok, hL, hk => by
    rw [mI, Bool.and_eq_true] at h
    obtain ⟨es, kk, tp, rfl⟩ := isTup_ok h.1
    obtain ⟨n, p, xa, p1, p2, e0, k0⟩ := vStarC_ok h.2
    clear h
    subst e0
    rw [Bool.and_eq_true] at k0
    obtain ⟨rfl, e2, e3⟩ := freeB_ok g k0.1
    exact ji_zipS hL e2 e3 (mE_ok a k0.2 g)
  | .enum a, gd, sc, x, tgx, h, c, g, L, Ok, hL, hk => by
    rw [mI, Bool.and_eq_true] at h
    obtain ⟨es, kk, tp, rfl⟩ := isTup_ok h.1
    obtain ⟨n, p, xs, q, e0, k0⟩ := vCall_ok h.2
    clear h
    subst e0
    have h := k0
    clear k0
    rw [Bool.and_eq_true] at h
    obtain ⟨rfl, e2, e3⟩ := freeB_ok g h.1
    have h2 := h.2
    split at h2
    · simp only [Bool.and_eq_true] at h2
      exact ji_enum hL e2 e3 (mE_ok a h2.2 g) h2.1 hk
    · cases h2
  | .enumF _ _, gd, sc, x, tgx, h, c, g, L, Ok, hL, hk => by rw [mI] at h; cases h
end
end MP
set_option Elab.async false
set_option linter.all false
set_option maxRecDepth 100000
set_option autoImplicit false
set_option maxHeartbeats 1000000
/-! the look at statements, and that it is right -/
namespace MP
open PySem PySem.Spec PyProof.Rows L2

/-! ### looks at one statement -/
section
variable (st : Stmt)
def wAsg (k : Expr → Expr → Pos → Bool) : Bool := match st with
  | .Assign [t] e p => k t e p
  | _ => false
def wAug (k : Str → Operator → Expr → Bool) : Bool := match st with
  | .AugAssign (.Name n _) o e _ => k n o e
  | _ => false
def wExp (k : Expr → Bool) : Bool := match st with
  | .Expr e _ => k e
  | _ => false
def wRet (k : Expr → Bool) : Bool := match st with
  | .Return (some e) _ => k e
  | _ => false
def isRetN : Bool := match st with
  | .Return none _ => true
  | _ => false
def wIf (k : Expr → List Stmt → List Stmt → Bool) : Bool := match st with
  | .If t a b _ => k t a b
  | _ => false
def wWhl (k : Expr → List Stmt → Bool) : Bool := match st with
  | .While t a [] _ => k t a
  | _ => false
def wFor (k : Expr → Expr → List Stmt → Bool) : Bool := match st with
  | .For t i b [] _ => k t i b
  | _ => false
def wRaise (k : Str → Bool) : Bool := match st with
  | .Raise (some (.Call (.Name n _) [.Constant (.str _) _ _] [] _)) none _ => k n
  | _ => false
def isPass : Bool := match st with
  | .Pass _ => true
  | .Expr (.Constant (.str _) _ _) _ => true
  | _ => false
def wTry (k : List Stmt → List ExceptHandler → Bool) : Bool := match st with
  | .Try b (h :: hs) [] [] _ => k b (h :: hs)
  | _ => false
def isBrk : Bool := match st with
  | .Break _ => true
  | _ => false
def isCnt : Bool := match st with
  | .Continue _ => true
  | _ => false
end
def noLC : Expr → Bool
  | .ListComp _ _ _ _ => false
  | .SetComp _ _ _ _ => false
  | .DictComp _ _ _ _ _ => false
  | _ => true
def isD0 : Expr → Bool
  | .Dict [] [] _ => true
  | _ => false
/-- a comprehension stored at a name on its line -/
def swF (sc : Scope) (tgx ex : Expr) : Bool := match ex with
  | .ListComp _ _ s p => match tgx with
    | .Name t tp => (sc.names.lookup t == some .local) && tp.line == p.line && !(s.names.any fun (n, k) => n == t && (k == .local || k == .cell))
    | _ => false
  | .SetComp _ _ _ _ => true
  | .DictComp _ _ _ _ _ => true
  | _ => false
/-- the names are stored one after another, from the left -/
def stB (tgx ex : Expr) : Bool := match tgx with
  | .Tuple ts _ _ => match ex with
    | .Tuple vs _ _ => !(ts.length == 2 || ts.length == 3) || vs.length != ts.length
    | _ => true
  | .List _ _ => false
  | _ => true
def parB (sc : Scope) (n m : Str) (p q : Pos) (a b : Expr) : Bool := lclB sc n && lclB sc m && (q.line == p.line) && decide (n ≠ m) && noStar a && noStar b && !(foldedForSure 8 a && foldedForSure 8 b) && !(constantsAlone 8 a && constantsAlone 8 b)
def isC : E → Bool
  | .comp _ _ _ _ _ => true
  | .comp2 _ _ _ _ _ _ _ _ _ => true
  | .compN _ _ _ _ _ _ _ => true
  | _ => false
def nmA : Str := "append"
def nmX : Str := "extend"
def nmP : Str := "pop"
def nmD : Str := "setdefault"
section
variable {st : Stmt}
theorem wAsg_ok {k : Expr → Expr → Pos → Bool} (h : wAsg st k = true) : ∃ t e p, st = .Assign [t] e p ∧ k t e p = true := by
  unfold wAsg at h; split at h
  · exact ⟨_, _, _, rfl, h⟩
  · cases h
theorem wAug_ok {k : Str → Operator → Expr → Bool} (h : wAug st k = true) : ∃ n p o e q, st = .AugAssign (.Name n p) o e q ∧ k n o e = true := by
  unfold wAug at h; split at h
  · exact ⟨_, _, _, _, _, rfl, h⟩
  · cases h
theorem wExp_ok {k : Expr → Bool} (h : wExp st k = true) : ∃ e p, st = .Expr e p ∧ k e = true := by
  unfold wExp at h; split at h
  · exact ⟨_, _, rfl, h⟩
  · cases h
theorem wRet_ok {k : Expr → Bool} (h : wRet st k = true) : ∃ e p, st = .Return (some e) p ∧ k e = true := by
  unfold wRet at h; split at h
  · exact ⟨_, _, rfl, h⟩
  · cases h
theorem isRetN_ok (h : isRetN st = true) : ∃ p, st = .Return none p := by
  unfold isRetN at h; split at h
  · exact ⟨_, rfl⟩
  · cases h
theorem wIf_ok {k : Expr → List Stmt → List Stmt → Bool} (h : wIf st k = true) : ∃ t a b p, st = .If t a b p ∧ k t a b = true := by
  unfold wIf at h; split at h
  · exact ⟨_, _, _, _, rfl, h⟩
  · cases h
theorem wWhl_ok {k : Expr → List Stmt → Bool} (h : wWhl st k = true) : ∃ t a p, st = .While t a [] p ∧ k t a = true := by
  unfold wWhl at h; split at h
  · exact ⟨_, _, _, rfl, h⟩
  · cases h
theorem wFor_ok {k : Expr → Expr → List Stmt → Bool} (h : wFor st k = true) : ∃ t i b p, st = .For t i b [] p ∧ k t i b = true := by
  unfold wFor at h; split at h
  · exact ⟨_, _, _, _, rfl, h⟩
  · cases h
theorem wRaise_ok {k : Str → Bool} (h : wRaise st k = true) : ∃ n p1 t j p2 p3 p, st = .Raise (some (.Call (.Name n p1) [.Constant (.str t) j p2] [] p3)) none p ∧ k n = true := by
  unfold wRaise at h; split at h
  · exact ⟨_, _, _, _, _, _, _, rfl, h⟩
  · cases h
theorem wTry_ok {k : List Stmt → List ExceptHandler → Bool} (h : wTry st k = true) : ∃ b e es p, st = .Try b (e :: es) [] [] p ∧ k b (e :: es) = true := by
  unfold wTry at h; split at h
  · exact ⟨_, _, _, _, rfl, h⟩
  · cases h
theorem isPass_ok {c : Cc} (h : isPass st = true) : JS c st sPss := by
  unfold isPass at h; split at h
  · exact js_pass
  · exact js_doc
  · cases h
theorem isBrk_ok {c : Cc} (h : isBrk st = true) : JS c st sBrk := by
  unfold isBrk at h; split at h
  · exact js_brk
  · cases h
theorem isCnt_ok {c : Cc} (h : isCnt st = true) : JS c st sCnt := by
  unfold isCnt at h; split at h
  · exact js_cnt
  · cases h
end
theorem blockKind_fn {env : Env} (h : env.scope.kind = .function) : env.blockKind = .function := by
  unfold Env.blockKind
  rw [h]; rfl
theorem swF_no {env : Env} {tgx ex : Expr} {l : Nat} (hk : env.scope.kind = .function) (h : swF env.scope tgx ex = false) : swapsWithSole [tgx] ex l env = pure false := by
  cases ex <;> first | rfl | (cases h; done) | skip
  rename_i elt gens s p
  cases tgx <;> first | rfl | skip
  rename_i t tp
  show (pure (env.blockKind == .function && env.kindOf t == some .local && tp.line == (Expr.ListComp elt gens s p).pos.line && !(s.names.any fun (n, k) => n == t && (k == .local || k == .cell))) : Sem Bool) = pure false
  have h' : ((env.scope.names.lookup t == some .local) && tp.line == p.line && !(s.names.any fun (n, k) => n == t && (k == .local || k == .cell))) = false := h
  rw [blockKind_fn hk]
  have e : ((ScopeKind.function == ScopeKind.function) && env.kindOf t == some .local && tp.line == (Expr.ListComp elt gens s p).pos.line && !(s.names.any fun (n, k) => n == t && (k == .local || k == .cell))) = false := h'
  rw [e]
theorem swF_yes {env : Env} {n : Str} {p0 : Pos} {elt : Expr} {gens : List Comprehension} {s : Scope} {p : Pos} {l : Nat} (hk : env.scope.kind = .function) (h : swF env.scope (.Name n p0) (.ListComp elt gens s p) = true) : swapsWith (.ListComp elt gens s p) (some (.Name n p0)) l env = pure true := by
  show (pure (env.blockKind == .function && env.kindOf n == some .local && p0.line == (Expr.ListComp elt gens s p).pos.line && !(s.names.any fun (m, k) => m == n && (k == .local || k == .cell))) : Sem Bool) = pure true
  have h' : ((env.scope.names.lookup n == some .local) && p0.line == p.line && !(s.names.any fun (m, k) => m == n && (k == .local || k == .cell))) = true := h
  rw [blockKind_fn hk]
  have e : ((ScopeKind.function == ScopeKind.function) && env.kindOf n == some .local && p0.line == (Expr.ListComp elt gens s p).pos.line && !(s.names.any fun (m, k) => m == n && (k == .local || k == .cell))) = true := h'
  rw [e]
theorem stB_ok {env : Env} {tgx ex : Expr} (h : stB tgx ex = true) : swappedStores [tgx] ex env = pure none := by
  cases tgx <;> first | rfl | (cases h; done) | skip
  rename_i ts k p
  cases ex <;> first | rfl | skip
  rename_i vs k2 p2
  have h' : (!(ts.length == 2 || ts.length == 3) || vs.length != ts.length) = true := h
  unfold swappedStores
  show (if (!(ts.length == 2 || ts.length == 3) || vs.length != ts.length || env.blockKind != .function) = true then return none else _ : Sem (Option (List Str))) = _
  rw [h', Bool.true_or, if_pos rfl]
theorem parB_ok {env : Env} {n m : Str} {p q pt pt2 : Pos} {k k2 : Nat} {a b : Expr} (hk : env.scope.kind = .function) (h : parB env.scope n m p q a b = true) :
    swappedStores [.Tuple [.Name n p, .Name m q] k pt] (.Tuple [a, b] k2 pt2) env = pure (some [n, m]) := by
  unfold parB at h
  simp only [Bool.and_eq_true, Bool.not_eq_true'] at h
  obtain ⟨⟨⟨⟨⟨⟨⟨h1, h2⟩, h3⟩, h4⟩, h5⟩, h6⟩, h7⟩, h8⟩ := h
  have e1 : env.kindOf n = some .local := lclB_ok h1
  have e2 : env.kindOf m = some .local := lclB_ok h2
  have e3 : q.line = p.line := eq_of_beq h3
  have e4 : n ≠ m := of_decide_eq_true h4
  unfold swappedStores
  simp [blockKind_fn hk, e1, e2, e3, e4, Expr.pos, List.eraseDups_cons, Ne.symm e4]
  rw [if_neg, if_neg, if_neg]
  · rw [← Bool.and_eq_true]; rw [h8]; exact Bool.false_ne_true
  · rw [← Bool.and_eq_true]; rw [h7]; exact Bool.false_ne_true
  · rintro (z | z)
    · cases a <;> first | (cases h5; done) | (cases z; done)
    · cases b <;> first | (cases h6; done) | (cases z; done)
/-- while an exception is handled -/
def Sg.hot (sg : Sg) : Sg := { sg with calm := false, fns := [] }
def nmAs (sg : Sg) (sc : Scope) : Option Nat → Option Str → Bool
  | none, none => true
  | some i, some n => nmB sg.N i n && lclB sc n
  | _, _ => false
mutual
def mS (sg : Sg) (sc : Scope) : S → Stmt → Bool
  | .asg tg e, st => wAsg st fun t x _ => noStar t && !swF sc t x && stB t x && mTg sg sc tg t && mE sg sc e x
  | .asgC i e, st => sg.calm && wAsg st fun t x _ => vName t fun n => nmB sg.N i n && lclB sc n && swF sc t x && isC e && mE sg sc e x
  | .new i e, st => wAsg st fun t x _ => vName t fun n => nmB sg.N i n && locB sc n && !swF sc t x && mE sg sc e x
  | .newC i e, st => sg.calm && wAsg st fun t x _ => vName t fun n => nmB sg.N i n && lclB sc n && swF sc t x && isC e && mE sg sc e x
  | .newD i _, st => wAsg st fun t x _ => vName t fun n => nmB sg.N i n && locB sc n && isD0 x
  | .par i j a b, st => sg.calm && wAsg st fun t x _ => match t, x with
    | .Tuple [.Name n p, .Name m q] _ _, .Tuple [xa, xb] _ _ => nmB sg.N i n && nmB sg.N j m && parB sc n m p q xa xb && mE sg sc a xa && mE sg sc b xb
    | _, _ => false
  | .setI o i v, st => wAsg st fun t x _ => vSub t fun xo xi => noSlice xi && mE sg sc o xo && mE sg sc i xi && mE sg sc v x
  | .aug i o e, st => wAug st fun n xo x => nmB sg.N i n && locB sc n && opIs o xo && mE sg sc e x
  | .augL i e, st => wAug st fun n xo x => nmB sg.N i n && locB sc n && opIs .add xo && mE sg sc e x
  | .app o e, st => wExp st fun x => vMeth x fun xo n xs => decide (n = nmA) && noSup xo && match xs with
    | [y] => noStar y && mE sg sc o xo && mE sg sc e y
    | _ => false
  | .ext o e, st => wExp st fun x => vMeth x fun xo n xs => decide (n = nmX) && noSup xo && match xs with
    | [y] => noStar y && mE sg sc o xo && mE sg sc e y
    | _ => false
  | .pop o, st => wExp st fun x => vMeth x fun xo n xs => decide (n = nmP) && noSup xo && xs.isEmpty && mE sg sc o xo
  | .sda o k e, st => wExp st fun x => vMeth x fun xi n xs => decide (n = nmA) && vMeth xi fun xo n2 ys => decide (n2 = nmD) && noSup xo && match xs, ys with
    | [y], [xk, .List [] _] => noStar y && noStar xk && mE sg sc o xo && mE sg sc k xk && mE sg sc e y
    | _, _ => false
  | .expr e, st => wExp st fun x => noLC x && mE sg sc e x
  | .ret e, st => wRet st fun x => mE sg sc e x
  | .retN, st => isRetN st
  | .ite t a b, st => wIf st fun x xs ys => mT sg sc t x && mSs sg sc a xs && mSs sg sc b ys
  | .whl t b, st => wWhl st fun x xs => mT sg sc t x && mSs sg sc b xs
  | .for tg it b, st => sg.calm && wFor st fun t x xs => mTg sg sc tg t && notSet x && mI sg sc it x t && mSs sg sc b xs
  | .raise k, st => sg.calm && wRaise st fun n => nmB sg.xs k n && glB sc n
  | .brk, st => isBrk st
  | .cnt, st => isCnt st
  | .pss, st => isPass st
  | .nev, _ => true
  | .raiseF _ _, _ => false
  | .tryE n b hs, st => sg.calm && decide (n = sg.xs.length) && wTry st fun xs es => mSs sg sc b xs && mHs sg sc hs es
def mSs (sg : Sg) (sc : Scope) : Ss → List Stmt → Bool
  | .nil, sts => sts.isEmpty
  | .cons s ss, sts => match sts with
    | [] => false
    | st :: sts => mS sg sc s st && mSs sg sc ss sts
/-- except clauses -/
def mHs (sg : Sg) (sc : Scope) : Hds → List ExceptHandler → Bool
  | .nil, es => es.isEmpty
  | .cons ks i su r, es => match es with
    | .ExceptHandler (some (.Name x _)) nm (b₀ :: suite) _ :: es => inP sg.cls x ks && glB sc x && nmAs sg sc i nm && mSs sg.hot sc su (b₀ :: suite) && mHs sg sc r es
    | _ => false
end
structure FitsS (sg : Sg) (G : List D) (F : Fc) (sc : Scope) (c : Cc) : Prop where
  fit : Fits sg G F sc c
  hp : PassesOwn (model c.X.prog c.X.w) c.X.A c.X.env c.X.xe
  scp : c.X.env.scope = sc
  kind : sc.kind = .function
  stk : c.X.stack = c.X.env :: c.X.outer
  frm : c.X.env.frame = some c.X.env.locals
  exs : ∀ (k : Nat) (x : Str), sg.xs[k]? = some x → ExcOk c x k ∧ (x == ("__debug__" : Str)) = false
section
variable {sg : Sg} {G : List D} {F : Fc} {sc : Scope} {c : Cc}
theorem FitsS.kf (g : FitsS sg G F sc c) : c.X.env.scope.kind = .function := by rw [g.scp]; exact g.kind
theorem FitsS.lcl (g : FitsS sg G F sc c) {n : Str} (h : lclB sc n = true) : c.X.env.scope.names.lookup n = some .local := by rw [g.scp]; exact lclB_ok h
theorem FitsS.swN (g : FitsS sg G F sc c) {t x : Expr} {l : Nat} (h : swF sc t x = false) : swapsWithSole [t] x l c.X.env = pure false := swF_no g.kf (by rw [g.scp]; exact h)
/-- a comprehension stored at a name on its line -/
theorem setC_ok (g : FitsS sg G F sc c) (hcm : sg.calm = true) {i : Nat} {e : E} {t x : Expr} {n : Str} {p0 ps : Pos} (nw : Bool) (ht : t = .Name n p0) (h1 : nmB sg.N i n = true) (h2 : lclB sc n = true) (h3 : swF sc t x = true) (h4 : isC e = true) (h5 : mE sg sc e x = true) :
    JS c (.Assign [t] x ps) (if nw = true then sNew i (evE G F e) else sAsgC i (evE G F e)) := by
  subst ht
  have f := g.fit
  cases e with
  | comp own tg it t e =>
    rw [mE, Bool.and_eq_true] at h5
    replace h5 := h5.2
    obtain ⟨elt, tgx, iterx, ifs, scope, p, e0, k0⟩ := vLc1_ok h5
    clear h5
    subst e0
    simp only [Bool.and_eq_true] at k0
    obtain ⟨⟨⟨⟨⟨⟨h1', h2'⟩, h3'⟩, h4'⟩, h5'⟩, h6'⟩, h7'⟩ := k0
    have := js_setC (own := ownP sg.N own) (pos := ps) (f.calm hcm) f.nd' (f.N h1) (g.lcl h2) (swF_yes g.kf (by rw [g.scp]; exact h3)) (mI_ok it gdA h5' f (LC c) _ lc_ok fun _ _ _ _ => trivial) (comp_ok f h1') (by rw [ownP_snd]; exact h2') (fun s H C cl fp B => mTg_ok tg h3' (f.blk hcm s H C cl fp B)) (fun s H C cl fp B => mOt_ok t h6' (f.blk hcm s H C cl fp B)) (fun s H C cl fp B => mE_ok e h7' (f.blk hcm s H C cl fp B)) (notSet_ok h4' _) nw
    rw [ownP_snd] at this
    exact this
  | comp2 own own1 tg it t tg1 it1 t1 e =>
    rw [mE, Bool.and_eq_true] at h5
    replace h5 := h5.2
    obtain ⟨elt, tgx, iterx, ifs, tgx1, iterx1, ifs1, scope, p, e0, k0⟩ := vLc2_ok h5
    clear h5
    subst e0
    simp only [Bool.and_eq_true] at k0
    obtain ⟨⟨⟨⟨⟨⟨⟨⟨⟨⟨⟨⟨h1', h2'⟩, ha⟩, hb⟩, h3'⟩, h4'⟩, h5'⟩, h6'⟩, h7'⟩, h8'⟩, h9'⟩, h10'⟩, h11'⟩ := k0
    have hv : ∀ i ∈ own1, i ∈ (ownP sg.N own).map (·.2) := fun i hi => by
      rw [ownP_snd]
      exact List.contains_iff_mem.mp (List.all_eq_true.mp ha i hi)
    have := js_setC2 (own := ownP sg.N own) (own1 := own1) (pos := ps) (f.calm hcm) f.nd' (f.N h1) (g.lcl h2) (swF_yes g.kf (by rw [g.scp]; exact h3)) (mI_ok it gdA h5' f (LC c) _ lc_ok fun _ _ _ _ => trivial) (comp_ok f h1') hv (by rw [ownP_snd]; exact h2') hb (fun s H C cl fp B => mTg_ok tg h3' (f.blk hcm s H C cl fp B)) (fun s H C cl fp B => mOt_ok t h6' (f.blk hcm s H C cl fp B))
      (fun s H C cl fp B L hL => mI_ok it1 gdA h9' (f.blk hcm s H C cl fp B) L _ hL fun _ _ _ _ => trivial) (fun s H C cl fp B => mTg_ok tg1 h7' (f.blk hcm s H C cl fp B)) (fun s H C cl fp B => mOt_ok t1 h10' (f.blk hcm s H C cl fp B)) (fun s H C cl fp B => mE_ok e h11' (f.blk hcm s H C cl fp B)) (notSet_ok h4' _) (fun env => notSet_ok h8' env) nw
    rw [ownP_snd] at this
    exact this
  | compN own own0 tg it t cs e =>
    rw [mE, Bool.and_eq_true] at h5
    replace h5 := h5.2
    obtain ⟨elt, tgx, iterx, ifs, gs, scope, p, e0, k0⟩ := compN_of own own0 tg it t cs e h5 f (G := G) (F := F)
    subst e0
    have := js_setCN (c := c) (pos := ps) (pc := p) (own := ownP sg.N own) (q := ⟨own0, tg, evI G F gdA it, evOt G F t⟩) (qs := toM G F cs) (gs := gs) (elt := elt) (tgx := tgx) (iterx := iterx) (ifs := ifs) (scope := scope) (el := evE G F e) (f.N h1) (g.lcl h2) (swF_yes g.kf (by rw [g.scp]; exact h3))
      ⟨f.calm hcm, f.nd', mI_ok it gdA k0.1.1 f (LC c) _ lc_ok fun _ _ _ _ => trivial, comp_ok f k0.1.2.1, notSet_ok k0.1.2.2.1 _, k0.1.2.2.2.1, fun s H C cl fp B => mTg_ok tg k0.1.2.2.2.2.1 (f.blk hcm s H C cl fp B), fun s H C cl fp B => mOt_ok t k0.1.2.2.2.2.2.1 (f.blk hcm s H C cl fp B), k0.1.2.2.2.2.2.2.1, k0.1.2.2.2.2.2.2.2,
        mCl_ok hcm cs k0.2.1 f, fun s H C cl fp B => mE_ok e k0.2.2 (f.blk hcm s H C cl fp B)⟩ nw
    rw [ownP_snd] at this
    rw [evE, evCl_nest]
    exact this
  | _ => cases h4
theorem noLC_ok {e : Expr} {l : Nat} {env : Env} (h : noLC e = true) : swapsWith e none l env = pure false := by
  cases e <;> first | rfl | cases h
theorem star_each {t : Expr} {env : Env} (h : noStar t = true) : (assignEach [t] env).map (·.2) = [assign t env] := by
  cases t <;> first | rfl | cases h
theorem isD0_ok {e : Expr} (h : isD0 e = true) : ∃ p, e = .Dict [] [] p := by
  unfold isD0 at h; split at h
  · exact ⟨_, rfl⟩
  · cases h
/-- a for's list: a name's, or one that no statement may change -/
theorem mIF_ok (it : MP.It) {x tgx : Expr} (h : mI sg sc it x tgx = true) (f : Fits sg G F sc c) : JI c (LF c (walkR it)) tgx x (evI G F (gdF it) it) := by
  have nonref : ∀ (s : Sl) (m : Mm) (d : D), gdN d = true → OkF (walkR it) s m d := fun s m d hd => .inl (by
    have : (!isRef d) = true := hd
    cases hr : isRef d with
    | false => rfl
    | true => rw [hr] at this; cases this)
  by_cases hv : ∃ i, it = .val (.var i)
  · obtain ⟨i, rfl⟩ := hv
    have h' : mE sg sc (.var i) x = true := by rw [mI] at h; exact h
    refine ji_val lf_ok (mE_ok (.var i) h' f) fun s m y hy _ => ?_
    have hy' : xVar i s m = some (.ok y) := hy
    unfold xVar at hy'
    cases q : nthL s i with
    | none => rw [q] at hy'; cases hy'
    | some o =>
      cases o with
      | none => rw [q] at hy'; cases hy'
      | some d =>
        rw [q] at hy'
        have e1 : y = (d, false) := by
          have := Option.some.inj hy'
          injection this with this
          exact this.symm
        subst e1
        cases d with
        | ref n =>
          refine .inr ⟨n, rfl, ?_⟩
          show walkV i s = some n
          unfold walkV
          rw [q]
        | _ => exact .inl rfl
  · have e : gdF it = gdN := by
      cases it with
      | val e =>
        cases e with
        | var i => exact absurd ⟨i, rfl⟩ hv
        | _ => rfl
      | _ => rfl
    rw [e]
    exact mI_ok it gdN h f (LF c (walkR it)) _ lf_ok nonref
end
section
variable {sg : Sg} {G : List D} {F : Fc} {sc : Scope} {c : Cc}
theorem FitsS.tr (g : FitsS sg G F sc c) (hcm : sg.calm = true) {W : WX} {pn : List (Addr × Obj)} {xe : Value → Shared → Prop} (tk : Takes (c.X.tr pn xe) W) (hp : PassesOwn (model c.X.prog c.X.w) c.X.A c.X.env xe) : FitsS sg G F sc (c.tr W pn xe) where
  fit := ⟨g.fit.calm, g.fit.noex, ⟨fun k d a h => (g.fit.noex hcm k d a h).elim⟩, fun x ks h => ⟨(g.fit.cls x ks h).ok⟩, g.fit.excC, g.fit.flds, g.fit.nm, g.fit.nd, g.fit.env, g.fit.hu, tk, fun f x h => ⟨(g.fit.calls f x h).ok⟩, g.fit.glob, g.fit.free, g.fit.maths, g.fit.dbg, g.fit.gd, g.fit.fnl⟩
  hp := hp
  scp := g.scp
  kind := g.kind
  stk := g.stk
  frm := g.frm
  exs := fun k x h => ⟨⟨(g.exs k x h).1.ok⟩, (g.exs k x h).2⟩
theorem FitsS.su (g : FitsS sg G F sc c) {a : Addr} {oe : Obj} {pn : List (Addr × Obj)} {ex : Nat → Option Addr → Addr → Prop} (hx : ∀ k d a', ex k d a' → ∃ (X0 : Cx) (oe' : Obj) (pn' : List (Addr × Obj)), c.X.suite a ((a, oe) :: pn) = X0.suite a' ((a', oe') :: pn') ∧ Zc (.ref (c.xi.at_ k)) d oe' ∧ ∃ vs, oe'.data = .fields vs) :
    FitsS sg.hot G F sc (c.su a ((a, oe) :: pn) ex) where
  fit := {
    calm := fun z => nomatch z
    noex := fun z => nomatch z
    held := ⟨hx⟩
    cls := fun x ks h => ⟨(g.fit.cls x ks h).ok⟩
    excC := g.fit.excC
    flds := g.fit.flds
    nm := g.fit.nm
    nd := g.fit.nd
    env := g.fit.env
    hu := g.fit.hu
    tk := takes_none5
    calls := fun f x h => absurd h (by simp [Sg.hot])
    glob := g.fit.glob
    free := g.fit.free
    maths := g.fit.maths
    dbg := fun x h => g.fit.dbg x (by
      rcases h with h | h | h
      · exact .inl h
      · exact absurd h (by simp [Sg.hot])
      · exact .inr (.inr h))
    gd := g.fit.gd
    fnl := g.fit.fnl }
  hp := PassesOwn.never
  scp := g.scp
  kind := g.kind
  stk := g.stk
  frm := g.frm
  exs := fun k x h => ⟨⟨(g.exs k x h).1.ok⟩, (g.exs k x h).2⟩
end
mutual
theorem mS_ok {G : List D} {F : Fc} : ∀ (s : S) {sg : Sg} {sc : Scope} {st : Stmt}, mS sg sc s st = true → ∀ {c : Cc}, FitsS sg G F sc c → JS c st (evS G F s)
  | .asg tg e, sg, sc, st, h, c, g => by
    rw [mS] at h
    obtain ⟨t, x, p, e0, k0⟩ := wAsg_ok h
    clear h
    subst e0
    simp only [Bool.and_eq_true, Bool.not_eq_true'] at k0
    obtain ⟨⟨⟨⟨h1, h2⟩, h3⟩, h4⟩, h5⟩ := k0
    exact js_asg (mE_ok e h5 g.fit) (mTg_ok tg h4 g.fit) (g.swN h2) (stB_ok h3) (star_each h1)
  | .asgC i e, sg, sc, st, h, c, g => by
    rw [mS, Bool.and_eq_true] at h
    obtain ⟨hcm, h⟩ := h
    obtain ⟨t, x, p, e0, k0⟩ := wAsg_ok h
    clear h
    subst e0
    obtain ⟨n, p0, e0, k1⟩ := vName_ok k0
    simp only [Bool.and_eq_true] at k1
    obtain ⟨⟨⟨⟨h1, h2⟩, h3⟩, h4⟩, h5⟩ := k1
    exact setC_ok g hcm false e0 h1 h2 h3 h4 h5
  | .new i e, sg, sc, st, h, c, g => by
    rw [mS] at h
    obtain ⟨t, x, p, e0, k0⟩ := wAsg_ok h
    clear h
    subst e0
    obtain ⟨n, p0, e0, k1⟩ := vName_ok k0
    clear k0
    subst e0
    simp only [Bool.and_eq_true, Bool.not_eq_true'] at k1
    obtain ⟨⟨⟨h1, h2⟩, h3⟩, h5⟩ := k1
    have hl := locB_ok h2
    exact js_new g.fit.nd' (g.fit.N h1) (g.fit.env.locs hl) (g.fit.fnl n hl) (mE_ok e h5 g.fit) (g.swN (l := p.line) h3)
  | .newC i e, sg, sc, st, h, c, g => by
    rw [mS, Bool.and_eq_true] at h
    obtain ⟨hcm, h⟩ := h
    obtain ⟨t, x, p, e0, k0⟩ := wAsg_ok h
    clear h
    subst e0
    obtain ⟨n, p0, e0, k1⟩ := vName_ok k0
    simp only [Bool.and_eq_true] at k1
    obtain ⟨⟨⟨⟨h1, h2⟩, h3⟩, h4⟩, h5⟩ := k1
    exact setC_ok g hcm true e0 h1 h2 h3 h4 h5
  | .newD i tk, sg, sc, st, h, c, g => by
    rw [mS] at h
    obtain ⟨t, x, p, e0, k0⟩ := wAsg_ok h
    clear h
    subst e0
    obtain ⟨n, p0, e0, k1⟩ := vName_ok k0
    clear k0
    subst e0
    simp only [Bool.and_eq_true] at k1
    obtain ⟨⟨h1, h2⟩, h3⟩ := k1
    obtain ⟨p2, rfl⟩ := isD0_ok h3
    have hl := locB_ok h2
    exact js_newD g.fit.nd' (g.fit.N h1) (g.fit.env.locs hl) (g.fit.fnl n hl)
  | .par i j a b, sg, sc, st, h, c, g => by
    rw [mS, Bool.and_eq_true] at h
    obtain ⟨hcm, h⟩ := h
    obtain ⟨t, x, p, e0, k0⟩ := wAsg_ok h
    clear h
    subst e0
    split at k0
    · simp only [Bool.and_eq_true] at k0
      obtain ⟨⟨⟨⟨h1, h2⟩, h3⟩, h4⟩, h5⟩ := k0
      have h3' := h3
      unfold parB at h3'
      simp only [Bool.and_eq_true] at h3'
      obtain ⟨⟨⟨⟨⟨⟨⟨q1, q2⟩, q3⟩, q4⟩, q5⟩, q6⟩, _⟩, _⟩ := h3'
      refine js_par (g.fit.calm hcm) g.fit.nd' (g.fit.N h1) (g.fit.N h2) (fun z => ?_) (g.lcl q1) (g.lcl q2) (mE_ok a h4 g.fit) (mE_ok b h5 g.fit) q5 q6 (parB_ok g.kf (by rw [g.scp]; exact h3))
      subst z
      have := (nmB_ok h1).symm.trans (nmB_ok h2)
      exact (of_decide_eq_true q4) (Option.some.inj this)
    · cases k0
  | .setI o i v, sg, sc, st, h, c, g => by
    rw [mS] at h
    obtain ⟨t, x, p, e0, k0⟩ := wAsg_ok h
    clear h
    subst e0
    obtain ⟨xo, xi, p0, e0, k1⟩ := vSub_ok k0
    clear k0
    subst e0
    simp only [Bool.and_eq_true] at k1
    obtain ⟨⟨⟨h1, h2⟩, h3⟩, h4⟩ := k1
    exact js_setI g.fit.hu (mE_ok o h2 g.fit) (mE_ok i h3 g.fit) (mE_ok v h4 g.fit) h1
  | .aug i o e, sg, sc, st, h, c, g => by
    rw [mS] at h
    obtain ⟨n, p, xo, x, q, e0, k0⟩ := wAug_ok h
    clear h
    subst e0
    simp only [Bool.and_eq_true] at k0
    obtain ⟨⟨⟨h1, h2⟩, h3⟩, h4⟩ := k0
    obtain rfl := opIs_ok h3
    have hl := locB_ok h2
    exact js_aug g.fit.nd' (g.fit.N h1) (g.fit.env.locs hl) (g.fit.fnl n hl) (mE_ok e h4 g.fit)
  | .augL i e, sg, sc, st, h, c, g => by
    rw [mS] at h
    obtain ⟨n, p, xo, x, q, e0, k0⟩ := wAug_ok h
    clear h
    subst e0
    simp only [Bool.and_eq_true] at k0
    obtain ⟨⟨⟨h1, h2⟩, h3⟩, h4⟩ := k0
    obtain rfl := opIs_ok h3
    have hl := locB_ok h2
    exact js_augL g.fit.nd' (g.fit.N h1) (g.fit.env.locs hl) (g.fit.fnl n hl) (mE_ok e h4 g.fit)
  | .app o e, sg, sc, st, h, c, g => by
    rw [mS] at h
    obtain ⟨x, p, e0, k0⟩ := wExp_ok h
    clear h
    subst e0
    obtain ⟨xo, n, ap, xs, p2, e0, hl, k1⟩ := vMeth_ok k0
    clear k0
    subst e0
    simp only [Bool.and_eq_true] at k1
    obtain ⟨⟨h1, h2⟩, k2⟩ := k1
    obtain rfl : n = nmA := of_decide_eq_true h1
    split at k2
    · simp only [Bool.and_eq_true] at k2
      exact js_app (mE_ok o k2.1.2 g.fit) (mE_ok e k2.2 g.fit) h2 k2.1.1 hl
    · cases k2
  | .ext o e, sg, sc, st, h, c, g => by
    rw [mS] at h
    obtain ⟨x, p, e0, k0⟩ := wExp_ok h
    clear h
    subst e0
    obtain ⟨xo, n, ap, xs, p2, e0, hl, k1⟩ := vMeth_ok k0
    clear k0
    subst e0
    simp only [Bool.and_eq_true] at k1
    obtain ⟨⟨h1, h2⟩, k2⟩ := k1
    obtain rfl : n = nmX := of_decide_eq_true h1
    split at k2
    · simp only [Bool.and_eq_true] at k2
      exact js_ext (mE_ok o k2.1.2 g.fit) (mE_ok e k2.2 g.fit) h2 k2.1.1 hl
    · cases k2
  | .pop o, sg, sc, st, h, c, g => by
    rw [mS] at h
    obtain ⟨x, p, e0, k0⟩ := wExp_ok h
    clear h
    subst e0
    obtain ⟨xo, n, ap, xs, p2, e0, hl, k1⟩ := vMeth_ok k0
    clear k0
    subst e0
    simp only [Bool.and_eq_true] at k1
    obtain ⟨⟨⟨h1, h2⟩, k2⟩, k3⟩ := k1
    obtain rfl : n = nmP := of_decide_eq_true h1
    cases xs with
    | nil => exact js_pop (mE_ok o k3 g.fit) h2 hl
    | cons _ _ => cases k2
  | .sda o k e, sg, sc, st, h, c, g => by
    rw [mS] at h
    obtain ⟨x, p, e0, k0⟩ := wExp_ok h
    clear h
    subst e0
    obtain ⟨xi, n, ap, xs, p2, e0, hl, k1⟩ := vMeth_ok k0
    clear k0
    subst e0
    rw [Bool.and_eq_true] at k1
    obtain ⟨h1, k2⟩ := k1
    obtain rfl : n = nmA := of_decide_eq_true h1
    obtain ⟨xo, n2, ap2, ys, p3, e0, hl2, k3⟩ := vMeth_ok k2
    clear k2
    subst e0
    simp only [Bool.and_eq_true] at k3
    obtain ⟨⟨h3, h4⟩, k4⟩ := k3
    obtain rfl : n2 = nmD := of_decide_eq_true h3
    split at k4
    · simp only [Bool.and_eq_true] at k4
      obtain ⟨⟨⟨⟨q1, q2⟩, q3⟩, q4⟩, q5⟩ := k4
      exact js_sda (mE_ok o q3 g.fit) (mE_ok k q4 g.fit) (mE_ok e q5 g.fit) h4 q2 q1 hl2 hl
    · cases k4
  | .expr e, sg, sc, st, h, c, g => by
    rw [mS] at h
    obtain ⟨x, p, e0, k0⟩ := wExp_ok h
    clear h
    subst e0
    simp only [Bool.and_eq_true] at k0
    exact js_expr (mE_ok e k0.2 g.fit) (noLC_ok k0.1)
  | .ret e, sg, sc, st, h, c, g => by
    rw [mS] at h
    obtain ⟨x, p, e0, k0⟩ := wRet_ok h
    clear h
    subst e0
    exact js_ret (mE_ok e k0 g.fit)
  | .retN, sg, sc, st, h, c, g => by
    rw [mS] at h
    obtain ⟨p, rfl⟩ := isRetN_ok h
    exact js_retN
  | .ite t a b, sg, sc, st, h, c, g => by
    rw [mS] at h
    obtain ⟨x, xs, ys, p, e0, k0⟩ := wIf_ok h
    clear h
    subst e0
    simp only [Bool.and_eq_true] at k0
    exact js_if (mT_ok t k0.1.1 g.fit) (mSs_ok a k0.1.2 g) (mSs_ok b k0.2 g)
  | .whl t b, sg, sc, st, h, c, g => by
    rw [mS] at h
    obtain ⟨x, xs, p, e0, k0⟩ := wWhl_ok h
    clear h
    subst e0
    simp only [Bool.and_eq_true] at k0
    exact js_while g.hp (mT_ok t k0.1 g.fit) (mSs_ok b k0.2 g)
  | .for tg it b, sg, sc, st, h, c, g => by
    rw [mS, Bool.and_eq_true] at h
    obtain ⟨hcm, h⟩ := h
    obtain ⟨t, x, xs, p, e0, k0⟩ := wFor_ok h
    clear h
    subst e0
    simp only [Bool.and_eq_true] at k0
    obtain ⟨⟨⟨h1, h2⟩, h3⟩, h4⟩ := k0
    exact js_for g.hp (g.fit.calm hcm) (mIF_ok it h3 g.fit) (mTg_ok tg h1 g.fit) (mSs_ok b h4 g) (notSet_ok h2 _)
  | .raise k, sg, sc, st, h, c, g => by
    rw [mS, Bool.and_eq_true] at h
    obtain ⟨hcm, h⟩ := h
    obtain ⟨n, p1, t, j, p2, p3, p, e0, k0⟩ := wRaise_ok h
    clear h
    subst e0
    simp only [Bool.and_eq_true] at k0
    obtain ⟨h1, h2⟩ := g.exs k n (nmB_ok k0.1)
    exact js_raise (g.fit.calm hcm) g.fit.tk h1 (g.fit.gl k0.2) h2
  | .brk, sg, sc, st, h, c, g => by rw [mS] at h; exact isBrk_ok h
  | .cnt, sg, sc, st, h, c, g => by rw [mS] at h; exact isCnt_ok h
  | .pss, sg, sc, st, h, c, g => by rw [mS] at h; exact isPass_ok h
  | .nev, sg, sc, st, h, c, g => js_nev
  | .raiseF _ _, sg, sc, st, h, c, g => by rw [mS] at h; cases h
  | .tryE n b hs, sg, sc, st, h, c, g => by
    rw [mS, Bool.and_eq_true, Bool.and_eq_true] at h
    obtain ⟨⟨hcm, hn⟩, h⟩ := h
    have hn' : n = sg.xs.length := of_decide_eq_true hn
    subst hn'
    obtain ⟨xs, e, es, p, e0, k0⟩ := wTry_ok h
    clear h
    subst e0
    rw [Bool.and_eq_true] at k0
    obtain ⟨qs, q1, q2, q3⟩ := mHs_ok (G := G) (F := F) hs hcm k0.2 g
    have := js_try (N := sg.xs.length) (pos := p) g.stk g.frm g.fit.nd' g.fit.tk (g.fit.noex hcm) (fun W pn xe tk hp => mSs_ok b k0.1 (g.tr hcm tk hp)) q2 q3
    rw [q1] at this
    exact this
theorem mSs_ok {G : List D} {F : Fc} : ∀ (ss : Ss) {sg : Sg} {sc : Scope} {sts : List Stmt}, mSs sg sc ss sts = true → ∀ {c : Cc}, FitsS sg G F sc c → JSs c sts (evSs G F ss)
  | .nil, sg, sc, [], h, c, g => jss_nil
  | .nil, sg, sc, _ :: _, h, c, g => by rw [mSs] at h; cases h
  | .cons s ss, sg, sc, [], h, c, g => by rw [mSs] at h; cases h
  | .cons s ss, sg, sc, st :: sts, h, c, g => by
    rw [mSs, Bool.and_eq_true] at h
    exact jss_cons (mS_ok s h.1 g) (mSs_ok ss h.2 g)
theorem mHs_ok {G : List D} {F : Fc} : ∀ (hs : Hds) {sg : Sg} {sc : Scope} {es : List ExceptHandler}, sg.calm = true → mHs sg sc hs es = true → ∀ {c : Cc}, FitsS sg G F sc c →
    ∃ qs : List Hq, Hq.run qs = evH G F hs ∧ (∀ q ∈ qs, ∀ k, k < sg.xs.length → PySem.W.exmOne c.X.K (.ref (c.xi.at_ k)) q.cl = some (kIn q.ks k)) ∧ MixOk c.X es (qs.map (Hq.hd c sg.xs.length))
  | .nil, sg, sc, [], hcm, h, c, g => ⟨[], rfl, fun q hq => absurd hq (by simp), .nil⟩
  | .nil, sg, sc, _ :: _, hcm, h, c, g => by rw [mHs] at h; cases h
  | .cons ks i su r, sg, sc, es, hcm, h, c, g => by
    unfold mHs at h
    split at h
    · rename_i x np nm b₀ suite pos' es'
      simp only [Bool.and_eq_true] at h
      obtain ⟨⟨⟨⟨h1, h2⟩, h3⟩, h4⟩, h5⟩ := h
      obtain ⟨qs, q1, q2, q3⟩ := mHs_ok (G := G) (F := F) r hcm h5 g
      obtain ⟨cV, cv, hc, tab⟩ := (g.fit.cls x ks (of_decide_eq_true h1)).ok
      refine ⟨⟨cv, ks, i, evSs G F su⟩ :: qs, by rw [evH, Hq.run, q1], fun q hq => ?_, .cons ⟨x, np, nm, b₀, suite, pos', rfl, hc.names (g.fit.gl h2), ?_, fun a oe cls d pn hz hf => ?_⟩ q3⟩
      · rcases List.mem_cons.mp hq with z | z
        · subst z; exact fun k hk => (tab k hk).1
        · exact q2 q z
      · show NmOk c.X nm i
        cases nm <;> cases i <;> first | trivial | (cases h3; done) | skip
        have h3' := h3
        unfold nmAs at h3'
        rw [Bool.and_eq_true] at h3'
        exact ⟨g.fit.N h3'.1, g.lcl h3'.2⟩
      · refine ⟨fun pins s σ H D I q => ?_⟩
        obtain ⟨k, hk, hcls, q⟩ := q
        subst hcls
        cases i with
        | none =>
          have := mSs_ok su h4 (g.su (ex := c.ex) (a := a) (oe := oe) (pn := pn) fun k d a' z => (g.fit.noex hcm k d a' z).elim)
          exact this.run pins s σ H D I (TSv.pn q)
        | some i =>
          have := mSs_ok su h4 (g.su (ex := exAt k d a) (a := a) (oe := oe) (pn := pn) fun k' d' a' z => by
            obtain ⟨rfl, rfl, rfl⟩ := z
            exact ⟨_, oe, pn, rfl, hz, hf⟩)
          exact this.run pins s σ H D I (TSv.pn q)
    · cases h
end
end MP
set_option Elab.async false
set_option linter.all false
set_option maxRecDepth 100000
set_option autoImplicit false
set_option maxHeartbeats 1000000
/-! a program of the language stands for a text's defs -/
namespace MP
open PySem PySem.Spec PyProof.Rows L2

structure FT where
  x : Str
  st : Stmt
  ps : List Str
  N : List Str
  body : Ss

theorem mapO_frz {c : Cc} {s : Sl} {φ : List Addr} {m : Mm} {σ : L2.St} {H : Hp} (sr : c.SR s φ m σ H) (n : Nat) : ∀ (xs ys : List D) (vs : List V), mapO (frz m n) xs = some ys → c.RepL H φ xs vs → MP.RepL c.R H c.B [] ys vs ∧ rfs ys = true
  | [], ys, vs, e, r => by cases e; cases r; exact ⟨rfl, rfl⟩
  | x :: xs, ys, vs, e, ⟨v, w, ev, rv, rl⟩ => by
    rw [mapO] at e
    split at e
    · rename_i y hy
      split at e
      · rename_i ys' hys
        cases e
        subst ev
        obtain ⟨a1, a2⟩ := frz_rep sr n x y v hy rv
        obtain ⟨b1, b2⟩ := mapO_frz sr n xs ys' w hys rl
        exact ⟨RepL.cons a1 b1, by rw [rfs, a2, b2]; rfl⟩
      · cases e
    · cases e
theorem frz_rf {m : Mm} {n : Nat} {d : D} (h : rf d = true) : frz m (n + 1) d = some d := by rw [frz, if_pos h]
theorem mapO_rf {m : Mm} {n : Nat} : ∀ {xs ys : List D}, rfs xs = true → mapO (frz m (n + 1)) xs = some ys → ys = xs
  | [], _, _, e => by cases e; rfl
  | x :: xs, ys, h, e => by
    rw [rfs, Bool.and_eq_true] at h
    rw [mapO, frz_rf h.1] at e
    cases e2 : mapO (frz m (n + 1)) xs with
    | none => rw [e2] at e; cases e
    | some zs =>
      rw [e2] at e
      cases e
      rw [mapO_rf h.2 e2]
theorem stD_get {n : Nat} {ds : List D} {i : Nat} {d : D} (h : (stD n ds)[i]? = some (some d)) : ds[i]? = some d := by
  unfold stD at h
  by_cases hi : i < ds.length
  · rw [List.getElem?_append_left (by simpa using hi), List.getElem?_map] at h
    cases e : ds[i]? with
    | none => rw [e] at h; cases h
    | some a => rw [e] at h; cases h; rfl
  · rw [List.getElem?_append_right (by simpa using hi), List.getElem?_replicate] at h
    split at h <;> cases h
theorem start_get {N : List Str} {vs : List V} {i : Nat} {v : V} (h : vs[i]? = some v) : (L2.start N vs)[i]? = some (some v) := by
  unfold L2.start
  have hi : i < vs.length := (List.getElem?_eq_some_iff.mp h).1
  rw [List.getElem?_append_left (by simpa using hi), List.getElem?_map, h]
  rfl
theorem sr_start {K : KX} {H : Hp} {B : List Addr} {N : List Str} {ds : List D} {vs : List V} (hb : ∀ b ∈ B, ∃ o, H b = some o) (r : MP.RepL K H B [] ds vs) : MP.SR K H B (stD N.length ds) [] [] (L2.start N vs) H where
  len := by
    unfold stD L2.start
    simp [RepL.length r]
  sl := fun i d h => by
    obtain ⟨v, e1, e2⟩ := RepL.get r (stD_get h)
    exact ⟨v, start_get e1, e2⟩
  nd := List.nodup_nil
  ml := rfl
  ob := fun n a o h => by simp at h
  own := fun a h => by simp at h
  dj := fun a h => by simp at h
  bs := hb
  gr := fun b o e => e
section
variable {P : Program} {w : World} {K : PySem.W.Frag} {mg : Str → Option Value} {base : Heap} {xi : XI} {sg0 : Sg} {pg : Pg} {fts : List FT}
/-- what holds of the module -/
structure ModOk (P : Program) (w : World) (K : PySem.W.Frag) (mg : Str → Option Value) (xi : XI) (sg0 : Sg) (G : List D) (fts : List FT) : Prop where
  fns : ∀ t ∈ fts, ∃ (f : Addr) (fd : FuncData), L2.Fun K t.x t.x t.st f fd ∧ mg t.x = some (.ref f) ∧ Binds K fd t.ps []
  free : ∀ x ∈ sg0.free, mg x = none
  maths : ∀ b, bltM b = true → bltNm b ∈ sg0.maths → mg (bltNm b) = some (bltF b)
  glob : ∀ (g : Nat) (x : Str) (d : D), sg0.globs[g]? = some x → G[g]? = some d → GlobOk K mg x d
  exs : ∀ (k : Nat) (x : Str), sg0.xs[k]? = some x → ∃ (B newId initId : String) (bmB : List Value), ExcBaseFacts B newId initId bmB ∧ PySem.W.excIn K (xi.at_ k) bmB newId = true ∧ mg x = some (.ref (xi.at_ k)) ∧ PySem.W.keepIn K (.ref (xi.at_ k)) = true ∧ PySem.W.subIn K (.ref (xi.at_ k)) (.type "BaseException") = some true ∧ PySem.W.typeIn K (.ref (xi.at_ k)) = some (.type "type")
  cls : ∀ x ks, (x, ks) ∈ sg0.cls → ∃ (cV : V) (cv : Value), (∀ u, RelV cV u → u = cv) ∧ (x == ("__debug__" : Str)) = false ∧ ((mg x = some cv ∧ ∃ C, cv = .ref C ∧ cV = .ref C) ∨ (mg x = none ∧ x ≠ "__name__" ∧ ∃ T, bootBuiltins x = some cv ∧ cv = .type T ∧ cV = .ty T)) ∧
    ∀ k, k < sg0.xs.length → PySem.W.exmOne K (.ref (xi.at_ k)) cv = some (kIn ks k) ∧ PySem.W.kitOne K (.ref (xi.at_ k)) cv = some (kIn ks k)
  excC : ∀ k, k < sg0.xs.length → ExcC K (xi.at_ k)
  flds : ∀ f kf, (f, kf) ∈ sg0.flds → ∀ k, kIn kf k = true → xi.fld k = f ∧ XfC K (xi.at_ k) ∧ PySem.W.findIn K (.ref (xi.at_ k)) f = some none
theorem ModOk.clsX {G : List D} (M : ModOk P w K mg xi sg0 G fts) {c : Cc} (h1 : c.X.K = K) (h2 : c.X.mg = mg) (h3 : c.xi = xi) (x : Str) (ks : List Nat) (h : (x, ks) ∈ sg0.cls) : XCls c sg0.xs.length x ks := by
  obtain ⟨cV, cv, k1, k2, k3, k4⟩ := M.cls x ks h
  refine ⟨cV, cv, ⟨k1, k2, by rw [h2]; exact k3⟩, fun k hk => ?_⟩
  rw [h1, h3]
  exact k4 k hk
/-- the look at a def, and at the names -/
def okNm (x : Str) : Bool := !(x == ("__debug__" : Str)) && !(x == ("__classdict__" : Str))
/-- a look at a def's names -/
def scB (N P : List Str) (sc : Scope) : Bool :=
  decide (sc.kind = .function) && !sc.isCoroutine && !sc.isGenerator && decide N.Nodup && decide (N.take P.length = P) && P.all (fun x => decide (sc.names.lookup x = some .local) || decide (sc.names.lookup x = some .cell)) && sc.names.all (fun y => !decide (y.2 = .free))
theorem scB_ok {N P : List Str} {sc : Scope} (h : scB N P sc = true) : FnScope N P sc := by
  unfold scB at h
  simp only [Bool.and_eq_true, Bool.not_eq_true', decide_eq_true_eq, List.all_eq_true, Bool.or_eq_true, decide_eq_false_iff_not] at h
  obtain ⟨⟨⟨⟨⟨⟨h1, h2⟩, h3⟩, h4⟩, h5⟩, h6⟩, h7⟩ := h
  exact ⟨h1, h2, h3, h4, h5, h6, h7⟩
def ftB (sg0 : Sg) (t : FT) : Bool := scB t.N t.ps (defScope t.st) && t.N.all okNm && mSs { sg0 with N := t.N } (defScope t.st) t.body (defBody t.st)
def sgB (sg0 : Sg) : Bool := sg0.fns.all okNm && sg0.globs.all okNm && sg0.xs.all okNm
theorem okNm_ok {x : Str} (h : okNm x = true) : (x == ("__debug__" : Str)) = false ∧ (x == ("__classdict__" : Str)) = false := by
  unfold okNm at h
  simpa using h
/-- pg is what the defs mean -/
structure PgOk (pg : Pg) (sg0 : Sg) (fts : List FT) : Prop where
  names : sg0.fns = fts.map FT.x
  looks : ∀ t ∈ fts, ftB sg0 t = true
  nms : sgB sg0 = true
  rep : sg0.rep = false
  sem : ∀ (i : Nat) (t : FT), fts[i]? = some t → ∃ fn, pg.fns[i]? = some fn ∧ fn.np = t.ps.length ∧ fn.ns = t.N.length ∧ ∀ F, fn.run F = evSs pg.G F t.body
theorem run_len {F : Fc} {fn : Fn} {ds : List D} (h : runF F fn ds ≠ none) : ds.length = fn.np := by
  unfold runF at h
  by_cases e : ds.length = fn.np
  · exact e
  · rw [if_neg e] at h; exact absurd rfl h
theorem callK_len {k i : Nat} {fn : Fn} {ds : List D} (hf : pg.fns[i]? = some fn) (h : callK pg k i ds ≠ none) : ds.length = fn.np := by
  cases k with
  | zero => exact absurd rfl h
  | succ k =>
    have h' : (match nthL pg.fns i with
      | some fn => runF (callK pg k) fn ds
      | none => none) ≠ none := h
    rw [nthL_eq, hf] at h'
    exact run_len h'
/-- what a def's end is to its caller -/
def SpR (K : PySem.W.Frag) (xi : XI) (B : List Addr) (H : Hp) (Q : VK) (E : XK) (r : Rv (D × Bool)) : Prop :=
  match r with
  | some (.ok (d, fr)) => ∀ v H', Same H H' → rf d = true → MP.Rep (.of K xi.fld) H' B [] d v → (fr = true → FrV (.of K xi.fld) B [] H H' d v) → Q v H'
  | some (.exc x fs) => ∀ cls a H', Same H H' → ExcR xi x fs cls a H' → E cls a H'
  | none => False
theorem SpR.of {F : Fc} {f np : Nat} {vs : List V} {H : Hp} {Q : VK} {E : XK} (h : spF xi K F f np vs H Q E) : ∃ B ds, (∀ b ∈ B, ∃ o, H b = some o) ∧ ds.length = np ∧ MP.RepL (.of K xi.fld) H B [] ds vs ∧ SpR K xi B H Q E (F f ds) := by
  obtain ⟨B, ds, h1, h2, h3, h4⟩ := h
  refine ⟨B, ds, h1, h2, h3, ?_⟩
  cases e : F f ds with
  | none => rw [e] at h4; exact h4
  | some r => rw [e] at h4; cases r <;> exact h4
/-- .. seen from within -/
def SpR' (c : Cc) (Q : VK) (E : XK) (r : Rv (D × Bool)) : Prop :=
  match r with
  | some (.ok (d, fr)) => ∀ v H', Same c.H0 H' → rf d = true → MP.Rep c.R H' c.B [] d v → (fr = true → FrV c.R c.B [] c.H0 H' d v) → Q v H'
  | some (.exc x fs) => ∀ cls a H', Same c.H0 H' → ExcR c.xi x fs cls a H' → E cls a H'
  | none => False
/-- a body's run is what the def promises -/
theorem run_sp {F : Fc} {fn : Fn} {t : FT} {c : Cc} {ds : List D} {vs : List V} {Q : VK} {E : XK} (hR : c.R = .of c.X.K c.xi.fld) (hH : c.W = fun cls d _ H => E cls d H) (hb : ∀ b ∈ c.B, ∃ o, c.H0 b = some o) (hns : fn.ns = t.N.length) (rl : MP.RepL c.R c.H0 c.B [] ds vs)
    (h : SpR c.X.K c.xi c.B c.H0 Q E (runF F fn ds)) : TSv c (fn.run F) { nx := fun _ H' => Q .non H', rt := Q } (L2.start t.N vs) c.H0 := by
  refine ⟨stD t.N.length ds, [], [], sr_start hb (hR ▸ rl), ?_⟩
  unfold SpR at h
  rw [← hR] at h
  change SpR' c Q E (runF F fn ds) at h
  unfold runF at h
  by_cases e : ds.length = fn.np
  · rw [if_pos e, frL_eq, hns] at h
    cases hx : fn.run F (stD t.N.length ds) [] with
    | none => rw [hx] at h; exact h
    | some o =>
      rw [hx] at h
      cases o with
      | nx s' m' => exact fun σ' H' φ' x sr => h .non H' sr.gr rfl rfl fun e => nomatch e
      | bk s' m' => exact h.elim
      | ct s' m' => exact h.elim
      | ex x fs s' m' =>
        intro cls d σ' H' φ' y sr he
        rw [hH]
        exact h cls d H' sr.gr he
      | rt d fr m' =>
        intro v s' σ' H' φ' x sr rv hret
        have h2 : SpR' c Q E (match frz m' 4 d with
          | some d' => rt (d', frR m' fr d)
          | none => (none : Rv (D × Bool))) := h
        cases ef : frz m' 4 d with
        | none => rw [ef] at h2; exact h2.elim
        | some d' =>
          rw [ef] at h2
          have h3 : ∀ v H', Same c.H0 H' → rf d' = true → MP.Rep c.R H' c.B [] d' v → (frR m' fr d = true → FrV c.R c.B [] c.H0 H' d' v) → Q v H' := h2
          obtain ⟨r1, r2⟩ := frz_rep sr 4 d d' v ef rv
          refine h3 v H' sr.gr r2 r1 fun hfr => ?_
          cases d with
          | lst ys =>
            obtain ⟨a, e1, e2, e3⟩ := hret hfr
            obtain ⟨ws, z1, z2, z3⟩ := e3 ys rfl
            refine ⟨a, e1, e2, fun xs ed => ?_⟩
            subst ed
            refine ⟨ws, z1, ?_⟩
            by_cases hy : rf (.lst ys) = true
            · rw [frz_rf hy] at ef
              cases ef
              exact RepL.less (by rfl) (fun b hb => .inl hb) _ ws (by rw [rf] at hy; exact hy) z2
            · rw [frz, if_neg hy] at ef
              have ef' : (mapO (frz m' 3) ys).map D.lst = some (.lst xs) := ef
              obtain ⟨zs, q1, q2⟩ := Option.map_eq_some_iff.mp ef'
              cases q2
              exact (mapO_frz (c := { c with B := a :: c.B }) z3 3 ys xs ws q1 z2).1
          | ref k =>
            obtain ⟨a, ha, rfl⟩ := rv
            refine ⟨a, rfl, sr.own a (List.mem_of_getElem? ha), fun xs ed => ?_⟩
            subst ed
            have hk' : (match nthL m' k with
              | some (.lst _ ys) => rfs ys
              | some _ => true
              | none => false) = true := hfr
            rw [frz, if_neg (by simp [rf])] at ef
            have ef' : frzO (frz m' 3) (nthL m' k) = some (.lst xs) := ef
            rw [nthL_eq] at hk' ef'
            cases q : m'[k]? with
            | none => rw [q] at ef'; cases ef'
            | some o =>
              rw [q] at ef' hk'
              cases o with
              | lst lk ys =>
                obtain ⟨vs', z1, z2⟩ := sr.ob k a _ ha q
                have ef2 : (mapO (frz m' 3) ys).map D.lst = some (.lst xs) := ef'
                obtain ⟨zs, q1, q2⟩ := Option.map_eq_some_iff.mp ef2
                cases q2
                have hys : rfs ys = true := hk'
                have := mapO_rf hys q1
                subst this
                refine ⟨vs', z1, RepL.less (by rfl) (fun b hb => ?_) _ _ hys z2⟩
                rcases List.mem_cons.mp hb with z | z
                · exact .inr (by rw [z]; exact List.mem_of_getElem? ha)
                · exact .inl z
              | dk lk ks ys =>
                have ef2 : (mapO (frz m' 3) ys).map (D.dk ks) = some (.lst xs) := ef'
                obtain ⟨zs, q1, q2⟩ := Option.map_eq_some_iff.mp ef2
                cases q2
              | dt lk ks ys =>
                have ef2 : (mapO (frz m' 3) ys).map (D.dt ks) = some (.lst xs) := ef'
                obtain ⟨zs, q1, q2⟩ := Option.map_eq_some_iff.mp ef2
                cases q2
          | _ => cases hfr
  · rw [if_neg e] at h; exact h.elim
theorem fits_of (M : ModOk P w K mg xi sg0 pg.G fts) (G : PgOk pg sg0 fts) {sg1 : Sg} {r : Bool} (h1 : sg1 = { sg0 with rep := r }) {t : FT} (lk : ftB sg1 t = true) {f : Addr} {cdv : Value} {A : Around} {outer : List Env} {s : Shared} {H : Hp} {E : XK} {B : List Addr} {k : Nat}
    (hr : Room k (A.deeper (envOfC t.x (defScope t.st) s.heap.objs.size f cdv))) (hgd : sg1.rep = true → A.guards = some [])
    (ih : ∀ (i : Nat) (t : FT), fts[i]? = some t → ∃ (f : Addr) (fd : FuncData), L2.Fun K t.x t.x t.st f fd ∧ mg t.x = some (.ref f) ∧ Binds K fd t.ps [] ∧ FnOk P w K mg base (L2.CX P w) k f fd t.ps (spF xi K (callK pg k) i t.ps.length)) :
    FitsS { sg1 with N := t.N } pg.G (callK pg k) (defScope t.st) (⟨cxOf (L2.CX P w) P w K mg base t.N t.x (defScope t.st) f cdv A outer s H E, fun cls d _ H => E cls d H, H, B, xi, fun _ _ _ => False⟩ : Cc) := by
  unfold ftB at lk
  rw [Bool.and_eq_true, Bool.and_eq_true] at lk
  have S := scB_ok lk.1.1
  have nms := G.nms
  unfold sgB at nms
  rw [Bool.and_eq_true, Bool.and_eq_true] at nms
  let c : Cc := ⟨cxOf (L2.CX P w) P w K mg base t.N t.x (defScope t.st) f cdv A outer s H E, fun cls d _ H => E cls d H, H, B, xi, fun _ _ _ => False⟩
  have g1 : sg1.fns = sg0.fns := by rw [h1]
  have g2 : sg1.globs = sg0.globs := by rw [h1]
  have g3 : sg1.free = sg0.free := by rw [h1]
  have g4 : sg1.maths = sg0.maths := by rw [h1]
  have g5 : sg1.xs = sg0.xs := by rw [h1]
  have g6 : sg1.cls = sg0.cls := by rw [h1]
  have g7 : sg1.flds = sg0.flds := by rw [h1]
  have fit : Fits { sg1 with N := t.N } pg.G (callK pg k) (defScope t.st) c := {
    calm := fun _ => rfl
    noex := fun _ _ _ _ z => z
    held := ⟨fun _ _ _ z => z.elim⟩
    cls := fun x ks h => by
      have h' : (x, ks) ∈ sg1.cls := h
      rw [g6] at h'
      have e : ({ sg1 with N := t.N } : Sg).xs.length = sg0.xs.length := by show sg1.xs.length = _; rw [g5]
      rw [e]
      exact M.clsX (c := c) rfl rfl rfl x ks h'
    excC := fun k hk => M.excC k (by rw [← g5]; exact hk)
    flds := fun f kf h => M.flds f kf (by rw [← g7]; exact h)
    nm := rfl
    nd := S.nd
    env := ScR.refl _
    hu := by
      have := hr.un
      show (A.deeper _).units + 65 < cLine
      omega
    tk := takes_of rfl rfl rfl rfl
    calls := fun f' x hx => by
      have hx' : (fts.map FT.x)[f']? = some x := by rw [← G.names, ← g1]; exact hx
      rw [List.getElem?_map] at hx'
      obtain ⟨t', ht', rfl⟩ := Option.map_eq_some_iff.mp hx'
      obtain ⟨f2, fd2, q1, q2, q3, q4⟩ := ih f' t' ht'
      obtain ⟨fn', z1, z2, z3, z4⟩ := G.sem f' t' ht'
      exact ⟨k, f2, fd2, t'.ps, q4, hr, q2, q1.kp, q3, fun ds hds => by rw [callK_len z1 hds, z2]⟩
    glob := fun g x d h => M.glob g x d (by rw [← g2]; exact h)
    free := fun x h => M.free x (by rw [← g3]; exact h)
    maths := fun b hb h => M.maths b hb (by rw [← g4]; exact h)
    dbg := fun x hx => by
      rcases hx with hx | hx | hx
      · exact okNm_ok (List.all_eq_true.mp lk.1.2 x hx)
      · exact okNm_ok (List.all_eq_true.mp nms.1.1 x (by rw [← g1]; exact hx))
      · exact okNm_ok (List.all_eq_true.mp nms.1.2 x (by rw [← g2]; exact hx))
    gd := hgd
    fnl := fun _ _ => .inl rfl }
  refine ⟨fit, passes_of rfl, rfl, S.kind, rfl, rfl, fun k' x hx => ?_⟩
  obtain ⟨B', newId, initId, bmB, x1, x2, x3, x4, x5, x6⟩ := M.exs k' x (by rw [← g5]; exact hx)
  exact ⟨⟨B', newId, initId, bmB, x1, x2, x3, x4, raises_own x5 x6⟩, (okNm_ok (List.all_eq_true.mp nms.2 x (by rw [← g5]; exact List.mem_of_getElem? hx))).1⟩
/-- every def keeps its promise -/
theorem prog_ok (M : ModOk P w K mg xi sg0 pg.G fts) (G : PgOk pg sg0 fts) : ∀ (k i : Nat) (t : FT), fts[i]? = some t → ∃ (f : Addr) (fd : FuncData), L2.Fun K t.x t.x t.st f fd ∧ mg t.x = some (.ref f) ∧ Binds K fd t.ps [] ∧ FnOk P w K mg base (L2.CX P w) k f fd t.ps (spF xi K (callK pg k) i t.ps.length) := by
  have hlen : ∀ (k i : Nat) (ps : List Str) (vs : List V) (H : Hp) (Q : VK) (E : XK), spF xi K (callK pg k) i ps.length vs H Q E → vs.length = ps.length := fun k i ps vs H Q E h => by
    obtain ⟨B, ds, _, h2, h3, _⟩ := h
    rw [← RepL.length h3, h2]
  intro k
  induction k with
  | zero =>
    intro i t ht
    obtain ⟨f, fd, h1, h2, h3⟩ := M.fns t (List.mem_of_getElem? ht)
    refine ⟨f, fd, h1, h2, h3, hlen 0 i t.ps, fun A outer s H args us vs Q E _ _ _ _ h => ?_⟩
    obtain ⟨B, ds, _, _, _, h4⟩ := SpR.of h
    exact h4.elim
  | succ k ih =>
    intro i t ht
    obtain ⟨f, fd, h1, h2, h3⟩ := M.fns t (List.mem_of_getElem? ht)
    refine ⟨f, fd, h1, h2, h3, ?_⟩
    have lk := G.looks t (List.mem_of_getElem? ht)
    have lk0 := lk
    unfold ftB at lk
    rw [Bool.and_eq_true, Bool.and_eq_true] at lk
    have S := scB_ok lk.1.1
    refine h1.okX S (hlen (k + 1) i t.ps) fun cdv A outer s H vs Q E hr h => ?_
    obtain ⟨B, ds, b1, b2, b3, b4⟩ := SpR.of h
    obtain ⟨fn, e1, e2, e3, e4⟩ := G.sem i t ht
    have eF : callK pg (k + 1) i ds = runF (callK pg k) fn ds := by
      show (match nthL pg.fns i with
        | some fn => runF (callK pg k) fn ds
        | none => none) = _
      rw [nthL_eq, e1]
    rw [eF] at b4
    let c : Cc := ⟨cxOf (L2.CX P w) P w K mg base t.N t.x (defScope t.st) f cdv A outer s H E, fun cls d _ H => E cls d H, H, B, xi, fun _ _ _ => False⟩
    have fitS : FitsS { sg0 with N := t.N } pg.G (callK pg k) (defScope t.st) c := fits_of M G (sg1 := sg0) rfl lk0 hr (fun z => absurd (G.rep.symm.trans z) Bool.false_ne_true) ih
    refine ⟨TSv c (evSs pg.G (callK pg k) t.body), mSs_ok t.body lk.2 fitS, ?_⟩
    rw [← e4]
    exact run_sp (c := c) rfl rfl b1 e3 b3 b4
/-- the law, called with a list of ints -/
theorem law_sp {K : PySem.W.Frag} {xi : XI} {F : Fc} {i : Nat} {H : Hp} {a : Addr} {ns : List Int} (h : ∃ b, F i [.klst (ns.map D.int)] = some (.ok (.bl true, b))) (hS : SqL K H a (ns.map V.int)) : spF xi K F i 1 [.ref a] H (fun v _ => v = .bl true) fun _ _ _ => False := by
  obtain ⟨b, e⟩ := h
  refine ⟨[], [.klst (ns.map D.int)], fun b hb => absurd hb (by simp), rfl, ⟨.ref a, [], rfl, ⟨a, ns.map V.int, rfl, ?_, RepL.ofInts ns⟩, rfl⟩, ?_⟩
  · rcases hS with hS | hS
    · exact .inl ⟨hS, by simp, by simp⟩
    · exact .inr hS
  · rw [e]
    exact fun v H' _ _ r _ => r
theorem law_end {l : PySem.W.OpenLaw} (M : ModOk l.prog w K mg xi sg0 pg.G fts) (G : PgOk pg sg0 fts) {i k : Nat} {t : FT} {x : Str} {fa : Addr} (ht : fts[i]? = some t) (hps : t.ps = [x]) (hfa : mg t.x = some (.ref fa))
    (hb : ∀ (kV doc pm : Value) (an : Option Addr) (cdv ct : Value) (s : Shared) (v : Value), BindsTo s (PySem.W.fnOf t.x t.x (defArgs t.st) (defBody t.st) (defScope t.st) .none kV doc pm an cdv ct) ⟨[v], []⟩ [(x, v)]) :
    ∃ fd : FuncData, (∀ (s : Shared) (v : Value), BindsTo s fd ⟨[v], []⟩ [(x, v)]) ∧ ∀ base : Heap, K.In base → base.Ns mainGlobals mg → FnOk l.prog w K mg base (L2.CX l.prog w) k fa fd [x] (spF xi K (callK pg k) i 1) := by
  obtain ⟨f, fd, h1, h2, h3⟩ := M.fns t (List.mem_of_getElem? ht)
  obtain ⟨oc, od, kV, doc, pm, an, cdv, ct, osl, e1, e2, e3⟩ := h1.ex
  refine ⟨fd, fun s v => ?_, fun base _ _ => ?_⟩
  · rw [e1]; exact hb kV doc pm an cdv ct s v
  · obtain ⟨f', fd', g1, g2, g3, g4⟩ := prog_ok (base := base) M G k i t ht
    obtain ⟨oc', od', kV', doc', pm', an', cdv', ct', osl', d1, d2, d3⟩ := g1.ex
    have ef : f' = f := by rw [g2] at h2; cases h2; rfl
    have ea : f = fa := by rw [hfa] at h2; cases h2; rfl
    subst ef
    subst ea
    rw [e2] at d2
    cases d2
    rw [hps] at g4
    exact g4
theorem no_exc {P : Program} {w : World} {H : Hp} {s : Shared} {e : Value} {s' : Shared} (h : L2.CX P w [] H s (fun _ _ _ => False) e s') : False := by
  obtain ⟨_, _, _, _, _, _, _, _, _, _, _, _, z⟩ := h
  exact z
/-- where the module's exception classes lie -/
noncomputable def xiOf (K : PySem.W.Frag) (ns : List Str) (fld : Nat → Str) : XI := ⟨fun k => match PySem.W.nsIn K mainGlobals (ns.getD k nm0) with
  | some (some (.ref a)) => a
  | _ => 0, fld⟩
theorem xi_at {K : PySem.W.Frag} {ns : List Str} {fld : Nat → Str} {k : Nat} {a : Addr} (h : PySem.W.nsIn K mainGlobals (ns.getD k nm0) = some (some (.ref a))) : (xiOf K ns fld).at_ k = a := by
  unfold xiOf
  dsimp only
  rw [h]
/-- what a class is to another, from what the module says -/
theorem cls_own {K : PySem.W.Frag} {t : Value} {C : Addr} {b : Bool} (hb : PySem.W.subIn K (.ref C) (.type "BaseException") = some true) (hd : PySem.W.hasDictIn K C = true) (ht : PySem.W.typeIn K (.ref C) = some (.type "type")) (hs : PySem.W.subIn K (.ref C) (.ref C) = some true) (h : PySem.W.subIn K t (.ref C) = some b) :
    PySem.W.exmOne K t (.ref C) = some b ∧ PySem.W.kitOne K t (.ref C) = some b := by
  refine ⟨PySem.W.exm_ref hb hd ht h, ?_⟩
  obtain ⟨cd, hc, _⟩ := PySem.W.any_some hd
  unfold PySem.W.kitOne
  split
  · rename_i e
    have e' : t = .ref C := beq_iff_eq.mp e
    rw [e', hs] at h
    exact h
  · show (if ((PySem.W.clsIn K C).isSome && PySem.W.typeIn K (.ref C) == some (.type "type")) = true then PySem.W.subIn K t (.ref C) else none) = some b
    rw [hc, ht, if_pos (by simp)]
    exact h
theorem cls_blt {K : PySem.W.Frag} {T : String} {C : Addr} {b : Bool} (hb : (fastBuiltinMro T).map (·.contains (.type "BaseException")) = some true) (hm : PySem.W.kitMeta T = true) (h : PySem.W.subIn K (.ref C) (.type T) = some b) :
    PySem.W.exmOne K (.ref C) (.type T) = some b ∧ PySem.W.kitOne K (.ref C) (.type T) = some b := by
  have e : PySem.W.kitCls K (.ref C) (.type T) = some b := by
    show (if PySem.W.kitMeta T = true then PySem.W.subIn K (.ref C) (.type T) else none) = some b
    rw [if_pos hm]; exact h
  have e2 : PySem.W.subIn K (.type T) (.type "BaseException") = some true := hb
  refine ⟨?_, ?_⟩
  · unfold PySem.W.exmOne
    rw [e2, if_pos (by decide)]; exact e
  · unfold PySem.W.kitOne
    rw [if_neg (by intro z; cases beq_iff_eq.mp z)]; exact e
theorem cls_all {P : Str → List Nat → Prop} {l : List (Str × List Nat)} (h : ∀ p ∈ l, P p.1 p.2) : ∀ x ks, (x, ks) ∈ l → P x ks := fun x ks hm => h (x, ks) hm
theorem glob_int {K : PySem.W.Frag} {mg : Str → Option Value} {x : Str} {i : Int} {t : Tok} (h : mg x = some (.int i t)) : GlobOk K mg x (.int i) := ⟨_, .int i, h, ⟨t, rfl⟩, fun _ _ _ _ _ => rfl⟩
theorem glob_str {K : PySem.W.Frag} {mg : Str → Option Value} {x y : Str} {t : Tok} (h : mg x = some (.str y t)) : GlobOk K mg x (.str y) := ⟨_, .str y, h, ⟨t, rfl⟩, fun _ _ _ _ _ => rfl⟩
/-- a module's tuple of ints -/
theorem ints_vals : ∀ {is : List Int} {us : List Value}, Vals (is.map V.int) us → ∀ (K : KX) (H : Hp) (B φ : List Addr), MP.RepL K H B φ (is.map D.int) (is.map V.int)
  | is, _, _, K, H, B, φ => RepL.ofInts is
theorem glob_ktup {K : PySem.W.Frag} {mg : Str → Option Value} {x : Str} {a : Addr} {dd : Option Addr} {its : Array Value} {n : Nat} {sl : Array (Option Value)} {is : List Int} (h : mg x = some (.ref a)) (l : K.lookup a = some ⟨.type "tuple", dd, .seq its n, sl⟩) (hz : its.size ≤ sizeLine) (hv : Vals (is.map V.int) its.toList) : GlobOk K mg x (.ktup (is.map D.int)) :=
  ⟨_, .ref a, h, rfl, fun R H B φ hR => ⟨a, is.map V.int, rfl, .inr ⟨_, its, n, by rw [hR]; exact l, rfl, rfl, hz, hv⟩, RepL.ofInts is⟩⟩
theorem glob_nil {K : PySem.W.Frag} {mg : Str → Option Value} {G : List D} : ∀ (g : Nat) (x : Str) (d : D), ([] : List Str)[g]? = some x → G[g]? = some d → GlobOk K mg x d := fun g x d h => by simp at h
theorem glob_cons {K : PySem.W.Frag} {mg : Str → Option Value} {x : Str} {d : D} {xs : List Str} {G : List D} (h : GlobOk K mg x d) (t : ∀ (g : Nat) (x : Str) (d : D), xs[g]? = some x → G[g]? = some d → GlobOk K mg x d) :
    ∀ (g : Nat) (y : Str) (e : D), (x :: xs)[g]? = some y → (d :: G)[g]? = some e → GlobOk K mg y e
  | 0, y, e, h1, h2 => by cases h1; cases h2; exact h
  | g + 1, y, e, h1, h2 => t g y e h1 h2
theorem all_nil {α : Type} {p : α → Prop} : ∀ x ∈ ([] : List α), p x := fun x h => absurd h (by simp)
theorem all_cons {α : Type} {p : α → Prop} {a : α} {l : List α} (h : p a) (t : ∀ x ∈ l, p x) : ∀ x ∈ a :: l, p x := fun x hx => (List.mem_cons.mp hx).elim (fun e => by rw [e]; exact h) (t x)
end
end MP
set_option Elab.async false
set_option linter.all false
set_option maxRecDepth 100000
set_option autoImplicit false
set_option maxHeartbeats 1000000
/-! a law's call where it is known that no repr is under way -/
namespace MP
open PySem PySem.Spec PyProof.Rows L2
/-- a def's promise to the law's caller alone -/
structure LawOk (P : Program) (w : World) (K : PySem.W.Frag) (mg : Str → Option Value) (base : Heap) (f : Addr) (fd : FuncData) (x : Str) (sp : Sp) : Prop where
  run : ∀ (s : Shared) (H : Hp) (a : Addr), Env0 P w K mg base callerA [] s H → BindsTo s fd ⟨[.ref a], []⟩ [(x, .ref a)] → sp [.ref a] H (fun v _ => v = .bl true) (fun _ _ _ => False) →
    codeAny (model P w) callerA (.call (.ref f) ⟨[.ref a], []⟩) (CR (L2.CX P w) [] P w H s (fun v _ => v = .bl true) fun _ _ _ => False) s
section
variable {P : Program} {w : World} {K : PySem.W.Frag} {mg : Str → Option Value} {base : Heap}
theorem lawOk_of {f : Addr} {name qual x : Str} {params : Arguments} {body : List Stmt} {scope : Scope} {dV kV doc pm cdv ct oc : Value} {an od : Option Addr} {osl : Array (Option Value)} {N : List Str} {sp : Sp} {k : Nat}
    (lk : K.lookup f = some ⟨oc, od, .func (PySem.W.fnOf name qual params body scope dV kV doc pm an cdv ct), osl⟩) (hcd : PySem.W.codeIn K cdv qual = true) (S : FnScope N [x] scope) (hr : Room (k + 1) callerA)
    (hb : ∀ (s : Shared) (H : Hp) (a : Addr), sp [.ref a] H (fun v _ => v = .bl true) (fun _ _ _ => False) →
      ∃ t, PSs (cxOf (L2.CX P w) P w K mg base N qual scope f cdv callerA [] s H fun _ _ _ => False) body t ∧ t { nx := fun _ _ => False, rt := fun v _ => v = .bl true } (L2.start N [.ref a]) H) :
    LawOk P w K mg base f (PySem.W.fnOf name qual params body scope dV kV doc pm an cdv ct) x sp := by
  refine ⟨fun s H a e0 hbi hsp => ?_⟩
  have kx : K.In s.heap := e0.mod.kin.keeps fun b o e => (e0.bs b o e).1
  have nl : s.heap.NoLimit := e0.mod.nolimit.keeps fun b o e => (e0.bs b o e).1
  have par : ∀ y ∈ [(x, Value.ref a)], scope.names.lookup y.1 = some .local ∨ (scope.names.lookup y.1 = some .cell ∧ ((cellsFrom (s.heap.objs.size + 1) scope.names []).lookup y.1).isSome = true) := fun y hy => by
    rw [List.mem_singleton.mp hy]
    exact (S.par x List.mem_cons_self).elim .inl fun q => .inr ⟨q, PySem.W.cellsFrom_some _ _ _ (.inl q)⟩
  refine codeAny_call_function hr.depth (kx _ _ lk) rfl S.co S.gen rfl (PySem.W.codeRec_of kx hcd) (hbi _ _ _ _ (wpAny_newFunctionEnv_cells S.kind par fun env he s1 z => ?_))
  subst he
  obtain ⟨t, ht, hq⟩ := hb s H a hsp
  have I : L2.Inv (cxOf (L2.CX P w) P w K mg base N qual scope f cdv callerA [] s H fun _ _ _ => False) [] (L2.start N [.ref a]) H s1 := inv_start (ps := [x]) (us := [.ref a]) S hr.hd e0 rfl (.cons rfl .nil) z
  refine ⟨nl.keeps z.toInCall.keep, codeAny_func (wpAny_mono (ht.run [] s1 _ H _ I hq) (fun fl s' hs => ?_) fun e s' hs => hs)⟩
  cases fl with
  | ret u => exact (let ⟨v, σ', H', J, rv, q⟩ := hs; ⟨v, H', J.os, J.bare, J.base, J.hok, rv, q⟩)
  | next => exact (let ⟨_, _, _, q⟩ := hs; (q : False).elim)
  | brk => exact (let ⟨_, _, _, q⟩ := hs; (q : False).elim)
  | cont => exact (let ⟨_, _, _, q⟩ := hs; (q : False).elim)
/-- the heap that a law starts from: the script alone is known, if it is none of the module's objects -/
noncomputable def lawH (K : PySem.W.Frag) (a : Addr) (vs : List Value) (ns : List Int) : Hp := fun b => if b = a ∧ K.lookup a = none then some (.frz { cls := .type "list", data := .seq vs.toArray } (.lst (ns.map V.int))) else none
theorem lawH_at {a b : Addr} {vs : List Value} {ns : List Int} {u : HO} (h : lawH K a vs ns b = some u) : b = a ∧ K.lookup a = none ∧ u = .frz { cls := .type "list", data := .seq vs.toArray } (.lst (ns.map V.int)) := by
  unfold lawH at h
  split at h
  · rename_i q; cases h; exact ⟨q.1, q.2, rfl⟩
  · cases h
theorem law_callG {mb : Str → Option Value} {fa a : Addr} {fd : FuncData} {x : Str} {sp : Sp} {s₁ : Shared} {vs : List Value} {ns : List Int}
    (KX : K.In s₁.heap) (hns : s₁.heap.Ns mainGlobals mg) (hb : s₁.heap.Ns builtinsNs mb) (hbb : ∀ x : Str, x ≠ "__name__" → mb x = bootBuiltins x) (hlim : s₁.heap.NoLimit) (hg : s₁.gens = #[])
    (ha : s₁.heap.get? a = some { cls := .type "list", data := .seq vs.toArray }) (hi : IntsAre vs ns) (hl : ns.length ≤ sizeLine)
    (F : ∀ base : Heap, K.In base → base.Ns mainGlobals mg → LawOk P w K mg base fa fd x sp) (hbind : ∀ (s : Shared) (u : Value), BindsTo s fd ⟨[u], []⟩ [(x, u)])
    (hsp : ∀ H : Hp, SqL K H a (ns.map V.int) → sp [.ref a] H (fun v _ => v = .bl true) fun _ _ _ => False) :
    codeAny (model P w) callerA (.call (.ref fa) ⟨[.ref a], []⟩) (fun r s' => r = .ok (.ret (.bool true)) ∧ OldK s₁.heap s'.heap ∧ s'.os = s₁.os ∧ AllBare s'.gens) s₁ := by
  have rv := vals_ints hi
  let H := lawH K a vs ns
  have hS : SqL K H a (ns.map V.int) := by
    cases hk : K.lookup a with
    | none => exact .inl (.inr ⟨_, if_pos ⟨rfl, hk⟩⟩)
    | some o =>
      have e := KX a o hk
      rw [ha] at e
      cases e
      exact .inr ⟨_, vs.toArray, _, hk, rfl, rfl, rfl, by rw [List.size_toArray, hi.length]; exact hl, by simpa using rv⟩
  have hok : HOk P w H s₁.heap := fun b u z => by
    obtain ⟨rfl, _, rfl⟩ := lawH_at z
    exact ⟨ha, by rw [List.length_map]; exact hl, vs, _, rv, ha⟩
  have kept : ∀ {b : Addr} {o : Obj} {es : Array DictEntry} {ep : Nat}, s₁.heap.get? b = some o → o.data = .dict es ep → H b = none := fun {b o es ep} e d => by
    cases q : H b with
    | none => rfl
    | some u =>
      obtain ⟨rfl, _, _⟩ := lawH_at q
      rw [ha] at e
      cases e
      exact nomatch (d : Data.seq vs.toArray _ = Data.dict es ep)
  have ns2 : ∀ {b : Addr} {m : Str → Option Value}, s₁.heap.Ns b m → (hidT s₁.heap H).Ns b m := fun {b m} z => let ⟨o, es, ep, e, d, r⟩ := z; ⟨o, es, ep, hidT_get e (kept e d), d, r⟩
  have kin2 : K.In (hidT s₁.heap H) := fun b o e => hidT_get (KX b o e) (by
    cases q : H b with
    | none => rfl
    | some u =>
      obtain ⟨rfl, hk, _⟩ := lawH_at q
      rw [hk] at e; cases e)
  have hM : Mod K mg (hidT s₁.heap H) := ⟨kin2, ns2 hns, ⟨mb, ns2 hb, hbb⟩, let ⟨mc, h1, h2⟩ := hlim; ⟨mc, ns2 h1, h2⟩⟩
  have e0 : Env0 P w K mg (hidT s₁.heap H) callerA [] s₁ H := ⟨rfl, hM, fun b o e => of_hidT e, Nat.le_of_eq (hidT_size _ _), trivial, fun b z => absurd (show b ∈ ([] : List Addr) from z) (by simp), hok, .of_eq hg⟩
  refine codeAny_mono ((F _ kin2 (ns2 hns)).run s₁ H a e0 (hbind s₁ (.ref a)) (hsp H hS)) fun r s' h => ?_
  cases r with
  | error e => exact (no_exc h).elim
  | ok fl => cases fl with
    | next => exact (h : False).elim
    | brk => exact (h : False).elim
    | cont => exact (h : False).elim
    | ret u =>
      obtain ⟨v, H', os, bare, un, hok', r', q⟩ := h
      obtain rfl : v = .bl true := q
      obtain rfl : u = Value.bool true := r'
      refine ⟨rfl, OldK.of_keep fun b o e => ?_, os, bare⟩
      cases q : H b with
      | none => exact un.keep b o e q (fun z => absurd (show b ∈ ([] : List Addr) from z) (by simp)) (by simp)
      | some u =>
        obtain ⟨rfl, _, rfl⟩ := lawH_at q
        obtain ⟨e2, _⟩ := hok' b _ (un.frzs b _ _ q)
        rw [ha] at e
        cases e
        exact e2
end
/-- the goal that k_head leaves, from the law's own promise -/
theorem walk_ofG {l : PySem.W.OpenLaw} {n : Nat} {q : Program} {loose : List Str} {XP : (Str → Option Value) → Heap → Prop} {YP : World → Heap → Prop} {d : DefRec} {K : Params → PySem.W.Frag} {sp : World → Sp} {x : Str}
    (hn : l.most = some n) (hn2 : n ≤ sizeLine) (hdf : d.params.defaults = []) (hY : ∀ (w : World) (h : Heap), YP w h → (K w.params).In h)
    (F : ∀ (w : World) (mg : Str → Option Value) (fa : Addr) (h : Heap), (K w.params).In h → h.Ns mainGlobals mg → mg d.name = some (.ref fa) →
      ∃ fd : FuncData, (∀ (s : Shared) (u : Value), BindsTo s fd ⟨[u], []⟩ [(x, u)]) ∧ ∀ base : Heap, (K w.params).In base → base.Ns mainGlobals mg → LawOk l.prog w (K w.params) mg base fa fd x (sp w))
    (hsp : ∀ (w : World) (H : Hp) (a : Addr) (ns : List Int), ns.length ≤ n → SqL (K w.params) H a (ns.map V.int) → sp w [.ref a] H (fun v _ => v = .bl true) fun _ _ _ => False) :
    PySem.W.WalkO q loose XP YP l.row.toRowW d [] (fun f vs => PySem.call f vs) :=
  Att.attach_call hn hdf fun w s₀ s₁ mg mb fa o pm cd doc a vs ns G Y ho hd hcd hmg hobj hints hlen hg => by
    obtain ⟨fd, hb, hF⟩ := F w mg fa _ (hY w _ Y) G.T.g hmg
    exact law_callG (hY w _ Y) G.T.g G.T.b G.T.builtins G.T.nolimit hg hobj hints (Nat.le_trans hlen hn2) hF hb fun H hS => hsp w H a ns hlen hS
/-- the law's own promise, where it looks at what repr shows -/
noncomputable def spG (xi : XI) (K : PySem.W.Frag) (pg : Pg) (k : Nat) (fn : Fn) : Sp := spF xi K (fun _ ds => runF (callK pg k) fn ds) 0 1
theorem spG_ok {xi : XI} {K : PySem.W.Frag} {pg : Pg} {k : Nat} {fn : Fn} {H : Hp} {a : Addr} {ns : List Int} (h : ∃ b, runF (callK pg k) fn [.klst (ns.map D.int)] = some (.ok (.bl true, b))) (hS : SqL K H a (ns.map V.int)) : spG xi K pg k fn [.ref a] H (fun v _ => v = .bl true) fun _ _ _ => False :=
  law_sp (F := fun _ ds => runF (callK pg k) fn ds) h hS
theorem law_endG {l : PySem.W.OpenLaw} {w : World} {K : PySem.W.Frag} {mg : Str → Option Value} {xi : XI} {sg0 : Sg} {pg : Pg} {fts : List FT} (M : ModOk l.prog w K mg xi sg0 pg.G fts) (G : PgOk pg sg0 fts) {k : Nat} {t : FT} {fn : Fn} {x : Str} {fa : Addr} {fd : FuncData}
    (lk : ftB { sg0 with rep := true } t = true) (e1 : fn.np = 1) (e2 : fn.ns = t.N.length) (e3 : ∀ F, fn.run F = evSs pg.G F t.body) (hps : t.ps = [x]) (Fu : L2.Fun K t.x t.x t.st fa fd) (hr : Room (k + 1) callerA)
    (hb : ∀ (kV doc pm : Value) (an : Option Addr) (cdv ct : Value) (s : Shared) (v : Value), BindsTo s (PySem.W.fnOf t.x t.x (defArgs t.st) (defBody t.st) (defScope t.st) .none kV doc pm an cdv ct) ⟨[v], []⟩ [(x, v)]) :
    ∃ fd : FuncData, (∀ (s : Shared) (v : Value), BindsTo s fd ⟨[v], []⟩ [(x, v)]) ∧ ∀ base : Heap, K.In base → base.Ns mainGlobals mg → LawOk l.prog w K mg base fa fd x (spG xi K pg k fn) := by
  obtain ⟨oc, od, kV, doc, pm, an, cdv, ct, osl, d1, d2, d3⟩ := Fu.ex
  refine ⟨fd, fun s v => by rw [d1]; exact hb kV doc pm an cdv ct s v, fun base _ _ => ?_⟩
  have lk' := lk
  unfold ftB at lk'
  rw [Bool.and_eq_true, Bool.and_eq_true] at lk'
  have S := scB_ok lk'.1.1
  rw [hps] at S
  rw [d1] at d2 ⊢
  refine lawOk_of d2 d3 S hr fun s H a hsp => ?_
  obtain ⟨B, ds, b1, b2, b3, b4⟩ := SpR.of (F := fun _ ds => runF (callK pg k) fn ds) hsp
  have fitS := fits_of (base := base) M G (sg1 := { sg0 with rep := true }) rfl lk (f := fa) (cdv := cdv) (A := callerA) (outer := []) (s := s) (H := H) (E := fun _ _ _ => False) (B := B) (k := k) (hr.deeper _) (fun _ => rfl) fun i t' ht' => prog_ok M G k i t' ht'
  refine ⟨_, mSs_ok t.body lk'.2 fitS, ?_⟩
  have key := run_sp (c := ⟨cxOf (L2.CX l.prog w) l.prog w K mg base t.N t.x (defScope t.st) fa cdv callerA [] s H fun _ _ _ => False, fun cls d _ H => False, H, B, xi, fun _ _ _ => False⟩) (t := t) (Q := fun v _ => v = .bl true) (E := fun _ _ _ => False) rfl rfl b1 e2 b3 b4
  rw [e3] at key
  obtain ⟨s0, φ, m, sr, h⟩ := key
  refine ⟨s0, φ, m, sr, ?_⟩
  cases hr : evSs pg.G (callK pg k) t.body s0 m with
  | none => rw [hr] at h; exact h
  | some o =>
    rw [hr] at h
    cases o with
    | nx s' m' => exact fun σ' H' φ' x z => V.noConfusion (h σ' H' φ' x z)
    | rt d fr m' => exact h
    | bk s' m' => exact h
    | ct s' m' => exact h
    | ex x fs s' m' => exact h
end MP
set_option Elab.async false
set_option linter.all false
set_option maxRecDepth 100000
set_option autoImplicit false
set_option maxHeartbeats 1000000
/-! plain running: equations -/
namespace MP
open PySem (Str)
section
variable {s : Sl} {m : Mm} {F : Fc}
@[simp] theorem bd_ok {α β : Type} (a : α) (k : α → Rv β) : bd (some (.ok a)) k = k a := rfl
@[simp] theorem bd_rt {α β : Type} (a : α) (k : α → Rv β) : bd (rt a) k = k a := rfl
@[simp] theorem bs_ok {α : Type} (a : α) (k : α → Os) : bs (some (.ok a)) s m k = k a := rfl
@[simp] theorem bs_rt {α : Type} (a : α) (k : α → Os) : bs (rt a) s m k = k a := rfl
@[simp] theorem os_some {α : Type} (a : α) (k : α → Os) : os (some a) k = k a := rfl
@[simp] theorem ob_some {α β : Type} (a : α) (k : α → Rv β) : ob (some a) k = k a := rfl
theorem xVar_ap (i : Nat) : xVar i s m = match s[i]? with
  | some (some d) => rt (d, false)
  | _ => none := by unfold xVar; rw [nthL_eq] <;> rfl
theorem xVar_at {i : Nat} {d : D} (h : s[i]? = some (some d)) : xVar i s m = rt (d, false) := by rw [xVar_ap, h]
theorem mulOk_r {i j : Int} (h : j.natAbs < 18446744073709551616) : mulOk i j = true := by
  unfold mulOk
  have : Nat.blt j.natAbs 18446744073709551616 = true := Nat.ble_eq_true_of_le h
  rw [this]; simp
theorem mulOk_l {i j : Int} (h : i.natAbs < 18446744073709551616) : mulOk i j = true := by
  unfold mulOk
  have : Nat.blt i.natAbs 18446744073709551616 = true := Nat.ble_eq_true_of_le h
  rw [this]; simp
theorem szOk_of {n : Nat} (h : n ≤ 16777216) : szOk n = true := Nat.ble_eq_true_of_le h
theorem bin_add (i j : Int) : binV .add (.int i) (.int j) = rt (.int (i + j), false) := by simp only [binV, frI_eq]
theorem bin_sub (i j : Int) : binV .sub (.int i) (.int j) = rt (.int (i - j), false) := by simp only [binV, frI_eq]
theorem bin_mul {i j : Int} (h : mulOk i j = true) : binV .mul (.int i) (.int j) = rt (.int (i * j), false) := by simp only [binV, frI_eq, h, if_true]
theorem bin_mod {i j : Int} (h : j ≠ 0) : binV .mod (.int i) (.int j) = rt (.int (i.fmod j), false) := by simp only [binV, frI_eq, decide_eq_true h, if_true]
theorem bin_fdiv {i j : Int} (h : divOk j = true) : binV .fdiv (.int i) (.int j) = rt (.int (i.fdiv j), false) := by simp only [binV, frI_eq, h, Bool.true_or, if_true]
/-- an expression's run, told by its value -/
def Ev (e : Xe) (s : Sl) (m : Mm) (d : D) : Prop := ∃ b, e s m = rt (d, b)
theorem ev_var {i : Nat} {d : D} (h : s[i]? = some (some d)) : Ev (xVar i) s m d := ⟨false, xVar_at h⟩
theorem ev_cst {c : Cn} : Ev (xCst c) s m (cnD c) := ⟨false, rfl⟩
theorem ev_glob {G : List D} {g : Nat} {d : D} (h : G[g]? = some d) : Ev (xGlob G g) s m d := ⟨false, by unfold xGlob; rw [nthL_eq, h]⟩
theorem ev_bin {o : Bop} {a b : Xe} {i j k : Int} (ha : Ev a s m (.int i)) (hb : Ev b s m (.int j)) (h : binV o (.int i) (.int j) = rt (.int k, false)) : Ev (xBin o a b) s m (.int k) := by
  obtain ⟨_, ea⟩ := ha
  obtain ⟨_, eb⟩ := hb
  exact ⟨false, by unfold xBin; rw [ea, bd_rt, eb, bd_rt]; exact h⟩
theorem ev_add {a b : Xe} {i j : Int} (ha : Ev a s m (.int i)) (hb : Ev b s m (.int j)) : Ev (xBin .add a b) s m (.int (i + j)) := ev_bin ha hb (bin_add i j)
theorem ev_sub {a b : Xe} {i j : Int} (ha : Ev a s m (.int i)) (hb : Ev b s m (.int j)) : Ev (xBin .sub a b) s m (.int (i - j)) := ev_bin ha hb (bin_sub i j)
theorem ev_mul {a b : Xe} {i j : Int} (ha : Ev a s m (.int i)) (hb : Ev b s m (.int j)) (h : mulOk i j = true) : Ev (xBin .mul a b) s m (.int (i * j)) := ev_bin ha hb (bin_mul h)
theorem ev_mod {a b : Xe} {i j : Int} (ha : Ev a s m (.int i)) (hb : Ev b s m (.int j)) (h : j ≠ 0) : Ev (xBin .mod a b) s m (.int (i.fmod j)) := ev_bin ha hb (bin_mod h)
theorem ev_fdiv {a b : Xe} {i j : Int} (ha : Ev a s m (.int i)) (hb : Ev b s m (.int j)) (h : divOk j = true) : Ev (xBin .fdiv a b) s m (.int (i.fdiv j)) := ev_bin ha hb (bin_fdiv h)
theorem ev_int {a : Xe} {i : Int} (ha : Ev a s m (.int i)) : Ev (xBlt .int (xCons a xNil)) s m (.int i) := by
  obtain ⟨_, ea⟩ := ha
  exact ⟨false, by unfold xBlt xCons xNil; rw [ea]; rfl⟩
theorem ev_abs {a : Xe} {i : Int} (ha : Ev a s m (.int i)) : Ev (xBlt .abs (xCons a xNil)) s m (.int (if i < 0 then -i else i)) := by
  obtain ⟨_, ea⟩ := ha
  exact ⟨false, by unfold xBlt xCons xNil; rw [ea]; simp only [bd_rt, bltV, frI_eq, ob_some]⟩
theorem ev_max2 {a b : Xe} {i j : Int} (ha : Ev a s m (.int i)) (hb : Ev b s m (.int j)) : Ev (xBlt .max2 (xCons a (xCons b xNil))) s m (.int (if j > i then j else i)) := by
  obtain ⟨_, ea⟩ := ha
  obtain ⟨_, eb⟩ := hb
  exact ⟨false, by simp only [xBlt, xCons, xNil, ea, eb, bd_rt, bltV, frI_eq, ob_some]⟩
theorem ev_len {a : Xe} {d : D} {xs : List D} (ha : Ev a s m d) (h : seqV m d = some xs) : Ev (xBlt .len (xCons a xNil)) s m (.int xs.length) := by
  obtain ⟨_, ea⟩ := ha
  refine ⟨false, ?_⟩
  unfold xBlt xCons xNil
  rw [ea]
  simp only [bd_rt]
  cases d <;> first | (cases h; done) | (simp only [bltV, h, frI_eq, ob_some])
theorem ev_lst0 : Ev (xLst xNil) s m (.lst []) := ⟨true, rfl⟩
theorem tv_cmp {o : Cop} {a b : Xe} {i j : Int} {k : Bool} (ha : Ev a s m (.int i)) (hb : Ev b s m (.int j)) (h : cmpV m o (.int i) (.int j) = some k) : tCmp o a b s m = rt k := by
  obtain ⟨_, ea⟩ := ha
  obtain ⟨_, eb⟩ := hb
  unfold tCmp; rw [ea, bd_rt, eb, bd_rt, h]; rfl
/-! statements -/
theorem seq_nx {a b : Xst} {s' : Sl} {m' : Mm} (h : a s m = some (.nx s' m')) : sSeq a b s m = b s' m' := by unfold sSeq; rw [h]
theorem seq_rt {a b : Xst} {d : D} {fr : Bool} {m' : Mm} (h : a s m = some (.rt d fr m')) : sSeq a b s m = some (.rt d fr m') := by unfold sSeq; rw [h]
theorem pss_nx : sPss s m = some (.nx s m) := nxt_eq s m
theorem asg_nm {i : Nat} {e : Xe} {d : D} (he : Ev e s m d) : sAsg (gNm i) e s m = some (.nx (s.set i (some d)) m) := by
  obtain ⟨_, h⟩ := he
  unfold sAsg; rw [h, bs_rt]; unfold gNm; rw [frL_eq, setL_eq, os_some, nxt_eq]
theorem new_nm {i : Nat} {e : Xe} {xs : List D} (h : e s m = rt (.lst xs, true)) : sNew i e s m = some (.nx (s.set i (some (.ref m.length))) (m ++ [.lst false xs])) := by
  unfold sNew; rw [h, bs_rt]; unfold newV; rw [setL_eq]; exact nxt_eq _ _
theorem app_nx {o e : Xe} {n : Nat} {d : D} {xs : List D} (ho : Ev o s m (.ref n)) (he : Ev e s m d) (hm : m[n]? = some (.lst false xs)) (hz : xs.length + 1 ≤ 16777216) : sApp o e s m = some (.nx s (m.set n (.lst false (xs ++ [d])))) := by
  obtain ⟨_, eo⟩ := ho
  obtain ⟨_, ee⟩ := he
  have e1 : refL m (.ref n) (fun n => bs (e s m) s m fun y => os (appM m n [y.1]) fun m' => nxt s m') = bs (e s m) s m fun y => os (appM m n [y.1]) fun m' => nxt s m' := by
    unfold refL; simp only [nthL_eq, hm]
  have e2 : appM m n [d] = some (m.set n (.lst false (xs ++ [d]))) := by
    unfold appM
    simp only [nthL_eq, hm, List.length_singleton, szOk_of hz, if_true, frL_eq, setL_eq]
  unfold sApp
  rw [eo, bs_rt, e1, ee, bs_rt, e2, os_some, nxt_eq]
theorem ite_b {t : Xt} {a b : Xst} {k : Bool} (h : t s m = rt k) : sIte t a b s m = if k then a s m else b s m := by unfold sIte; rw [h, bs_rt]
theorem ret_of {e : Xe} {d : D} {fr : Bool} (h : e s m = rt (d, fr)) : sRet e s m = some (.rt d fr m) := by unfold sRet; rw [h]; rfl
/-- a for that no statement leaves -/
theorem forV_inv {g : Xg} {b : Xst} (P : Nat → Sl → Mm → Prop) : ∀ (ds : List D) (k : Nat) (s : Sl) (m : Mm), P k s m → (∀ i d s m, ds[i]? = some d → P (k + i) s m → ∃ s1 s' m', g d s = some s1 ∧ b s1 m = some (.nx s' m') ∧ P (k + i + 1) s' m') →
    ∃ s' m', forV g b ds s m = some (.nx s' m') ∧ P (k + ds.length) s' m'
  | [], k, s, m, h, _ => ⟨s, m, rfl, h⟩
  | d :: ds, k, s, m, h, t => by
    obtain ⟨s1, s', m', e1, e2, e3⟩ := t 0 d s m rfl h
    obtain ⟨s2, m2, e4, e5⟩ := forV_inv P ds (k + 1) s' m' e3 fun i d s m hd hp => by
      obtain ⟨a, b', c', q1, q2, q3⟩ := t (i + 1) d s m (by simpa using hd) (by rw [show k + (i + 1) = k + 1 + i by omega]; exact hp)
      exact ⟨a, b', c', q1, q2, by rw [show k + 1 + i + 1 = k + (i + 1) + 1 by omega]; exact q3⟩
    refine ⟨s2, m2, ?_, by rw [List.length_cons, show k + (ds.length + 1) = k + 1 + ds.length by omega]; exact e5⟩
    show os (g d s) (fun s1 => match b s1 m with
      | some (.nx s' m') => forV g b ds s' m'
      | some (.ct s' m') => forV g b ds s' m'
      | some (.bk s' m') => some (.nx s' m')
      | r => r) = _
    rw [e1, os_some, e2]
    exact e4
theorem gNm_ap (i : Nat) (d : D) : gNm i d s = some (s.set i (some d)) := by unfold gNm; rw [frL_eq, setL_eq]
theorem for0 {g : Xg} {it : Xs} {b : Xst} {ds : List D} (h : it s m = rt ds) : sFor walk0 g it b s m = forV g b ds s m := by unfold sFor; rw [h]; rfl
theorem rngD_get' (a : Int) : ∀ (n : Nat) (i : Nat) (d : D) (b : Int), (rngD b 1 n)[i]? = some d → i < n ∧ d = .int (b + i)
  | 0, _, _, _, h => by simp [rngD] at h
  | n + 1, 0, d, b, h => by rw [rngD, frI_eq] at h; simp at h; subst h; exact ⟨by omega, by simp⟩
  | n + 1, i + 1, d, b, h => by
    rw [rngD, frI_eq, List.getElem?_cons_succ] at h
    obtain ⟨h1, h2⟩ := rngD_get' a n i d (b + 1) h
    exact ⟨by omega, by rw [h2]; congr 1; omega⟩
theorem rngD_len' : ∀ (n : Nat) (b : Int), (rngD b 1 n).length = n
  | 0, _ => rfl
  | n + 1, b => by rw [rngD, frI_eq, List.length_cons, rngD_len' n]
theorem rng1_of {a : Xe} {n : Int} (ha : Ev a s m (.int n)) (h : rngOk n = true) : iRng1 a s m = rt (rngD 0 1 n.toNat) := by
  obtain ⟨_, ea⟩ := ha
  unfold iRng1; rw [ea, bd_rt]; simp only [h, if_true]
theorem rngOk_of {n : Int} (h1 : 0 ≤ n) (h2 : n < 4611686018427387904) : rngOk n = true := by
  unfold rngOk
  exact Nat.ble_eq_true_of_le (by omega)
theorem nx_seq {a b : Xst} {s1 s2 : Sl} {m1 m2 : Mm} (h : a s m = some (.nx s1 m1)) (h2 : b s1 m1 = some (.nx s2 m2)) : sSeq a b s m = some (.nx s2 m2) := (seq_nx h).trans h2
theorem rt_seq {a b : Xst} {s1 : Sl} {m1 m2 : Mm} {d : D} {fr : Bool} (h : a s m = some (.nx s1 m1)) (h2 : b s1 m1 = some (.rt d fr m2)) : sSeq a b s m = some (.rt d fr m2) := (seq_nx h).trans h2
theorem ite_t {t : Xt} {a b : Xst} {r : Os} (h : t s m = rt true) (h2 : a s m = r) : sIte t a b s m = r := (ite_b h).trans h2
theorem ite_f {t : Xt} {a b : Xst} {r : Os} (h : t s m = rt false) (h2 : b s m = r) : sIte t a b s m = r := (ite_b h).trans h2
theorem tv_ge {a b : Xe} {i j : Int} (ha : Ev a s m (.int i)) (hb : Ev b s m (.int j)) : tCmp .ge a b s m = rt (decide (j ≤ i)) := tv_cmp ha hb rfl
theorem tv_lt {a b : Xe} {i j : Int} (ha : Ev a s m (.int i)) (hb : Ev b s m (.int j)) : tCmp .lt a b s m = rt (decide (i < j)) := tv_cmp ha hb rfl
theorem bin_pow18 : binV .pow (.int 10) (.int 18) = rt (.int 1000000000000000000, false) := rfl
/-- a while, by turns: enough fuel -/
theorem whlV_inv {c : Xt} {b : Xst} (P : Nat → Sl → Mm → Prop) (hc : ∀ k s m, P k s m → c s m = rt (decide (k ≠ 0))) (hb : ∀ k s m, P (k + 1) s m → ∃ s' m', b s m = some (.nx s' m') ∧ P k s' m') : ∀ (k n : Nat) (s : Sl) (m : Mm), k < n → P k s m → ∃ s' m', whlV c b n s m = some (.nx s' m') ∧ P 0 s' m'
  | k, 0, s, m, hn, _ => absurd hn (Nat.not_lt_zero k)
  | 0, n + 1, s, m, hn, h => by
    refine ⟨s, m, ?_, h⟩
    show bs (c s m) s m _ = _
    rw [hc 0 s m h]; rfl
  | k + 1, n + 1, s, m, hn, h => by
    obtain ⟨s1, m1, e1, h1⟩ := hb k s m h
    obtain ⟨s2, m2, e2, h2⟩ := whlV_inv P hc hb k n s1 m1 (by omega) h1
    refine ⟨s2, m2, ?_, h2⟩
    show bs (c s m) s m (fun k => if k = true then match b s m with
      | some (.nx s' m') => whlV c b n s' m'
      | some (.ct s' m') => whlV c b n s' m'
      | some (.bk s' m') => some (.nx s' m')
      | r => r
    else some (.nx s m)) = _
    rw [hc (k + 1) s m h, e1]
    exact e2
theorem lt_fuel {k : Nat} (h : k < 2 ^ 64) : k < fuel := Nat.lt_of_lt_of_le h (Nat.pow_le_pow_right (by decide) (by decide))
end
end MP
set_option Elab.async false
set_option linter.all false
set_option maxRecDepth 100000
set_option autoImplicit false
set_option maxHeartbeats 1000000
/-! what the laws draw from their scripts: a list of numbers from 0 to 1008 -/
namespace MP
open PySem (Str)
noncomputable section
variable (F : Fc)
def R_row : Xst := (sSeq (sNew 2 (xLst xNil)) (sSeq (sAsg (gNm 3) (xBlt .abs (xCons (xVar 0) xNil))) (sSeq (sAsg (gNm 4) (xBin .mod (xBlt .int (xCons (xBin .add (xBin .mul (xVar 3) (xCst (.int 48271))) (xCst (.int 69621))) xNil)) (xCst (.int 2147483647)))) (sSeq (sFor walk0 (gNm 5) (iRng1 (xVar 1)) (sSeq (sAsg (gNm 4) (xBin .mod (xBlt .int (xCons (xBin .add (xBin .mul (xVar 4) (xCst (.int 16807))) (xBin .mul (xCst (.int 271)) (xBin .add (xVar 5) (xCst (.int 3))))) xNil)) (xCst (.int 2147483629)))) (sSeq (sIte (tCmp .ge (xBlt .abs (xCons (xVar 0) xNil)) (xBin .pow (xCst (.int 10)) (xCst (.int 18)))) (sSeq (sApp (xVar 2) (xBin .mod (xBlt .int (xCons (xVar 3) xNil)) (xCst (.int 1009)))) (sSeq (sAsg (gNm 3) (xBin .fdiv (xVar 3) (xCst (.int 1009)))) sPss)) (sSeq (sApp (xVar 2) (xBin .mod (xBlt .int (xCons (xBin .fdiv (xVar 4) (xCst (.int 7))) xNil)) (xCst (.int 1009)))) sPss)) sPss))) (sSeq (sRet (xVar 2)) sPss)))))
def R_num : Xst := (sSeq (sAsg (gNm 2) (xSlc (xVar 0) xO0 (xO1 (xCst (.int 63))))) (sSeq (sAsg (gNm 3) (xBin .add (xCst (.int 1)) (xBin .fdiv (xVar 1) (xBlt .max2 (xCons (xCst (.int 1)) (xCons (xBlt .len (xCons (xVar 2) xNil)) xNil)))))) (sSeq (sNew 4 (xLst xNil)) (sSeq (sFor (walkV 2) (gNm 5) (iVal gdA (xVar 2)) (sSeq (sFor walk0 (gNm 6) (iVal gdN (xCall F 0 (xCons (xVar 5) (xCons (xVar 3) xNil)))) (sSeq (sApp (xVar 4) (xVar 6)) sPss)) sPss)) (sSeq (sWhl (tCmp .lt (xBlt .len (xCons (xVar 4) xNil)) (xVar 1)) (sSeq (sApp (xVar 4) (xCst (.int 0))) sPss)) (sSeq (sRet (xSlc (xVar 4) xO0 (xO1 (xVar 1)))) sPss))))))
end
/-- numbers from 0 to 1008 -/
def Dr (z : Int) : Prop := 0 ≤ z ∧ z < 1009
theorem dr_mod (a : Int) : Dr (a.fmod 1009) := by
  rw [Int.fmod_eq_emod_of_nonneg a (by decide)]
  exact ⟨Int.emod_nonneg _ (by decide), Int.emod_lt_of_pos _ (by decide)⟩
theorem row_ok {F : Fc} (cell : Int) (n : Nat) (hn : n ≤ 1000) : ∃ zs : List Int, zs.length = n ∧ (∀ z ∈ zs, Dr z) ∧ ∀ fn : Fn, fn.np = 2 → fn.ns = 6 → fn.run F = R_row → runF F fn [.int cell, .int n] = some (.ok (.lst (zs.map D.int), true)) := by
  have run : ∃ zs : List Int, zs.length = n ∧ (∀ z ∈ zs, Dr z) ∧ R_row [some (.int cell), some (.int n), none, none, none, none] [] = some (.rt (.ref 0) false [.lst false (zs.map D.int)]) := by
    unfold R_row
    rw [seq_nx (new_nm (xs := []) rfl)]
    rw [seq_nx (asg_nm (ev_abs (ev_var rfl)))]
    generalize hr : (if cell < 0 then -cell else cell) = rest
    rw [seq_nx (asg_nm (ev_mod (ev_int (ev_add (ev_mul (ev_var rfl) ev_cst (mulOk_r (by decide))) ev_cst)) ev_cst (by decide)))]
    generalize ((rest * 48271 + 69621).fmod 2147483647 : Int) = mixed
    have inv := forV_inv (g := gNm 5) (b := (sSeq (sAsg (gNm 4) (xBin .mod (xBlt .int (xCons (xBin .add (xBin .mul (xVar 4) (xCst (.int 16807))) (xBin .mul (xCst (.int 271)) (xBin .add (xVar 5) (xCst (.int 3))))) xNil)) (xCst (.int 2147483629)))) (sSeq (sIte (tCmp .ge (xBlt .abs (xCons (xVar 0) xNil)) (xBin .pow (xCst (.int 10)) (xCst (.int 18)))) (sSeq (sApp (xVar 2) (xBin .mod (xBlt .int (xCons (xVar 3) xNil)) (xCst (.int 1009)))) (sSeq (sAsg (gNm 3) (xBin .fdiv (xVar 3) (xCst (.int 1009)))) sPss)) (sSeq (sApp (xVar 2) (xBin .mod (xBlt .int (xCons (xBin .fdiv (xVar 4) (xCst (.int 7))) xNil)) (xCst (.int 1009)))) sPss)) sPss)))
      (fun i s m => i ≤ n ∧ ∃ (r x : Int) (k : Option D) (zs : List Int), s = [some (.int cell), some (.int n), some (.ref 0), some (.int r), some (.int x), k] ∧ m = [.lst false (zs.map D.int)] ∧ zs.length = i ∧ ∀ z ∈ zs, Dr z) (rngD 0 1 (n : Int).toNat) 0 [some (.int cell), some (.int n), some (.ref 0), some (.int rest), some (.int mixed), none] [.lst false []] ⟨by omega, rest, mixed, none, [], rfl, rfl, rfl, by simp⟩ ?_
    · obtain ⟨s', m', e1, hle, r, x, k, zs, rfl, rfl, hz, hd⟩ := inv
      refine ⟨zs, ?_, hd, ?_⟩
      · rw [hz, rngD_len']; omega
      · have e2 : sFor walk0 (gNm 5) (iRng1 (xVar 1)) _ [some (D.int cell), some (.int n), some (.ref 0), some (.int rest), some (.int mixed), none] [MO.lst false []] = _ := (for0 (rng1_of (ev_var (d := .int n) rfl) (rngOk_of (by omega) (by omega)))).trans e1
        have e3 := seq_nx (b := sSeq (sRet (xVar 2)) sPss) e2
        refine (show _ = _ from e3).trans ?_
        exact seq_rt (ret_of (xVar_at rfl))
    · rintro i d s m hd ⟨hle, r, x, k, zs, rfl, rfl, hz, hdr⟩
      obtain ⟨hi, rfl⟩ := rngD_get' 0 _ i d 0 hd
      have hi' : i < n := by omega
      have hz1 : (zs.map D.int).length + 1 ≤ 16777216 := by rw [List.length_map]; omega
      by_cases hc : (1000000000000000000 : Int) ≤ (if cell < 0 then -cell else cell)
      · refine ⟨_, _, _, gNm_ap 5 _, nx_seq (asg_nm (ev_mod (ev_int (ev_add (ev_mul (ev_var rfl) ev_cst (mulOk_r (by decide))) (ev_mul ev_cst (ev_add (ev_var rfl) ev_cst) (mulOk_l (by decide))))) ev_cst (by decide)))
          (nx_seq (ite_t ((tv_ge (ev_abs (ev_var rfl)) (ev_bin ev_cst ev_cst bin_pow18)).trans (by rw [decide_eq_true hc]))
            (nx_seq (app_nx (ev_var rfl) (ev_mod (ev_int (ev_var rfl)) ev_cst (by decide)) rfl hz1) (nx_seq (asg_nm (ev_fdiv (ev_var rfl) ev_cst (by decide))) pss_nx))) pss_nx), by omega, _, _, _, zs ++ [r.fmod 1009], rfl, ?_, by simp [hz], ?_⟩
        · simp [cnD]
        · intro z hz2
          rcases List.mem_append.mp hz2 with q | q
          · exact hdr z q
          · rw [List.mem_singleton.mp q]; exact dr_mod _
      · refine ⟨_, _, _, gNm_ap 5 _, nx_seq (asg_nm (ev_mod (ev_int (ev_add (ev_mul (ev_var rfl) ev_cst (mulOk_r (by decide))) (ev_mul ev_cst (ev_add (ev_var rfl) ev_cst) (mulOk_l (by decide))))) ev_cst (by decide)))
          (nx_seq (ite_f ((tv_ge (ev_abs (ev_var rfl)) (ev_bin ev_cst ev_cst bin_pow18)).trans (by rw [decide_eq_false hc]))
            (nx_seq (app_nx (ev_var rfl) (ev_mod (ev_int (ev_fdiv (ev_var rfl) ev_cst (by decide))) ev_cst (by decide)) rfl hz1) pss_nx)) pss_nx), by omega, _, _, _, zs ++ [(((x * 16807 + 271 * (0 + (i : Int) + 3)).fmod 2147483629).fdiv 7).fmod 1009], rfl, ?_, by simp [hz], ?_⟩
        · simp [cnD]
        · intro z hz2
          rcases List.mem_append.mp hz2 with q | q
          · exact hdr z q
          · rw [List.mem_singleton.mp q]; exact dr_mod _
  obtain ⟨zs, h1, h2, h3⟩ := run
  refine ⟨zs, h1, h2, fun fn e1 e2 e3 => ?_⟩
  have h4 : frL (stD fn.ns [.int cell, .int n]) (fun s => fn.run F s []) = some (.rt (.ref 0) false [.lst false (zs.map D.int)]) := by
    rw [frL_eq, e2, e3]; exact h3
  have hrf : rfs (zs.map D.int) = true := by
    clear h1 h2 h3 h4
    induction zs with
    | nil => rfl
    | cons z zs ih => rw [List.map_cons, rfs, ih]; rfl
  unfold runF
  rw [if_pos (by rw [e1]; rfl), h4]
  have e5 : frz [.lst false (zs.map D.int)] 4 (.ref 0) = some (.lst (zs.map D.int)) := by
    rw [frz, if_neg (by simp [rf])]
    show (mapO (frz _ 3) (zs.map D.int)).map D.lst = _
    have : ∀ (xs : List Int), mapO (frz [.lst false (zs.map D.int)] 3) (xs.map D.int) = some (xs.map D.int) := fun xs => by
      induction xs with
      | nil => rfl
      | cons x xs ih => rw [List.map_cons, mapO, ih]; rfl
    rw [this]; rfl
  show (match frz [MO.lst false (zs.map D.int)] 4 (.ref 0) with
    | some d' => rt (d', frR [MO.lst false (zs.map D.int)] false (.ref 0))
    | none => none) = _
  rw [e5]
  show rt (D.lst (zs.map D.int), rfs (zs.map D.int)) = _
  rw [hrf]; rfl
theorem cut_take (xs : List Int) (n : Nat) : cutD (xs.map D.int) none (some (n : Int)) = (xs.take n).map D.int := by
  unfold cutD
  rw [HT.sIx_nat, HT.sIx_none, List.drop_zero, Nat.sub_zero, List.length_map]
  rw [List.map_take]
  by_cases h : n ≤ xs.length
  · rw [Nat.min_eq_left h]
  · rw [Nat.min_eq_right (by omega), List.take_of_length_le (by simp), List.take_of_length_le (by simp; omega)]
theorem ev_slcL {s : Sl} {m : Mm} {a : Xe} {d : D} {xs : List Int} {b : Xe} {n : Nat} (ha : Ev a s m d) (hb : Ev b s m (.int n)) (h : lstV m d = some (xs.map D.int)) : xSlc a xO0 (xO1 b) s m = rt (.lst ((xs.take n).map D.int), true) := by
  obtain ⟨_, ea⟩ := ha
  obtain ⟨_, eb⟩ := hb
  unfold xSlc xO0 xO1
  rw [ea, bd_rt, bd_rt, eb, bd_rt, bd_rt]
  rw [← cut_take]
  unfold slcV
  cases d <;> first | (cases h; done) | (simp only [h, frL_eq])
theorem rfs_ints (zs : List Int) : rfs (zs.map D.int) = true := by
  induction zs with
  | nil => rfl
  | cons z zs ih => rw [List.map_cons, rfs, ih]; rfl
theorem num_ok {F : Fc} (hF : ∀ (cell : Int) (n : Nat), n ≤ 1000 → ∃ zs : List Int, zs.length = n ∧ (∀ z ∈ zs, Dr z) ∧ F 0 [.int cell, .int n] = some (.ok (.lst (zs.map D.int), true))) (ns : List Int) (hns : ns.length ≤ 63) (many : Nat) (hm : many ≤ 900) :
    ∃ zs : List Int, zs.length = many ∧ (∀ z ∈ zs, Dr z) ∧ ∀ fn : Fn, fn.np = 2 → fn.ns = 7 → fn.run F = R_num F → runF F fn [.klst (ns.map D.int), .int many] = some (.ok (.lst (zs.map D.int), true)) := by
  have run : ∃ (zs : List Int) (m : Mm), zs.length = many ∧ (∀ z ∈ zs, Dr z) ∧ R_num F [some (.klst (ns.map D.int)), some (.int many), none, none, none, none, none] [] = some (.rt (.lst (zs.map D.int)) true m) := by
    unfold R_num
    have e1 := ev_slcL (s := [some (.klst (ns.map D.int)), some (.int many), none, none, none, none, none]) (m := []) (a := xVar 0) (b := xCst (.int 63)) (xs := ns) (n := 63) (ev_var rfl) ev_cst rfl
    rw [seq_nx (asg_nm ⟨true, e1⟩)]
    have hcs : (ns.take 63).length ≤ 63 := by rw [List.length_take]; omega
    generalize ns.take 63 = cs at hcs
    -- how many of each
    have hmx : ∃ j : Nat, (if ((cs.map D.int).length : Int) > 1 then ((cs.map D.int).length : Int) else 1) = (j : Int) ∧ 1 ≤ j ∧ j ≤ 63 := by
      rw [List.length_map]
      by_cases h : ((cs.length : Nat) : Int) > 1
      · exact ⟨cs.length, by rw [if_pos h], by omega, hcs⟩
      · exact ⟨1, by rw [if_neg h]; rfl, by omega, by omega⟩
    obtain ⟨j, ej, j1, j2⟩ := hmx
    have hdv : divOk (j : Int) = true := by
      unfold divOk
      have h1 : decide ((j : Int) ≠ 0) = true := decide_eq_true (by omega)
      have h2 : Nat.blt (j : Int).natAbs 1073741824 = true := Nat.ble_eq_true_of_le (by omega)
      rw [h1, h2]; rfl
    have e2 : Ev (xBlt .max2 (xCons (xCst (.int 1)) (xCons (xBlt .len (xCons (xVar 2) xNil)) xNil))) [some (.klst (ns.map D.int)), some (.int many), some (.lst (cs.map D.int)), none, none, none, none] [] (.int j) := by
      have := ev_max2 (s := [some (.klst (ns.map D.int)), some (.int many), some (.lst (cs.map D.int)), none, none, none, none]) (m := []) (i := 1) (ev_cst (c := .int 1)) (ev_len (a := xVar 2) (ev_var rfl) (show seqV [] (.lst (cs.map D.int)) = some (cs.map D.int) from rfl))
      rw [ej] at this
      exact this
    have e3 := asg_nm (i := 3) (ev_add (i := 1) (ev_cst (c := .int 1)) (ev_fdiv (ev_var (i := 1) rfl) e2 hdv))
    refine Exists.imp (fun zs => Exists.imp fun m => And.imp_right (And.imp_right fun h => (seq_nx e3).trans h)) ?_
    obtain ⟨en, een, hen⟩ : ∃ en : Nat, (1 + (many : Int).fdiv (j : Int)) = (en : Int) ∧ en ≤ 1000 := by
      refine ⟨1 + many / j, ?_, ?_⟩
      · rw [Int.fdiv_eq_ediv_of_nonneg _ (by omega)]; norm_cast
      · have := Nat.div_le_self many j; omega
    simp only [een]
    rw [seq_nx (new_nm (xs := []) rfl)]
    have inv := forV_inv (g := gNm 5) (b := sSeq (sFor walk0 (gNm 6) (iVal gdN (xCall F 0 (xCons (xVar 5) (xCons (xVar 3) xNil)))) (sSeq (sApp (xVar 4) (xVar 6)) sPss)) sPss)
      (fun i s m => i ≤ cs.length ∧ ∃ (k l : Option D) (zs : List Int), s = [some (.klst (ns.map D.int)), some (.int many), some (.lst (cs.map D.int)), some (.int en), some (.ref 0), k, l] ∧ m = [.lst false (zs.map D.int)] ∧ zs.length = i * en ∧ ∀ z ∈ zs, Dr z) (cs.map D.int) 0
      [some (.klst (ns.map D.int)), some (.int many), some (.lst (cs.map D.int)), some (.int en), some (.ref 0), none, none] [.lst false []] ⟨by omega, none, none, [], rfl, rfl, by simp, by simp⟩ ?_
    · obtain ⟨s', m', f1, hle, k, l, zs, rfl, rfl, hz, hdr⟩ := inv
      have e4 : sFor (walkV 2) (gNm 5) (iVal gdA (xVar 2)) (sSeq (sFor walk0 (gNm 6) (iVal gdN (xCall F 0 (xCons (xVar 5) (xCons (xVar 3) xNil)))) (sSeq (sApp (xVar 4) (xVar 6)) sPss)) sPss) [some (.klst (ns.map D.int)), some (.int many), some (.lst (cs.map D.int)), some (.int en), some (.ref 0), none, none] [MO.lst false []] = some (.nx [some (.klst (ns.map D.int)), some (.int many), some (.lst (cs.map D.int)), some (.int en), some (.ref 0), k, l] [.lst false (zs.map D.int)]) := f1
      -- the zeros behind
      obtain ⟨s2, m2, f2, zs2, rfl, rfl, hz2, hdr2, hge⟩ := whlV_inv (c := tCmp .lt (xBlt .len (xCons (xVar 4) xNil)) (xVar 1)) (b := sSeq (sApp (xVar 4) (xCst (.int 0))) sPss)
        (fun q s m => ∃ zs2 : List Int, s = [some (.klst (ns.map D.int)), some (.int many), some (.lst (cs.map D.int)), some (.int en), some (.ref 0), k, l] ∧ m = [.lst false (zs2.map D.int)] ∧ zs2.length ≤ 70000 ∧ (∀ z ∈ zs2, Dr z) ∧ q = many - zs2.length)
        (fun q s m ⟨zs2, hs, hm2, h1, h2, h3⟩ => by
          subst hs hm2
          rw [tv_lt (ev_len (ev_var rfl) (show seqV [MO.lst false (zs2.map D.int)] (.ref 0) = some (zs2.map D.int) from rfl)) (ev_var rfl), List.length_map]
          congr 1
          have : (((zs2.length : Nat) : Int) < (many : Int)) ↔ q ≠ 0 := by omega
          simp [this])
        (fun q s m ⟨zs2, hs, hm2, h1, h2, h3⟩ => by
          subst hs hm2
          refine ⟨_, _, nx_seq (app_nx (ev_var rfl) ev_cst rfl (by rw [List.length_map]; omega)) pss_nx, zs2 ++ [0], rfl, by simp [cnD], by simp; omega, fun z hz3 => ?_, by simp; omega⟩
          rcases List.mem_append.mp hz3 with w | w
          · exact h2 z w
          · rw [List.mem_singleton.mp w]; exact ⟨by decide, by decide⟩)
        (many - zs.length) fuel [some (.klst (ns.map D.int)), some (.int many), some (.lst (cs.map D.int)), some (.int en), some (.ref 0), k, l] [.lst false (zs.map D.int)] (lt_fuel (by omega)) ⟨zs, rfl, rfl, by rw [hz]; have : (0 + (cs.map D.int).length) * en ≤ 63 * 1000 := Nat.mul_le_mul (by simp; omega) hen; omega, hdr, rfl⟩
      have e5 := ev_slcL (s := [some (.klst (ns.map D.int)), some (.int many), some (.lst (cs.map D.int)), some (.int en), some (.ref 0), k, l]) (m := [.lst false (zs2.map D.int)]) (a := xVar 4) (b := xVar 1) (xs := zs2) (n := many) (ev_var rfl) (ev_var rfl) rfl
      refine ⟨zs2.take many, [.lst false (zs2.map D.int)], by rw [List.length_take]; omega, fun z hz3 => hdr2 z (List.mem_of_mem_take hz3), ?_⟩
      exact rt_seq e4 (rt_seq f2 (seq_rt (ret_of e5)))
    · rintro i d s m hd ⟨hle, k, l, zs, rfl, rfl, hz, hdr⟩
      rw [List.getElem?_map] at hd
      obtain ⟨cell, hcell, rfl⟩ := Option.map_eq_some_iff.mp hd
      have hlt : i < cs.length := (List.getElem?_eq_some_iff.mp hcell).1
      obtain ⟨ys, hy1, hy2, hy3⟩ := hF cell en hen
      have e6 : iVal gdN (xCall F 0 (xCons (xVar 5) (xCons (xVar 3) xNil))) [some (.klst (ns.map D.int)), some (.int many), some (.lst (cs.map D.int)), some (.int en), some (.ref 0), some (.int cell), l] [.lst false (zs.map D.int)] = rt (ys.map D.int) := by
        show bd (bd (rt [D.int cell, D.int en]) fun ds => callV F _ 0 ds) _ = _
        rw [bd_rt]
        have e7 : callV F [.lst false (zs.map D.int)] 0 [D.int cell, D.int en] = rt (.lst (ys.map D.int), true) := by
          show bd (F 0 [D.int cell, D.int en]) (fun r => if fineRes [D.int cell, D.int en] r = true then rt r else none) = _
          rw [hy3]; rfl
        rw [e7]; rfl
      have inv2 := forV_inv (g := gNm 6) (b := sSeq (sApp (xVar 4) (xVar 6)) sPss)
        (fun i2 s m => i2 ≤ ys.length ∧ ∃ (l : Option D) (zs : List Int), s = [some (.klst (ns.map D.int)), some (.int many), some (.lst (cs.map D.int)), some (.int en), some (.ref 0), some (.int cell), l] ∧ m = [.lst false (zs.map D.int)] ∧ zs.length = i * en + i2 ∧ ∀ z ∈ zs, Dr z) (ys.map D.int) 0
        [some (.klst (ns.map D.int)), some (.int many), some (.lst (cs.map D.int)), some (.int en), some (.ref 0), some (.int cell), l] [.lst false (zs.map D.int)] ⟨by omega, l, zs, rfl, rfl, by rw [hz]; simp, hdr⟩ ?_
      · obtain ⟨s', m', f3, hle2, l2, zs3, rfl, rfl, hz3, hdr3⟩ := inv2
        refine ⟨_, _, _, gNm_ap 5 _, nx_seq ((for0 e6).trans f3) pss_nx, by omega, _, _, zs3, rfl, rfl, ?_, hdr3⟩
        rw [hz3, List.length_map, hy1]
        rw [show 0 + i + 1 = i + 1 by omega, Nat.succ_mul]; omega
      · rintro i2 d2 s m hd2 ⟨hle2, l2, zs3, rfl, rfl, hz3, hdr3⟩
        rw [List.getElem?_map] at hd2
        obtain ⟨y, hy, rfl⟩ := Option.map_eq_some_iff.mp hd2
        have hlt2 : i2 < ys.length := (List.getElem?_eq_some_iff.mp hy).1
        have hb : i * en ≤ 63 * 1000 := Nat.mul_le_mul (by omega) hen
        refine ⟨_, _, _, gNm_ap 6 _, nx_seq (app_nx (ev_var rfl) (ev_var rfl) rfl (by rw [List.length_map]; omega)) pss_nx, by omega, _, zs3 ++ [y], rfl, by simp, by simp; omega, fun z hz4 => ?_⟩
        rcases List.mem_append.mp hz4 with w | w
        · exact hdr3 z w
        · rw [List.mem_singleton.mp w]; exact hy2 y (List.mem_of_getElem? hy)
  obtain ⟨zs, m, h1, h2, h3⟩ := run
  refine ⟨zs, h1, h2, fun fn e1 e2 e3 => ?_⟩
  have h4 : frL (stD fn.ns [.klst (ns.map D.int), .int many]) (fun s => fn.run F s []) = some (.rt (.lst (zs.map D.int)) true m) := by
    rw [frL_eq, e2, e3]; exact h3
  unfold runF
  rw [if_pos (by rw [e1]; rfl), h4]
  have e5 : frz m 4 (.lst (zs.map D.int)) = some (.lst (zs.map D.int)) := by
    rw [frz, if_pos]
    rw [rf]; exact rfs_ints zs
  show (match frz m 4 (.lst (zs.map D.int)) with
    | some d' => rt (d', frR m true (.lst (zs.map D.int)))
    | none => none) = _
  rw [e5]; rfl
theorem frzA_rfs {m : Mm} : ∀ {ds : List D}, rfs ds = true → frzA m ds = some ds
  | [], _ => rfl
  | d :: ds, h => by
    rw [rfs, Bool.and_eq_true] at h
    have e : frz m 4 d = some d := by rw [frz, if_pos h.1]
    rw [frzA, e, frzA_rfs h.2]
theorem call_of {F : Fc} {f : Nat} {es : Xs} {s : Sl} {m : Mm} {ds : List D} {r : D × Bool} (he : es s m = rt ds) (hr : rfs ds = true) (hF : F f ds = some (.ok r)) : xCall F f es s m = rt r := by
  unfold xCall
  rw [he, bd_rt]
  unfold callV
  rw [frzA_rfs hr, ob_some, hF, bd_ok]
  unfold fineRes
  rw [hr, Bool.true_or, Bool.true_or, if_pos rfl]
theorem ixAt_nat {n i : Nat} (h : i < n) : ixAt n (i : Int) = some i := by
  unfold ixAt L2.ixN
  rw [if_pos (by omega)]
  simp [h]
theorem sub_of {a b : Xe} {s : Sl} {m : Mm} {d x : D} {xs : List D} {i : Nat} (ha : Ev a s m d) (hb : Ev b s m (.int i)) (h : seqV m d = some xs) (hx : xs[i]? = some x) : xSub a b s m = rt (x, false) := by
  obtain ⟨_, ea⟩ := ha
  obtain ⟨_, eb⟩ := hb
  unfold xSub
  rw [ea, bd_rt, eb, bd_rt]
  have : subV m d (.int i) = some x := by
    unfold subV
    simp only [h, ixAt_nat (List.getElem?_eq_some_iff.mp hx).1, nthL_eq]
    exact hx
  rw [this]; rfl
noncomputable def R_pick : Xst := (sSeq (sRet (xBin .mod (xBlt .int (xCons (xSub (xVar 0) (xVar 1)) xNil)) (xVar 2))) sPss)
theorem pick_ok {F : Fc} {zs : List Int} {i : Nat} {n z : Int} (hn : n ≠ 0) (hz : zs[i]? = some z) {fn : Fn} (e1 : fn.np = 3) (e2 : fn.ns = 3) (e3 : fn.run F = R_pick) : runF F fn [.lst (zs.map D.int), .int i, .int n] = some (.ok (.int (z.fmod n), false)) := by
  unfold runF
  rw [if_pos (by rw [e1]; rfl), frL_eq, e2, e3]
  have e4 : xSub (xVar 0) (xVar 1) [some (.lst (zs.map D.int)), some (.int i), some (.int n)] [] = rt (D.int z, false) := sub_of (ev_var rfl) (ev_var rfl) rfl (by rw [List.getElem?_map, hz]; rfl)
  obtain ⟨b, e5⟩ := ev_mod (s := [some (.lst (zs.map D.int)), some (.int i), some (.int n)]) (m := []) (ev_int ⟨false, e4⟩) (ev_var (i := 2) rfl) hn
  have e6 : R_pick (stD 3 [.lst (zs.map D.int), .int i, .int n]) [] = some (.rt (.int (z.fmod n)) b []) := seq_rt (ret_of e5)
  rw [e6]; rfl
theorem dr_range {z : Int} {n : Nat} (h : Dr z) (hn : 0 < n) : ∃ r : Nat, z.fmod (n : Int) = (r : Int) ∧ r < n := by
  rw [Int.fmod_eq_emod_of_nonneg _ (by omega)]
  have h1 := Int.emod_nonneg z (b := (n : Int)) (by omega)
  have h2 := Int.emod_lt_of_pos z (b := (n : Int)) (by omega)
  exact ⟨(z % (n : Int)).toNat, by omega, by omega⟩
end MP
set_option Elab.async false
set_option linter.all false
set_option maxRecDepth 100000
set_option autoImplicit false
set_option maxHeartbeats 4000000
/-! running with names for values: rules for simp -/
namespace MP
open PySem (Str)
section
variable {α β : Type}
@[simp] theorem nthL_0 (x : α) (xs : List α) : nthL (x :: xs) 0 = some x := rfl
@[simp] theorem nthL_S (x : α) (xs : List α) (n : Nat) : nthL (x :: xs) (n + 1) = nthL xs n := rfl
@[simp] theorem nthL_nil (n : Nat) : nthL ([] : List α) n = none := rfl
@[simp] theorem setL_0 (x v : α) (xs : List α) : setL (x :: xs) 0 v = v :: xs := rfl
@[simp] theorem setL_S (x v : α) (xs : List α) (n : Nat) : setL (x :: xs) (n + 1) v = x :: setL xs n v := rfl
@[simp] theorem frI_e (i : Int) (k : Int → α) : frI i k = k i := frI_eq i k
@[simp] theorem frL_e (xs : List α) (k : List α → β) : frL xs k = k xs := frL_eq xs k
@[simp] theorem frN_e (i : Nat) (k : Nat → α) : frN i k = k i := frN_eq i k
@[simp] theorem appF_e (ys zs : List α) (k : List α → β) : appF ys zs k = k (ys ++ zs) := appF_eq ys zs k
@[simp] theorem compL_nil (step : D → Rv (List D)) : compL step [] = rt [] := rfl
@[simp] theorem compL_cons (step : D → Rv (List D)) (x : D) (xs : List D) : compL step (x :: xs) = bd (step x) fun ys => bd (compL step xs) fun zs => appF ys zs rt := rfl
@[simp] theorem dcL_nil (step : Ac → D → Rv Ac) (a : Ac) : dcL step [] a = rt a := rfl
@[simp] theorem dcL_cons (step : Ac → D → Rv Ac) (x : D) (xs : List D) (a : Ac) : dcL step (x :: xs) a = bd (step a x) (dcL step xs) := rfl
@[simp] theorem bd_rt' (a : α) (k : α → Rv β) : bd (rt a) k = k a := rfl
@[simp] theorem bd_exc (x : Nat) (fs : List D) (k : α → Rv β) : bd (some (.exc x fs)) k = some (.exc x fs) := rfl
@[simp] theorem ob_none (k : α → Rv β) : ob none k = none := rfl
@[simp] theorem noX_rt (a : α) : noX (rt a) = rt a := rfl
@[simp] theorem rt_e (a : α) : (some (.ok a) : Rv α) = rt a := rfl
@[simp] theorem forV_nil (g : Xg) (b : Xst) (s : Sl) (m : Mm) : forV g b [] s m = some (.nx s m) := rfl
theorem forV_cons (g : Xg) (b : Xst) (d : D) (ds : List D) (s : Sl) (m : Mm) : forV g b (d :: ds) s m = os (g d s) fun s1 => match b s1 m with
    | some (.nx s' m') => forV g b ds s' m'
    | some (.ct s' m') => forV g b ds s' m'
    | some (.bk s' m') => some (.nx s' m')
    | r => r := rfl
end
section
variable {s : Sl} {m : Mm} {a b d : Xe} {i j : Nat}
@[simp] theorem xVar_e : xVar i s m = match nthL s i with
  | some (some d) => rt (d, false)
  | _ => none := rfl
@[simp] theorem xCst_e (c : Cn) : xCst c s m = rt (cnD c, false) := rfl
@[simp] theorem cnD_non : cnD .non = .non := rfl
@[simp] theorem cnD_bl (b : Bool) : cnD (.bl b) = .bl b := rfl
@[simp] theorem cnD_int (i : Int) : cnD (.int i) = .int i := rfl
@[simp] theorem cnD_str (x : Str) : cnD (.str x) = .str x := rfl
@[simp] theorem xGlob_e (G : List D) (g : Nat) : xGlob G g s m = match nthL G g with
  | some d => rt (d, false)
  | none => none := rfl
@[simp] theorem xBin_e (o : Bop) : xBin o a b s m = bd (a s m) fun x => bd (b s m) fun y => binV o (vw m x.1) (vw m y.1) := rfl
@[simp] theorem vw_int (i : Int) : vw m (.int i) = .int i := rfl
@[simp] theorem vw_tup (xs : List D) : vw m (.tup xs) = .tup xs := rfl
@[simp] theorem vw_lst (xs : List D) : vw m (.lst xs) = .lst xs := rfl
@[simp] theorem vw_str (x : Str) : vw m (.str x) = .str x := rfl
@[simp] theorem vw_refE (n : Nat) : vw m (.ref n) = vwO n (nthL m n) := rfl
@[simp] theorem vwO_lst (n : Nat) (l : Bool) (xs : List D) : vwO n (some (.lst l xs)) = .lst xs := rfl
@[simp] theorem bin_add' (i j : Int) : binV .add (.int i) (.int j) = rt (.int (i + j), false) := bin_add i j
@[simp] theorem bin_sub' (i j : Int) : binV .sub (.int i) (.int j) = rt (.int (i - j), false) := bin_sub i j
@[simp] theorem bin_mul' (i j : Int) : binV .mul (.int i) (.int j) = if mulOk i j = true then rt (.int (i * j), false) else none := by simp [binV]
@[simp] theorem bin_mod' (i j : Int) : binV .mod (.int i) (.int j) = if j ≠ 0 then rt (.int (i.fmod j), false) else none := by simp [binV]
@[simp] theorem bin_div' (i j : Int) : binV .fdiv (.int i) (.int j) = if (divOk j || divOkW j) = true then rt (.int (i.fdiv j), false) else none := by simp [binV]
@[simp] theorem bin_pow' (i j : Int) : binV .pow (.int i) (.int j) = if (decide (0 ≤ j) && Nat.ble j.natAbs 100 && Nat.blt i.natAbs.log2 100000) = true then rt (.int (i ^ j.toNat), false) else none := by simp [binV]
@[simp] theorem bin_addL (xs ys : List D) : binV .add (.lst xs) (.lst ys) = if szOk (xs.length + ys.length) = true then rt (.lst (xs ++ ys), true) else none := by simp [binV]
@[simp] theorem bin_addT (xs ys : List D) : binV .add (.tup xs) (.tup ys) = if szOk (xs.length + ys.length) = true then rt (.tup (xs ++ ys), false) else none := by simp [binV]
@[simp] theorem xNeg_e : xNeg a s m = bd (a s m) fun x => match x.1 with
  | .int i => frI (-i) fun r => rt (.int r, false)
  | _ => none := rfl
@[simp] theorem xCmp_e (o : Cop) : xCmp o a b s m = bd (a s m) fun x => bd (b s m) fun y => ob (cmpV m o x.1 y.1) fun k => rt (.bl k, false) := rfl
@[simp] theorem tCmp_e (o : Cop) : tCmp o a b s m = bd (a s m) fun x => bd (b s m) fun y => ob (cmpV m o x.1 y.1) rt := rfl
@[simp] theorem cmp_eqI (i j : Int) : cmpV m .eq (.int i) (.int j) = some (decide (i = j)) := by
  show some (i == j) = _
  congr 1
@[simp] theorem cmp_neI (i j : Int) : cmpV m .ne (.int i) (.int j) = some (decide (i ≠ j)) := by
  show some (!(i == j)) = _
  congr 1
  by_cases h : i = j <;> simp [h]
@[simp] theorem cmp_lt (i j : Int) : cmpV m .lt (.int i) (.int j) = some (decide (i < j)) := rfl
@[simp] theorem cmp_le (i j : Int) : cmpV m .le (.int i) (.int j) = some (decide (i ≤ j)) := rfl
@[simp] theorem cmp_gt (i j : Int) : cmpV m .gt (.int i) (.int j) = some (decide (j < i)) := rfl
@[simp] theorem cmp_ge (i j : Int) : cmpV m .ge (.int i) (.int j) = some (decide (j ≤ i)) := rfl
@[simp] theorem cmp_eqB (i j : Bool) : cmpV m .eq (.bl i) (.bl j) = some (i == j) := rfl
@[simp] theorem xIsN_e : xIsN a s m = bd (a s m) fun x => ob (nonD x.1) fun k => rt (.bl k, false) := rfl
@[simp] theorem xNotN_e : xNotN a s m = bd (a s m) fun x => ob (nonD x.1) fun k => rt (.bl (!k), false) := rfl
@[simp] theorem tIsN_e : tIsN a s m = bd (a s m) fun x => ob (nonD x.1) rt := rfl
@[simp] theorem tNotN_e : tNotN a s m = bd (a s m) fun x => ob (nonD x.1) fun k => rt (!k) := rfl
@[simp] theorem xChn_e (o1 o2 : Cop) : xChn o1 o2 a b d s m = bd (a s m) fun x => bd (b s m) fun y => ob (cmpV m o1 x.1 y.1) fun k =>
  if k then bd (d s m) fun z => ob (cmpV m o2 y.1 z.1) fun k => rt (.bl k, false) else rt (.bl false, false) := rfl
@[simp] theorem tChn_e (o1 o2 : Cop) : tChn o1 o2 a b d s m = bd (a s m) fun x => bd (b s m) fun y => ob (cmpV m o1 x.1 y.1) fun k =>
  if k then bd (d s m) fun z => ob (cmpV m o2 y.1 z.1) rt else rt false := rfl
@[simp] theorem xAnd2_e : xAnd2 a b s m = bd (a s m) fun x => match x.1 with
  | .bl true => b s m
  | .bl false => rt (.bl false, false)
  | _ => none := rfl
@[simp] theorem xOr2_e : xOr2 a b s m = bd (a s m) fun x => match x.1 with
  | .bl false => b s m
  | .bl true => rt (.bl true, false)
  | _ => none := rfl
@[simp] theorem xNotV_e : xNotV a s m = bd (a s m) fun x => ob (truV m x.1) fun k => rt (.bl (!k), false) := rfl
@[simp] theorem xIte_e {α : Type} (t : Xt) (a b : Sl → Mm → Rv α) : xIte t a b s m = bd (t s m) fun k => if k then a s m else b s m := rfl
@[simp] theorem xTup_e (es : Xs) : xTup es s m = bd (es s m) fun ds => if szOk ds.length then rt (.tup ds, false) else none := rfl
@[simp] theorem xLst_e (es : Xs) : xLst es s m = bd (es s m) fun ds => if szOk ds.length then rt (.lst ds, true) else none := rfl
@[simp] theorem xSub_e : xSub a b s m = bd (a s m) fun x => bd (b s m) fun y => ob (subV m x.1 y.1) fun d => rt (d, false) := rfl
@[simp] theorem xRev_e : xRev a s m = bd (a s m) fun x => match lstV m x.1 with
  | some xs => frL xs.reverse fun zs => rt (.lst zs, true)
  | none => none := rfl
@[simp] theorem xCall_e (F : Fc) (f : Nat) (es : Xs) : xCall F f es s m = bd (es s m) fun ds => callV F m f ds := rfl
@[simp] theorem xBlt_e (q : Blt) (es : Xs) : xBlt q es s m = bd (es s m) fun ds => ob (bltV m q ds) rt := rfl
@[simp] theorem xMth_e (q : Mth) (es : Xs) : xMth q a es s m = bd (a s m) fun x => if mthPre m q x.1 then bd (es s m) fun ds => ob (mthV m q x.1 ds) rt else none := rfl
@[simp] theorem xInst_e (t : Ty) : xInst a t s m = bd (a s m) fun x => ob (tyIs m x.1 t) fun k => rt (.bl k, false) := rfl
@[simp] theorem xInst2_e (t1 t2 : Ty) : xInst2 a t1 t2 s m = bd (a s m) fun x => ob (tyIs m x.1 t1) fun k => ob (tyIs m x.1 t2) fun k2 => rt (.bl (k || k2), false) := rfl
@[simp] theorem xInRng_e (k : Int) : xInRng d a b k s m = bd (d s m) fun p => bd (a s m) fun q => bd (b s m) fun r => match p.1, q.1, r.1 with
 | .int i, .int lo, .int hi => if decide (0 < k) && Nat.blt k.natAbs 1073741824 then rt (.bl (rngIn lo hi k i), false) else none
 | _, _, _ => none := rfl
@[simp] theorem xOne_e : xOne a s m = bd (a s m) fun y => rt [y.1] := rfl
@[simp] theorem xTurn_e (g : Xg) (t : Xt) (e : Xs) (x : D) : xTurn g t e s m x = ob (g x s) fun s1 => bd (t s1 m) fun k => if k then e s1 m else rt [] := rfl
@[simp] theorem xComp_e (own : List Nat) (g : Xg) (it : Xs) (t : Xt) (e : Xe) : xComp own g it t e s m = bd (it s m) fun ds =>
  bd (noX (compL (xTurn g t (xOne e) (wipeD s own) m) ds)) fun ys => if szOk ys.length then rt (.lst ys, true) else none := rfl
@[simp] theorem xIn2_e (own : List Nat) (g : Xg) (it : Xs) (t : Xt) (e : Xe) : xIn2 own g it t e s m = bd (it s m) fun ds1 => compL (xTurn g t (xOne e) (wipeD s own) m) ds1 := rfl
@[simp] theorem xComp2_e (own own1 : List Nat) (g : Xg) (it : Xs) (t : Xt) (g1 : Xg) (it1 : Xs) (t1 : Xt) (e : Xe) : xComp2 own own1 g it t g1 it1 t1 e s m = bd (it s m) fun ds =>
  bd (noX (compL (xTurn g t (xIn2 own1 g1 it1 t1 e) (wipeD s own) m) ds)) fun ys => if szOk ys.length then rt (.lst ys, true) else none := rfl
@[simp] theorem xDc_e (own : List Nat) (g : Xg) (it : Xs) (t : Xt) (k e : Xe) : xDc own g it t k e s m = bd (it s m) fun ds =>
  bd (noX (dcL (dTurn g t k e (wipeD s own) m) ds ([], []))) fun p => rt (.dk p.1 p.2, true) := rfl
@[simp] theorem dTurn_e (g : Xg) (t : Xt) (k e : Xe) (acc : Ac) (x : D) : dTurn g t k e s m acc x = ob (g x s) fun s1 => bd (t s1 m) fun b => if b then bd (k s1 m) fun x => bd (e s1 m) fun y => dPut acc x.1 y.1 else rt acc := rfl
@[simp] theorem dPut_int (acc : Ac) (i : Int) (v : D) : dPut acc (.int i) v = if Nat.blt acc.1.length 16777216 then rt (put acc.1 acc.2 (.inl i) v) else none := by
  unfold dPut
  simp [keyD]
@[simp] theorem xNil_e : xNil s m = rt [] := rfl
@[simp] theorem xCons_e (es : Xs) : xCons a es s m = bd (a s m) fun x => bd (es s m) fun ds => rt (x.1 :: ds) := rfl
@[simp] theorem xO0_e : xO0 s m = rt none := rfl
@[simp] theorem xO1_e : xO1 a s m = bd (a s m) fun x => match x.1 with
  | .int i => rt (some i)
  | _ => none := rfl
@[simp] theorem tTru_e : tTru a s m = bd (a s m) fun x => ob (truV m x.1) rt := rfl
@[simp] theorem tAnd_e (t u : Xt) : tAnd t u s m = bd (t s m) fun k => if k then u s m else rt false := rfl
@[simp] theorem tOr_e (t u : Xt) : tOr t u s m = bd (t s m) fun k => if k then rt true else u s m := rfl
@[simp] theorem tNot_e (t : Xt) : tNot t s m = bd (t s m) fun k => rt (!k) := rfl
@[simp] theorem tYes_e : tYes s m = rt true := rfl
@[simp] theorem gdA_e (d : D) : gdA d = true := rfl
@[simp] theorem gdN_e (d : D) : gdN d = !isRef d := rfl
@[simp] theorem iVal_e (gd : D → Bool) : iVal gd a s m = bd (a s m) fun x => if gd x.1 then match seqV m x.1 with
  | some xs => rt xs
  | none => none
  else none := rfl
@[simp] theorem iRng1_e : iRng1 a s m = bd (a s m) fun x => match x.1 with
  | .int n => if rngOk n then rt (rngD 0 1 n.toNat) else none
  | _ => none := rfl
@[simp] theorem iRng2_e : iRng2 a b s m = bd (a s m) fun x => bd (b s m) fun y => match x.1, y.1 with
  | .int i, .int j => if rngOk i && rngOk j then rt (rngD i 1 (j - i).toNat) else none
  | _, _ => none := rfl
@[simp] theorem iZip_e (gd : D → Bool) : iZip gd a b s m = bd (a s m) fun x => bd (b s m) fun y => if gd x.1 && gd y.1 then match lstV m x.1 with
  | some xs => match lstV m y.1 with
    | some ys => rt (zipD xs ys)
    | none => none
  | none => match tupV x.1 with
    | some xs => match tupV y.1 with
      | some ys => rt (zipD xs ys)
      | none => none
    | none => none
  else none := rfl
@[simp] theorem rngD_0 (a c : Int) : rngD a c 0 = [] := rfl
@[simp] theorem rngD_S (a c : Int) (n : Nat) : rngD a c (n + 1) = .int a :: rngD (a + c) c n := by rw [rngD, frI_eq]
@[simp] theorem gNm_e (d : D) : gNm i d s = some (setL s i (some d)) := by unfold gNm; rw [frL_eq]
@[simp] theorem gNil_e : gNil [] s = some s := rfl
@[simp] theorem gCons_e (g : Xg) (gs : Xgs) (x : D) (xs : List D) : gCons g gs (x :: xs) s = match g x s with
    | some s' => gs xs s'
    | none => none := rfl
@[simp] theorem gTp_tup (gs : Xgs) (xs : List D) : gTp gs (.tup xs) s = gs xs s := rfl
@[simp] theorem gTp_ktup (gs : Xgs) (xs : List D) : gTp gs (.ktup xs) s = gs xs s := rfl
@[simp] theorem gTp_lst (gs : Xgs) (xs : List D) : gTp gs (.lst xs) s = gs xs s := rfl
@[simp] theorem wipeD_nil : wipeD s [] = s := rfl
@[simp] theorem wipeD_cons (v : Nat) (vs : List Nat) : wipeD s (v :: vs) = setL (wipeD s vs) v none := rfl
/-! calls -/
@[simp] theorem callV_rf {F : Fc} {f : Nat} {ds : List D} (h : rfs ds = true) : callV F m f ds = bd (F f ds) rt := by
  unfold callV
  rw [frzA_rfs h, ob_some]
  cases F f ds with
  | none => rfl
  | some r => cases r with
    | exc _ _ => rfl
    | ok r => simp [bd, fineRes, h]
/-! statements -/
variable {e : Xe} {p q : Xst}
@[simp] theorem nxt_e : nxt s m = some (.nx s m) := nxt_eq s m
@[simp] theorem sSeq_e : sSeq p q s m = match p s m with
  | some (.nx s' m') => q s' m'
  | r => r := rfl
@[simp] theorem sAsg_e (g : Xg) : sAsg g e s m = bs (e s m) s m fun x => os (g x.1 s) fun s' => nxt s' m := rfl
@[simp] theorem sAsgC_e : sAsgC i e s m = bs (e s m) s m fun x => nxt (setL s i (some x.1)) m := rfl
@[simp] theorem sPar_e : sPar i j a b s m = bs (a s m) s m fun x => bs (b s m) s m fun y => nxt (setL (setL s i (some x.1)) j (some y.1)) m := rfl
@[simp] theorem sExpr_e : sExpr e s m = bs (e s m) s m fun _ => nxt s m := rfl
@[simp] theorem sRet_e : sRet e s m = bs (e s m) s m fun x => some (.rt x.1 x.2 m) := rfl
@[simp] theorem sRetN_e : sRetN s m = some (.rt .non false m) := rfl
@[simp] theorem sIte_e (t : Xt) : sIte t p q s m = bs (t s m) s m fun k => if k then p s m else q s m := rfl
@[simp] theorem sPss_e : sPss s m = some (.nx s m) := nxt_eq s m
@[simp] theorem sRaise_e (x : Nat) : sRaise x s m = some (.ex x [] s m) := rfl
@[simp] theorem sBrk_e : sBrk s m = some (.bk s m) := rfl
@[simp] theorem sCnt_e : sCnt s m = some (.ct s m) := rfl
@[simp] theorem bs_rt' {α : Type} (x : α) (k : α → Os) : bs (rt x) s m k = k x := rfl
@[simp] theorem bs_exc {α : Type} (x : Nat) (fs : List D) (k : α → Os) : bs (some (.exc x fs)) s m k = some (.ex x fs s m) := rfl
@[simp] theorem os_some' {α : Type} (x : α) (k : α → Os) : os (some x) k = k x := rfl
/-- a def's run -/
theorem run_e (F : Fc) (fn : Fn) (ds : List D) (h : ds.length = fn.np) : runF F fn ds = match fn.run F (stD fn.ns ds) [] with
    | some (.nx _ _) => rt (.non, false)
    | some (.rt d fr m) => match frz m 4 d with
      | some d' => rt (d', frR m fr d)
      | none => none
    | some (.ex x fs _ _) => some (.exc x fs)
    | _ => none := by unfold runF; rw [if_pos h, frL_eq] <;> rfl
theorem call_e (P : Pg) (k f : Nat) (ds : List D) {fn : Fn} (h : nthL P.fns f = some fn) : callK P (k + 1) f ds = runF (callK P k) fn ds := by
  show (match nthL P.fns f with
    | some fn => runF (callK P k) fn ds
    | none => none) = _
  rw [h]
theorem frz_rf' {n : Nat} {d : D} (h : rf d = true) : frz m (n + 1) d = some d := by rw [frz, if_pos h]
@[simp] theorem frz_e (n : Nat) (d : D) : frz m (n + 1) d = if rf d then some d else frzS m (frz m n) d := rfl
@[simp] theorem frR_tup (fr : Bool) (xs : List D) : frR m fr (.tup xs) = false := rfl
@[simp] theorem frR_int (fr : Bool) (x : Int) : frR m fr (.int x) = false := rfl
@[simp] theorem frR_bl (fr : Bool) (x : Bool) : frR m fr (.bl x) = false := rfl
@[simp] theorem frR_non (fr : Bool) : frR m fr .non = false := rfl
@[simp] theorem frR_lst (fr : Bool) (xs : List D) : frR m fr (.lst xs) = fr := rfl
@[simp] theorem rf_int (i : Int) : rf (.int i) = true := by rw [rf] <;> simp
@[simp] theorem rf_bl (i : Bool) : rf (.bl i) = true := by rw [rf] <;> simp
@[simp] theorem rf_str (i : Str) : rf (.str i) = true := by rw [rf] <;> simp
@[simp] theorem rf_non : rf .non = true := by rw [rf] <;> simp
@[simp] theorem rf_tup (xs : List D) : rf (.tup xs) = rfs xs := by rw [rf]
@[simp] theorem rf_ktup (xs : List D) : rf (.ktup xs) = rfs xs := by rw [rf]
@[simp] theorem rf_lst (xs : List D) : rf (.lst xs) = rfs xs := by rw [rf]
@[simp] theorem rf_klst (xs : List D) : rf (.klst xs) = rfs xs := by rw [rf]
@[simp] theorem rfs_nil : rfs [] = true := by rw [rfs]
@[simp] theorem rfs_cons (x : D) (xs : List D) : rfs (x :: xs) = (rf x && rfs xs) := by rw [rfs]
@[simp] theorem rfs_ints' (zs : List Int) : rfs (zs.map D.int) = true := rfs_ints zs
@[simp] theorem szOk_lit (n : Nat) : szOk n = decide (n ≤ 16777216) := by
  unfold szOk
  cases h : Nat.ble n 16777216 with
  | true => exact (decide_eq_true (Nat.le_of_ble_eq_true h)).symm
  | false => exact (decide_eq_false fun z => by rw [Nat.ble_eq_true_of_le z] at h; cases h).symm
@[simp] theorem rngOk_lit (n : Int) : rngOk n = decide (n.natAbs < 4611686018427387904) := by
  unfold rngOk
  cases h : Nat.blt n.natAbs 4611686018427387904 with
  | true => exact (decide_eq_true (Nat.le_of_ble_eq_true h)).symm
  | false => exact (decide_eq_false fun z => by rw [show Nat.blt n.natAbs 4611686018427387904 = true from Nat.ble_eq_true_of_le z] at h; cases h).symm
@[simp] theorem bd_none {α β : Type} (k : α → Rv β) : bd none k = none := rfl
@[simp] theorem bs_none {α : Type} (k : α → Os) : bs (none : Rv α) s m k = none := rfl
@[simp] theorem os_none {α : Type} (k : α → Os) : os (none : Option α) k = none := rfl
@[simp] theorem blt_intI (i : Int) : bltV m .int [.int i] = some (.int i, false) := rfl
@[simp] theorem blt_intB (i : Bool) : bltV m .int [.bl i] = some (.int (if i then 1 else 0), false) := rfl
@[simp] theorem blt_abs (i : Int) : bltV m .abs [.int i] = some (.int (if i < 0 then -i else i), false) := by
  show (frI _ fun r => some (D.int r, false)) = _
  rw [frI_eq]
@[simp] theorem blt_max2 (i j : Int) : bltV m .max2 [.int i, .int j] = some (.int (if j > i then j else i), false) := by
  show (frI _ fun r => some (D.int r, false)) = _
  rw [frI_eq]
@[simp] theorem blt_min2 (i j : Int) : bltV m .min2 [.int i, .int j] = some (.int (if j < i then j else i), false) := by
  show (frI _ fun r => some (D.int r, false)) = _
  rw [frI_eq]
@[simp] theorem blt_gcd (i j : Int) : bltV m .gcd [.int i, .int j] = some (.int ((Nat.gcd i.natAbs j.natAbs : Nat) : Int), false) := by simp [bltV, seqV, dkV]
@[simp] theorem blt_lenT (xs : List D) : bltV m .len [.tup xs] = some (.int xs.length, false) := by simp [bltV, seqV, dkV]
@[simp] theorem blt_lenKT (xs : List D) : bltV m .len [.ktup xs] = some (.int xs.length, false) := by simp [bltV, seqV, dkV]
@[simp] theorem blt_lenL (xs : List D) : bltV m .len [.lst xs] = some (.int xs.length, false) := by simp [bltV, seqV, dkV]
@[simp] theorem blt_lenKL (xs : List D) : bltV m .len [.klst xs] = some (.int xs.length, false) := by simp [bltV, seqV, dkV]
@[simp] theorem blt_lenD (ks : List Key) (xs : List D) : bltV m .len [.dk ks xs] = some (.int ks.length, false) := by simp [bltV, seqV, dkV]
theorem blt_lenR {n : Nat} {l : Bool} {xs : List D} (h : nthL m n = some (.lst l xs)) : bltV m .len [.ref n] = some (.int xs.length, false) := by
  show (match lsO (nthL m n) with
    | some xs => frI (xs.length : Int) fun r => some (D.int r, false)
    | none => match dkO (nthL m n) with
      | some (ks, _) => frI (ks.length : Int) fun r => some (D.int r, false)
      | none => none) = _
  rw [h]
  show (frI _ fun r => some (D.int r, false)) = _
  rw [frI_eq]
@[simp] theorem blt_sum (d : D) : bltV m .sum [d] = match lstV m d with
    | some xs => match intsD xs with
      | some is => some (.int is.sum, false)
      | none => none
    | none => none := by
  show (match lstV m d with
    | some xs => match intsD xs with
      | some is => frI is.sum fun r => some (D.int r, false)
      | none => none
    | none => none) = _
  simp
@[simp] theorem blt_all (d : D) : bltV m .all [d] = match lstV m d with
    | some xs => (blsD xs).map fun is => (.bl (is.all id), false)
    | none => none := rfl
@[simp] theorem blt_any (d : D) : bltV m .any [d] = match lstV m d with
    | some xs => (blsD xs).map fun is => (.bl (is.any id), false)
    | none => none := rfl
@[simp] theorem blt_tupT (xs : List D) : bltV m .tuple [.tup xs] = some (.tup xs, false) := rfl
@[simp] theorem blt_tupL (xs : List D) : bltV m .tuple [.lst xs] = some (.tup xs, false) := rfl
@[simp] theorem blt_tupKL (xs : List D) : bltV m .tuple [.klst xs] = some (.tup xs, false) := rfl
@[simp] theorem blt_list (d : D) : bltV m .list [d] = match seqV m d with
    | some xs => some (.lst xs, true)
    | none => none := rfl
@[simp] theorem lstV_lst (xs : List D) : lstV m (.lst xs) = some xs := rfl
@[simp] theorem lstV_klst (xs : List D) : lstV m (.klst xs) = some xs := rfl
@[simp] theorem lstV_tup (xs : List D) : lstV m (.tup xs) = none := rfl
@[simp] theorem lstV_refE (n : Nat) : lstV m (.ref n) = lsO (nthL m n) := rfl
@[simp] theorem lsO_lst (l : Bool) (xs : List D) : lsO (some (.lst l xs)) = some xs := rfl
@[simp] theorem seqV_lst (xs : List D) : seqV m (.lst xs) = some xs := rfl
@[simp] theorem seqV_klst (xs : List D) : seqV m (.klst xs) = some xs := rfl
@[simp] theorem seqV_tup (xs : List D) : seqV m (.tup xs) = some xs := rfl
@[simp] theorem seqV_ktup (xs : List D) : seqV m (.ktup xs) = some xs := rfl
@[simp] theorem seqV_refE (n : Nat) : seqV m (.ref n) = lsO (nthL m n) := rfl
@[simp] theorem tupV_tup (xs : List D) : tupV (.tup xs) = some xs := rfl
@[simp] theorem tupV_ktup (xs : List D) : tupV (.ktup xs) = some xs := rfl
@[simp] theorem blsD_nil : blsD [] = some [] := rfl
@[simp] theorem blsD_bl (b : Bool) (ds : List D) : blsD (.bl b :: ds) = match blsD ds with
    | some is => some (b :: is)
    | none => none := rfl
@[simp] theorem intsD_nil : intsD [] = some [] := rfl
@[simp] theorem intsD_int (b : Int) (ds : List D) : intsD (.int b :: ds) = match intsD ds with
    | some is => some (b :: is)
    | none => none := rfl
@[simp] theorem intsD_map : ∀ zs : List Int, intsD (zs.map D.int) = some zs
  | [] => rfl
  | z :: zs => by rw [List.map_cons, intsD_int, intsD_map zs]
@[simp] theorem subV_lst (xs : List D) (i : Int) : subV m (.lst xs) (.int i) = match ixAt xs.length i with
  | some k => nthL xs k
  | none => none := rfl
@[simp] theorem subV_tup (xs : List D) (i : Int) : subV m (.tup xs) (.int i) = match ixAt xs.length i with
  | some k => nthL xs k
  | none => none := rfl
@[simp] theorem truV_bl (b : Bool) : truV m (.bl b) = some b := rfl
@[simp] theorem truV_int (b : Int) : truV m (.int b) = some (b != 0) := rfl
@[simp] theorem truV_non : truV m .non = some false := rfl
theorem ixAt_of {n : Nat} {i : Int} (h : 0 ≤ i) (h2 : i < n) : ixAt n i = some i.toNat := by
  have := ixAt_nat (n := n) (i := i.toNat) (by omega)
  rwa [Int.toNat_of_nonneg h] at this
@[simp] theorem tyIs_tup (xs : List D) (t : Ty) : tyIs m (.tup xs) t = some (t == .tuple) := rfl
@[simp] theorem tyIs_lst (xs : List D) (t : Ty) : tyIs m (.lst xs) t = some (t == .list) := rfl
@[simp] theorem tyIs_int (i : Int) (t : Ty) : tyIs m (.int i) t = some (t == .int) := rfl
@[simp] theorem tyIs_bl (i : Bool) (t : Ty) : tyIs m (.bl i) t = some (t == .bool || t == .int) := rfl
@[simp] theorem isRef_lst (xs : List D) : isRef (.lst xs) = false := rfl
@[simp] theorem isRef_tup (xs : List D) : isRef (.tup xs) = false := rfl
@[simp] theorem isRef_klst (xs : List D) : isRef (.klst xs) = false := rfl
@[simp] theorem isRef_ktup (xs : List D) : isRef (.ktup xs) = false := rfl
@[simp] theorem xRep_e (ne : Bool) : xRep ne a b s m = bd (a s m) fun x => if shOk (vwE m x.1) then bd (b s m) fun y => if sameD (vwE m x.1) (vwE m y.1) then rt (.bl (ne ^^ true), false) else none else none := rfl
@[simp] theorem tRep_e (ne : Bool) : tRep ne a b s m = bd (a s m) fun x => if shOk (vwE m x.1) then bd (b s m) fun y => if sameD (vwE m x.1) (vwE m y.1) then rt (ne ^^ true) else none else none := rfl
@[simp] theorem vwE_int (i : Int) : vwE m (.int i) = .int i := rfl
@[simp] theorem vwE_bl (i : Bool) : vwE m (.bl i) = .bl i := rfl
@[simp] theorem vwE_non : vwE m .non = .non := rfl
@[simp] theorem vwE_tup (xs : List D) : vwE m (.tup xs) = .tup xs := rfl
@[simp] theorem vwE_ktup (xs : List D) : vwE m (.ktup xs) = .ktup xs := rfl
@[simp] theorem vwE_lst (xs : List D) : vwE m (.lst xs) = .lst xs := rfl
@[simp] theorem vwE_ref (n : Nat) : vwE m (.ref n) = vwO n (nthL m n) := rfl
@[simp] theorem shOk_bl (k : Bool) : shOk (.bl k) = true := rfl
@[simp] theorem shOk_non : shOk .non = true := rfl
theorem shOk_int {i : Int} (h : i.natAbs < 10000000000000000000000000000000000000000) : shOk (.int i) = true := by
  unfold shOk
  rw [shI, shW]
  show (Nat.blt _ _ && Nat.ble 42 1000000) = true
  rw [show Nat.blt i.natAbs 10000000000000000000000000000000000000000 = true from Nat.ble_eq_true_of_le h]
  rfl
@[simp] theorem same_int (i j : Int) : sameD (.int i) (.int j) = decide (i = j) := by rw [sameD]; exact rfl
@[simp] theorem same_bl (i j : Bool) : sameD (.bl i) (.bl j) = (i == j) := by rw [sameD]
mutual
theorem same_refl : ∀ (n : Nat) (d : D), shI n d = true → sameD d d = true
  | _, .non, _ => by rw [sameD]
  | _, .bl b, _ => by rw [sameD]; simp
  | _, .int i, _ => by rw [sameD]; simp
  | n + 1, .tup xs, h => by rw [sameD]; exact sames_refl n xs (by simpa [shI] using h)
  | n + 1, .ktup xs, h => by rw [sameD]; exact sames_refl n xs (by simpa [shI] using h)
  | n + 1, .lst xs, h => by rw [sameD]; exact sames_refl n xs (by simpa [shI] using h)
  | 0, .tup xs, h => by simp [shI] at h
  | 0, .ktup xs, h => by simp [shI] at h
  | 0, .lst xs, h => by simp [shI] at h
  | n, .str _, h => by cases n <;> simp [shI] at h
  | n, .klst xs, h => by cases n <;> simp [shI] at h
  | n, .dk _ xs, h => by cases n <;> simp [shI] at h
  | n, .dt _ xs, h => by cases n <;> simp [shI] at h
  | n, .ref _, h => by cases n <;> simp [shI] at h
  | n, .exc _ _, h => by cases n <;> simp [shI] at h
theorem sames_refl : ∀ (n : Nat) (ds : List D), shIs n ds = true → sameDs ds ds = true
  | _, [], _ => by rw [sameDs]
  | n, d :: ds, h => by
    rw [shIs, Bool.and_eq_true] at h
    rw [sameDs, same_refl n d h.1, sames_refl n ds h.2]; rfl
end
theorem sameSh {d : D} (h : shOk d = true) : sameD d d = true := by
  unfold shOk at h
  rw [Bool.and_eq_true] at h
  exact same_refl 20 d h.1
@[simp] theorem xIsE_e (i n : Nat) (ks : List Nat) : xIsE i n ks s m = match nthL s i with
  | some (some (.exc k _)) => if Nat.blt k n then rt (.bl (kIn ks k), false) else none
  | _ => none := rfl
@[simp] theorem xFldE_e (i : Nat) (kf : List Nat) : xFldE i kf s m = match nthL s i with
  | some (some (.exc k [f])) => if kIn kf k then rt (f, false) else none
  | _ => none := rfl
@[simp] theorem kIn_nil (k : Nat) : kIn [] k = false := rfl
@[simp] theorem kIn_cons (x : Nat) (xs : List Nat) (k : Nat) : kIn (x :: xs) k = if Nat.beq x k then true else kIn xs k := rfl
@[simp] theorem hNil_e (k : Nat) (fs : List D) : hNil k fs = none := rfl
@[simp] theorem hCons_e (ks : List Nat) (i : Option Nat) (su : Xst) (r : Nat → List D → Option Xst) (k : Nat) (fs : List D) : hCons ks i su r k fs = if kIn ks k then some (sAs i k fs su) else r k fs := rfl
@[simp] theorem sTry_e (n : Nat) (h : Nat → List D → Option Xst) : sTry n p h s m = match p s m with
  | some (.ex x fs s' m') => if Nat.blt x n then match h x fs with
    | some su => su s' m'
    | none => some (.ex x fs s' m')
    else none
  | r => r := rfl
@[simp] theorem sAs_some (x : Nat) (fs : List D) : sAs (some i) x fs p s m = unN i (p (setL s i (some (.exc x fs))) m) := by
  show frL (setL s i (some (.exc x fs))) (fun s => unN i (p s m)) = _
  rw [frL_eq]
@[simp] theorem unN_rt (d : D) (f : Bool) : unN i (some (.rt d f m)) = if clD d && clM m then some (.rt d f m) else none := rfl
@[simp] theorem clD_bl (k : Bool) : clD (.bl k) = true := rfl
@[simp] theorem clD_str (k : Str) : clD (.str k) = true := rfl
@[simp] theorem clD_int (k : Int) : clD (.int k) = true := rfl
@[simp] theorem clM_nil : clM [] = true := rfl
theorem sFor_w0 (g : Xg) (it : Xs) : sFor walk0 g it p s m = bs (it s m) s m fun ds => forV g p ds s m := rfl
theorem sNew_e (i : Nat) : sNew i e s m = bs (e s m) s m fun x => newV i s m x := rfl
theorem newV_e (i : Nat) (xs : List D) : newV i s m (.lst xs, true) = some (.nx (setL s i (some (.ref m.length))) (m ++ [.lst false xs])) := by
  show nxt _ _ = _
  rw [nxt_eq]
@[simp] theorem tyIs_ref (n : Nat) (t : Ty) : tyIs m (.ref n) t = (lsO (nthL m n)).map fun _ => t == .list := rfl
theorem blt_lenRf (n : Nat) : bltV m .len [.ref n] = match lsO (nthL m n) with
    | some xs => some (.int xs.length, false)
    | none => match dkO (nthL m n) with
      | some (ks, _) => some (.int ks.length, false)
      | none => none := by
  show (match lsO (nthL m n) with
    | some xs => frI (xs.length : Int) fun r => some (D.int r, false)
    | none => match dkO (nthL m n) with
      | some (ks, _) => frI (ks.length : Int) fun r => some (D.int r, false)
      | none => none) = _
  cases lsO (nthL m n) with
  | some xs => simp only [frI_eq]
  | none => cases dkO (nthL m n) with
    | none => rfl
    | some p => simp only [frI_eq]
end
end MP
set_option Elab.async false
set_option linter.all false
set_option maxRecDepth 100000
set_option autoImplicit false
set_option maxHeartbeats 4000000
namespace MP
open PySem PySem.Spec PyProof.Rows L2
noncomputable section
def G : List D := [(.int 199), (.int 4), (.ktup [(.int 0), (.int 0), (.int 0), (.int 0)])]
def a_law_row : Ss := (.cons (.new 2 (.lst .nil)) (.cons (.asg (.nm 3) (.blt .abs (.cons (.var 0) .nil))) (.cons (.asg (.nm 4) (.bin .mod (.blt .int (.cons (.bin .add (.bin .mul (.var 3) (.cst (.int 48271))) (.cst (.int 69621))) .nil)) (.cst (.int 2147483647)))) (.cons (.for (.nm 5) (.rng1 (.var 1)) (.cons (.asg (.nm 4) (.bin .mod (.blt .int (.cons (.bin .add (.bin .mul (.var 4) (.cst (.int 16807))) (.bin .mul (.cst (.int 271)) (.bin .add (.var 5) (.cst (.int 3))))) .nil)) (.cst (.int 2147483629)))) (.cons (.ite (.cmp .ge (.blt .abs (.cons (.var 0) .nil)) (.bin .pow (.cst (.int 10)) (.cst (.int 18)))) (.cons (.app (.var 2) (.bin .mod (.blt .int (.cons (.var 3) .nil)) (.cst (.int 1009)))) (.cons (.asg (.nm 3) (.bin .fdiv (.var 3) (.cst (.int 1009)))) .nil)) (.cons (.app (.var 2) (.bin .mod (.blt .int (.cons (.bin .fdiv (.var 4) (.cst (.int 7))) .nil)) (.cst (.int 1009)))) .nil)) .nil))) (.cons (.ret (.var 2)) .nil)))))
def r_law_row (F : Fc) : Xst := (sSeq (sNew 2 (xLst xNil)) (sSeq (sAsg (gNm 3) (xBlt .abs (xCons (xVar 0) xNil))) (sSeq (sAsg (gNm 4) (xBin .mod (xBlt .int (xCons (xBin .add (xBin .mul (xVar 3) (xCst (.int 48271))) (xCst (.int 69621))) xNil)) (xCst (.int 2147483647)))) (sSeq (sFor walk0 (gNm 5) (iRng1 (xVar 1)) (sSeq (sAsg (gNm 4) (xBin .mod (xBlt .int (xCons (xBin .add (xBin .mul (xVar 4) (xCst (.int 16807))) (xBin .mul (xCst (.int 271)) (xBin .add (xVar 5) (xCst (.int 3))))) xNil)) (xCst (.int 2147483629)))) (sSeq (sIte (tCmp .ge (xBlt .abs (xCons (xVar 0) xNil)) (xBin .pow (xCst (.int 10)) (xCst (.int 18)))) (sSeq (sApp (xVar 2) (xBin .mod (xBlt .int (xCons (xVar 3) xNil)) (xCst (.int 1009)))) (sSeq (sAsg (gNm 3) (xBin .fdiv (xVar 3) (xCst (.int 1009)))) sPss)) (sSeq (sApp (xVar 2) (xBin .mod (xBlt .int (xCons (xBin .fdiv (xVar 4) (xCst (.int 7))) xNil)) (xCst (.int 1009)))) sPss)) sPss))) (sSeq (sRet (xVar 2)) sPss)))))
theorem e_law_row (F : Fc) : evSs G F a_law_row = r_law_row F := by rfl
def a_law_numbers : Ss := (.cons (.asg (.nm 2) (.slc (.var 0) .none (.some (.cst (.int 63))))) (.cons (.asg (.nm 3) (.bin .add (.cst (.int 1)) (.bin .fdiv (.var 1) (.blt .max2 (.cons (.cst (.int 1)) (.cons (.blt .len (.cons (.var 2) .nil)) .nil)))))) (.cons (.new 4 (.lst .nil)) (.cons (.for (.nm 5) (.val (.var 2)) (.cons (.for (.nm 6) (.val (.call 0 (.cons (.var 5) (.cons (.var 3) .nil)))) (.cons (.app (.var 4) (.var 6)) .nil)) .nil)) (.cons (.whl (.cmp .lt (.blt .len (.cons (.var 4) .nil)) (.var 1)) (.cons (.app (.var 4) (.cst (.int 0))) .nil)) (.cons (.ret (.slc (.var 4) .none (.some (.var 1)))) .nil))))))
def r_law_numbers (F : Fc) : Xst := (sSeq (sAsg (gNm 2) (xSlc (xVar 0) xO0 (xO1 (xCst (.int 63))))) (sSeq (sAsg (gNm 3) (xBin .add (xCst (.int 1)) (xBin .fdiv (xVar 1) (xBlt .max2 (xCons (xCst (.int 1)) (xCons (xBlt .len (xCons (xVar 2) xNil)) xNil)))))) (sSeq (sNew 4 (xLst xNil)) (sSeq (sFor (walkV 2) (gNm 5) (iVal gdA (xVar 2)) (sSeq (sFor walk0 (gNm 6) (iVal gdN (xCall F 0 (xCons (xVar 5) (xCons (xVar 3) xNil)))) (sSeq (sApp (xVar 4) (xVar 6)) sPss)) sPss)) (sSeq (sWhl (tCmp .lt (xBlt .len (xCons (xVar 4) xNil)) (xVar 1)) (sSeq (sApp (xVar 4) (xCst (.int 0))) sPss)) (sSeq (sRet (xSlc (xVar 4) xO0 (xO1 (xVar 1)))) sPss))))))
theorem e_law_numbers (F : Fc) : evSs G F a_law_numbers = r_law_numbers F := by rfl
def a_law_units : Ss := (.cons (.new 0 (.lst .nil)) (.cons (.for (.nm 1) (.val (.lst (.cons (.neg (.cst (.int 1))) (.cons (.cst (.int 1)) .nil)))) (.cons (.for (.nm 3) (.val (.lst (.cons (.neg (.cst (.int 1))) (.cons (.cst (.int 1)) .nil)))) (.cons (.for (.nm 5) (.val (.lst (.cons (.neg (.cst (.int 1))) (.cons (.cst (.int 1)) .nil)))) (.cons (.new 0 (.bin .add (.var 0) (.lst (.cons (.tup (.cons (.var 1) (.cons (.var 3) (.cons (.var 5) (.cons (.neg (.cst (.int 1))) .nil))))) (.cons (.tup (.cons (.var 1) (.cons (.var 3) (.cons (.var 5) (.cons (.cst (.int 1)) .nil))))) .nil))))) .nil)) .nil)) .nil)) (.cons (.for (.nm 2) (.rng1 (.cst (.int 4))) (.cons (.for (.nm 4) (.val (.lst (.cons (.neg (.cst (.int 2))) (.cons (.cst (.int 2)) .nil)))) (.cons (.app (.var 0) (.blt .tuple (.cons (.comp [6] (.nm 6) (.rng1 (.cst (.int 4))) .none (.bin .mul (.var 4) (.blt .int (.cons (.cmp .eq (.var 6) (.var 2)) .nil)))) .nil))) .nil)) .nil)) (.cons (.ret (.var 0)) .nil))))
def r_law_units (F : Fc) : Xst := (sSeq (sNew 0 (xLst xNil)) (sSeq (sFor walk0 (gNm 1) (iVal gdN (xLst (xCons (xNeg (xCst (.int 1))) (xCons (xCst (.int 1)) xNil)))) (sSeq (sFor walk0 (gNm 3) (iVal gdN (xLst (xCons (xNeg (xCst (.int 1))) (xCons (xCst (.int 1)) xNil)))) (sSeq (sFor walk0 (gNm 5) (iVal gdN (xLst (xCons (xNeg (xCst (.int 1))) (xCons (xCst (.int 1)) xNil)))) (sSeq (sNew 0 (xBin .add (xVar 0) (xLst (xCons (xTup (xCons (xVar 1) (xCons (xVar 3) (xCons (xVar 5) (xCons (xNeg (xCst (.int 1))) xNil))))) (xCons (xTup (xCons (xVar 1) (xCons (xVar 3) (xCons (xVar 5) (xCons (xCst (.int 1)) xNil))))) xNil))))) sPss)) sPss)) sPss)) (sSeq (sFor walk0 (gNm 2) (iRng1 (xCst (.int 4))) (sSeq (sFor walk0 (gNm 4) (iVal gdN (xLst (xCons (xNeg (xCst (.int 2))) (xCons (xCst (.int 2)) xNil)))) (sSeq (sApp (xVar 0) (xBlt .tuple (xCons (xComp [6] (gNm 6) (iRng1 (xCst (.int 4))) tYes (xBin .mul (xVar 4) (xBlt .int (xCons (xCmp .eq (xVar 6) (xVar 2)) xNil)))) xNil))) sPss)) sPss)) (sSeq (sRet (xVar 0)) sPss))))
theorem e_law_units (F : Fc) : evSs G F a_law_units = r_law_units F := by rfl
def a_law_product : Ss := (.cons (.asg (.tp (.cons (.nm 2) (.cons (.nm 3) (.cons (.nm 4) (.cons (.nm 5) .nil))))) (.var 0)) (.cons (.asg (.tp (.cons (.nm 6) (.cons (.nm 7) (.cons (.nm 8) (.cons (.nm 9) .nil))))) (.var 1)) (.cons (.asg (.nm 10) (.bin .sub (.bin .sub (.bin .sub (.bin .mul (.var 2) (.var 6)) (.bin .mul (.var 3) (.var 7))) (.bin .mul (.var 4) (.var 8))) (.bin .mul (.var 5) (.var 9)))) (.cons (.asg (.nm 11) (.bin .sub (.bin .add (.bin .add (.bin .mul (.var 2) (.var 7)) (.bin .mul (.var 3) (.var 6))) (.bin .mul (.var 4) (.var 9))) (.bin .mul (.var 5) (.var 8)))) (.cons (.asg (.nm 12) (.bin .add (.bin .add (.bin .sub (.bin .mul (.var 2) (.var 8)) (.bin .mul (.var 3) (.var 9))) (.bin .mul (.var 4) (.var 6))) (.bin .mul (.var 5) (.var 7)))) (.cons (.asg (.nm 13) (.bin .add (.bin .sub (.bin .add (.bin .mul (.var 2) (.var 9)) (.bin .mul (.var 3) (.var 8))) (.bin .mul (.var 4) (.var 7))) (.bin .mul (.var 5) (.var 6)))) (.cons (.ret (.tup (.cons (.bin .fdiv (.var 10) (.cst (.int 2))) (.cons (.bin .fdiv (.var 11) (.cst (.int 2))) (.cons (.bin .fdiv (.var 12) (.cst (.int 2))) (.cons (.bin .fdiv (.var 13) (.cst (.int 2))) .nil)))))) .nil)))))))
def r_law_product (F : Fc) : Xst := (sSeq (sAsg (gTp (gCons (gNm 2) (gCons (gNm 3) (gCons (gNm 4) (gCons (gNm 5) gNil))))) (xVar 0)) (sSeq (sAsg (gTp (gCons (gNm 6) (gCons (gNm 7) (gCons (gNm 8) (gCons (gNm 9) gNil))))) (xVar 1)) (sSeq (sAsg (gNm 10) (xBin .sub (xBin .sub (xBin .sub (xBin .mul (xVar 2) (xVar 6)) (xBin .mul (xVar 3) (xVar 7))) (xBin .mul (xVar 4) (xVar 8))) (xBin .mul (xVar 5) (xVar 9)))) (sSeq (sAsg (gNm 11) (xBin .sub (xBin .add (xBin .add (xBin .mul (xVar 2) (xVar 7)) (xBin .mul (xVar 3) (xVar 6))) (xBin .mul (xVar 4) (xVar 9))) (xBin .mul (xVar 5) (xVar 8)))) (sSeq (sAsg (gNm 12) (xBin .add (xBin .add (xBin .sub (xBin .mul (xVar 2) (xVar 8)) (xBin .mul (xVar 3) (xVar 9))) (xBin .mul (xVar 4) (xVar 6))) (xBin .mul (xVar 5) (xVar 7)))) (sSeq (sAsg (gNm 13) (xBin .add (xBin .sub (xBin .add (xBin .mul (xVar 2) (xVar 9)) (xBin .mul (xVar 3) (xVar 8))) (xBin .mul (xVar 4) (xVar 7))) (xBin .mul (xVar 5) (xVar 6)))) (sSeq (sRet (xTup (xCons (xBin .fdiv (xVar 10) (xCst (.int 2))) (xCons (xBin .fdiv (xVar 11) (xCst (.int 2))) (xCons (xBin .fdiv (xVar 12) (xCst (.int 2))) (xCons (xBin .fdiv (xVar 13) (xCst (.int 2))) xNil)))))) sPss)))))))
theorem e_law_product (F : Fc) : evSs G F a_law_product = r_law_product F := by rfl
def a_law_letters : Ss := (.cons (.newD 1 false) (.cons (.for (.nm 2) (.rng1 (.bin .mul (.cst (.int 2)) (.var 0))) (.cons (.setI (.var 1) (.bin .mul (.var 2) (.var 2)) (.var 2)) .nil)) (.cons (.asg (.nm 3) (.lst .nil)) (.cons (.for (.nm 4) (.rng2 (.cst (.int 1)) (.bin .mul (.cst (.int 2)) (.var 0))) (.cons (.for (.nm 8) (.rng2 (.bin .mul (.neg (.cst (.int 2))) (.var 0)) (.bin .mul (.cst (.int 2)) (.var 0))) (.cons (.ite (.and (.cons (.cmp .le (.bin .add (.bin .mul (.var 4) (.var 4)) (.bin .mul (.var 8) (.var 8))) (.bin .mul (.cst (.int 4)) (.var 0))) (.one (.cmp .eq (.bin .mod (.blt .int (.cons (.bin .add (.var 4) (.var 8)) .nil)) (.cst (.int 2))) (.cst (.int 0)))))) (.cons (.for (.nm 10) (.rng2 (.bin .mul (.neg (.cst (.int 2))) (.var 0)) (.bin .mul (.cst (.int 2)) (.var 0))) (.cons (.asg (.nm 11) (.bin .sub (.bin .sub (.bin .sub (.bin .mul (.cst (.int 4)) (.var 0)) (.bin .mul (.var 4) (.var 4))) (.bin .mul (.var 8) (.var 8))) (.bin .mul (.var 10) (.var 10)))) (.cons (.ite (.and (.cons (.cmp .isin (.var 11) (.var 1)) (.one (.cmp .eq (.bin .mod (.blt .int (.cons (.bin .add (.var 4) (.var 10)) .nil)) (.cst (.int 2))) (.cst (.int 0)))))) (.cons (.asg (.nm 3) (.bin .add (.var 3) (.lst (.cons (.tup (.cons (.var 4) (.cons (.var 8) (.cons (.var 10) (.cons (.sub (.var 1) (.var 11)) .nil))))) (.cons (.tup (.cons (.var 4) (.cons (.var 8) (.cons (.var 10) (.cons (.neg (.sub (.var 1) (.var 11))) .nil))))) .nil))))) .nil) .nil) .nil))) .nil) .nil) .nil)) .nil)) (.cons (.new 5 (.lst .nil)) (.cons (.newD 6 true) (.cons (.for (.nm 7) (.val (.rev (.blt .sorted (.cons (.var 3) .nil)))) (.cons (.ite (.cmp .notin (.var 7) (.var 6)) (.cons (.app (.var 5) (.var 7)) (.cons (.for (.nm 9) (.val (.call 2 .nil)) (.cons (.setI (.var 6) (.call 3 (.cons (.var 7) (.cons (.var 9) .nil))) (.cst (.bl true))) .nil)) .nil)) .nil) .nil)) (.cons (.ret (.rev (.var 5))) .nil))))))))
def r_law_letters (F : Fc) : Xst := (sSeq (sNewD 1 false) (sSeq (sFor walk0 (gNm 2) (iRng1 (xBin .mul (xCst (.int 2)) (xVar 0))) (sSeq (sSetI (xVar 1) (xBin .mul (xVar 2) (xVar 2)) (xVar 2)) sPss)) (sSeq (sAsg (gNm 3) (xLst xNil)) (sSeq (sFor walk0 (gNm 4) (iRng2 (xCst (.int 1)) (xBin .mul (xCst (.int 2)) (xVar 0))) (sSeq (sFor walk0 (gNm 8) (iRng2 (xBin .mul (xNeg (xCst (.int 2))) (xVar 0)) (xBin .mul (xCst (.int 2)) (xVar 0))) (sSeq (sIte (tAnd (tCmp .le (xBin .add (xBin .mul (xVar 4) (xVar 4)) (xBin .mul (xVar 8) (xVar 8))) (xBin .mul (xCst (.int 4)) (xVar 0))) (tCmp .eq (xBin .mod (xBlt .int (xCons (xBin .add (xVar 4) (xVar 8)) xNil)) (xCst (.int 2))) (xCst (.int 0)))) (sSeq (sFor walk0 (gNm 10) (iRng2 (xBin .mul (xNeg (xCst (.int 2))) (xVar 0)) (xBin .mul (xCst (.int 2)) (xVar 0))) (sSeq (sAsg (gNm 11) (xBin .sub (xBin .sub (xBin .sub (xBin .mul (xCst (.int 4)) (xVar 0)) (xBin .mul (xVar 4) (xVar 4))) (xBin .mul (xVar 8) (xVar 8))) (xBin .mul (xVar 10) (xVar 10)))) (sSeq (sIte (tAnd (tCmp .isin (xVar 11) (xVar 1)) (tCmp .eq (xBin .mod (xBlt .int (xCons (xBin .add (xVar 4) (xVar 10)) xNil)) (xCst (.int 2))) (xCst (.int 0)))) (sSeq (sAsg (gNm 3) (xBin .add (xVar 3) (xLst (xCons (xTup (xCons (xVar 4) (xCons (xVar 8) (xCons (xVar 10) (xCons (xSub (xVar 1) (xVar 11)) xNil))))) (xCons (xTup (xCons (xVar 4) (xCons (xVar 8) (xCons (xVar 10) (xCons (xNeg (xSub (xVar 1) (xVar 11))) xNil))))) xNil))))) sPss) sPss) sPss))) sPss) sPss) sPss)) sPss)) (sSeq (sNew 5 (xLst xNil)) (sSeq (sNewD 6 true) (sSeq (sFor walk0 (gNm 7) (iVal gdN (xRev (xBlt .sorted (xCons (xVar 3) xNil)))) (sSeq (sIte (tCmp .notin (xVar 7) (xVar 6)) (sSeq (sApp (xVar 5) (xVar 7)) (sSeq (sFor walk0 (gNm 9) (iVal gdN (xCall F 2 xNil)) (sSeq (sSetI (xVar 6) (xCall F 3 (xCons (xVar 7) (xCons (xVar 9) xNil))) (xCst (.bl true))) sPss)) sPss)) sPss) sPss)) (sSeq (sRet (xRev (xVar 5))) sPss))))))))
theorem e_law_letters (F : Fc) : evSs G F a_law_letters = r_law_letters F := by rfl
def a_check_prime : Ss := (.cons (.ite (.or (.cons (.not (.chn .le .le (.cst (.int 3)) (.var 0) (.glob 0))) (.one (.tru (.blt .any (.cons (.comp [1] (.nm 1) (.rng2 (.cst (.int 2)) (.bin .add (.blt .isqrt (.cons (.var 0) .nil)) (.cst (.int 1)))) .none (.cmp .eq (.bin .mod (.var 0) (.var 1)) (.cst (.int 0)))) .nil)))))) (.cons .nev .nil) .nil) .nil)
def r_check_prime (F : Fc) : Xst := (sSeq (sIte (tOr (tNot (tChn .le .le (xCst (.int 3)) (xVar 0) (xGlob G 0))) (tTru (xBlt .any (xCons (xComp [1] (gNm 1) (iRng2 (xCst (.int 2)) (xBin .add (xBlt .isqrt (xCons (xVar 0) xNil)) (xCst (.int 1)))) tYes (xCmp .eq (xBin .mod (xVar 0) (xVar 1)) (xCst (.int 0)))) xNil)))) (sSeq sNev sPss) sPss) sPss)
theorem e_check_prime (F : Fc) : evSs G F a_check_prime = r_check_prime F := by rfl
def a_pairs_of : Ss := (.cons (.new 2 (.lst .nil)) (.cons (.asg (.nm 3) (.blt .isqrt (.cons (.var 0) .nil))) (.cons (.for (.nm 4) (.rng2 (.neg (.var 3)) (.bin .add (.var 3) (.cst (.int 1)))) (.cons (.asg (.nm 5) (.bin .sub (.var 0) (.bin .mul (.var 4) (.var 4)))) (.cons (.asg (.nm 6) (.blt .isqrt (.cons (.var 5) .nil))) (.cons (.ite (.and (.cons (.cmp .eq (.bin .mul (.var 6) (.var 6)) (.var 5)) (.cons (.cmp .eq (.bin .mod (.var 4) (.cst (.int 2))) (.var 1)) (.one (.cmp .eq (.bin .mod (.var 6) (.cst (.int 2))) (.var 1)))))) (.cons (.ext (.var 2) (.ite (.cmp .gt (.var 6) (.cst (.int 0))) (.lst (.cons (.tup (.cons (.var 4) (.cons (.var 6) .nil))) (.cons (.tup (.cons (.var 4) (.cons (.neg (.var 6)) .nil))) .nil))) (.lst (.cons (.tup (.cons (.var 4) (.cons (.cst (.int 0)) .nil))) .nil)))) .nil) .nil) .nil)))) (.cons (.ret (.var 2)) .nil))))
def r_pairs_of (F : Fc) : Xst := (sSeq (sNew 2 (xLst xNil)) (sSeq (sAsg (gNm 3) (xBlt .isqrt (xCons (xVar 0) xNil))) (sSeq (sFor walk0 (gNm 4) (iRng2 (xNeg (xVar 3)) (xBin .add (xVar 3) (xCst (.int 1)))) (sSeq (sAsg (gNm 5) (xBin .sub (xVar 0) (xBin .mul (xVar 4) (xVar 4)))) (sSeq (sAsg (gNm 6) (xBlt .isqrt (xCons (xVar 5) xNil))) (sSeq (sIte (tAnd (tCmp .eq (xBin .mul (xVar 6) (xVar 6)) (xVar 5)) (tAnd (tCmp .eq (xBin .mod (xVar 4) (xCst (.int 2))) (xVar 1)) (tCmp .eq (xBin .mod (xVar 6) (xCst (.int 2))) (xVar 1)))) (sSeq (sExt (xVar 2) (xIte (tCmp .gt (xVar 6) (xCst (.int 0))) (xLst (xCons (xTup (xCons (xVar 4) (xCons (xVar 6) xNil))) (xCons (xTup (xCons (xVar 4) (xCons (xNeg (xVar 6)) xNil))) xNil))) (xLst (xCons (xTup (xCons (xVar 4) (xCons (xCst (.int 0)) xNil))) xNil)))) sPss) sPss) sPss)))) (sSeq (sRet (xVar 2)) sPss))))
theorem e_pairs_of (F : Fc) : evSs G F a_pairs_of = r_pairs_of F := by rfl
def a_numbers_of : Ss := (.cons (.new 1 (.lst .nil)) (.cons (.asg (.nm 2) (.blt .isqrt (.cons (.var 0) .nil))) (.cons (.for (.nm 3) (.rng2 (.cst (.int 1)) (.bin .add (.var 2) (.cst (.int 1)))) (.cons (.for (.nm 4) (.rng2 (.neg (.var 2)) (.bin .add (.var 2) (.cst (.int 1)))) (.cons (.asg (.nm 5) (.bin .sub (.bin .sub (.var 0) (.bin .mul (.var 3) (.var 3))) (.bin .mul (.var 4) (.var 4)))) (.cons (.ite (.and (.cons (.cmp .eq (.bin .mod (.bin .add (.var 3) (.var 4)) (.cst (.int 2))) (.cst (.int 0))) (.one (.cmp .ge (.var 5) (.cst (.int 0)))))) (.cons (.ext (.var 1) (.comp [6, 7] (.tp (.cons (.nm 6) (.cons (.nm 7) .nil))) (.val (.call 6 (.cons (.var 5) (.cons (.bin .mod (.var 3) (.cst (.int 2))) .nil)))) .none (.tup (.cons (.var 3) (.cons (.var 4) (.cons (.var 6) (.cons (.var 7) .nil))))))) .nil) .nil) .nil))) .nil)) (.cons (.ret (.var 1)) .nil))))
def r_numbers_of (F : Fc) : Xst := (sSeq (sNew 1 (xLst xNil)) (sSeq (sAsg (gNm 2) (xBlt .isqrt (xCons (xVar 0) xNil))) (sSeq (sFor walk0 (gNm 3) (iRng2 (xCst (.int 1)) (xBin .add (xVar 2) (xCst (.int 1)))) (sSeq (sFor walk0 (gNm 4) (iRng2 (xNeg (xVar 2)) (xBin .add (xVar 2) (xCst (.int 1)))) (sSeq (sAsg (gNm 5) (xBin .sub (xBin .sub (xVar 0) (xBin .mul (xVar 3) (xVar 3))) (xBin .mul (xVar 4) (xVar 4)))) (sSeq (sIte (tAnd (tCmp .eq (xBin .mod (xBin .add (xVar 3) (xVar 4)) (xCst (.int 2))) (xCst (.int 0))) (tCmp .ge (xVar 5) (xCst (.int 0)))) (sSeq (sExt (xVar 1) (xComp [6, 7] (gTp (gCons (gNm 6) (gCons (gNm 7) gNil))) (iVal gdA (xCall F 6 (xCons (xVar 5) (xCons (xBin .mod (xVar 3) (xCst (.int 2))) xNil)))) tYes (xTup (xCons (xVar 3) (xCons (xVar 4) (xCons (xVar 6) (xCons (xVar 7) xNil))))))) sPss) sPss) sPss))) sPss)) (sSeq (sRet (xVar 1)) sPss))))
theorem e_numbers_of (F : Fc) : evSs G F a_numbers_of = r_numbers_of F := by rfl
def a_is_number : Ss := (.cons (.ret (.andV (.cons (.cmp .eq (.blt .len (.cons (.var 0) .nil)) (.glob 1)) (.cons (.cmp .eq (.blt .len (.cons (.dcomp [1] (.nm 1) (.val (.var 0)) .none (.bin .mod (.var 1) (.cst (.int 2))) (.cst (.bl true))) .nil)) (.cst (.int 1))) .nil)))) .nil)
def r_is_number (F : Fc) : Xst := (sSeq (sRet (xAnd2 (xCmp .eq (xBlt .len (xCons (xVar 0) xNil)) (xGlob G 1)) (xCmp .eq (xBlt .len (xCons (xDc [1] (gNm 1) (iVal gdA (xVar 0)) tYes (xBin .mod (xVar 1) (xCst (.int 2))) (xCst (.bl true))) xNil)) (xCst (.int 1))))) sPss)
theorem e_is_number (F : Fc) : evSs G F a_is_number = r_is_number F := by rfl
def a_check_number : Ss := (.cons (.ite (.not (.tru (.call 8 (.cons (.var 0) .nil)))) (.cons .nev .nil) .nil) .nil)
def r_check_number (F : Fc) : Xst := (sSeq (sIte (tNot (tTru (xCall F 8 (xCons (xVar 0) xNil)))) (sSeq sNev sPss) sPss) sPss)
theorem e_check_number (F : Fc) : evSs G F a_check_number = r_check_number F := by rfl
def a_check_not_zero : Ss := (.cons (.expr (.call 9 (.cons (.var 0) .nil))) (.cons (.ite (.cmp .eq (.blt .tuple (.cons (.var 0) .nil)) (.glob 2)) (.cons .nev .nil) .nil) .nil))
def r_check_not_zero (F : Fc) : Xst := (sSeq (sExpr (xCall F 9 (xCons (xVar 0) xNil))) (sSeq (sIte (tCmp .eq (xBlt .tuple (xCons (xVar 0) xNil)) (xGlob G 2)) (sSeq sNev sPss) sPss) sPss))
theorem e_check_not_zero (F : Fc) : evSs G F a_check_not_zero = r_check_not_zero F := by rfl
def a_product : Ss := (.cons (.expr (.call 9 (.cons (.var 0) .nil))) (.cons (.expr (.call 9 (.cons (.var 1) .nil))) (.cons (.asg (.tp (.cons (.nm 2) (.cons (.nm 3) (.cons (.nm 4) (.cons (.nm 5) .nil))))) (.var 0)) (.cons (.asg (.tp (.cons (.nm 6) (.cons (.nm 7) (.cons (.nm 8) (.cons (.nm 9) .nil))))) (.var 1)) (.cons (.asg (.nm 10) (.tup (.cons (.bin .sub (.bin .sub (.bin .sub (.bin .mul (.var 2) (.var 6)) (.bin .mul (.var 3) (.var 7))) (.bin .mul (.var 4) (.var 8))) (.bin .mul (.var 5) (.var 9))) (.cons (.bin .sub (.bin .add (.bin .add (.bin .mul (.var 2) (.var 7)) (.bin .mul (.var 3) (.var 6))) (.bin .mul (.var 4) (.var 9))) (.bin .mul (.var 5) (.var 8))) (.cons (.bin .add (.bin .add (.bin .sub (.bin .mul (.var 2) (.var 8)) (.bin .mul (.var 3) (.var 9))) (.bin .mul (.var 4) (.var 6))) (.bin .mul (.var 5) (.var 7))) (.cons (.bin .add (.bin .sub (.bin .add (.bin .mul (.var 2) (.var 9)) (.bin .mul (.var 3) (.var 8))) (.bin .mul (.var 4) (.var 7))) (.bin .mul (.var 5) (.var 6))) .nil)))))) (.cons (.ret (.blt .tuple (.cons (.comp [11] (.nm 11) (.val (.var 10)) .none (.bin .fdiv (.var 11) (.cst (.int 2)))) .nil))) .nil))))))
def r_product (F : Fc) : Xst := (sSeq (sExpr (xCall F 9 (xCons (xVar 0) xNil))) (sSeq (sExpr (xCall F 9 (xCons (xVar 1) xNil))) (sSeq (sAsg (gTp (gCons (gNm 2) (gCons (gNm 3) (gCons (gNm 4) (gCons (gNm 5) gNil))))) (xVar 0)) (sSeq (sAsg (gTp (gCons (gNm 6) (gCons (gNm 7) (gCons (gNm 8) (gCons (gNm 9) gNil))))) (xVar 1)) (sSeq (sAsg (gNm 10) (xTup (xCons (xBin .sub (xBin .sub (xBin .sub (xBin .mul (xVar 2) (xVar 6)) (xBin .mul (xVar 3) (xVar 7))) (xBin .mul (xVar 4) (xVar 8))) (xBin .mul (xVar 5) (xVar 9))) (xCons (xBin .sub (xBin .add (xBin .add (xBin .mul (xVar 2) (xVar 7)) (xBin .mul (xVar 3) (xVar 6))) (xBin .mul (xVar 4) (xVar 9))) (xBin .mul (xVar 5) (xVar 8))) (xCons (xBin .add (xBin .add (xBin .sub (xBin .mul (xVar 2) (xVar 8)) (xBin .mul (xVar 3) (xVar 9))) (xBin .mul (xVar 4) (xVar 6))) (xBin .mul (xVar 5) (xVar 7))) (xCons (xBin .add (xBin .sub (xBin .add (xBin .mul (xVar 2) (xVar 9)) (xBin .mul (xVar 3) (xVar 8))) (xBin .mul (xVar 4) (xVar 7))) (xBin .mul (xVar 5) (xVar 6))) xNil)))))) (sSeq (sRet (xBlt .tuple (xCons (xComp [11] (gNm 11) (iVal gdA (xVar 10)) tYes (xBin .fdiv (xVar 11) (xCst (.int 2)))) xNil))) sPss))))))
theorem e_product (F : Fc) : evSs G F a_product = r_product F := by rfl
def a_units : Ss := (.cons (.newC 0 (.compN [2, 3, 4, 5] [2] (.nm 2) (.val (.tup (.cons (.neg (.cst (.int 1))) (.cons (.cst (.int 1)) .nil)))) .none (.cons [3] (.nm 3) (.val (.tup (.cons (.neg (.cst (.int 1))) (.cons (.cst (.int 1)) .nil)))) .none (.cons [4] (.nm 4) (.val (.tup (.cons (.neg (.cst (.int 1))) (.cons (.cst (.int 1)) .nil)))) .none (.cons [5] (.nm 5) (.val (.tup (.cons (.neg (.cst (.int 1))) (.cons (.cst (.int 1)) .nil)))) .none .nil))) (.tup (.cons (.var 2) (.cons (.var 3) (.cons (.var 4) (.cons (.var 5) .nil))))))) (.cons (.for (.nm 1) (.rng1 (.glob 1)) (.cons (.for (.nm 6) (.val (.tup (.cons (.neg (.cst (.int 2))) (.cons (.cst (.int 2)) .nil)))) (.cons (.app (.var 0) (.blt .tuple (.cons (.comp [7] (.nm 7) (.rng1 (.glob 1)) .none (.ite (.cmp .eq (.var 7) (.var 1)) (.var 6) (.cst (.int 0)))) .nil))) .nil)) .nil)) (.cons (.ret (.blt .sorted (.cons (.var 0) .nil))) .nil)))
def r_units (F : Fc) : Xst := (sSeq (sNew 0 (xCompN [2, 3, 4, 5] [2] (gNm 2) (iVal gdA (xTup (xCons (xNeg (xCst (.int 1))) (xCons (xCst (.int 1)) xNil)))) tYes (xInN [3] (gNm 3) (iVal gdA (xTup (xCons (xNeg (xCst (.int 1))) (xCons (xCst (.int 1)) xNil)))) tYes (xInN [4] (gNm 4) (iVal gdA (xTup (xCons (xNeg (xCst (.int 1))) (xCons (xCst (.int 1)) xNil)))) tYes (xInN [5] (gNm 5) (iVal gdA (xTup (xCons (xNeg (xCst (.int 1))) (xCons (xCst (.int 1)) xNil)))) tYes (xOne (xTup (xCons (xVar 2) (xCons (xVar 3) (xCons (xVar 4) (xCons (xVar 5) xNil))))))))))) (sSeq (sFor walk0 (gNm 1) (iRng1 (xGlob G 1)) (sSeq (sFor walk0 (gNm 6) (iVal gdN (xTup (xCons (xNeg (xCst (.int 2))) (xCons (xCst (.int 2)) xNil)))) (sSeq (sApp (xVar 0) (xBlt .tuple (xCons (xComp [7] (gNm 7) (iRng1 (xGlob G 1)) tYes (xIte (tCmp .eq (xVar 7) (xVar 1)) (xVar 6) (xCst (.int 0)))) xNil))) sPss)) sPss)) (sSeq (sRet (xBlt .sorted (xCons (xVar 0) xNil))) sPss)))
theorem e_units (F : Fc) : evSs G F a_units = r_units F := by rfl
def a_associates : Ss := (.cons (.expr (.call 10 (.cons (.var 0) .nil))) (.cons (.ret (.blt .sorted (.cons (.comp [1] (.nm 1) (.val (.call 12 .nil)) .none (.call 11 (.cons (.var 0) (.cons (.var 1) .nil)))) .nil))) .nil))
def r_associates (F : Fc) : Xst := (sSeq (sExpr (xCall F 10 (xCons (xVar 0) xNil))) (sSeq (sRet (xBlt .sorted (xCons (xComp [1] (gNm 1) (iVal gdA (xCall F 12 xNil)) tYes (xCall F 11 (xCons (xVar 0) (xCons (xVar 1) xNil)))) xNil))) sPss))
theorem e_associates (F : Fc) : evSs G F a_associates = r_associates F := by rfl
def a_letters : Ss := (.cons (.expr (.call 5 (.cons (.var 0) .nil))) (.cons (.new 1 (.lst .nil)) (.cons (.newD 2 true) (.cons (.for (.nm 3) (.val (.srtR (.call 7 (.cons (.bin .mul (.cst (.int 4)) (.var 0)) .nil)))) (.cons (.ite (.cmp .notin (.var 3) (.var 2)) (.cons (.app (.var 1) (.var 3)) (.cons (.for (.nm 4) (.val (.call 13 (.cons (.var 3) .nil))) (.cons (.setI (.var 2) (.var 4) (.cst (.bl true))) .nil)) .nil)) .nil) .nil)) (.cons (.ret (.rev (.var 1))) .nil)))))
def r_letters (F : Fc) : Xst := (sSeq (sExpr (xCall F 5 (xCons (xVar 0) xNil))) (sSeq (sNew 1 (xLst xNil)) (sSeq (sNewD 2 true) (sSeq (sFor walk0 (gNm 3) (iVal gdN (xSrtR (xCall F 7 (xCons (xBin .mul (xCst (.int 4)) (xVar 0)) xNil)))) (sSeq (sIte (tCmp .notin (xVar 3) (xVar 2)) (sSeq (sApp (xVar 1) (xVar 3)) (sSeq (sFor walk0 (gNm 4) (iVal gdN (xCall F 13 (xCons (xVar 3) xNil))) (sSeq (sSetI (xVar 2) (xVar 4) (xCst (.bl true))) sPss)) sPss)) sPss) sPss)) (sSeq (sRet (xRev (xVar 1))) sPss)))))
theorem e_letters (F : Fc) : evSs G F a_letters = r_letters F := by rfl
def a_check_word : Ss := (.cons (.expr (.call 5 (.cons (.var 0) .nil))) (.cons (.for (.nm 2) (.val (.var 1)) (.cons (.ite (.or (.cons (.tru (.inst (.var 2) .bool)) (.one (.not (.chn .le .le (.cst (.int 1)) (.var 2) (.bin .add (.var 0) (.cst (.int 1)))))))) (.cons .nev .nil) .nil) .nil)) .nil))
def r_check_word (F : Fc) : Xst := (sSeq (sExpr (xCall F 5 (xCons (xVar 0) xNil))) (sSeq (sFor (walkV 1) (gNm 2) (iVal gdA (xVar 1)) (sSeq (sIte (tOr (tTru (xInst (xVar 2) .bool)) (tNot (tChn .le .le (xCst (.int 1)) (xVar 2) (xBin .add (xVar 0) (xCst (.int 1)))))) (sSeq sNev sPss) sPss) sPss)) sPss))
theorem e_check_word (F : Fc) : evSs G F a_check_word = r_check_word F := by rfl
def a_canonical : Ss := (.cons (.ret (.sub (.call 13 (.cons (.var 0) .nil)) (.neg (.cst (.int 1))))) .nil)
def r_canonical (F : Fc) : Xst := (sSeq (sRet (xSub (xCall F 13 (xCons (xVar 0) xNil)) (xNeg (xCst (.int 1))))) sPss)
theorem e_canonical (F : Fc) : evSs G F a_canonical = r_canonical F := by rfl
def a_conjugate : Ss := (.cons (.expr (.call 9 (.cons (.var 0) .nil))) (.cons (.asg (.tp (.cons (.nm 1) (.cons (.nm 2) (.cons (.nm 3) (.cons (.nm 4) .nil))))) (.var 0)) (.cons (.ret (.tup (.cons (.var 1) (.cons (.neg (.var 2)) (.cons (.neg (.var 3)) (.cons (.neg (.var 4)) .nil)))))) .nil)))
def r_conjugate (F : Fc) : Xst := (sSeq (sExpr (xCall F 9 (xCons (xVar 0) xNil))) (sSeq (sAsg (gTp (gCons (gNm 1) (gCons (gNm 2) (gCons (gNm 3) (gCons (gNm 4) gNil))))) (xVar 0)) (sSeq (sRet (xTup (xCons (xVar 1) (xCons (xNeg (xVar 2)) (xCons (xNeg (xVar 3)) (xCons (xNeg (xVar 4)) xNil)))))) sPss)))
theorem e_conjugate (F : Fc) : evSs G F a_conjugate = r_conjugate F := by rfl
def a_partners_of : Ss := (.cons (.asg (.nm 1) (.call 14 (.cons (.var 0) .nil))) (.cons (.ret (.comp [2] (.nm 2) (.val (.var 1)) .none (.bin .add (.mth .index (.var 1) (.cons (.call 16 (.cons (.call 17 (.cons (.var 2) .nil)) .nil)) .nil)) (.cst (.int 1))))) .nil))
def r_partners_of (F : Fc) : Xst := (sSeq (sAsg (gNm 1) (xCall F 14 (xCons (xVar 0) xNil))) (sSeq (sRet (xComp [2] (gNm 2) (iVal gdA (xVar 1)) tYes (xBin .add (xMth .index (xVar 1) (xCons (xCall F 16 (xCons (xCall F 17 (xCons (xVar 2) xNil)) xNil)) xNil)) (xCst (.int 1))))) sPss))
theorem e_partners_of (F : Fc) : evSs G F a_partners_of = r_partners_of F := by rfl
def a_partner : Ss := (.cons (.expr (.call 15 (.cons (.var 0) (.cons (.lst (.cons (.var 1) .nil)) .nil)))) (.cons (.ret (.sub (.call 18 (.cons (.var 0) .nil)) (.bin .sub (.var 1) (.cst (.int 1))))) .nil))
def r_partner (F : Fc) : Xst := (sSeq (sExpr (xCall F 15 (xCons (xVar 0) (xCons (xLst (xCons (xVar 1) xNil)) xNil)))) (sSeq (sRet (xSub (xCall F 18 (xCons (xVar 0) xNil)) (xBin .sub (xVar 1) (xCst (.int 1))))) sPss))
theorem e_partner (F : Fc) : evSs G F a_partner = r_partner F := by rfl
def a_law_greatest : Ss := (.cons (.ret (.blt .max1 (.cons (.comp [1] (.nm 1) (.val (.call 2 .nil)) .none (.call 3 (.cons (.var 0) (.cons (.var 1) .nil)))) .nil))) .nil)
def r_law_greatest (F : Fc) : Xst := (sSeq (sRet (xBlt .max1 (xCons (xComp [1] (gNm 1) (iVal gdA (xCall F 2 xNil)) tYes (xCall F 3 (xCons (xVar 0) (xCons (xVar 1) xNil)))) xNil))) sPss)
theorem e_law_greatest (F : Fc) : evSs G F a_law_greatest = r_law_greatest F := by rfl
def a_law_turned : Ss := (.cons (.ret (.tup (.cons (.sub (.var 0) (.cst (.int 0))) (.cons (.neg (.sub (.var 0) (.cst (.int 1)))) (.cons (.neg (.sub (.var 0) (.cst (.int 2)))) (.cons (.neg (.sub (.var 0) (.cst (.int 3)))) .nil)))))) .nil)
def r_law_turned (F : Fc) : Xst := (sSeq (sRet (xTup (xCons (xSub (xVar 0) (xCst (.int 0))) (xCons (xNeg (xSub (xVar 0) (xCst (.int 1)))) (xCons (xNeg (xSub (xVar 0) (xCst (.int 2)))) (xCons (xNeg (xSub (xVar 0) (xCst (.int 3)))) xNil)))))) sPss)
theorem e_law_turned (F : Fc) : evSs G F a_law_turned = r_law_turned F := by rfl
def a_law_partner : Ss := (.cons (.ret (.bin .add (.mth .index (.var 0) (.cons (.call 20 (.cons (.call 21 (.cons (.sub (.var 0) (.bin .sub (.var 1) (.cst (.int 1)))) .nil)) .nil)) .nil)) (.cst (.int 1)))) .nil)
def r_law_partner (F : Fc) : Xst := (sSeq (sRet (xBin .add (xMth .index (xVar 0) (xCons (xCall F 20 (xCons (xCall F 21 (xCons (xSub (xVar 0) (xBin .sub (xVar 1) (xCst (.int 1)))) xNil)) xNil)) xNil)) (xCst (.int 1)))) sPss)
theorem e_law_partner (F : Fc) : evSs G F a_law_partner = r_law_partner F := by rfl
def a_law : Ss := (.cons (.asg (.nm 1) (.call 1 (.cons (.var 0) (.cons (.cst (.int 10)) .nil)))) (.cons (.asg (.nm 2) (.sub (.lst (.cons (.cst (.int 3)) (.cons (.cst (.int 5)) (.cons (.cst (.int 3)) (.cons (.cst (.int 7)) (.cons (.cst (.int 5)) (.cons (.cst (.int 3)) (.cons (.cst (.int 11)) (.cons (.cst (.int 7)) (.cons (.cst (.int 13)) (.cons (.cst (.int 17)) .nil))))))))))) (.bin .mod (.blt .int (.cons (.sub (.var 1) (.cst (.int 0))) .nil)) (.cst (.int 10))))) (.cons (.asg (.nm 3) (.call 4 (.cons (.var 2) .nil))) (.cons (.for (.nm 4) (.rng1 (.cst (.int 2))) (.cons (.new 6 (.call 14 (.cons (.var 2) .nil))) (.cons (.ite (.or (.cons (.not (.tru (.inst (.var 6) .list))) (.cons (.repC true (.var 6) (.var 3)) (.one (.cmp .ne (.blt .len (.cons (.var 6) .nil)) (.bin .add (.var 2) (.cst (.int 1)))))))) (.cons (.ret (.cst (.bl false))) .nil) .nil) (.cons (.app (.var 6) (.cst .non)) .nil)))) (.cons (.for (.nm 5) (.rng1 (.cst (.int 2))) (.cons (.asg (.nm 7) (.bin .add (.cst (.int 1)) (.bin .mod (.blt .int (.cons (.sub (.var 1) (.bin .add (.cst (.int 1)) (.var 5))) .nil)) (.bin .add (.var 2) (.cst (.int 1)))))) (.cons (.ite (.repC true (.call 19 (.cons (.var 2) (.cons (.var 7) .nil))) (.call 22 (.cons (.var 3) (.cons (.var 7) .nil)))) (.cons (.ret (.cst (.bl false))) .nil) .nil) .nil))) (.cons (.ret (.cst (.bl true))) .nil))))))
def r_law (F : Fc) : Xst := (sSeq (sAsg (gNm 1) (xCall F 1 (xCons (xVar 0) (xCons (xCst (.int 10)) xNil)))) (sSeq (sAsg (gNm 2) (xSub (xLst (xCons (xCst (.int 3)) (xCons (xCst (.int 5)) (xCons (xCst (.int 3)) (xCons (xCst (.int 7)) (xCons (xCst (.int 5)) (xCons (xCst (.int 3)) (xCons (xCst (.int 11)) (xCons (xCst (.int 7)) (xCons (xCst (.int 13)) (xCons (xCst (.int 17)) xNil))))))))))) (xBin .mod (xBlt .int (xCons (xSub (xVar 1) (xCst (.int 0))) xNil)) (xCst (.int 10))))) (sSeq (sAsg (gNm 3) (xCall F 4 (xCons (xVar 2) xNil))) (sSeq (sFor walk0 (gNm 4) (iRng1 (xCst (.int 2))) (sSeq (sNew 6 (xCall F 14 (xCons (xVar 2) xNil))) (sSeq (sIte (tOr (tNot (tTru (xInst (xVar 6) .list))) (tOr (tRep true (xVar 6) (xVar 3)) (tCmp .ne (xBlt .len (xCons (xVar 6) xNil)) (xBin .add (xVar 2) (xCst (.int 1)))))) (sSeq (sRet (xCst (.bl false))) sPss) sPss) (sSeq (sApp (xVar 6) (xCst .non)) sPss)))) (sSeq (sFor walk0 (gNm 5) (iRng1 (xCst (.int 2))) (sSeq (sAsg (gNm 7) (xBin .add (xCst (.int 1)) (xBin .mod (xBlt .int (xCons (xSub (xVar 1) (xBin .add (xCst (.int 1)) (xVar 5))) xNil)) (xBin .add (xVar 2) (xCst (.int 1)))))) (sSeq (sIte (tRep true (xCall F 19 (xCons (xVar 2) (xCons (xVar 7) xNil))) (xCall F 22 (xCons (xVar 3) (xCons (xVar 7) xNil)))) (sSeq (sRet (xCst (.bl false))) sPss) sPss) sPss))) (sSeq (sRet (xCst (.bl true))) sPss))))))
theorem e_law (F : Fc) : evSs G F a_law = r_law F := by rfl
def tl_law_5 (F : Fc) : Xst := (sSeq (sRet (xCst (.bl true))) sPss)
def tl_law_4 (F : Fc) : Xst := (sSeq (sFor walk0 (gNm 5) (iRng1 (xCst (.int 2))) (sSeq (sAsg (gNm 7) (xBin .add (xCst (.int 1)) (xBin .mod (xBlt .int (xCons (xSub (xVar 1) (xBin .add (xCst (.int 1)) (xVar 5))) xNil)) (xBin .add (xVar 2) (xCst (.int 1)))))) (sSeq (sIte (tRep true (xCall F 19 (xCons (xVar 2) (xCons (xVar 7) xNil))) (xCall F 22 (xCons (xVar 3) (xCons (xVar 7) xNil)))) (sSeq (sRet (xCst (.bl false))) sPss) sPss) sPss))) (tl_law_5 F))
def tl_law_3 (F : Fc) : Xst := (sSeq (sFor walk0 (gNm 4) (iRng1 (xCst (.int 2))) (sSeq (sNew 6 (xCall F 14 (xCons (xVar 2) xNil))) (sSeq (sIte (tOr (tNot (tTru (xInst (xVar 6) .list))) (tOr (tRep true (xVar 6) (xVar 3)) (tCmp .ne (xBlt .len (xCons (xVar 6) xNil)) (xBin .add (xVar 2) (xCst (.int 1)))))) (sSeq (sRet (xCst (.bl false))) sPss) sPss) (sSeq (sApp (xVar 6) (xCst .non)) sPss)))) (tl_law_4 F))
def tl_law_2 (F : Fc) : Xst := (sSeq (sAsg (gNm 3) (xCall F 4 (xCons (xVar 2) xNil))) (tl_law_3 F))
def tl_law_1 (F : Fc) : Xst := (sSeq (sAsg (gNm 2) (xSub (xLst (xCons (xCst (.int 3)) (xCons (xCst (.int 5)) (xCons (xCst (.int 3)) (xCons (xCst (.int 7)) (xCons (xCst (.int 5)) (xCons (xCst (.int 3)) (xCons (xCst (.int 11)) (xCons (xCst (.int 7)) (xCons (xCst (.int 13)) (xCons (xCst (.int 17)) xNil))))))))))) (xBin .mod (xBlt .int (xCons (xSub (xVar 1) (xCst (.int 0))) xNil)) (xCst (.int 10))))) (tl_law_2 F))
theorem tl_law_0 (F : Fc) : r_law F = sSeq (sAsg (gNm 1) (xCall F 1 (xCons (xVar 0) (xCons (xCst (.int 10)) xNil)))) (tl_law_1 F) := by rfl
def f_law_row : Fn := ⟨2, 6, r_law_row⟩
abbrev i_law_row : Nat := 0
def f_law_numbers : Fn := ⟨2, 7, r_law_numbers⟩
abbrev i_law_numbers : Nat := 1
def f_law_units : Fn := ⟨0, 7, r_law_units⟩
abbrev i_law_units : Nat := 2
def f_law_product : Fn := ⟨2, 14, r_law_product⟩
abbrev i_law_product : Nat := 3
def f_law_letters : Fn := ⟨1, 12, r_law_letters⟩
abbrev i_law_letters : Nat := 4
def f_check_prime : Fn := ⟨1, 2, r_check_prime⟩
abbrev i_check_prime : Nat := 5
def f_pairs_of : Fn := ⟨2, 7, r_pairs_of⟩
abbrev i_pairs_of : Nat := 6
def f_numbers_of : Fn := ⟨1, 8, r_numbers_of⟩
abbrev i_numbers_of : Nat := 7
def f_is_number : Fn := ⟨1, 2, r_is_number⟩
abbrev i_is_number : Nat := 8
def f_check_number : Fn := ⟨1, 1, r_check_number⟩
abbrev i_check_number : Nat := 9
def f_check_not_zero : Fn := ⟨1, 1, r_check_not_zero⟩
abbrev i_check_not_zero : Nat := 10
def f_product : Fn := ⟨2, 12, r_product⟩
abbrev i_product : Nat := 11
def f_units : Fn := ⟨0, 8, r_units⟩
abbrev i_units : Nat := 12
def f_associates : Fn := ⟨1, 2, r_associates⟩
abbrev i_associates : Nat := 13
def f_letters : Fn := ⟨1, 5, r_letters⟩
abbrev i_letters : Nat := 14
def f_check_word : Fn := ⟨2, 3, r_check_word⟩
abbrev i_check_word : Nat := 15
def f_canonical : Fn := ⟨1, 1, r_canonical⟩
abbrev i_canonical : Nat := 16
def f_conjugate : Fn := ⟨1, 5, r_conjugate⟩
abbrev i_conjugate : Nat := 17
def f_partners_of : Fn := ⟨1, 3, r_partners_of⟩
abbrev i_partners_of : Nat := 18
def f_partner : Fn := ⟨2, 2, r_partner⟩
abbrev i_partner : Nat := 19
def f_law_greatest : Fn := ⟨1, 2, r_law_greatest⟩
abbrev i_law_greatest : Nat := 20
def f_law_turned : Fn := ⟨1, 1, r_law_turned⟩
abbrev i_law_turned : Nat := 21
def f_law_partner : Fn := ⟨2, 2, r_law_partner⟩
abbrev i_law_partner : Nat := 22
def f_law : Fn := ⟨1, 8, r_law⟩
abbrev i_law : Nat := 23
def pg : Pg := ⟨G, [f_law_row, f_law_numbers, f_law_units, f_law_product, f_law_letters, f_check_prime, f_pairs_of, f_numbers_of, f_is_number, f_check_number, f_check_not_zero, f_product, f_units, f_associates, f_letters, f_check_word, f_canonical, f_conjugate, f_partners_of, f_partner, f_law_greatest, f_law_turned, f_law_partner, f_law]⟩
def topS (i : Nat) : PySem.Stmt := PySem.Challenge.pw_turnprimes_k69_letters.main.body.getD i (.Pass ⟨0, 0, 0, 0⟩)
abbrev s_law_row : PySem.Stmt := topS 27
def t_law_row : FT := ⟨"_law_row", s_law_row, ["_law_cell", "_law_many"], ["_law_cell", "_law_many", "_law_row_here", "_law_rest", "_law_mixed", "_law_k"], a_law_row⟩
abbrev s_law_numbers : PySem.Stmt := topS 28
def t_law_numbers : FT := ⟨"_law_numbers", s_law_numbers, ["_law_script", "_law_many"], ["_law_script", "_law_many", "_law_cells", "_law_each", "_law_numbers_here", "_law_cell", "_law_number"], a_law_numbers⟩
abbrev s_law_units : PySem.Stmt := topS 32
def t_law_units : FT := ⟨"_law_units", s_law_units, [], ["_law_found", "_law_a", "_law_k", "_law_b", "_law_part", "_law_c", "_law_j"], a_law_units⟩
abbrev s_law_product : PySem.Stmt := topS 29
def t_law_product : FT := ⟨"_law_product", s_law_product, ["_law_one", "_law_other"], ["_law_one", "_law_other", "_law_a", "_law_b", "_law_c", "_law_d", "_law_e", "_law_f", "_law_g", "_law_h", "_law_first", "_law_second", "_law_third", "_law_fourth"], a_law_product⟩
abbrev s_law_letters : PySem.Stmt := topS 35
def t_law_letters : FT := ⟨"_law_letters", s_law_letters, ["_law_prime"], ["_law_prime", "_law_roots", "_law_d", "_law_rows", "_law_a", "_law_found", "_law_known", "_law_row_here", "_law_b", "_law_unit", "_law_c", "_law_rest"], a_law_letters⟩
abbrev s_check_prime : PySem.Stmt := topS 19
def t_check_prime : FT := ⟨"check_prime", s_check_prime, ["prime"], ["prime", "divisor"], a_check_prime⟩
abbrev s_pairs_of : PySem.Stmt := topS 21
def t_pairs_of : FT := ⟨"pairs_of", s_pairs_of, ["size", "parity"], ["size", "parity", "found", "most", "c", "left", "d"], a_pairs_of⟩
abbrev s_numbers_of : PySem.Stmt := topS 20
def t_numbers_of : FT := ⟨"numbers_of", s_numbers_of, ["size"], ["size", "found", "most", "a", "b", "rest", "c", "d"], a_numbers_of⟩
abbrev s_is_number : PySem.Stmt := topS 9
def t_is_number : FT := ⟨"is_number", s_is_number, ["number"], ["number", "part"], a_is_number⟩
abbrev s_check_number : PySem.Stmt := topS 10
def t_check_number : FT := ⟨"check_number", s_check_number, ["number"], ["number"], a_check_number⟩
abbrev s_check_not_zero : PySem.Stmt := topS 11
def t_check_not_zero : FT := ⟨"check_not_zero", s_check_not_zero, ["number"], ["number"], a_check_not_zero⟩
abbrev s_product : PySem.Stmt := topS 13
def t_product : FT := ⟨"product", s_product, ["one", "other"], ["one", "other", "a", "b", "c", "d", "e", "f", "g", "h", "parts", "part"], a_product⟩
abbrev s_units : PySem.Stmt := topS 14
def t_units : FT := ⟨"units", s_units, [], ["found", "place", "a", "b", "c", "d", "part", "at"], a_units⟩
abbrev s_associates : PySem.Stmt := topS 15
def t_associates : FT := ⟨"associates", s_associates, ["number"], ["number", "unit"], a_associates⟩
abbrev s_letters : PySem.Stmt := topS 22
def t_letters : FT := ⟨"letters", s_letters, ["prime"], ["prime", "found", "known", "number", "other"], a_letters⟩
abbrev s_check_word : PySem.Stmt := topS 23
def t_check_word : FT := ⟨"check_word", s_check_word, ["prime", "word"], ["prime", "word", "letter"], a_check_word⟩
abbrev s_canonical : PySem.Stmt := topS 16
def t_canonical : FT := ⟨"canonical", s_canonical, ["number"], ["number"], a_canonical⟩
abbrev s_conjugate : PySem.Stmt := topS 12
def t_conjugate : FT := ⟨"conjugate", s_conjugate, ["number"], ["number", "a", "b", "c", "d"], a_conjugate⟩
abbrev s_partners_of : PySem.Stmt := topS 24
def t_partners_of : FT := ⟨"partners_of", s_partners_of, ["prime"], ["prime", "known", "number"], a_partners_of⟩
abbrev s_partner : PySem.Stmt := topS 25
def t_partner : FT := ⟨"partner", s_partner, ["prime", "letter"], ["prime", "letter"], a_partner⟩
abbrev s_law_greatest : PySem.Stmt := topS 33
def t_law_greatest : FT := ⟨"_law_greatest", s_law_greatest, ["_law_number"], ["_law_number", "_law_unit"], a_law_greatest⟩
abbrev s_law_turned : PySem.Stmt := topS 30
def t_law_turned : FT := ⟨"_law_turned", s_law_turned, ["_law_number"], ["_law_number"], a_law_turned⟩
abbrev s_law_partner : PySem.Stmt := topS 36
def t_law_partner : FT := ⟨"_law_partner", s_law_partner, ["_law_known", "_law_letter"], ["_law_known", "_law_letter"], a_law_partner⟩
abbrev s_law : PySem.Stmt := topS 38
def t_law : FT := ⟨"law", s_law, ["_law_script"], ["_law_script", "_law_numbers_here", "_law_prime", "_law_known", "_law_turn", "_law_k", "_law_told", "_law_letter"], a_law⟩
def fts : List FT := [t_law_row, t_law_numbers, t_law_units, t_law_product, t_law_letters, t_check_prime, t_pairs_of, t_numbers_of, t_is_number, t_check_number, t_check_not_zero, t_product, t_units, t_associates, t_letters, t_check_word, t_canonical, t_conjugate, t_partners_of, t_partner, t_law_greatest, t_law_turned, t_law_partner]
def sg0 : Sg := ⟨[], ["_law_row", "_law_numbers", "_law_units", "_law_product", "_law_letters", "check_prime", "pairs_of", "numbers_of", "is_number", "check_number", "check_not_zero", "product", "units", "associates", "letters", "check_word", "canonical", "conjugate", "partners_of", "partner", "_law_greatest", "_law_turned", "_law_partner"], ["MOST_PRIME", "PARTS", "ZERO"], ["range", "abs", "int", "len", "max", "tuple", "sorted", "any", "isinstance", "bool", "repr", "list"], ["isqrt"], [], true, [], [], false⟩
def xfl (k : Nat) : Str := ([] : List Str).getD k nm0
theorem lk_ok : ∀ t ∈ fts, ftB sg0 t = true := all_cons (by decide +kernel) <| all_cons (by decide +kernel) <| all_cons (by decide +kernel) <| all_cons (by decide +kernel) <| all_cons (by decide +kernel) <| all_cons (by decide +kernel) <| all_cons (by decide +kernel) <| all_cons (by decide +kernel) <| all_cons (by decide +kernel) <| all_cons (by decide +kernel) <| all_cons (by decide +kernel) <| all_cons (by decide +kernel) <| all_cons (by decide +kernel) <| all_cons (by decide +kernel) <| all_cons (by decide +kernel) <| all_cons (by decide +kernel) <| all_cons (by decide +kernel) <| all_cons (by decide +kernel) <| all_cons (by decide +kernel) <| all_cons (by decide +kernel) <| all_cons (by decide +kernel) <| all_cons (by decide +kernel) <| all_cons (by decide +kernel) <| all_nil
theorem lk_law : ftB { sg0 with rep := true } t_law = true := by decide +kernel
theorem sem_ok : ∀ (i : Nat) (t : FT), fts[i]? = some t → ∃ fn, pg.fns[i]? = some fn ∧ fn.np = t.ps.length ∧ fn.ns = t.N.length ∧ ∀ F, fn.run F = evSs pg.G F t.body
  | 0, t, h => by cases h; exact ⟨f_law_row, rfl, rfl, rfl, fun F => (e_law_row F).symm⟩
  | 1, t, h => by cases h; exact ⟨f_law_numbers, rfl, rfl, rfl, fun F => (e_law_numbers F).symm⟩
  | 2, t, h => by cases h; exact ⟨f_law_units, rfl, rfl, rfl, fun F => (e_law_units F).symm⟩
  | 3, t, h => by cases h; exact ⟨f_law_product, rfl, rfl, rfl, fun F => (e_law_product F).symm⟩
  | 4, t, h => by cases h; exact ⟨f_law_letters, rfl, rfl, rfl, fun F => (e_law_letters F).symm⟩
  | 5, t, h => by cases h; exact ⟨f_check_prime, rfl, rfl, rfl, fun F => (e_check_prime F).symm⟩
  | 6, t, h => by cases h; exact ⟨f_pairs_of, rfl, rfl, rfl, fun F => (e_pairs_of F).symm⟩
  | 7, t, h => by cases h; exact ⟨f_numbers_of, rfl, rfl, rfl, fun F => (e_numbers_of F).symm⟩
  | 8, t, h => by cases h; exact ⟨f_is_number, rfl, rfl, rfl, fun F => (e_is_number F).symm⟩
  | 9, t, h => by cases h; exact ⟨f_check_number, rfl, rfl, rfl, fun F => (e_check_number F).symm⟩
  | 10, t, h => by cases h; exact ⟨f_check_not_zero, rfl, rfl, rfl, fun F => (e_check_not_zero F).symm⟩
  | 11, t, h => by cases h; exact ⟨f_product, rfl, rfl, rfl, fun F => (e_product F).symm⟩
  | 12, t, h => by cases h; exact ⟨f_units, rfl, rfl, rfl, fun F => (e_units F).symm⟩
  | 13, t, h => by cases h; exact ⟨f_associates, rfl, rfl, rfl, fun F => (e_associates F).symm⟩
  | 14, t, h => by cases h; exact ⟨f_letters, rfl, rfl, rfl, fun F => (e_letters F).symm⟩
  | 15, t, h => by cases h; exact ⟨f_check_word, rfl, rfl, rfl, fun F => (e_check_word F).symm⟩
  | 16, t, h => by cases h; exact ⟨f_canonical, rfl, rfl, rfl, fun F => (e_canonical F).symm⟩
  | 17, t, h => by cases h; exact ⟨f_conjugate, rfl, rfl, rfl, fun F => (e_conjugate F).symm⟩
  | 18, t, h => by cases h; exact ⟨f_partners_of, rfl, rfl, rfl, fun F => (e_partners_of F).symm⟩
  | 19, t, h => by cases h; exact ⟨f_partner, rfl, rfl, rfl, fun F => (e_partner F).symm⟩
  | 20, t, h => by cases h; exact ⟨f_law_greatest, rfl, rfl, rfl, fun F => (e_law_greatest F).symm⟩
  | 21, t, h => by cases h; exact ⟨f_law_turned, rfl, rfl, rfl, fun F => (e_law_turned F).symm⟩
  | 22, t, h => by cases h; exact ⟨f_law_partner, rfl, rfl, rfl, fun F => (e_law_partner F).symm⟩
  | n + 23, t, h => by cases h
theorem pg_ok : PgOk pg sg0 fts := ⟨rfl, lk_ok, by decide +kernel, rfl, sem_ok⟩
def isT (o : Os) : Bool := match o with
  | some (.rt (.bl true) _ _) => true
  | _ => false
theorem isT_ex {o : Os} (h : isT o = true) : ∃ fr m, o = some (.rt (.bl true) fr m) := by
  unfold isT at h
  split at h
  · exact ⟨_, _, rfl⟩
  · cases h
theorem law_of {k : Nat} {ns : List Int} (h : isT (r_law (callK pg k) (stD f_law.ns [.klst (ns.map D.int)]) []) = true) : ∃ b, callK pg (k + 1) i_law [.klst (ns.map D.int)] = some (.ok (.bl true, b)) := by
  obtain ⟨fr, m, e⟩ := isT_ex h
  refine ⟨false, ?_⟩
  rw [call_e pg k _ _ (fn := f_law) rfl, run_e _ _ _ rfl]
  show (match r_law (callK pg k) (stD f_law.ns [.klst (ns.map D.int)]) [] with
    | some (.nx _ _) => rt (D.non, false)
    | some (.rt d fr m) => match frz m 4 d with
      | some d' => rt (d', frR m fr d)
      | none => none
    | some (.ex x fs _ _) => some (.exc x fs)
    | _ => none) = _
  rw [e]
  simp
theorem row_at (k : Nat) (cell : Int) (n : Nat) (hn : n ≤ 1000) : ∃ zs : List Int, zs.length = n ∧ (∀ z ∈ zs, Dr z) ∧ callK pg (k + 1) 0 [.int cell, .int n] = some (.ok (.lst (zs.map D.int), true)) := by
  obtain ⟨zs, h1, h2, h3⟩ := row_ok (F := callK pg k) cell n hn
  exact ⟨zs, h1, h2, h3 f_law_row rfl rfl rfl⟩
theorem num_at (k : Nat) (ns : List Int) (hns : ns.length ≤ 63) (many : Nat) (hm : many ≤ 900) : ∃ zs : List Int, zs.length = many ∧ (∀ z ∈ zs, Dr z) ∧ callK pg (k + 2) 1 [.klst (ns.map D.int), .int many] = rt (.lst (zs.map D.int), true) := by
  obtain ⟨zs, h1, h2, h3⟩ := num_ok (F := callK pg (k + 1)) (row_at k) ns hns many hm
  exact ⟨zs, h1, h2, h3 f_law_numbers rfl rfl rfl⟩
theorem fm {a b : Int} (h : 0 ≤ b) : a.fmod b = a % b := Int.fmod_eq_emod_of_nonneg a h
theorem fd {a b : Int} (h : 0 ≤ b) : a.fdiv b = a / b := Int.fdiv_eq_ediv_of_nonneg a h
/-- a value known beforehand -/
def memo1 (F : Fc) (f0 : Nat) (p : Int) (r : Rv (D × Bool)) : Fc := fun f ds => match Nat.beq f f0 with
  | true => match ds with
    | [.int q] => if q = p then r else F f ds
    | _ => F f ds
  | false => F f ds
theorem memo1_eq {F : Fc} {f0 : Nat} {p : Int} {r : Rv (D × Bool)} (h : F f0 [.int p] = r) : memo1 F f0 p r = F := by
  funext f ds
  unfold memo1
  cases e : Nat.beq f f0 with
  | false => rfl
  | true =>
    have e2 : f = f0 := Nat.eq_of_beq_eq_true e
    subst e2
    dsimp only
    split
    · split
      · rename_i q hq
        rw [hq]; exact h.symm
      · rfl
    · rfl
/-- a for without break, ahead of the rest -/
def forW (g : Xg) (b : Xst) : List D → Sl → Mm → Option (Sl × Mm)
  | [], s, m => some (s, m)
  | d :: ds, s, m => match g d s with
    | some s1 => match b s1 m with
      | some (.nx s' m') => forW g b ds s' m'
      | _ => none
    | none => none
theorem forW_app (g : Xg) (b : Xst) (ys : List D) : ∀ (xs : List D) (s : Sl) (m : Mm) (r : Sl × Mm), forW g b xs s m = some r → forV g b (xs ++ ys) s m = forV g b ys r.1 r.2
  | [], s, m, r, h => by cases h; rfl
  | d :: ds, s, m, r, h => by
    rw [forW] at h
    rw [List.cons_append, forV_cons]
    cases e1 : g d s with
    | none => rw [e1] at h; cases h
    | some s1 =>
      rw [e1] at h
      rw [os_some']
      dsimp only at h
      cases e2 : b s1 m with
      | none => rw [e2] at h; cases h
      | some o =>
        rw [e2] at h
        cases o with
        | nx s' m' => exact forW_app g b ys ds s' m' r h
        | _ => cases h
def kq (a b c d : Int) : List Key := [.inl a, .inl b, .inl c, .inl d]
def LAg : Xg := (gNm 3)
def LAB (F : Fc) : Xst := (sSeq (sIte (tCmp .notin (xVar 3) (xVar 2)) (sSeq (sApp (xVar 1) (xVar 3)) (sSeq (sFor walk0 (gNm 4) (iVal gdN (xCall F 13 (xCons (xVar 3) xNil))) (sSeq (sSetI (xVar 2) (xVar 4) (xCst (.bl true))) sPss)) sPss)) sPss) sPss)
def LAi (F : Fc) : Xs := (iVal gdN (xSrtR (xCall F 7 (xCons (xBin .mul (xCst (.int 4)) (xVar 0)) xNil))))
def LAt (F : Fc) : Xst := (sSeq (sRet (xRev (xVar 1))) sPss)
def LAh (F : Fc) (Y : Xst) : Xst := (sSeq (sExpr (xCall F 5 (xCons (xVar 0) xNil))) (sSeq (sNew 1 (xLst xNil)) (sSeq (sNewD 2 true) Y)))
theorem LArun (F : Fc) : f_letters.run F = LAh F (sSeq (sFor walk0 LAg (LAi F) (LAB F)) (LAt F)) := by rfl
theorem LAglue (F : Fc) {p : Int} {LP XS : List D} {S0 S1 : Sl} {M0 M1 : Mm} (hd : ∀ Y, LAh F Y (stD 5 [.int p]) [] = Y S0 M0) (it : ∀ Y : List D → Os, bs (LAi F S0 M0) S0 M0 Y = Y XS) (fr : forV LAg (LAB F) XS S0 M0 = some (.nx S1 M1)) (tl : LAt F S1 M1 = some (.rt (.lst LP) true M1)) (hr : rfs LP = true) : runF F f_letters [.int p] = rt (.lst LP, true) := by
  have e : f_letters.run F (stD 5 [.int p]) [] = some (.rt (.lst LP) true M1) := by
    rw [LArun, hd, sSeq_e, sFor_w0, it, fr]
    exact tl
  rw [run_e _ _ _ rfl]
  show (match f_letters.run F (stD 5 [.int p]) [] with
    | some (.nx _ _) => rt (D.non, false)
    | some (.rt d fr m) => match frz m 4 d with
      | some d' => rt (d', frR m fr d)
      | none => none
    | some (.ex x fs _ _) => some (.exc x fs)
    | _ => none) = _
  rw [e]
  simp [hr]
def LBg : Xg := (gNm 7)
def LBB (F : Fc) : Xst := (sSeq (sIte (tCmp .notin (xVar 7) (xVar 6)) (sSeq (sApp (xVar 5) (xVar 7)) (sSeq (sFor walk0 (gNm 9) (iVal gdN (xCall F 2 xNil)) (sSeq (sSetI (xVar 6) (xCall F 3 (xCons (xVar 7) (xCons (xVar 9) xNil))) (xCst (.bl true))) sPss)) sPss)) sPss) sPss)
def LBi (F : Fc) : Xs := (iVal gdN (xRev (xBlt .sorted (xCons (xVar 3) xNil))))
def LBt (F : Fc) : Xst := (sSeq (sRet (xRev (xVar 5))) sPss)
def LBh (F : Fc) (Y : Xst) : Xst := (sSeq (sNewD 1 false) (sSeq (sFor walk0 (gNm 2) (iRng1 (xBin .mul (xCst (.int 2)) (xVar 0))) (sSeq (sSetI (xVar 1) (xBin .mul (xVar 2) (xVar 2)) (xVar 2)) sPss)) (sSeq (sAsg (gNm 3) (xLst xNil)) (sSeq (sFor walk0 (gNm 4) (iRng2 (xCst (.int 1)) (xBin .mul (xCst (.int 2)) (xVar 0))) (sSeq (sFor walk0 (gNm 8) (iRng2 (xBin .mul (xNeg (xCst (.int 2))) (xVar 0)) (xBin .mul (xCst (.int 2)) (xVar 0))) (sSeq (sIte (tAnd (tCmp .le (xBin .add (xBin .mul (xVar 4) (xVar 4)) (xBin .mul (xVar 8) (xVar 8))) (xBin .mul (xCst (.int 4)) (xVar 0))) (tCmp .eq (xBin .mod (xBlt .int (xCons (xBin .add (xVar 4) (xVar 8)) xNil)) (xCst (.int 2))) (xCst (.int 0)))) (sSeq (sFor walk0 (gNm 10) (iRng2 (xBin .mul (xNeg (xCst (.int 2))) (xVar 0)) (xBin .mul (xCst (.int 2)) (xVar 0))) (sSeq (sAsg (gNm 11) (xBin .sub (xBin .sub (xBin .sub (xBin .mul (xCst (.int 4)) (xVar 0)) (xBin .mul (xVar 4) (xVar 4))) (xBin .mul (xVar 8) (xVar 8))) (xBin .mul (xVar 10) (xVar 10)))) (sSeq (sIte (tAnd (tCmp .isin (xVar 11) (xVar 1)) (tCmp .eq (xBin .mod (xBlt .int (xCons (xBin .add (xVar 4) (xVar 10)) xNil)) (xCst (.int 2))) (xCst (.int 0)))) (sSeq (sAsg (gNm 3) (xBin .add (xVar 3) (xLst (xCons (xTup (xCons (xVar 4) (xCons (xVar 8) (xCons (xVar 10) (xCons (xSub (xVar 1) (xVar 11)) xNil))))) (xCons (xTup (xCons (xVar 4) (xCons (xVar 8) (xCons (xVar 10) (xCons (xNeg (xSub (xVar 1) (xVar 11))) xNil))))) xNil))))) sPss) sPss) sPss))) sPss) sPss) sPss)) sPss)) (sSeq (sNew 5 (xLst xNil)) (sSeq (sNewD 6 true) Y))))))
theorem LBrun (F : Fc) : f_law_letters.run F = LBh F (sSeq (sFor walk0 LBg (LBi F) (LBB F)) (LBt F)) := by rfl
theorem LBglue (F : Fc) {p : Int} {LP XS : List D} {S0 S1 : Sl} {M0 M1 : Mm} (hd : ∀ Y, LBh F Y (stD 12 [.int p]) [] = Y S0 M0) (it : ∀ Y : List D → Os, bs (LBi F S0 M0) S0 M0 Y = Y XS) (fr : forV LBg (LBB F) XS S0 M0 = some (.nx S1 M1)) (tl : LBt F S1 M1 = some (.rt (.lst LP) true M1)) (hr : rfs LP = true) : runF F f_law_letters [.int p] = rt (.lst LP, true) := by
  have e : f_law_letters.run F (stD 12 [.int p]) [] = some (.rt (.lst LP) true M1) := by
    rw [LBrun, hd, sSeq_e, sFor_w0, it, fr]
    exact tl
  rw [run_e _ _ _ rfl]
  show (match f_law_letters.run F (stD 12 [.int p]) [] with
    | some (.nx _ _) => rt (D.non, false)
    | some (.rt d fr m) => match frz m 4 d with
      | some d' => rt (d', frR m fr d)
      | none => none
    | some (.ex x fs _ _) => some (.exc x fs)
    | _ => none) = _
  rw [e]
  simp [hr]
theorem mainG (F : Fc) (p : Int) (LP : List D) (ns : List D) (z0 z1 z2 z3 z4 z5 z6 z7 z8 z9 v1 v2 : Int) (hp : 2 < p ∧ p < 100) (hl : (LP.length : Int) = p + 1) (a : F 14 [.int p] = rt (.lst LP, true)) (b : F 4 [.int p] = rt (.lst LP, true)) (b1 : F 19 [.int p, .int (1 + z1 % (p + 1))] = rt (.int v1, false)) (c1 : F 22 [.lst LP, .int (1 + z1 % (p + 1))] = rt (.int v1, false)) (b2 : F 19 [.int p, .int (1 + z2 % (p + 1))] = rt (.int v2, false)) (c2 : F 22 [.lst LP, .int (1 + z2 % (p + 1))] = rt (.int v2, false)) (h1 : v1.natAbs < 100) (h2 : v2.natAbs < 100) (ls : shOk (.lst LP) = true) (lr : rfs LP = true) : isT (tl_law_2 F [some (.klst ns), some (.lst [.int z0, .int z1, .int z2, .int z3, .int z4, .int z5, .int z6, .int z7, .int z8, .int z9]), some (.int p), none, none, none, none, none] []) = true := by
  have e1 := shOk_int (i := v1) (by omega)
  have e2 := shOk_int (i := v2) (by omega)
  have s1 := sameSh ls
  have hz1 : z1.fmod (p + 1) = z1 % (p + 1) := fm (by omega)
  have hz2 : z2.fmod (p + 1) = z2 % (p + 1) := fm (by omega)
  have hz0 : ¬ p + 1 = 0 := by omega
  have hl2 : LP.length ≤ 200 := by omega
  have hl3 : LP.length ≤ 16777215 := by omega
  simp [tl_law_2, tl_law_3, tl_law_4, tl_law_5, forV_cons, ixAt, L2.ixN, a, b, b1, c1, b2, c2, e1, e2, s1, ls, lr, hl, hl3, hz0, hz1, hz2, sApp, refL, appM, sFor_w0, sNew_e, newV_e, blt_lenRf, isT]
def LP3 : List D := [.tup [.int 3, .int 1, .int (-1), .int (-1)], .tup [.int 3, .int 1, .int (-1), .int 1], .tup [.int 3, .int 1, .int 1, .int (-1)], .tup [.int 3, .int 1, .int 1, .int 1]]
theorem la3 (k : Nat) : callK pg (k + 5) i_letters [.int 3] = rt (.lst LP3, true) := by kernel_rfl
theorem lb3 (k : Nat) : callK pg (k + 2) i_law_letters [.int 3] = rt (.lst LP3, true) := by kernel_rfl
theorem ls3 : shOk (.lst LP3) = true := by kernel_rfl
theorem lr3 : rfs LP3 = true := by kernel_rfl
def PV3 : Rv (D × Bool) := rt (.lst [.int 1, .int 2, .int 3, .int 4], true)
theorem pp3 (k : Nat) : callK pg (k + 6) i_partners_of [.int 3] = PV3 := by
  rw [call_e pg (k + 5) _ _ (fn := f_partners_of) rfl, ← memo1_eq (la3 k)]
  kernel_rfl
theorem pt3 (k : Nat) (l : Int) (h : 0 < l ∧ l ≤ 4) : ∃ v : Int, v.natAbs < 100 ∧ callK pg (k + 7) i_partner [.int 3, .int l] = rt (.int v, false) ∧ callK pg (k + 7) i_law_partner [.lst LP3, .int l] = rt (.int v, false) := by
  have hc : l = 1 ∨ l = 2 ∨ l = 3 ∨ l = 4 := by omega
  rw [call_e pg (k + 6) _ _ (fn := f_partner) rfl, ← memo1_eq (pp3 k)]
  rcases hc with rfl | rfl | rfl | rfl
  · exact ⟨1, by decide, by kernel_rfl, by kernel_rfl⟩
  · exact ⟨2, by decide, by kernel_rfl, by kernel_rfl⟩
  · exact ⟨3, by decide, by kernel_rfl, by kernel_rfl⟩
  · exact ⟨4, by decide, by kernel_rfl, by kernel_rfl⟩
theorem main3 (ns : List D) (z0 z1 z2 z3 z4 z5 z6 z7 z8 z9 : Int) : isT (tl_law_2 (callK pg 7) [some (.klst ns), some (.lst [.int z0, .int z1, .int z2, .int z3, .int z4, .int z5, .int z6, .int z7, .int z8, .int z9]), some (.int 3), none, none, none, none, none] []) = true := by
  obtain ⟨v1, a1, b1, c1⟩ := pt3 0 (1 + z1 % 4) (by omega)
  obtain ⟨v2, a2, b2, c2⟩ := pt3 0 (1 + z2 % 4) (by omega)
  rw [Nat.zero_add] at b1 c1 b2 c2
  exact mainG _ 3 LP3 ns z0 z1 z2 z3 z4 z5 z6 z7 z8 z9 v1 v2 (by decide) (by rfl) (la3 2) (lb3 5) b1 c1 b2 c2 (by omega) (by omega) ls3 lr3
def LP5 : List D := [.tup [.int 4, .int (-2), .int 0, .int 0], .tup [.int 4, .int 0, .int (-2), .int 0], .tup [.int 4, .int 0, .int 0, .int (-2)], .tup [.int 4, .int 0, .int 0, .int 2], .tup [.int 4, .int 0, .int 2, .int 0], .tup [.int 4, .int 2, .int 0, .int 0]]
theorem la5 (k : Nat) : callK pg (k + 5) i_letters [.int 5] = rt (.lst LP5, true) := by kernel_rfl
theorem lb5 (k : Nat) : callK pg (k + 2) i_law_letters [.int 5] = rt (.lst LP5, true) := by kernel_rfl
theorem ls5 : shOk (.lst LP5) = true := by kernel_rfl
theorem lr5 : rfs LP5 = true := by kernel_rfl
def PV5 : Rv (D × Bool) := rt (.lst [.int 6, .int 5, .int 4, .int 3, .int 2, .int 1], true)
theorem pp5 (k : Nat) : callK pg (k + 6) i_partners_of [.int 5] = PV5 := by
  rw [call_e pg (k + 5) _ _ (fn := f_partners_of) rfl, ← memo1_eq (la5 k)]
  kernel_rfl
theorem pt5 (k : Nat) (l : Int) (h : 0 < l ∧ l ≤ 6) : ∃ v : Int, v.natAbs < 100 ∧ callK pg (k + 7) i_partner [.int 5, .int l] = rt (.int v, false) ∧ callK pg (k + 7) i_law_partner [.lst LP5, .int l] = rt (.int v, false) := by
  have hc : l = 1 ∨ l = 2 ∨ l = 3 ∨ l = 4 ∨ l = 5 ∨ l = 6 := by omega
  rw [call_e pg (k + 6) _ _ (fn := f_partner) rfl, ← memo1_eq (pp5 k)]
  rcases hc with rfl | rfl | rfl | rfl | rfl | rfl
  · exact ⟨6, by decide, by kernel_rfl, by kernel_rfl⟩
  · exact ⟨5, by decide, by kernel_rfl, by kernel_rfl⟩
  · exact ⟨4, by decide, by kernel_rfl, by kernel_rfl⟩
  · exact ⟨3, by decide, by kernel_rfl, by kernel_rfl⟩
  · exact ⟨2, by decide, by kernel_rfl, by kernel_rfl⟩
  · exact ⟨1, by decide, by kernel_rfl, by kernel_rfl⟩
theorem main5 (ns : List D) (z0 z1 z2 z3 z4 z5 z6 z7 z8 z9 : Int) : isT (tl_law_2 (callK pg 7) [some (.klst ns), some (.lst [.int z0, .int z1, .int z2, .int z3, .int z4, .int z5, .int z6, .int z7, .int z8, .int z9]), some (.int 5), none, none, none, none, none] []) = true := by
  obtain ⟨v1, a1, b1, c1⟩ := pt5 0 (1 + z1 % 6) (by omega)
  obtain ⟨v2, a2, b2, c2⟩ := pt5 0 (1 + z2 % 6) (by omega)
  rw [Nat.zero_add] at b1 c1 b2 c2
  exact mainG _ 5 LP5 ns z0 z1 z2 z3 z4 z5 z6 z7 z8 z9 v1 v2 (by decide) (by rfl) (la5 2) (lb5 5) b1 c1 b2 c2 (by omega) (by omega) ls5 lr5
def LP7 : List D := [.tup [.int 5, .int (-1), .int (-1), .int (-1)], .tup [.int 5, .int (-1), .int (-1), .int 1], .tup [.int 5, .int (-1), .int 1, .int (-1)], .tup [.int 5, .int (-1), .int 1, .int 1], .tup [.int 5, .int 1, .int (-1), .int (-1)], .tup [.int 5, .int 1, .int (-1), .int 1], .tup [.int 5, .int 1, .int 1, .int (-1)], .tup [.int 5, .int 1, .int 1, .int 1]]
theorem la7 (k : Nat) : callK pg (k + 5) i_letters [.int 7] = rt (.lst LP7, true) := by kernel_rfl
theorem lb7 (k : Nat) : callK pg (k + 2) i_law_letters [.int 7] = rt (.lst LP7, true) := by kernel_rfl
theorem ls7 : shOk (.lst LP7) = true := by kernel_rfl
theorem lr7 : rfs LP7 = true := by kernel_rfl
def PV7 : Rv (D × Bool) := rt (.lst [.int 8, .int 7, .int 6, .int 5, .int 4, .int 3, .int 2, .int 1], true)
theorem pp7 (k : Nat) : callK pg (k + 6) i_partners_of [.int 7] = PV7 := by
  rw [call_e pg (k + 5) _ _ (fn := f_partners_of) rfl, ← memo1_eq (la7 k)]
  kernel_rfl
theorem pt7 (k : Nat) (l : Int) (h : 0 < l ∧ l ≤ 8) : ∃ v : Int, v.natAbs < 100 ∧ callK pg (k + 7) i_partner [.int 7, .int l] = rt (.int v, false) ∧ callK pg (k + 7) i_law_partner [.lst LP7, .int l] = rt (.int v, false) := by
  have hc : l = 1 ∨ l = 2 ∨ l = 3 ∨ l = 4 ∨ l = 5 ∨ l = 6 ∨ l = 7 ∨ l = 8 := by omega
  rw [call_e pg (k + 6) _ _ (fn := f_partner) rfl, ← memo1_eq (pp7 k)]
  rcases hc with rfl | rfl | rfl | rfl | rfl | rfl | rfl | rfl
  · exact ⟨8, by decide, by kernel_rfl, by kernel_rfl⟩
  · exact ⟨7, by decide, by kernel_rfl, by kernel_rfl⟩
  · exact ⟨6, by decide, by kernel_rfl, by kernel_rfl⟩
  · exact ⟨5, by decide, by kernel_rfl, by kernel_rfl⟩
  · exact ⟨4, by decide, by kernel_rfl, by kernel_rfl⟩
  · exact ⟨3, by decide, by kernel_rfl, by kernel_rfl⟩
  · exact ⟨2, by decide, by kernel_rfl, by kernel_rfl⟩
  · exact ⟨1, by decide, by kernel_rfl, by kernel_rfl⟩
theorem main7 (ns : List D) (z0 z1 z2 z3 z4 z5 z6 z7 z8 z9 : Int) : isT (tl_law_2 (callK pg 7) [some (.klst ns), some (.lst [.int z0, .int z1, .int z2, .int z3, .int z4, .int z5, .int z6, .int z7, .int z8, .int z9]), some (.int 7), none, none, none, none, none] []) = true := by
  obtain ⟨v1, a1, b1, c1⟩ := pt7 0 (1 + z1 % 8) (by omega)
  obtain ⟨v2, a2, b2, c2⟩ := pt7 0 (1 + z2 % 8) (by omega)
  rw [Nat.zero_add] at b1 c1 b2 c2
  exact mainG _ 7 LP7 ns z0 z1 z2 z3 z4 z5 z6 z7 z8 z9 v1 v2 (by decide) (by rfl) (la7 2) (lb7 5) b1 c1 b2 c2 (by omega) (by omega) ls7 lr7
def LP11 : List D := [.tup [.int 6, .int (-2), .int (-2), .int 0], .tup [.int 6, .int (-2), .int 0, .int (-2)], .tup [.int 6, .int (-2), .int 0, .int 2], .tup [.int 6, .int (-2), .int 2, .int 0], .tup [.int 6, .int 0, .int (-2), .int (-2)], .tup [.int 6, .int 0, .int (-2), .int 2], .tup [.int 6, .int 0, .int 2, .int (-2)], .tup [.int 6, .int 0, .int 2, .int 2], .tup [.int 6, .int 2, .int (-2), .int 0], .tup [.int 6, .int 2, .int 0, .int (-2)], .tup [.int 6, .int 2, .int 0, .int 2], .tup [.int 6, .int 2, .int 2, .int 0]]
def LA11R : List (Int × Int × Int × Int) → List D := fun r => r.map fun q => .tup [.int q.1, .int q.2.1, .int q.2.2.1, .int q.2.2.2]
def LA11K : List (Int × Int × Int × Int) → List (List Key) := fun r => r.map fun q => kq q.1 q.2.1 q.2.2.1 q.2.2.2
def LA11X0 : List D := LA11R [(6, 2, 2, 0), (6, 2, 0, 2), (6, 2, 0, -2), (6, 2, -2, 0), (6, 0, 2, 2), (6, 0, 2, -2), (6, 0, -2, 2)]
def LA11K0 : List (List Key) := LA11K [(-6, -2, -2, 0), (-5, 1, 3, -3), (-5, 3, 1, 3), (-3, -5, 3, -1), (-3, -3, 1, 5), (-3, 1, -3, -5), (-3, 3, -5, 1), (-2, 0, 6, 2), (-2, 6, 0, -2), (-1, -5, -3, -3), (-1, -3, -5, 3), (0, -2, 2, -6), (0, 2, -2, 6), (1, 3, 5, -3), (1, 5, 3, 3), (2, -6, 0, 2), (2, 0, -6, -2), (3, -3, 5, -1), (3, -1, 3, 5), (3, 3, -1, -5), (3, 5, -3, 1), (5, -3, -1, -3), (5, -1, -3, 3), (6, 2, 2, 0), (-6, -2, 0, -2), (-5, 1, 3, 3), (-5, 3, -3, 1), (-3, -5, 1, 3), (-3, -3, -5, 1), (-3, 1, 5, -3), (-3, 3, -1, -5), (-2, 0, -2, 6), (-2, 6, 2, 0), (-1, -5, 3, -3), (-1, -3, -3, -5), (0, -2, 6, 2), (0, 2, -6, -2), (1, 3, 3, 5), (1, 5, -3, 3), (2, -6, -2, 0), (2, 0, 2, -6), (3, -3, 1, 5), (3, -1, -5, 3), (3, 3, 5, -1), (3, 5, -1, -3), (5, -3, 3, -1), (5, -1, -3, -3), (6, 2, 0, 2), (-6, -2, 0, 2), (-5, 1, -3, -3), (-5, 3, 3, -1), (-3, -5, -1, -3), (-3, -3, 5, -1), (-3, 1, -5, 3), (-3, 3, 1, 5), (-2, 0, 2, -6), (-2, 6, -2, 0), (-1, -5, -3, 3), (-1, -3, 3, 5), (0, -2, -6, -2), (0, 2, 6, 2), (1, 3, -3, -5), (1, 5, 3, -3), (2, -6, 2, 0), (2, 0, -2, 6), (3, -3, -1, -5), (3, -1, 5, -3), (3, 3, -5, 1), (3, 5, 1, 3), (5, -3, -3, 1), (5, -1, 3, 3), (6, 2, 0, -2), (-6, -2, 2, 0), (-5, 1, -3, 3), (-5, 3, -1, -3), (-3, -5, -3, 1), (-3, -3, -1, -5), (-3, 1, 3, 5), (-3, 3, 5, -1), (-2, 0, -6, -2), (-2, 6, 0, 2), (-1, -5, 3, 3), (-1, -3, 5, -3), (0, -2, -2, 6), (0, 2, 2, -6), (1, 3, -5, 3), (1, 5, -3, -3), (2, -6, 0, -2), (2, 0, 6, 2), (3, -3, -5, 1), (3, -1, -3, -5), (3, 3, 1, 5), (3, 5, 3, -1), (5, -3, 1, 3), (5, -1, 3, -3), (6, 2, -2, 0), (-6, 0, -2, -2), (-5, -3, 1, 3), (-5, 3, 3, 1), (-3, -5, 1, -3), (-3, -1, -5, 3), (-3, 1, 3, -5), (-3, 5, -3, 1), (-2, -2, 6, 0), (-2, 2, 0, 6), (-1, -3, -5, -3), (-1, 3, -3, -5), (0, -6, -2, 2), (0, 6, 2, -2), (1, -3, 3, 5), (1, 3, 5, 3), (2, -2, 0, -6), (2, 2, -6, 0), (3, -5, 3, -1), (3, -1, -3, 5), (3, 1, 5, -3), (3, 5, -1, 3), (5, -3, -3, -1), (5, 3, -1, -3), (6, 0, 2, 2), (-6, 0, -2, 2), (-5, -3, 3, -1), (-5, 3, 1, -3), (-3, -5, -3, -1), (-3, -1, 3, 5), (-3, 1, -5, -3), (-3, 5, 1, 3), (-2, -2, 0, -6), (-2, 2, 6, 0), (-1, -3, -3, 5), (-1, 3, -5, 3), (0, -6, 2, 2), (0, 6, -2, -2), (1, -3, 5, -3), (1, 3, 3, -5), (2, -2, -6, 0), (2, 2, 0, 6), (3, -5, -1, -3), (3, -1, 5, 3), (3, 1, -3, -5), (3, 5, 3, 1), (5, -3, -1, 3), (5, 3, -3, 1), (6, 0, 2, -2), (-6, 0, 2, -2), (-5, -3, -3, 1), (-5, 3, -1, 3), (-3, -5, 3, 1), (-3, -1, -3, -5), (-3, 1, 5, 3), (-3, 5, -1, -3), (-2, -2, 0, 6), (-2, 2, -6, 0), (-1, -3, 3, -5), (-1, 3, 5, -3), (0, -6, -2, -2), (0, 6, 2, 2), (1, -3, -5, 3), (1, 3, -3, 5), (2, -2, 6, 0), (2, 2, 0, -6), (3, -5, 1, 3), (3, -1, -5, -3), (3, 1, 3, 5), (3, 5, -3, -1), (5, -3, 1, -3), (5, 3, 3, -1), (6, 0, -2, 2)]
def LA11F0 : List D := LA11R [(6, 2, 2, 0), (6, 2, 0, 2), (6, 2, 0, -2), (6, 2, -2, 0), (6, 0, 2, 2), (6, 0, 2, -2), (6, 0, -2, 2)]
def LA11X1 : List D := LA11R [(6, 0, -2, -2), (6, -2, 2, 0), (6, -2, 0, 2), (6, -2, 0, -2), (6, -2, -2, 0), (5, 3, 3, 1), (5, 3, 3, -1), (5, 3, 1, 3), (5, 3, 1, -3), (5, 3, -1, 3), (5, 3, -1, -3), (5, 3, -3, 1), (5, 3, -3, -1), (5, 1, 3, 3), (5, 1, 3, -3), (5, 1, -3, 3), (5, 1, -3, -3), (5, -1, 3, 3), (5, -1, 3, -3), (5, -1, -3, 3), (5, -1, -3, -3), (5, -3, 3, 1), (5, -3, 3, -1), (5, -3, 1, 3), (5, -3, 1, -3), (5, -3, -1, 3), (5, -3, -1, -3), (5, -3, -3, 1), (5, -3, -3, -1), (3, 5, 3, 1), (3, 5, 3, -1), (3, 5, 1, 3), (3, 5, 1, -3), (3, 5, -1, 3), (3, 5, -1, -3), (3, 5, -3, 1), (3, 5, -3, -1), (3, 3, 5, 1), (3, 3, 5, -1), (3, 3, 1, 5), (3, 3, 1, -5), (3, 3, -1, 5), (3, 3, -1, -5), (3, 3, -5, 1), (3, 3, -5, -1), (3, 1, 5, 3), (3, 1, 5, -3), (3, 1, 3, 5), (3, 1, 3, -5), (3, 1, -3, 5), (3, 1, -3, -5), (3, 1, -5, 3), (3, 1, -5, -3), (3, -1, 5, 3), (3, -1, 5, -3), (3, -1, 3, 5), (3, -1, 3, -5), (3, -1, -3, 5), (3, -1, -3, -5), (3, -1, -5, 3), (3, -1, -5, -3), (3, -3, 5, 1), (3, -3, 5, -1), (3, -3, 1, 5), (3, -3, 1, -5), (3, -3, -1, 5), (3, -3, -1, -5), (3, -3, -5, 1), (3, -3, -5, -1), (3, -5, 3, 1), (3, -5, 3, -1), (3, -5, 1, 3), (3, -5, 1, -3), (3, -5, -1, 3), (3, -5, -1, -3), (3, -5, -3, 1), (3, -5, -3, -1), (2, 6, 2, 0), (2, 6, 0, 2), (2, 6, 0, -2), (2, 6, -2, 0), (2, 2, 6, 0), (2, 2, 0, 6), (2, 2, 0, -6), (2, 2, -6, 0), (2, 0, 6, 2), (2, 0, 6, -2), (2, 0, 2, 6), (2, 0, 2, -6), (2, 0, -2, 6), (2, 0, -2, -6), (2, 0, -6, 2), (2, 0, -6, -2), (2, -2, 6, 0), (2, -2, 0, 6), (2, -2, 0, -6), (2, -2, -6, 0), (2, -6, 2, 0), (2, -6, 0, 2), (2, -6, 0, -2), (2, -6, -2, 0), (1, 5, 3, 3), (1, 5, 3, -3), (1, 5, -3, 3), (1, 5, -3, -3), (1, 3, 5, 3), (1, 3, 5, -3), (1, 3, 3, 5), (1, 3, 3, -5), (1, 3, -3, 5), (1, 3, -3, -5), (1, 3, -5, 3), (1, 3, -5, -3), (1, -3, 5, 3), (1, -3, 5, -3), (1, -3, 3, 5), (1, -3, 3, -5), (1, -3, -3, 5), (1, -3, -3, -5), (1, -3, -5, 3), (1, -3, -5, -3), (1, -5, 3, 3), (1, -5, 3, -3), (1, -5, -3, 3), (1, -5, -3, -3)]
def LA11K1 : List (List Key) := LA11K0 ++ LA11K [(-6, 0, 2, 2), (-5, -3, -1, -3), (-5, 3, -3, -1), (-3, -5, -1, 3), (-3, -1, 5, -3), (-3, 1, -3, 5), (-3, 5, 3, -1), (-2, -2, -6, 0), (-2, 2, 0, -6), (-1, -3, 5, 3), (-1, 3, 3, 5), (0, -6, 2, -2), (0, 6, -2, 2), (1, -3, -3, -5), (1, 3, -5, -3), (2, -2, 0, 6), (2, 2, 6, 0), (3, -5, -3, 1), (3, -1, 3, -5), (3, 1, -5, 3), (3, 5, 1, -3), (5, -3, 3, 1), (5, 3, 1, 3), (6, 0, -2, -2), (-6, 2, -2, 0), (-5, -3, 1, -3), (-5, -1, 3, 3), (-3, -3, -5, -1), (-3, -1, -3, 5), (-3, 3, 1, -5), (-3, 5, 3, 1), (-2, -6, 0, 2), (-2, 0, 6, -2), (-1, 3, -5, -3), (-1, 5, -3, 3), (0, -2, -2, -6), (0, 2, 2, 6), (1, -5, 3, -3), (1, -3, 5, 3), (2, 0, -6, 2), (2, 6, 0, -2), (3, -5, -3, -1), (3, -3, -1, 5), (3, 1, 3, -5), (3, 3, 5, 1), (5, 1, -3, -3), (5, 3, -1, 3), (6, -2, 2, 0), (-6, 2, 0, -2), (-5, -3, 3, 1), (-5, -1, -3, 3), (-3, -3, 1, -5), (-3, -1, -5, -3), (-3, 3, 5, 1), (-3, 5, -1, 3), (-2, -6, -2, 0), (-2, 0, 2, 6), (-1, 3, 3, -5), (-1, 5, -3, -3), (0, -2, 6, -2), (0, 2, -6, 2), (1, -5, 3, 3), (1, -3, -3, 5), (2, 0, -2, -6), (2, 6, 2, 0), (3, -5, 1, -3), (3, -3, -5, -1), (3, 1, 5, 3), (3, 3, -1, 5), (5, 1, 3, -3), (5, 3, -3, -1), (6, -2, 0, 2), (-6, 2, 0, 2), (-5, -3, -3, -1), (-5, -1, 3, -3), (-3, -3, -1, 5), (-3, -1, 5, 3), (-3, 3, -5, -1), (-3, 5, 1, -3), (-2, -6, 2, 0), (-2, 0, -2, -6), (-1, 3, -3, 5), (-1, 5, 3, 3), (0, -2, -6, 2), (0, 2, 6, -2), (1, -5, -3, -3), (1, -3, 3, -5), (2, 0, 2, 6), (2, 6, -2, 0), (3, -5, -1, 3), (3, -3, 5, 1), (3, 1, -5, -3), (3, 3, 1, -5), (5, 1, -3, 3), (5, 3, 3, 1), (6, -2, 0, -2), (-6, 2, 2, 0), (-5, -3, -1, 3), (-5, -1, -3, -3), (-3, -3, 5, 1), (-3, -1, 3, -5), (-3, 3, -1, 5), (-3, 5, -3, -1), (-2, -6, 0, -2), (-2, 0, -6, 2), (-1, 3, 5, 3), (-1, 5, 3, -3), (0, -2, 2, 6), (0, 2, -2, -6), (1, -5, -3, 3), (1, -3, -5, -3), (2, 0, 6, -2), (2, 6, 0, 2), (3, -5, 3, 1), (3, -3, 1, -5), (3, 1, -3, 5), (3, 3, -5, -1), (5, 1, 3, 3), (5, 3, 1, -3), (6, -2, -2, 0)]
def LA11F1 : List D := LA11F0 ++ LA11R [(6, 0, -2, -2), (6, -2, 2, 0), (6, -2, 0, 2), (6, -2, 0, -2), (6, -2, -2, 0)]
theorem LA11c0 (k : Nat)  : forW LAg (LAB (callK pg (k + 4))) LA11X0 [some (.int 11), some (.ref 0), some (.ref 1), none, none] [.lst false [], .dt false [] []] = some ([some (.int 11), some (.ref 0), some (.ref 1), some (.tup [.int 6, .int 0, .int (-2), .int 2]), some (.tup [.int 6, .int 0, .int (-2), .int 2])], [.lst false LA11F0, .dt false LA11K0 (List.replicate 168 (.bl true))]) := by kernel_rfl
theorem LA11c1 (k : Nat)  : forW LAg (LAB (callK pg (k + 4))) LA11X1 [some (.int 11), some (.ref 0), some (.ref 1), some (.tup [.int 6, .int 0, .int (-2), .int 2]), some (.tup [.int 6, .int 0, .int (-2), .int 2])] [.lst false LA11F0, .dt false LA11K0 (List.replicate 168 (.bl true))] = some ([some (.int 11), some (.ref 0), some (.ref 1), some (.tup [.int 1, .int (-5), .int (-3), .int (-3)]), some (.tup [.int 6, .int (-2), .int (-2), .int 0])], [.lst false LA11F1, .dt false LA11K1 (List.replicate 288 (.bl true))]) := by kernel_rfl
theorem LA11for (k : Nat)  : forV LAg (LAB (callK pg (k + 4))) (LA11X0 ++ (LA11X1 ++ [])) [some (.int 11), some (.ref 0), some (.ref 1), none, none] [.lst false [], .dt false [] []] = some (.nx [some (.int 11), some (.ref 0), some (.ref 1), some (.tup [.int 1, .int (-5), .int (-3), .int (-3)]), some (.tup [.int 6, .int (-2), .int (-2), .int 0])] [.lst false LA11F1, .dt false LA11K1 (List.replicate 288 (.bl true))]) := by
  rw [forW_app _ _ _ _ _ _ _ (LA11c0 k )]
  rw [forW_app _ _ _ _ _ _ _ (LA11c1 k )]
  rfl
theorem LA11hd (k : Nat) (Y : Xst) : LAh (callK pg (k + 4)) Y (stD 5 [.int 11]) [] = Y [some (.int 11), some (.ref 0), some (.ref 1), none, none] [.lst false [], .dt false [] []] := by kernel_rfl
theorem LA11it (k : Nat) (Y : List D → Os) : bs (LAi (callK pg (k + 4)) [some (.int 11), some (.ref 0), some (.ref 1), none, none] [.lst false [], .dt false [] []]) [some (.int 11), some (.ref 0), some (.ref 1), none, none] [.lst false [], .dt false [] []] Y = Y (LA11X0 ++ (LA11X1 ++ [])) := by kernel_rfl
theorem LA11tl (k : Nat) : LAt (callK pg (k + 4)) [some (.int 11), some (.ref 0), some (.ref 1), some (.tup [.int 1, .int (-5), .int (-3), .int (-3)]), some (.tup [.int 6, .int (-2), .int (-2), .int 0])] [.lst false LA11F1, .dt false LA11K1 (List.replicate 288 (.bl true))] = some (.rt (.lst LP11) true [.lst false LA11F1, .dt false LA11K1 (List.replicate 288 (.bl true))]) := by kernel_rfl
theorem la11 (k : Nat) : callK pg (k + 5) i_letters [.int 11] = rt (.lst LP11, true) := by
  rw [call_e pg (k + 4) _ _ (fn := f_letters) rfl]
  have a1 := LA11hd k
  have a2 := LA11it k
  have a3 := LA11for k 
  have a4 := LA11tl k
  exact LAglue _ a1 a2 a3 a4 (by kernel_rfl)
def LB11R : List (Int × Int × Int × Int) → List D := fun r => r.map fun q => .tup [.int q.1, .int q.2.1, .int q.2.2.1, .int q.2.2.2]
def LB11K : List (Int × Int × Int × Int) → List (List Key) := fun r => r.map fun q => kq q.1 q.2.1 q.2.2.1 q.2.2.2
def LB11X0 : List D := LB11R [(6, 2, 2, 0), (6, 2, 2, 0), (6, 2, 0, 2), (6, 2, 0, -2), (6, 2, -2, 0), (6, 2, -2, 0), (6, 0, 2, 2), (6, 0, 2, -2), (6, 0, -2, 2)]
def LB11K0 : List (List Key) := LB11K [(-1, -5, -3, -3), (-1, -3, -5, 3), (-3, -5, 3, -1), (-3, -3, 1, 5), (-3, 1, -3, -5), (-3, 3, -5, 1), (-5, 1, 3, -3), (-5, 3, 1, 3), (5, -3, -1, -3), (5, -1, -3, 3), (3, -3, 5, -1), (3, -1, 3, 5), (3, 3, -1, -5), (3, 5, -3, 1), (1, 3, 5, -3), (1, 5, 3, 3), (-6, -2, -2, 0), (6, 2, 2, 0), (2, -6, 0, 2), (-2, 6, 0, -2), (2, 0, -6, -2), (-2, 0, 6, 2), (0, -2, 2, -6), (0, 2, -2, 6), (-1, -3, -3, -5), (-3, -3, -5, 1), (-1, -5, 3, -3), (-3, -5, 1, 3), (-3, 3, -1, -5), (-5, 3, -3, 1), (-3, 1, 5, -3), (-5, 1, 3, 3), (5, -1, -3, -3), (3, -1, -5, 3), (5, -3, 3, -1), (3, -3, 1, 5), (3, 5, -1, -3), (1, 5, -3, 3), (3, 3, 5, -1), (1, 3, 3, 5), (-6, -2, 0, -2), (6, 2, 0, 2), (2, -6, -2, 0), (-2, 6, 2, 0), (0, 2, -6, -2), (0, -2, 6, 2), (2, 0, 2, -6), (-2, 0, -2, 6), (-3, -5, -1, -3), (-1, -5, -3, 3), (-3, -3, 5, -1), (-1, -3, 3, 5), (-5, 1, -3, -3), (-3, 1, -5, 3), (-5, 3, 3, -1), (-3, 3, 1, 5), (3, -3, -1, -5), (5, -3, -3, 1), (3, -1, 5, -3), (5, -1, 3, 3), (1, 3, -3, -5), (3, 3, -5, 1), (1, 5, 3, -3), (3, 5, 1, 3), (-6, -2, 0, 2), (6, 2, 0, -2), (2, -6, 2, 0), (-2, 6, -2, 0), (0, -2, -6, -2), (0, 2, 6, 2), (-2, 0, 2, -6), (2, 0, -2, 6), (-3, -3, -1, -5), (-3, -5, -3, 1), (-1, -3, 5, -3), (-1, -5, 3, 3), (-5, 3, -1, -3), (-5, 1, -3, 3), (-3, 3, 5, -1), (-3, 1, 3, 5), (3, -1, -3, -5), (3, -3, -5, 1), (5, -1, 3, -3), (5, -3, 1, 3), (1, 5, -3, -3), (1, 3, -5, 3), (3, 5, 3, -1), (3, 3, 1, 5), (-6, -2, 2, 0), (6, 2, -2, 0), (2, -6, 0, -2), (-2, 6, 0, 2), (-2, 0, -6, -2), (2, 0, 6, 2), (0, 2, 2, -6), (0, -2, -2, 6), (-1, -3, -5, -3), (-3, -1, -5, 3), (-3, -5, 1, -3), (-5, -3, 1, 3), (-1, 3, -3, -5), (-3, 5, -3, 1), (-3, 1, 3, -5), (-5, 3, 3, 1), (5, -3, -3, -1), (3, -1, -3, 5), (3, -5, 3, -1), (1, -3, 3, 5), (5, 3, -1, -3), (3, 5, -1, 3), (3, 1, 5, -3), (1, 3, 5, 3), (-6, 0, -2, -2), (6, 0, 2, 2), (0, -6, -2, 2), (0, 6, 2, -2), (2, 2, -6, 0), (-2, -2, 6, 0), (2, -2, 0, -6), (-2, 2, 0, 6), (-3, -5, -3, -1), (-1, -3, -3, 5), (-5, -3, 3, -1), (-3, -1, 3, 5), (-3, 1, -5, -3), (-1, 3, -5, 3), (-5, 3, 1, -3), (-3, 5, 1, 3), (3, -5, -1, -3), (5, -3, -1, 3), (1, -3, 5, -3), (3, -1, 5, 3), (3, 1, -3, -5), (5, 3, -3, 1), (1, 3, 3, -5), (3, 5, 3, 1), (-6, 0, -2, 2), (6, 0, 2, -2), (0, -6, 2, 2), (0, 6, -2, -2), (2, -2, -6, 0), (-2, 2, 6, 0), (-2, -2, 0, -6), (2, 2, 0, 6), (-3, -1, -3, -5), (-5, -3, -3, 1), (-1, -3, 3, -5), (-3, -5, 3, 1), (-3, 5, -1, -3), (-5, 3, -1, 3), (-1, 3, 5, -3), (-3, 1, 5, 3), (3, -1, -5, -3), (1, -3, -5, 3), (5, -3, 1, -3), (3, -5, 1, 3), (3, 5, -3, -1), (1, 3, -3, 5), (5, 3, 3, -1), (3, 1, 3, 5), (-6, 0, 2, -2), (6, 0, -2, 2), (0, -6, -2, -2), (0, 6, 2, 2), (-2, 2, -6, 0), (2, -2, 6, 0), (2, 2, 0, -6), (-2, -2, 0, 6)]
def LB11F0 : List D := LB11R [(6, 2, 2, 0), (6, 2, 0, 2), (6, 2, 0, -2), (6, 2, -2, 0), (6, 0, 2, 2), (6, 0, 2, -2), (6, 0, -2, 2)]
def LB11X1 : List D := LB11R [(6, 0, -2, -2), (6, -2, 2, 0), (6, -2, 2, 0), (6, -2, 0, 2), (6, -2, 0, -2), (6, -2, -2, 0), (6, -2, -2, 0), (5, 3, 3, 1), (5, 3, 3, -1), (5, 3, 1, 3), (5, 3, 1, -3), (5, 3, -1, 3), (5, 3, -1, -3), (5, 3, -3, 1), (5, 3, -3, -1), (5, 1, 3, 3), (5, 1, 3, -3), (5, 1, -3, 3), (5, 1, -3, -3), (5, -1, 3, 3), (5, -1, 3, -3), (5, -1, -3, 3), (5, -1, -3, -3), (5, -3, 3, 1), (5, -3, 3, -1), (5, -3, 1, 3), (5, -3, 1, -3), (5, -3, -1, 3), (5, -3, -1, -3), (5, -3, -3, 1), (5, -3, -3, -1), (3, 5, 3, 1), (3, 5, 3, -1), (3, 5, 1, 3), (3, 5, 1, -3), (3, 5, -1, 3), (3, 5, -1, -3), (3, 5, -3, 1), (3, 5, -3, -1), (3, 3, 5, 1), (3, 3, 5, -1), (3, 3, 1, 5), (3, 3, 1, -5), (3, 3, -1, 5), (3, 3, -1, -5), (3, 3, -5, 1), (3, 3, -5, -1), (3, 1, 5, 3), (3, 1, 5, -3), (3, 1, 3, 5), (3, 1, 3, -5), (3, 1, -3, 5), (3, 1, -3, -5), (3, 1, -5, 3), (3, 1, -5, -3), (3, -1, 5, 3), (3, -1, 5, -3), (3, -1, 3, 5), (3, -1, 3, -5), (3, -1, -3, 5), (3, -1, -3, -5), (3, -1, -5, 3), (3, -1, -5, -3), (3, -3, 5, 1), (3, -3, 5, -1), (3, -3, 1, 5), (3, -3, 1, -5), (3, -3, -1, 5), (3, -3, -1, -5), (3, -3, -5, 1), (3, -3, -5, -1), (3, -5, 3, 1), (3, -5, 3, -1), (3, -5, 1, 3), (3, -5, 1, -3), (3, -5, -1, 3), (3, -5, -1, -3), (3, -5, -3, 1), (3, -5, -3, -1), (2, 6, 2, 0), (2, 6, 2, 0), (2, 6, 0, 2), (2, 6, 0, -2), (2, 6, -2, 0), (2, 6, -2, 0), (2, 2, 6, 0), (2, 2, 6, 0), (2, 2, 0, 6), (2, 2, 0, -6), (2, 2, -6, 0), (2, 2, -6, 0), (2, 0, 6, 2), (2, 0, 6, -2), (2, 0, 2, 6), (2, 0, 2, -6), (2, 0, -2, 6), (2, 0, -2, -6), (2, 0, -6, 2), (2, 0, -6, -2), (2, -2, 6, 0), (2, -2, 6, 0), (2, -2, 0, 6), (2, -2, 0, -6), (2, -2, -6, 0), (2, -2, -6, 0), (2, -6, 2, 0), (2, -6, 2, 0), (2, -6, 0, 2), (2, -6, 0, -2), (2, -6, -2, 0), (2, -6, -2, 0), (1, 5, 3, 3), (1, 5, 3, -3), (1, 5, -3, 3), (1, 5, -3, -3), (1, 3, 5, 3), (1, 3, 5, -3), (1, 3, 3, 5), (1, 3, 3, -5), (1, 3, -3, 5), (1, 3, -3, -5), (1, 3, -5, 3), (1, 3, -5, -3), (1, -3, 5, 3), (1, -3, 5, -3), (1, -3, 3, 5), (1, -3, 3, -5), (1, -3, -3, 5), (1, -3, -3, -5), (1, -3, -5, 3), (1, -3, -5, -3), (1, -5, 3, 3), (1, -5, 3, -3), (1, -5, -3, 3), (1, -5, -3, -3)]
def LB11K1 : List (List Key) := LB11K0 ++ LB11K [(-5, -3, -1, -3), (-3, -5, -1, 3), (-3, -1, 5, -3), (-1, -3, 5, 3), (-5, 3, -3, -1), (-3, 1, -3, 5), (-3, 5, 3, -1), (-1, 3, 3, 5), (1, -3, -3, -5), (3, -5, -3, 1), (3, -1, 3, -5), (5, -3, 3, 1), (1, 3, -5, -3), (3, 1, -5, 3), (3, 5, 1, -3), (5, 3, 1, 3), (-6, 0, 2, 2), (6, 0, -2, -2), (0, -6, 2, -2), (0, 6, -2, 2), (-2, -2, -6, 0), (2, 2, 6, 0), (-2, 2, 0, -6), (2, -2, 0, 6), (-3, -3, -5, -1), (-3, -1, -3, 5), (-5, -3, 1, -3), (-5, -1, 3, 3), (-1, 3, -5, -3), (-1, 5, -3, 3), (-3, 3, 1, -5), (-3, 5, 3, 1), (3, -5, -3, -1), (3, -3, -1, 5), (1, -5, 3, -3), (1, -3, 5, 3), (5, 1, -3, -3), (5, 3, -1, 3), (3, 1, 3, -5), (3, 3, 5, 1), (-6, 2, -2, 0), (6, -2, 2, 0), (-2, -6, 0, 2), (2, 6, 0, -2), (2, 0, -6, 2), (-2, 0, 6, -2), (0, -2, -2, -6), (0, 2, 2, 6), (-3, -1, -5, -3), (-5, -1, -3, 3), (-3, -3, 1, -5), (-5, -3, 3, 1), (-1, 5, -3, -3), (-3, 5, -1, 3), (-1, 3, 3, -5), (-3, 3, 5, 1), (3, -3, -5, -1), (1, -3, -3, 5), (3, -5, 1, -3), (1, -5, 3, 3), (5, 3, -3, -1), (3, 3, -1, 5), (5, 1, 3, -3), (3, 1, 5, 3), (-6, 2, 0, -2), (6, -2, 0, 2), (-2, -6, -2, 0), (2, 6, 2, 0), (0, 2, -6, 2), (0, -2, 6, -2), (2, 0, -2, -6), (-2, 0, 2, 6), (-5, -3, -3, -1), (-3, -3, -1, 5), (-5, -1, 3, -3), (-3, -1, 5, 3), (-3, 3, -5, -1), (-1, 3, -3, 5), (-3, 5, 1, -3), (-1, 5, 3, 3), (1, -5, -3, -3), (3, -5, -1, 3), (1, -3, 3, -5), (3, -3, 5, 1), (3, 1, -5, -3), (5, 1, -3, 3), (3, 3, 1, -5), (5, 3, 3, 1), (-6, 2, 0, 2), (6, -2, 0, -2), (-2, -6, 2, 0), (2, 6, -2, 0), (0, -2, -6, 2), (0, 2, 6, -2), (-2, 0, -2, -6), (2, 0, 2, 6), (-5, -1, -3, -3), (-5, -3, -1, 3), (-3, -1, 3, -5), (-3, -3, 5, 1), (-3, 5, -3, -1), (-3, 3, -1, 5), (-1, 5, 3, -3), (-1, 3, 5, 3), (1, -3, -5, -3), (1, -5, -3, 3), (3, -3, 1, -5), (3, -5, 3, 1), (3, 3, -5, -1), (3, 1, -3, 5), (5, 3, 1, -3), (5, 1, 3, 3), (-6, 2, 2, 0), (6, -2, -2, 0), (-2, -6, 0, -2), (2, 6, 0, 2), (-2, 0, -6, 2), (2, 0, 6, -2), (0, 2, -2, -6), (0, -2, 2, 6)]
def LB11F1 : List D := LB11F0 ++ LB11R [(6, 0, -2, -2), (6, -2, 2, 0), (6, -2, 0, 2), (6, -2, 0, -2), (6, -2, -2, 0)]
theorem LB11c0 (k : Nat) (x2 x3 x4 x8 x10 x11 : Option D) (rt0 : MO) : forW LBg (LBB (callK pg (k + 1))) LB11X0 [some (.int 11), some (.ref 0), x2, x3, x4, some (.ref 1), some (.ref 2), none, x8, none, x10, x11] [rt0, .lst false [], .dt false [] []] = some ([some (.int 11), some (.ref 0), x2, x3, x4, some (.ref 1), some (.ref 2), some (.tup [.int 6, .int 0, .int (-2), .int 2]), x8, some (.tup [.int 0, .int 0, .int 0, .int 2]), x10, x11], [rt0, .lst false LB11F0, .dt false LB11K0 (List.replicate 168 (.bl true))]) := by kernel_rfl
theorem LB11c1 (k : Nat) (x2 x3 x4 x8 x10 x11 : Option D) (rt0 : MO) : forW LBg (LBB (callK pg (k + 1))) LB11X1 [some (.int 11), some (.ref 0), x2, x3, x4, some (.ref 1), some (.ref 2), some (.tup [.int 6, .int 0, .int (-2), .int 2]), x8, some (.tup [.int 0, .int 0, .int 0, .int 2]), x10, x11] [rt0, .lst false LB11F0, .dt false LB11K0 (List.replicate 168 (.bl true))] = some ([some (.int 11), some (.ref 0), x2, x3, x4, some (.ref 1), some (.ref 2), some (.tup [.int 1, .int (-5), .int (-3), .int (-3)]), x8, some (.tup [.int 0, .int 0, .int 0, .int 2]), x10, x11], [rt0, .lst false LB11F1, .dt false LB11K1 (List.replicate 288 (.bl true))]) := by kernel_rfl
theorem LB11for (k : Nat) (x2 x3 x4 x8 x10 x11 : Option D) (rt0 : MO) : forV LBg (LBB (callK pg (k + 1))) (LB11X0 ++ (LB11X1 ++ [])) [some (.int 11), some (.ref 0), x2, x3, x4, some (.ref 1), some (.ref 2), none, x8, none, x10, x11] [rt0, .lst false [], .dt false [] []] = some (.nx [some (.int 11), some (.ref 0), x2, x3, x4, some (.ref 1), some (.ref 2), some (.tup [.int 1, .int (-5), .int (-3), .int (-3)]), x8, some (.tup [.int 0, .int 0, .int 0, .int 2]), x10, x11] [rt0, .lst false LB11F1, .dt false LB11K1 (List.replicate 288 (.bl true))]) := by
  rw [forW_app _ _ _ _ _ _ _ (LB11c0 k x2 x3 x4 x8 x10 x11 rt0)]
  rw [forW_app _ _ _ _ _ _ _ (LB11c1 k x2 x3 x4 x8 x10 x11 rt0)]
  rfl
def LB11W : List D := LB11R [(1, -5, -3, 3), (1, -5, -3, -3), (1, -5, 3, 3), (1, -5, 3, -3), (1, -3, -5, 3), (1, -3, -5, -3), (1, -3, -3, 5), (1, -3, -3, -5), (1, -3, 3, 5), (1, -3, 3, -5), (1, -3, 5, 3), (1, -3, 5, -3), (1, 3, -5, 3), (1, 3, -5, -3), (1, 3, -3, 5), (1, 3, -3, -5), (1, 3, 3, 5), (1, 3, 3, -5), (1, 3, 5, 3), (1, 3, 5, -3), (1, 5, -3, 3), (1, 5, -3, -3), (1, 5, 3, 3), (1, 5, 3, -3), (2, -6, -2, 0), (2, -6, -2, 0), (2, -6, 0, 2), (2, -6, 0, -2), (2, -6, 2, 0), (2, -6, 2, 0), (2, -2, -6, 0), (2, -2, -6, 0), (2, -2, 0, 6), (2, -2, 0, -6), (2, -2, 6, 0), (2, -2, 6, 0), (2, 0, -6, 2), (2, 0, -6, -2), (2, 0, -2, 6), (2, 0, -2, -6), (2, 0, 2, 6), (2, 0, 2, -6), (2, 0, 6, 2), (2, 0, 6, -2), (2, 2, -6, 0), (2, 2, -6, 0), (2, 2, 0, 6), (2, 2, 0, -6), (2, 2, 6, 0), (2, 2, 6, 0), (2, 6, -2, 0), (2, 6, -2, 0), (2, 6, 0, 2), (2, 6, 0, -2), (2, 6, 2, 0), (2, 6, 2, 0), (3, -5, -3, 1), (3, -5, -3, -1), (3, -5, -1, 3), (3, -5, -1, -3), (3, -5, 1, 3), (3, -5, 1, -3), (3, -5, 3, 1), (3, -5, 3, -1), (3, -3, -5, 1), (3, -3, -5, -1), (3, -3, -1, 5), (3, -3, -1, -5), (3, -3, 1, 5), (3, -3, 1, -5), (3, -3, 5, 1), (3, -3, 5, -1), (3, -1, -5, 3), (3, -1, -5, -3), (3, -1, -3, 5), (3, -1, -3, -5), (3, -1, 3, 5), (3, -1, 3, -5), (3, -1, 5, 3), (3, -1, 5, -3), (3, 1, -5, 3), (3, 1, -5, -3), (3, 1, -3, 5), (3, 1, -3, -5), (3, 1, 3, 5), (3, 1, 3, -5), (3, 1, 5, 3), (3, 1, 5, -3), (3, 3, -5, 1), (3, 3, -5, -1), (3, 3, -1, 5), (3, 3, -1, -5), (3, 3, 1, 5), (3, 3, 1, -5), (3, 3, 5, 1), (3, 3, 5, -1), (3, 5, -3, 1), (3, 5, -3, -1), (3, 5, -1, 3), (3, 5, -1, -3), (3, 5, 1, 3), (3, 5, 1, -3), (3, 5, 3, 1), (3, 5, 3, -1), (5, -3, -3, 1), (5, -3, -3, -1), (5, -3, -1, 3), (5, -3, -1, -3), (5, -3, 1, 3), (5, -3, 1, -3), (5, -3, 3, 1), (5, -3, 3, -1), (5, -1, -3, 3), (5, -1, -3, -3), (5, -1, 3, 3), (5, -1, 3, -3), (5, 1, -3, 3), (5, 1, -3, -3), (5, 1, 3, 3), (5, 1, 3, -3), (5, 3, -3, 1), (5, 3, -3, -1), (5, 3, -1, 3), (5, 3, -1, -3), (5, 3, 1, 3), (5, 3, 1, -3), (5, 3, 3, 1), (5, 3, 3, -1), (6, -2, -2, 0), (6, -2, -2, 0), (6, -2, 0, 2), (6, -2, 0, -2), (6, -2, 2, 0), (6, -2, 2, 0), (6, 0, -2, 2), (6, 0, -2, -2), (6, 0, 2, 2), (6, 0, 2, -2), (6, 2, -2, 0), (6, 2, -2, 0), (6, 2, 0, 2), (6, 2, 0, -2), (6, 2, 2, 0), (6, 2, 2, 0)]
theorem LB11hd (k : Nat) (Y : Xst) : LBh (callK pg (k + 1)) Y (stD 12 [.int 11]) [] = Y [some (.int 11), some (.ref 0), some (.int 21), some (.lst LB11W), some (.int 21), some (.ref 1), some (.ref 2), none, some (.int 21), none, some (.int 21), some (.int (-437))] [.dk false [.inl 0, .inl 1, .inl 4, .inl 9, .inl 16, .inl 25, .inl 36, .inl 49, .inl 64, .inl 81, .inl 100, .inl 121, .inl 144, .inl 169, .inl 196, .inl 225, .inl 256, .inl 289, .inl 324, .inl 361, .inl 400, .inl 441] [.int 0, .int 1, .int 2, .int 3, .int 4, .int 5, .int 6, .int 7, .int 8, .int 9, .int 10, .int 11, .int 12, .int 13, .int 14, .int 15, .int 16, .int 17, .int 18, .int 19, .int 20, .int 21], .lst false [], .dt false [] []] := by kernel_rfl
theorem LB11it (k : Nat) (Y : List D → Os) : bs (LBi (callK pg (k + 1)) [some (.int 11), some (.ref 0), some (.int 21), some (.lst LB11W), some (.int 21), some (.ref 1), some (.ref 2), none, some (.int 21), none, some (.int 21), some (.int (-437))] [.dk false [.inl 0, .inl 1, .inl 4, .inl 9, .inl 16, .inl 25, .inl 36, .inl 49, .inl 64, .inl 81, .inl 100, .inl 121, .inl 144, .inl 169, .inl 196, .inl 225, .inl 256, .inl 289, .inl 324, .inl 361, .inl 400, .inl 441] [.int 0, .int 1, .int 2, .int 3, .int 4, .int 5, .int 6, .int 7, .int 8, .int 9, .int 10, .int 11, .int 12, .int 13, .int 14, .int 15, .int 16, .int 17, .int 18, .int 19, .int 20, .int 21], .lst false [], .dt false [] []]) [some (.int 11), some (.ref 0), some (.int 21), some (.lst LB11W), some (.int 21), some (.ref 1), some (.ref 2), none, some (.int 21), none, some (.int 21), some (.int (-437))] [.dk false [.inl 0, .inl 1, .inl 4, .inl 9, .inl 16, .inl 25, .inl 36, .inl 49, .inl 64, .inl 81, .inl 100, .inl 121, .inl 144, .inl 169, .inl 196, .inl 225, .inl 256, .inl 289, .inl 324, .inl 361, .inl 400, .inl 441] [.int 0, .int 1, .int 2, .int 3, .int 4, .int 5, .int 6, .int 7, .int 8, .int 9, .int 10, .int 11, .int 12, .int 13, .int 14, .int 15, .int 16, .int 17, .int 18, .int 19, .int 20, .int 21], .lst false [], .dt false [] []] Y = Y (LB11X0 ++ (LB11X1 ++ [])) := by kernel_rfl
theorem LB11tl (k : Nat) : LBt (callK pg (k + 1)) [some (.int 11), some (.ref 0), some (.int 21), some (.lst LB11W), some (.int 21), some (.ref 1), some (.ref 2), some (.tup [.int 1, .int (-5), .int (-3), .int (-3)]), some (.int 21), some (.tup [.int 0, .int 0, .int 0, .int 2]), some (.int 21), some (.int (-437))] [.dk false [.inl 0, .inl 1, .inl 4, .inl 9, .inl 16, .inl 25, .inl 36, .inl 49, .inl 64, .inl 81, .inl 100, .inl 121, .inl 144, .inl 169, .inl 196, .inl 225, .inl 256, .inl 289, .inl 324, .inl 361, .inl 400, .inl 441] [.int 0, .int 1, .int 2, .int 3, .int 4, .int 5, .int 6, .int 7, .int 8, .int 9, .int 10, .int 11, .int 12, .int 13, .int 14, .int 15, .int 16, .int 17, .int 18, .int 19, .int 20, .int 21], .lst false LB11F1, .dt false LB11K1 (List.replicate 288 (.bl true))] = some (.rt (.lst LP11) true [.dk false [.inl 0, .inl 1, .inl 4, .inl 9, .inl 16, .inl 25, .inl 36, .inl 49, .inl 64, .inl 81, .inl 100, .inl 121, .inl 144, .inl 169, .inl 196, .inl 225, .inl 256, .inl 289, .inl 324, .inl 361, .inl 400, .inl 441] [.int 0, .int 1, .int 2, .int 3, .int 4, .int 5, .int 6, .int 7, .int 8, .int 9, .int 10, .int 11, .int 12, .int 13, .int 14, .int 15, .int 16, .int 17, .int 18, .int 19, .int 20, .int 21], .lst false LB11F1, .dt false LB11K1 (List.replicate 288 (.bl true))]) := by kernel_rfl
theorem lb11 (k : Nat) : callK pg (k + 2) i_law_letters [.int 11] = rt (.lst LP11, true) := by
  rw [call_e pg (k + 1) _ _ (fn := f_law_letters) rfl]
  have a1 := LB11hd k
  have a2 := LB11it k
  have a3 := LB11for k (some (.int 21)) (some (.lst LB11W)) (some (.int 21)) (some (.int 21)) (some (.int 21)) (some (.int (-437))) (.dk false [.inl 0, .inl 1, .inl 4, .inl 9, .inl 16, .inl 25, .inl 36, .inl 49, .inl 64, .inl 81, .inl 100, .inl 121, .inl 144, .inl 169, .inl 196, .inl 225, .inl 256, .inl 289, .inl 324, .inl 361, .inl 400, .inl 441] [.int 0, .int 1, .int 2, .int 3, .int 4, .int 5, .int 6, .int 7, .int 8, .int 9, .int 10, .int 11, .int 12, .int 13, .int 14, .int 15, .int 16, .int 17, .int 18, .int 19, .int 20, .int 21])
  have a4 := LB11tl k
  exact LBglue _ a1 a2 a3 a4 (by kernel_rfl)
theorem ls11 : shOk (.lst LP11) = true := by kernel_rfl
theorem lr11 : rfs LP11 = true := by kernel_rfl
def PV11 : Rv (D × Bool) := rt (.lst [.int 12, .int 11, .int 10, .int 9, .int 8, .int 7, .int 6, .int 5, .int 4, .int 3, .int 2, .int 1], true)
theorem pp11 (k : Nat) : callK pg (k + 6) i_partners_of [.int 11] = PV11 := by
  rw [call_e pg (k + 5) _ _ (fn := f_partners_of) rfl, ← memo1_eq (la11 k)]
  kernel_rfl
theorem pt11 (k : Nat) (l : Int) (h : 0 < l ∧ l ≤ 12) : ∃ v : Int, v.natAbs < 100 ∧ callK pg (k + 7) i_partner [.int 11, .int l] = rt (.int v, false) ∧ callK pg (k + 7) i_law_partner [.lst LP11, .int l] = rt (.int v, false) := by
  have hc : l = 1 ∨ l = 2 ∨ l = 3 ∨ l = 4 ∨ l = 5 ∨ l = 6 ∨ l = 7 ∨ l = 8 ∨ l = 9 ∨ l = 10 ∨ l = 11 ∨ l = 12 := by omega
  rw [call_e pg (k + 6) _ _ (fn := f_partner) rfl, ← memo1_eq (pp11 k)]
  rcases hc with rfl | rfl | rfl | rfl | rfl | rfl | rfl | rfl | rfl | rfl | rfl | rfl
  · exact ⟨12, by decide, by kernel_rfl, by kernel_rfl⟩
  · exact ⟨11, by decide, by kernel_rfl, by kernel_rfl⟩
  · exact ⟨10, by decide, by kernel_rfl, by kernel_rfl⟩
  · exact ⟨9, by decide, by kernel_rfl, by kernel_rfl⟩
  · exact ⟨8, by decide, by kernel_rfl, by kernel_rfl⟩
  · exact ⟨7, by decide, by kernel_rfl, by kernel_rfl⟩
  · exact ⟨6, by decide, by kernel_rfl, by kernel_rfl⟩
  · exact ⟨5, by decide, by kernel_rfl, by kernel_rfl⟩
  · exact ⟨4, by decide, by kernel_rfl, by kernel_rfl⟩
  · exact ⟨3, by decide, by kernel_rfl, by kernel_rfl⟩
  · exact ⟨2, by decide, by kernel_rfl, by kernel_rfl⟩
  · exact ⟨1, by decide, by kernel_rfl, by kernel_rfl⟩
theorem main11 (ns : List D) (z0 z1 z2 z3 z4 z5 z6 z7 z8 z9 : Int) : isT (tl_law_2 (callK pg 7) [some (.klst ns), some (.lst [.int z0, .int z1, .int z2, .int z3, .int z4, .int z5, .int z6, .int z7, .int z8, .int z9]), some (.int 11), none, none, none, none, none] []) = true := by
  obtain ⟨v1, a1, b1, c1⟩ := pt11 0 (1 + z1 % 12) (by omega)
  obtain ⟨v2, a2, b2, c2⟩ := pt11 0 (1 + z2 % 12) (by omega)
  rw [Nat.zero_add] at b1 c1 b2 c2
  exact mainG _ 11 LP11 ns z0 z1 z2 z3 z4 z5 z6 z7 z8 z9 v1 v2 (by decide) (by rfl) (la11 2) (lb11 5) b1 c1 b2 c2 (by omega) (by omega) ls11 lr11
def LP13 : List D := [.tup [.int 6, .int (-4), .int 0, .int 0], .tup [.int 6, .int 0, .int (-4), .int 0], .tup [.int 6, .int 0, .int 0, .int (-4)], .tup [.int 6, .int 0, .int 0, .int 4], .tup [.int 6, .int 0, .int 4, .int 0], .tup [.int 6, .int 4, .int 0, .int 0], .tup [.int 7, .int (-1), .int (-1), .int (-1)], .tup [.int 7, .int (-1), .int (-1), .int 1], .tup [.int 7, .int (-1), .int 1, .int (-1)], .tup [.int 7, .int (-1), .int 1, .int 1], .tup [.int 7, .int 1, .int (-1), .int (-1)], .tup [.int 7, .int 1, .int (-1), .int 1], .tup [.int 7, .int 1, .int 1, .int (-1)], .tup [.int 7, .int 1, .int 1, .int 1]]
def LA13R : List (Int × Int × Int × Int) → List D := fun r => r.map fun q => .tup [.int q.1, .int q.2.1, .int q.2.2.1, .int q.2.2.2]
def LA13K : List (Int × Int × Int × Int) → List (List Key) := fun r => r.map fun q => kq q.1 q.2.1 q.2.2.1 q.2.2.2
def LA13X0 : List D := LA13R [(7, 1, 1, 1), (7, 1, 1, -1), (7, 1, -1, 1), (7, 1, -1, -1), (7, -1, 1, 1), (7, -1, 1, -1), (7, -1, -1, 1), (7, -1, -1, -1), (6, 4, 0, 0)]
def LA13K0 : List (List Key) := LA13K [(-7, -1, -1, -1), (-5, 3, 3, 3), (-4, -4, 2, 4), (-4, 2, 4, -4), (-4, 4, -4, 2), (-3, -5, 3, -3), (-3, -3, -5, 3), (-3, 3, -3, -5), (-2, -4, -4, -4), (-1, -1, 7, 1), (-1, 1, -1, 7), (-1, 7, 1, -1), (1, -7, -1, 1), (1, -1, 1, -7), (1, 1, -7, -1), (2, 4, 4, 4), (3, -3, 3, 5), (3, 3, 5, -3), (3, 5, -3, 3), (4, -4, 4, -2), (4, -2, -4, 4), (4, 4, -2, -4), (5, -3, -3, -3), (7, 1, 1, 1), (-7, -1, -1, 1), (-5, 3, 3, -3), (-4, -4, 4, -2), (-4, 2, -4, -4), (-4, 4, 2, 4), (-3, -5, -3, -3), (-3, -3, 3, 5), (-3, 3, -5, 3), (-2, -4, -4, 4), (-1, -1, 1, -7), (-1, 1, 7, 1), (-1, 7, -1, -1), (1, -7, 1, 1), (1, -1, -7, -1), (1, 1, -1, 7), (2, 4, 4, -4), (3, -3, 5, -3), (3, 3, -3, -5), (3, 5, 3, 3), (4, -4, -2, -4), (4, -2, 4, 4), (4, 4, -4, 2), (5, -3, -3, 3), (7, 1, 1, -1), (-7, -1, 1, -1), (-5, 3, -3, 3), (-4, -4, -4, 2), (-4, 2, 4, 4), (-4, 4, -2, -4), (-3, -5, 3, 3), (-3, -3, -3, -5), (-3, 3, 5, -3), (-2, -4, 4, -4), (-1, -1, -1, 7), (-1, 1, -7, -1), (-1, 7, 1, 1), (1, -7, -1, -1), (1, -1, 7, 1), (1, 1, 1, -7), (2, 4, -4, 4), (3, -3, -5, 3), (3, 3, 3, 5), (3, 5, -3, -3), (4, -4, 2, 4), (4, -2, -4, -4), (4, 4, 4, -2), (5, -3, 3, -3), (7, 1, -1, 1), (-7, -1, 1, 1), (-5, 3, -3, -3), (-4, -4, -2, -4), (-4, 2, -4, 4), (-4, 4, 4, -2), (-3, -5, -3, 3), (-3, -3, 5, -3), (-3, 3, 3, 5), (-2, -4, 4, 4), (-1, -1, -7, -1), (-1, 1, 1, -7), (-1, 7, -1, 1), (1, -7, 1, -1), (1, -1, -1, 7), (1, 1, 7, 1), (2, 4, -4, -4), (3, -3, -3, -5), (3, 3, -5, 3), (3, 5, 3, -3), (4, -4, -4, 2), (4, -2, 4, -4), (4, 4, 2, 4), (5, -3, 3, 3), (7, 1, -1, -1), (-7, 1, -1, -1), (-5, -3, 3, 3), (-4, -4, 2, -4), (-4, -2, -4, 4), (-4, 4, 4, 2), (-3, -3, -5, -3), (-3, 3, 3, -5), (-3, 5, -3, 3), (-2, 4, -4, -4), (-1, -7, -1, 1), (-1, -1, 7, -1), (-1, 1, 1, 7), (1, -1, -1, -7), (1, 1, -7, 1), (1, 7, 1, -1), (2, -4, 4, 4), (3, -5, 3, -3), (3, -3, -3, 5), (3, 3, 5, 3), (4, -4, -4, -2), (4, 2, 4, -4), (4, 4, -2, 4), (5, 3, -3, -3), (7, -1, 1, 1), (-7, 1, -1, 1), (-5, -3, 3, -3), (-4, -4, -4, -2), (-4, -2, 4, 4), (-4, 4, 2, -4), (-3, -3, -3, 5), (-3, 3, -5, -3), (-3, 5, 3, 3), (-2, 4, -4, 4), (-1, -7, 1, 1), (-1, -1, -1, -7), (-1, 1, 7, -1), (1, -1, -7, 1), (1, 1, 1, 7), (1, 7, -1, -1), (2, -4, 4, -4), (3, -5, -3, -3), (3, -3, 5, 3), (3, 3, 3, -5), (4, -4, -2, 4), (4, 2, -4, -4), (4, 4, 4, 2), (5, 3, -3, 3), (7, -1, 1, -1), (-7, 1, 1, -1), (-5, -3, -3, 3), (-4, -4, 4, 2), (-4, -2, -4, -4), (-4, 4, -2, 4), (-3, -3, 3, -5), (-3, 3, 5, 3), (-3, 5, -3, -3), (-2, 4, 4, -4), (-1, -7, -1, -1), (-1, -1, 1, 7), (-1, 1, -7, 1), (1, -1, 7, -1), (1, 1, -1, -7), (1, 7, 1, 1), (2, -4, -4, 4), (3, -5, 3, 3), (3, -3, -5, -3), (3, 3, -3, 5), (4, -4, 2, -4), (4, 2, 4, 4), (4, 4, -4, -2), (5, 3, 3, -3), (7, -1, -1, 1), (-7, 1, 1, 1), (-5, -3, -3, -3), (-4, -4, -2, 4), (-4, -2, 4, -4), (-4, 4, -4, -2), (-3, -3, 5, 3), (-3, 3, -3, 5), (-3, 5, 3, -3), (-2, 4, 4, 4), (-1, -7, 1, -1), (-1, -1, -7, 1), (-1, 1, -1, -7), (1, -1, 1, 7), (1, 1, 7, -1), (1, 7, -1, 1), (2, -4, -4, -4), (3, -5, -3, 3), (3, -3, 3, -5), (3, 3, -5, -3), (4, -4, 4, 2), (4, 2, -4, 4), (4, 4, 2, -4), (5, 3, 3, 3), (7, -1, -1, -1), (-6, -4, 0, 0), (-5, 1, -5, 1), (-5, 1, -1, -5), (-5, 1, 1, 5), (-5, 1, 5, -1), (-4, 6, 0, 0), (-1, -5, -5, 1), (-1, -5, -1, -5), (-1, -5, 1, 5), (-1, -5, 5, -1), (0, 0, -6, -4), (0, 0, -4, 6), (0, 0, 4, -6), (0, 0, 6, 4), (1, 5, -5, 1), (1, 5, -1, -5), (1, 5, 1, 5), (1, 5, 5, -1), (4, -6, 0, 0), (5, -1, -5, 1), (5, -1, -1, -5), (5, -1, 1, 5), (5, -1, 5, -1), (6, 4, 0, 0)]
def LA13F0 : List D := LA13R [(7, 1, 1, 1), (7, 1, 1, -1), (7, 1, -1, 1), (7, 1, -1, -1), (7, -1, 1, 1), (7, -1, 1, -1), (7, -1, -1, 1), (7, -1, -1, -1), (6, 4, 0, 0)]
def LA13X1 : List D := LA13R [(6, 0, 4, 0), (6, 0, 0, 4), (6, 0, 0, -4), (6, 0, -4, 0), (6, -4, 0, 0), (5, 5, 1, 1), (5, 5, 1, -1), (5, 5, -1, 1), (5, 5, -1, -1), (5, 3, 3, 3), (5, 3, 3, -3), (5, 3, -3, 3), (5, 3, -3, -3), (5, 1, 5, 1), (5, 1, 5, -1), (5, 1, 1, 5), (5, 1, 1, -5), (5, 1, -1, 5), (5, 1, -1, -5), (5, 1, -5, 1), (5, 1, -5, -1), (5, -1, 5, 1), (5, -1, 5, -1), (5, -1, 1, 5), (5, -1, 1, -5), (5, -1, -1, 5), (5, -1, -1, -5), (5, -1, -5, 1), (5, -1, -5, -1), (5, -3, 3, 3), (5, -3, 3, -3), (5, -3, -3, 3), (5, -3, -3, -3), (5, -5, 1, 1), (5, -5, 1, -1), (5, -5, -1, 1), (5, -5, -1, -1), (4, 6, 0, 0), (4, 4, 4, 2), (4, 4, 4, -2), (4, 4, 2, 4), (4, 4, 2, -4), (4, 4, -2, 4), (4, 4, -2, -4), (4, 4, -4, 2), (4, 4, -4, -2), (4, 2, 4, 4), (4, 2, 4, -4), (4, 2, -4, 4), (4, 2, -4, -4), (4, 0, 6, 0), (4, 0, 0, 6), (4, 0, 0, -6), (4, 0, -6, 0), (4, -2, 4, 4), (4, -2, 4, -4), (4, -2, -4, 4), (4, -2, -4, -4), (4, -4, 4, 2), (4, -4, 4, -2), (4, -4, 2, 4), (4, -4, 2, -4), (4, -4, -2, 4), (4, -4, -2, -4), (4, -4, -4, 2), (4, -4, -4, -2), (4, -6, 0, 0), (3, 5, 3, 3), (3, 5, 3, -3), (3, 5, -3, 3), (3, 5, -3, -3), (3, 3, 5, 3), (3, 3, 5, -3), (3, 3, 3, 5), (3, 3, 3, -5), (3, 3, -3, 5), (3, 3, -3, -5), (3, 3, -5, 3), (3, 3, -5, -3), (3, -3, 5, 3), (3, -3, 5, -3), (3, -3, 3, 5), (3, -3, 3, -5), (3, -3, -3, 5), (3, -3, -3, -5), (3, -3, -5, 3), (3, -3, -5, -3), (3, -5, 3, 3), (3, -5, 3, -3), (3, -5, -3, 3), (3, -5, -3, -3), (2, 4, 4, 4), (2, 4, 4, -4), (2, 4, -4, 4), (2, 4, -4, -4), (2, -4, 4, 4), (2, -4, 4, -4), (2, -4, -4, 4), (2, -4, -4, -4), (1, 7, 1, 1), (1, 7, 1, -1), (1, 7, -1, 1), (1, 7, -1, -1), (1, 5, 5, 1), (1, 5, 5, -1), (1, 5, 1, 5), (1, 5, 1, -5), (1, 5, -1, 5), (1, 5, -1, -5), (1, 5, -5, 1), (1, 5, -5, -1), (1, 1, 7, 1), (1, 1, 7, -1), (1, 1, 5, 5), (1, 1, 5, -5), (1, 1, 1, 7), (1, 1, 1, -7), (1, 1, -1, 7), (1, 1, -1, -7), (1, 1, -5, 5), (1, 1, -5, -5), (1, 1, -7, 1), (1, 1, -7, -1), (1, -1, 7, 1), (1, -1, 7, -1), (1, -1, 5, 5), (1, -1, 5, -5), (1, -1, 1, 7), (1, -1, 1, -7), (1, -1, -1, 7), (1, -1, -1, -7), (1, -1, -5, 5), (1, -1, -5, -5), (1, -1, -7, 1), (1, -1, -7, -1), (1, -5, 5, 1), (1, -5, 5, -1), (1, -5, 1, 5), (1, -5, 1, -5), (1, -5, -1, 5), (1, -5, -1, -5), (1, -5, -5, 1), (1, -5, -5, -1), (1, -7, 1, 1), (1, -7, 1, -1), (1, -7, -1, 1), (1, -7, -1, -1)]
def LA13K1 : List (List Key) := LA13K0 ++ LA13K [(-6, 0, -4, 0), (-5, -5, 1, -1), (-5, -1, 1, 5), (-5, 1, 1, -5), (-5, 5, 1, 1), (-4, 0, 6, 0), (-1, -5, -5, -1), (-1, -1, -5, 5), (-1, 1, -5, -5), (-1, 5, -5, 1), (0, -6, 0, 4), (0, -4, 0, -6), (0, 4, 0, 6), (0, 6, 0, -4), (1, -5, 5, -1), (1, -1, 5, 5), (1, 1, 5, -5), (1, 5, 5, 1), (4, 0, -6, 0), (5, -5, -1, -1), (5, -1, -1, 5), (5, 1, -1, -5), (5, 5, -1, 1), (6, 0, 4, 0), (-6, 0, 0, -4), (-5, -5, 1, 1), (-5, -1, -5, 1), (-5, 1, 5, 1), (-5, 5, -1, 1), (-4, 0, 0, 6), (-1, -5, 1, -5), (-1, -1, -5, -5), (-1, 1, 5, -5), (-1, 5, -1, -5), (0, -6, -4, 0), (0, -4, 6, 0), (0, 4, -6, 0), (0, 6, 4, 0), (1, -5, 1, 5), (1, -1, -5, 5), (1, 1, 5, 5), (1, 5, -1, 5), (4, 0, 0, -6), (5, -5, 1, -1), (5, -1, -5, -1), (5, 1, 5, -1), (5, 5, -1, -1), (6, 0, 0, 4), (-6, 0, 0, 4), (-5, -5, -1, -1), (-5, -1, 5, -1), (-5, 1, -5, -1), (-5, 5, 1, -1), (-4, 0, 0, -6), (-1, -5, -1, 5), (-1, -1, 5, 5), (-1, 1, -5, 5), (-1, 5, 1, 5), (0, -6, 4, 0), (0, -4, -6, 0), (0, 4, 6, 0), (0, 6, -4, 0), (1, -5, -1, -5), (1, -1, 5, -5), (1, 1, -5, -5), (1, 5, 1, -5), (4, 0, 0, 6), (5, -5, -1, 1), (5, -1, 5, 1), (5, 1, -5, 1), (5, 5, 1, 1), (6, 0, 0, -4), (-6, 0, 4, 0), (-5, -5, -1, 1), (-5, -1, -1, -5), (-5, 1, -1, 5), (-5, 5, -1, -1), (-4, 0, -6, 0), (-1, -5, 5, 1), (-1, -1, 5, -5), (-1, 1, 5, 5), (-1, 5, 5, -1), (0, -6, 0, -4), (0, -4, 0, 6), (0, 4, 0, -6), (0, 6, 0, 4), (1, -5, -5, 1), (1, -1, -5, -5), (1, 1, -5, 5), (1, 5, -5, -1), (4, 0, 6, 0), (5, -5, 1, 1), (5, -1, 1, -5), (5, 1, 1, 5), (5, 5, 1, -1), (6, 0, -4, 0), (-6, 4, 0, 0), (-5, -1, -5, -1), (-5, -1, -1, 5), (-5, -1, 1, -5), (-5, -1, 5, 1), (-4, -6, 0, 0), (-1, 5, -5, -1), (-1, 5, -1, 5), (-1, 5, 1, -5), (-1, 5, 5, 1), (0, 0, -6, 4), (0, 0, -4, -6), (0, 0, 4, 6), (0, 0, 6, -4), (1, -5, -5, -1), (1, -5, -1, 5), (1, -5, 1, -5), (1, -5, 5, 1), (4, 6, 0, 0), (5, 1, -5, -1), (5, 1, -1, 5), (5, 1, 1, -5), (5, 1, 5, 1), (6, -4, 0, 0)]
def LA13F1 : List D := LA13F0 ++ LA13R [(6, 0, 4, 0), (6, 0, 0, 4), (6, 0, 0, -4), (6, 0, -4, 0), (6, -4, 0, 0)]
theorem LA13c0 (k : Nat)  : forW LAg (LAB (callK pg (k + 4))) LA13X0 [some (.int 13), some (.ref 0), some (.ref 1), none, none] [.lst false [], .dt false [] []] = some ([some (.int 13), some (.ref 0), some (.ref 1), some (.tup [.int 6, .int 4, .int 0, .int 0]), some (.tup [.int 6, .int 4, .int 0, .int 0])], [.lst false LA13F0, .dt false LA13K0 (List.replicate 216 (.bl true))]) := by kernel_rfl
theorem LA13c1 (k : Nat)  : forW LAg (LAB (callK pg (k + 4))) LA13X1 [some (.int 13), some (.ref 0), some (.ref 1), some (.tup [.int 6, .int 4, .int 0, .int 0]), some (.tup [.int 6, .int 4, .int 0, .int 0])] [.lst false LA13F0, .dt false LA13K0 (List.replicate 216 (.bl true))] = some ([some (.int 13), some (.ref 0), some (.ref 1), some (.tup [.int 1, .int (-7), .int (-1), .int (-1)]), some (.tup [.int 6, .int (-4), .int 0, .int 0])], [.lst false LA13F1, .dt false LA13K1 (List.replicate 336 (.bl true))]) := by kernel_rfl
theorem LA13for (k : Nat)  : forV LAg (LAB (callK pg (k + 4))) (LA13X0 ++ (LA13X1 ++ [])) [some (.int 13), some (.ref 0), some (.ref 1), none, none] [.lst false [], .dt false [] []] = some (.nx [some (.int 13), some (.ref 0), some (.ref 1), some (.tup [.int 1, .int (-7), .int (-1), .int (-1)]), some (.tup [.int 6, .int (-4), .int 0, .int 0])] [.lst false LA13F1, .dt false LA13K1 (List.replicate 336 (.bl true))]) := by
  rw [forW_app _ _ _ _ _ _ _ (LA13c0 k )]
  rw [forW_app _ _ _ _ _ _ _ (LA13c1 k )]
  rfl
theorem LA13hd (k : Nat) (Y : Xst) : LAh (callK pg (k + 4)) Y (stD 5 [.int 13]) [] = Y [some (.int 13), some (.ref 0), some (.ref 1), none, none] [.lst false [], .dt false [] []] := by kernel_rfl
theorem LA13it (k : Nat) (Y : List D → Os) : bs (LAi (callK pg (k + 4)) [some (.int 13), some (.ref 0), some (.ref 1), none, none] [.lst false [], .dt false [] []]) [some (.int 13), some (.ref 0), some (.ref 1), none, none] [.lst false [], .dt false [] []] Y = Y (LA13X0 ++ (LA13X1 ++ [])) := by kernel_rfl
theorem LA13tl (k : Nat) : LAt (callK pg (k + 4)) [some (.int 13), some (.ref 0), some (.ref 1), some (.tup [.int 1, .int (-7), .int (-1), .int (-1)]), some (.tup [.int 6, .int (-4), .int 0, .int 0])] [.lst false LA13F1, .dt false LA13K1 (List.replicate 336 (.bl true))] = some (.rt (.lst LP13) true [.lst false LA13F1, .dt false LA13K1 (List.replicate 336 (.bl true))]) := by kernel_rfl
theorem la13 (k : Nat) : callK pg (k + 5) i_letters [.int 13] = rt (.lst LP13, true) := by
  rw [call_e pg (k + 4) _ _ (fn := f_letters) rfl]
  have a1 := LA13hd k
  have a2 := LA13it k
  have a3 := LA13for k 
  have a4 := LA13tl k
  exact LAglue _ a1 a2 a3 a4 (by kernel_rfl)
def LB13R : List (Int × Int × Int × Int) → List D := fun r => r.map fun q => .tup [.int q.1, .int q.2.1, .int q.2.2.1, .int q.2.2.2]
def LB13K : List (Int × Int × Int × Int) → List (List Key) := fun r => r.map fun q => kq q.1 q.2.1 q.2.2.1 q.2.2.2
def LB13X0 : List D := LB13R [(7, 1, 1, 1), (7, 1, 1, -1), (7, 1, -1, 1), (7, 1, -1, -1), (7, -1, 1, 1), (7, -1, 1, -1), (7, -1, -1, 1), (7, -1, -1, -1), (6, 4, 0, 0), (6, 4, 0, 0)]
def LB13K0 : List (List Key) := LB13K [(-2, -4, -4, -4), (-3, -3, -5, 3), (-3, -5, 3, -3), (-4, -4, 2, 4), (-3, 3, -3, -5), (-4, 4, -4, 2), (-4, 2, 4, -4), (-5, 3, 3, 3), (5, -3, -3, -3), (4, -2, -4, 4), (4, -4, 4, -2), (3, -3, 3, 5), (4, 4, -2, -4), (3, 5, -3, 3), (3, 3, 5, -3), (2, 4, 4, 4), (-7, -1, -1, -1), (7, 1, 1, 1), (1, -7, -1, 1), (-1, 7, 1, -1), (1, 1, -7, -1), (-1, -1, 7, 1), (1, -1, 1, -7), (-1, 1, -1, 7), (-3, -5, -3, -3), (-2, -4, -4, 4), (-4, -4, 4, -2), (-3, -3, 3, 5), (-4, 2, -4, -4), (-3, 3, -5, 3), (-5, 3, 3, -3), (-4, 4, 2, 4), (4, -4, -2, -4), (5, -3, -3, 3), (3, -3, 5, -3), (4, -2, 4, 4), (3, 3, -3, -5), (4, 4, -4, 2), (2, 4, 4, -4), (3, 5, 3, 3), (-7, -1, -1, 1), (7, 1, 1, -1), (1, -7, 1, 1), (-1, 7, -1, -1), (1, -1, -7, -1), (-1, 1, 7, 1), (-1, -1, 1, -7), (1, 1, -1, 7), (-3, -3, -3, -5), (-4, -4, -4, 2), (-2, -4, 4, -4), (-3, -5, 3, 3), (-4, 4, -2, -4), (-5, 3, -3, 3), (-3, 3, 5, -3), (-4, 2, 4, 4), (4, -2, -4, -4), (3, -3, -5, 3), (5, -3, 3, -3), (4, -4, 2, 4), (3, 5, -3, -3), (2, 4, -4, 4), (4, 4, 4, -2), (3, 3, 3, 5), (-7, -1, 1, -1), (7, 1, -1, 1), (1, -7, -1, -1), (-1, 7, 1, 1), (-1, 1, -7, -1), (1, -1, 7, 1), (1, 1, 1, -7), (-1, -1, -1, 7), (-4, -4, -2, -4), (-3, -5, -3, 3), (-3, -3, 5, -3), (-2, -4, 4, 4), (-5, 3, -3, -3), (-4, 2, -4, 4), (-4, 4, 4, -2), (-3, 3, 3, 5), (3, -3, -3, -5), (4, -4, -4, 2), (4, -2, 4, -4), (5, -3, 3, 3), (2, 4, -4, -4), (3, 3, -5, 3), (3, 5, 3, -3), (4, 4, 2, 4), (-7, -1, 1, 1), (7, 1, -1, -1), (1, -7, 1, -1), (-1, 7, -1, 1), (-1, -1, -7, -1), (1, 1, 7, 1), (-1, 1, 1, -7), (1, -1, -1, 7), (-3, -3, -5, -3), (-4, -2, -4, 4), (-4, -4, 2, -4), (-5, -3, 3, 3), (-2, 4, -4, -4), (-3, 5, -3, 3), (-3, 3, 3, -5), (-4, 4, 4, 2), (4, -4, -4, -2), (3, -3, -3, 5), (3, -5, 3, -3), (2, -4, 4, 4), (5, 3, -3, -3), (4, 4, -2, 4), (4, 2, 4, -4), (3, 3, 5, 3), (-7, 1, -1, -1), (7, -1, 1, 1), (-1, -7, -1, 1), (1, 7, 1, -1), (1, 1, -7, 1), (-1, -1, 7, -1), (1, -1, -1, -7), (-1, 1, 1, 7), (-4, -4, -4, -2), (-3, -3, -3, 5), (-5, -3, 3, -3), (-4, -2, 4, 4), (-3, 3, -5, -3), (-2, 4, -4, 4), (-4, 4, 2, -4), (-3, 5, 3, 3), (3, -5, -3, -3), (4, -4, -2, 4), (2, -4, 4, -4), (3, -3, 5, 3), (4, 2, -4, -4), (5, 3, -3, 3), (3, 3, 3, -5), (4, 4, 4, 2), (-7, 1, -1, 1), (7, -1, 1, -1), (-1, -7, 1, 1), (1, 7, -1, -1), (1, -1, -7, 1), (-1, 1, 7, -1), (-1, -1, -1, -7), (1, 1, 1, 7), (-4, -2, -4, -4), (-5, -3, -3, 3), (-3, -3, 3, -5), (-4, -4, 4, 2), (-3, 5, -3, -3), (-4, 4, -2, 4), (-2, 4, 4, -4), (-3, 3, 5, 3), (3, -3, -5, -3), (2, -4, -4, 4), (4, -4, 2, -4), (3, -5, 3, 3), (4, 4, -4, -2), (3, 3, -3, 5), (5, 3, 3, -3), (4, 2, 4, 4), (-7, 1, 1, -1), (7, -1, -1, 1), (-1, -7, -1, -1), (1, 7, 1, 1), (-1, 1, -7, 1), (1, -1, 7, -1), (1, 1, -1, -7), (-1, -1, 1, 7), (-5, -3, -3, -3), (-4, -4, -2, 4), (-4, -2, 4, -4), (-3, -3, 5, 3), (-4, 4, -4, -2), (-3, 3, -3, 5), (-3, 5, 3, -3), (-2, 4, 4, 4), (2, -4, -4, -4), (3, -5, -3, 3), (3, -3, 3, -5), (4, -4, 4, 2), (3, 3, -5, -3), (4, 2, -4, 4), (4, 4, 2, -4), (5, 3, 3, 3), (-7, 1, 1, 1), (7, -1, -1, -1), (-1, -7, 1, -1), (1, 7, -1, 1), (-1, -1, -7, 1), (1, 1, 7, -1), (-1, 1, -1, -7), (1, -1, 1, 7), (-1, -5, -1, -5), (-1, -5, -5, 1), (-1, -5, 5, -1), (-1, -5, 1, 5), (-5, 1, -1, -5), (-5, 1, -5, 1), (-5, 1, 5, -1), (-5, 1, 1, 5), (5, -1, -1, -5), (5, -1, -5, 1), (5, -1, 5, -1), (5, -1, 1, 5), (1, 5, -1, -5), (1, 5, -5, 1), (1, 5, 5, -1), (1, 5, 1, 5), (-6, -4, 0, 0), (6, 4, 0, 0), (4, -6, 0, 0), (-4, 6, 0, 0), (0, 0, -6, -4), (0, 0, 6, 4), (0, 0, 4, -6), (0, 0, -4, 6)]
def LB13F0 : List D := LB13R [(7, 1, 1, 1), (7, 1, 1, -1), (7, 1, -1, 1), (7, 1, -1, -1), (7, -1, 1, 1), (7, -1, 1, -1), (7, -1, -1, 1), (7, -1, -1, -1), (6, 4, 0, 0)]
def LB13X1 : List D := LB13R [(6, 0, 4, 0), (6, 0, 4, 0), (6, 0, 0, 4), (6, 0, 0, -4), (6, 0, -4, 0), (6, 0, -4, 0), (6, -4, 0, 0), (6, -4, 0, 0), (5, 5, 1, 1), (5, 5, 1, -1), (5, 5, -1, 1), (5, 5, -1, -1), (5, 3, 3, 3), (5, 3, 3, -3), (5, 3, -3, 3), (5, 3, -3, -3), (5, 1, 5, 1), (5, 1, 5, -1), (5, 1, 1, 5), (5, 1, 1, -5), (5, 1, -1, 5), (5, 1, -1, -5), (5, 1, -5, 1), (5, 1, -5, -1), (5, -1, 5, 1), (5, -1, 5, -1), (5, -1, 1, 5), (5, -1, 1, -5), (5, -1, -1, 5), (5, -1, -1, -5), (5, -1, -5, 1), (5, -1, -5, -1), (5, -3, 3, 3), (5, -3, 3, -3), (5, -3, -3, 3), (5, -3, -3, -3), (5, -5, 1, 1), (5, -5, 1, -1), (5, -5, -1, 1), (5, -5, -1, -1), (4, 6, 0, 0), (4, 6, 0, 0), (4, 4, 4, 2), (4, 4, 4, -2), (4, 4, 2, 4), (4, 4, 2, -4), (4, 4, -2, 4), (4, 4, -2, -4), (4, 4, -4, 2), (4, 4, -4, -2), (4, 2, 4, 4), (4, 2, 4, -4), (4, 2, -4, 4), (4, 2, -4, -4), (4, 0, 6, 0), (4, 0, 6, 0), (4, 0, 0, 6), (4, 0, 0, -6), (4, 0, -6, 0), (4, 0, -6, 0), (4, -2, 4, 4), (4, -2, 4, -4), (4, -2, -4, 4), (4, -2, -4, -4), (4, -4, 4, 2), (4, -4, 4, -2), (4, -4, 2, 4), (4, -4, 2, -4), (4, -4, -2, 4), (4, -4, -2, -4), (4, -4, -4, 2), (4, -4, -4, -2), (4, -6, 0, 0), (4, -6, 0, 0), (3, 5, 3, 3), (3, 5, 3, -3), (3, 5, -3, 3), (3, 5, -3, -3), (3, 3, 5, 3), (3, 3, 5, -3), (3, 3, 3, 5), (3, 3, 3, -5), (3, 3, -3, 5), (3, 3, -3, -5), (3, 3, -5, 3), (3, 3, -5, -3), (3, -3, 5, 3), (3, -3, 5, -3), (3, -3, 3, 5), (3, -3, 3, -5), (3, -3, -3, 5), (3, -3, -3, -5), (3, -3, -5, 3), (3, -3, -5, -3), (3, -5, 3, 3), (3, -5, 3, -3), (3, -5, -3, 3), (3, -5, -3, -3), (2, 4, 4, 4), (2, 4, 4, -4), (2, 4, -4, 4), (2, 4, -4, -4), (2, -4, 4, 4), (2, -4, 4, -4), (2, -4, -4, 4), (2, -4, -4, -4), (1, 7, 1, 1), (1, 7, 1, -1), (1, 7, -1, 1), (1, 7, -1, -1), (1, 5, 5, 1), (1, 5, 5, -1), (1, 5, 1, 5), (1, 5, 1, -5), (1, 5, -1, 5), (1, 5, -1, -5), (1, 5, -5, 1), (1, 5, -5, -1), (1, 1, 7, 1), (1, 1, 7, -1), (1, 1, 5, 5), (1, 1, 5, -5), (1, 1, 1, 7), (1, 1, 1, -7), (1, 1, -1, 7), (1, 1, -1, -7), (1, 1, -5, 5), (1, 1, -5, -5), (1, 1, -7, 1), (1, 1, -7, -1), (1, -1, 7, 1), (1, -1, 7, -1), (1, -1, 5, 5), (1, -1, 5, -5), (1, -1, 1, 7), (1, -1, 1, -7), (1, -1, -1, 7), (1, -1, -1, -7), (1, -1, -5, 5), (1, -1, -5, -5), (1, -1, -7, 1), (1, -1, -7, -1), (1, -5, 5, 1), (1, -5, 5, -1), (1, -5, 1, 5), (1, -5, 1, -5), (1, -5, -1, 5), (1, -5, -1, -5), (1, -5, -5, 1), (1, -5, -5, -1), (1, -7, 1, 1), (1, -7, 1, -1), (1, -7, -1, 1), (1, -7, -1, -1)]
def LB13K1 : List (List Key) := LB13K0 ++ LB13K [(-1, -5, -5, -1), (-1, -1, -5, 5), (-5, -5, 1, -1), (-5, -1, 1, 5), (-1, 1, -5, -5), (-1, 5, -5, 1), (-5, 1, 1, -5), (-5, 5, 1, 1), (5, -5, -1, -1), (5, -1, -1, 5), (1, -5, 5, -1), (1, -1, 5, 5), (5, 1, -1, -5), (5, 5, -1, 1), (1, 1, 5, -5), (1, 5, 5, 1), (-6, 0, -4, 0), (6, 0, 4, 0), (0, -6, 0, 4), (0, 6, 0, -4), (4, 0, -6, 0), (-4, 0, 6, 0), (0, -4, 0, -6), (0, 4, 0, 6), (-1, -1, -5, -5), (-5, -1, -5, 1), (-1, -5, 1, -5), (-5, -5, 1, 1), (-1, 5, -1, -5), (-5, 5, -1, 1), (-1, 1, 5, -5), (-5, 1, 5, 1), (5, -1, -5, -1), (1, -1, -5, 5), (5, -5, 1, -1), (1, -5, 1, 5), (5, 5, -1, -1), (1, 5, -1, 5), (5, 1, 5, -1), (1, 1, 5, 5), (-6, 0, 0, -4), (6, 0, 0, 4), (0, -6, -4, 0), (0, 6, 4, 0), (0, 4, -6, 0), (0, -4, 6, 0), (4, 0, 0, -6), (-4, 0, 0, 6), (-5, -5, -1, -1), (-1, -5, -1, 5), (-5, -1, 5, -1), (-1, -1, 5, 5), (-5, 1, -5, -1), (-1, 1, -5, 5), (-5, 5, 1, -1), (-1, 5, 1, 5), (1, -5, -1, -5), (5, -5, -1, 1), (1, -1, 5, -5), (5, -1, 5, 1), (1, 1, -5, -5), (5, 1, -5, 1), (1, 5, 1, -5), (5, 5, 1, 1), (-6, 0, 0, 4), (6, 0, 0, -4), (0, -6, 4, 0), (0, 6, -4, 0), (0, -4, -6, 0), (0, 4, 6, 0), (-4, 0, 0, -6), (4, 0, 0, 6), (-5, -1, -1, -5), (-5, -5, -1, 1), (-1, -1, 5, -5), (-1, -5, 5, 1), (-5, 5, -1, -1), (-5, 1, -1, 5), (-1, 5, 5, -1), (-1, 1, 5, 5), (1, -1, -5, -5), (1, -5, -5, 1), (5, -1, 1, -5), (5, -5, 1, 1), (1, 5, -5, -1), (1, 1, -5, 5), (5, 5, 1, -1), (5, 1, 1, 5), (-6, 0, 4, 0), (6, 0, -4, 0), (0, -6, 0, -4), (0, 6, 0, 4), (-4, 0, -6, 0), (4, 0, 6, 0), (0, 4, 0, -6), (0, -4, 0, 6), (-5, -1, -5, -1), (-5, -1, -1, 5), (-5, -1, 1, -5), (-5, -1, 5, 1), (-1, 5, -5, -1), (-1, 5, -1, 5), (-1, 5, 1, -5), (-1, 5, 5, 1), (1, -5, -5, -1), (1, -5, -1, 5), (1, -5, 1, -5), (1, -5, 5, 1), (5, 1, -5, -1), (5, 1, -1, 5), (5, 1, 1, -5), (5, 1, 5, 1), (-6, 4, 0, 0), (6, -4, 0, 0), (-4, -6, 0, 0), (4, 6, 0, 0), (0, 0, -6, 4), (0, 0, 6, -4), (0, 0, -4, -6), (0, 0, 4, 6)]
def LB13F1 : List D := LB13F0 ++ LB13R [(6, 0, 4, 0), (6, 0, 0, 4), (6, 0, 0, -4), (6, 0, -4, 0), (6, -4, 0, 0)]
theorem LB13c0 (k : Nat) (x2 x3 x4 x8 x10 x11 : Option D) (rt0 : MO) : forW LBg (LBB (callK pg (k + 1))) LB13X0 [some (.int 13), some (.ref 0), x2, x3, x4, some (.ref 1), some (.ref 2), none, x8, none, x10, x11] [rt0, .lst false [], .dt false [] []] = some ([some (.int 13), some (.ref 0), x2, x3, x4, some (.ref 1), some (.ref 2), some (.tup [.int 6, .int 4, .int 0, .int 0]), x8, some (.tup [.int 0, .int 0, .int 0, .int 2]), x10, x11], [rt0, .lst false LB13F0, .dt false LB13K0 (List.replicate 216 (.bl true))]) := by kernel_rfl
theorem LB13c1 (k : Nat) (x2 x3 x4 x8 x10 x11 : Option D) (rt0 : MO) : forW LBg (LBB (callK pg (k + 1))) LB13X1 [some (.int 13), some (.ref 0), x2, x3, x4, some (.ref 1), some (.ref 2), some (.tup [.int 6, .int 4, .int 0, .int 0]), x8, some (.tup [.int 0, .int 0, .int 0, .int 2]), x10, x11] [rt0, .lst false LB13F0, .dt false LB13K0 (List.replicate 216 (.bl true))] = some ([some (.int 13), some (.ref 0), x2, x3, x4, some (.ref 1), some (.ref 2), some (.tup [.int 1, .int (-7), .int (-1), .int (-1)]), x8, some (.tup [.int 0, .int 0, .int 0, .int 2]), x10, x11], [rt0, .lst false LB13F1, .dt false LB13K1 (List.replicate 336 (.bl true))]) := by kernel_rfl
theorem LB13for (k : Nat) (x2 x3 x4 x8 x10 x11 : Option D) (rt0 : MO) : forV LBg (LBB (callK pg (k + 1))) (LB13X0 ++ (LB13X1 ++ [])) [some (.int 13), some (.ref 0), x2, x3, x4, some (.ref 1), some (.ref 2), none, x8, none, x10, x11] [rt0, .lst false [], .dt false [] []] = some (.nx [some (.int 13), some (.ref 0), x2, x3, x4, some (.ref 1), some (.ref 2), some (.tup [.int 1, .int (-7), .int (-1), .int (-1)]), x8, some (.tup [.int 0, .int 0, .int 0, .int 2]), x10, x11] [rt0, .lst false LB13F1, .dt false LB13K1 (List.replicate 336 (.bl true))]) := by
  rw [forW_app _ _ _ _ _ _ _ (LB13c0 k x2 x3 x4 x8 x10 x11 rt0)]
  rw [forW_app _ _ _ _ _ _ _ (LB13c1 k x2 x3 x4 x8 x10 x11 rt0)]
  rfl
def LB13W : List D := LB13R [(1, -7, -1, 1), (1, -7, -1, -1), (1, -7, 1, 1), (1, -7, 1, -1), (1, -5, -5, 1), (1, -5, -5, -1), (1, -5, -1, 5), (1, -5, -1, -5), (1, -5, 1, 5), (1, -5, 1, -5), (1, -5, 5, 1), (1, -5, 5, -1), (1, -1, -7, 1), (1, -1, -7, -1), (1, -1, -5, 5), (1, -1, -5, -5), (1, -1, -1, 7), (1, -1, -1, -7), (1, -1, 1, 7), (1, -1, 1, -7), (1, -1, 5, 5), (1, -1, 5, -5), (1, -1, 7, 1), (1, -1, 7, -1), (1, 1, -7, 1), (1, 1, -7, -1), (1, 1, -5, 5), (1, 1, -5, -5), (1, 1, -1, 7), (1, 1, -1, -7), (1, 1, 1, 7), (1, 1, 1, -7), (1, 1, 5, 5), (1, 1, 5, -5), (1, 1, 7, 1), (1, 1, 7, -1), (1, 5, -5, 1), (1, 5, -5, -1), (1, 5, -1, 5), (1, 5, -1, -5), (1, 5, 1, 5), (1, 5, 1, -5), (1, 5, 5, 1), (1, 5, 5, -1), (1, 7, -1, 1), (1, 7, -1, -1), (1, 7, 1, 1), (1, 7, 1, -1), (2, -4, -4, 4), (2, -4, -4, -4), (2, -4, 4, 4), (2, -4, 4, -4), (2, 4, -4, 4), (2, 4, -4, -4), (2, 4, 4, 4), (2, 4, 4, -4), (3, -5, -3, 3), (3, -5, -3, -3), (3, -5, 3, 3), (3, -5, 3, -3), (3, -3, -5, 3), (3, -3, -5, -3), (3, -3, -3, 5), (3, -3, -3, -5), (3, -3, 3, 5), (3, -3, 3, -5), (3, -3, 5, 3), (3, -3, 5, -3), (3, 3, -5, 3), (3, 3, -5, -3), (3, 3, -3, 5), (3, 3, -3, -5), (3, 3, 3, 5), (3, 3, 3, -5), (3, 3, 5, 3), (3, 3, 5, -3), (3, 5, -3, 3), (3, 5, -3, -3), (3, 5, 3, 3), (3, 5, 3, -3), (4, -6, 0, 0), (4, -6, 0, 0), (4, -4, -4, 2), (4, -4, -4, -2), (4, -4, -2, 4), (4, -4, -2, -4), (4, -4, 2, 4), (4, -4, 2, -4), (4, -4, 4, 2), (4, -4, 4, -2), (4, -2, -4, 4), (4, -2, -4, -4), (4, -2, 4, 4), (4, -2, 4, -4), (4, 0, -6, 0), (4, 0, -6, 0), (4, 0, 0, 6), (4, 0, 0, -6), (4, 0, 6, 0), (4, 0, 6, 0), (4, 2, -4, 4), (4, 2, -4, -4), (4, 2, 4, 4), (4, 2, 4, -4), (4, 4, -4, 2), (4, 4, -4, -2), (4, 4, -2, 4), (4, 4, -2, -4), (4, 4, 2, 4), (4, 4, 2, -4), (4, 4, 4, 2), (4, 4, 4, -2), (4, 6, 0, 0), (4, 6, 0, 0), (5, -5, -1, 1), (5, -5, -1, -1), (5, -5, 1, 1), (5, -5, 1, -1), (5, -3, -3, 3), (5, -3, -3, -3), (5, -3, 3, 3), (5, -3, 3, -3), (5, -1, -5, 1), (5, -1, -5, -1), (5, -1, -1, 5), (5, -1, -1, -5), (5, -1, 1, 5), (5, -1, 1, -5), (5, -1, 5, 1), (5, -1, 5, -1), (5, 1, -5, 1), (5, 1, -5, -1), (5, 1, -1, 5), (5, 1, -1, -5), (5, 1, 1, 5), (5, 1, 1, -5), (5, 1, 5, 1), (5, 1, 5, -1), (5, 3, -3, 3), (5, 3, -3, -3), (5, 3, 3, 3), (5, 3, 3, -3), (5, 5, -1, 1), (5, 5, -1, -1), (5, 5, 1, 1), (5, 5, 1, -1), (6, -4, 0, 0), (6, -4, 0, 0), (6, 0, -4, 0), (6, 0, -4, 0), (6, 0, 0, 4), (6, 0, 0, -4), (6, 0, 4, 0), (6, 0, 4, 0), (6, 4, 0, 0), (6, 4, 0, 0), (7, -1, -1, 1), (7, -1, -1, -1), (7, -1, 1, 1), (7, -1, 1, -1), (7, 1, -1, 1), (7, 1, -1, -1), (7, 1, 1, 1), (7, 1, 1, -1)]
theorem LB13hd (k : Nat) (Y : Xst) : LBh (callK pg (k + 1)) Y (stD 12 [.int 13]) [] = Y [some (.int 13), some (.ref 0), some (.int 25), some (.lst LB13W), some (.int 25), some (.ref 1), some (.ref 2), none, some (.int 25), none, some (.int 25), some (.int (-623))] [.dk false [.inl 0, .inl 1, .inl 4, .inl 9, .inl 16, .inl 25, .inl 36, .inl 49, .inl 64, .inl 81, .inl 100, .inl 121, .inl 144, .inl 169, .inl 196, .inl 225, .inl 256, .inl 289, .inl 324, .inl 361, .inl 400, .inl 441, .inl 484, .inl 529, .inl 576, .inl 625] [.int 0, .int 1, .int 2, .int 3, .int 4, .int 5, .int 6, .int 7, .int 8, .int 9, .int 10, .int 11, .int 12, .int 13, .int 14, .int 15, .int 16, .int 17, .int 18, .int 19, .int 20, .int 21, .int 22, .int 23, .int 24, .int 25], .lst false [], .dt false [] []] := by kernel_rfl
theorem LB13it (k : Nat) (Y : List D → Os) : bs (LBi (callK pg (k + 1)) [some (.int 13), some (.ref 0), some (.int 25), some (.lst LB13W), some (.int 25), some (.ref 1), some (.ref 2), none, some (.int 25), none, some (.int 25), some (.int (-623))] [.dk false [.inl 0, .inl 1, .inl 4, .inl 9, .inl 16, .inl 25, .inl 36, .inl 49, .inl 64, .inl 81, .inl 100, .inl 121, .inl 144, .inl 169, .inl 196, .inl 225, .inl 256, .inl 289, .inl 324, .inl 361, .inl 400, .inl 441, .inl 484, .inl 529, .inl 576, .inl 625] [.int 0, .int 1, .int 2, .int 3, .int 4, .int 5, .int 6, .int 7, .int 8, .int 9, .int 10, .int 11, .int 12, .int 13, .int 14, .int 15, .int 16, .int 17, .int 18, .int 19, .int 20, .int 21, .int 22, .int 23, .int 24, .int 25], .lst false [], .dt false [] []]) [some (.int 13), some (.ref 0), some (.int 25), some (.lst LB13W), some (.int 25), some (.ref 1), some (.ref 2), none, some (.int 25), none, some (.int 25), some (.int (-623))] [.dk false [.inl 0, .inl 1, .inl 4, .inl 9, .inl 16, .inl 25, .inl 36, .inl 49, .inl 64, .inl 81, .inl 100, .inl 121, .inl 144, .inl 169, .inl 196, .inl 225, .inl 256, .inl 289, .inl 324, .inl 361, .inl 400, .inl 441, .inl 484, .inl 529, .inl 576, .inl 625] [.int 0, .int 1, .int 2, .int 3, .int 4, .int 5, .int 6, .int 7, .int 8, .int 9, .int 10, .int 11, .int 12, .int 13, .int 14, .int 15, .int 16, .int 17, .int 18, .int 19, .int 20, .int 21, .int 22, .int 23, .int 24, .int 25], .lst false [], .dt false [] []] Y = Y (LB13X0 ++ (LB13X1 ++ [])) := by kernel_rfl
theorem LB13tl (k : Nat) : LBt (callK pg (k + 1)) [some (.int 13), some (.ref 0), some (.int 25), some (.lst LB13W), some (.int 25), some (.ref 1), some (.ref 2), some (.tup [.int 1, .int (-7), .int (-1), .int (-1)]), some (.int 25), some (.tup [.int 0, .int 0, .int 0, .int 2]), some (.int 25), some (.int (-623))] [.dk false [.inl 0, .inl 1, .inl 4, .inl 9, .inl 16, .inl 25, .inl 36, .inl 49, .inl 64, .inl 81, .inl 100, .inl 121, .inl 144, .inl 169, .inl 196, .inl 225, .inl 256, .inl 289, .inl 324, .inl 361, .inl 400, .inl 441, .inl 484, .inl 529, .inl 576, .inl 625] [.int 0, .int 1, .int 2, .int 3, .int 4, .int 5, .int 6, .int 7, .int 8, .int 9, .int 10, .int 11, .int 12, .int 13, .int 14, .int 15, .int 16, .int 17, .int 18, .int 19, .int 20, .int 21, .int 22, .int 23, .int 24, .int 25], .lst false LB13F1, .dt false LB13K1 (List.replicate 336 (.bl true))] = some (.rt (.lst LP13) true [.dk false [.inl 0, .inl 1, .inl 4, .inl 9, .inl 16, .inl 25, .inl 36, .inl 49, .inl 64, .inl 81, .inl 100, .inl 121, .inl 144, .inl 169, .inl 196, .inl 225, .inl 256, .inl 289, .inl 324, .inl 361, .inl 400, .inl 441, .inl 484, .inl 529, .inl 576, .inl 625] [.int 0, .int 1, .int 2, .int 3, .int 4, .int 5, .int 6, .int 7, .int 8, .int 9, .int 10, .int 11, .int 12, .int 13, .int 14, .int 15, .int 16, .int 17, .int 18, .int 19, .int 20, .int 21, .int 22, .int 23, .int 24, .int 25], .lst false LB13F1, .dt false LB13K1 (List.replicate 336 (.bl true))]) := by kernel_rfl
theorem lb13 (k : Nat) : callK pg (k + 2) i_law_letters [.int 13] = rt (.lst LP13, true) := by
  rw [call_e pg (k + 1) _ _ (fn := f_law_letters) rfl]
  have a1 := LB13hd k
  have a2 := LB13it k
  have a3 := LB13for k (some (.int 25)) (some (.lst LB13W)) (some (.int 25)) (some (.int 25)) (some (.int 25)) (some (.int (-623))) (.dk false [.inl 0, .inl 1, .inl 4, .inl 9, .inl 16, .inl 25, .inl 36, .inl 49, .inl 64, .inl 81, .inl 100, .inl 121, .inl 144, .inl 169, .inl 196, .inl 225, .inl 256, .inl 289, .inl 324, .inl 361, .inl 400, .inl 441, .inl 484, .inl 529, .inl 576, .inl 625] [.int 0, .int 1, .int 2, .int 3, .int 4, .int 5, .int 6, .int 7, .int 8, .int 9, .int 10, .int 11, .int 12, .int 13, .int 14, .int 15, .int 16, .int 17, .int 18, .int 19, .int 20, .int 21, .int 22, .int 23, .int 24, .int 25])
  have a4 := LB13tl k
  exact LBglue _ a1 a2 a3 a4 (by kernel_rfl)
theorem ls13 : shOk (.lst LP13) = true := by kernel_rfl
theorem lr13 : rfs LP13 = true := by kernel_rfl
def PV13 : Rv (D × Bool) := rt (.lst [.int 6, .int 5, .int 4, .int 3, .int 2, .int 1, .int 14, .int 13, .int 12, .int 11, .int 10, .int 9, .int 8, .int 7], true)
theorem pp13 (k : Nat) : callK pg (k + 6) i_partners_of [.int 13] = PV13 := by
  rw [call_e pg (k + 5) _ _ (fn := f_partners_of) rfl, ← memo1_eq (la13 k)]
  kernel_rfl
theorem pt13 (k : Nat) (l : Int) (h : 0 < l ∧ l ≤ 14) : ∃ v : Int, v.natAbs < 100 ∧ callK pg (k + 7) i_partner [.int 13, .int l] = rt (.int v, false) ∧ callK pg (k + 7) i_law_partner [.lst LP13, .int l] = rt (.int v, false) := by
  have hc : l = 1 ∨ l = 2 ∨ l = 3 ∨ l = 4 ∨ l = 5 ∨ l = 6 ∨ l = 7 ∨ l = 8 ∨ l = 9 ∨ l = 10 ∨ l = 11 ∨ l = 12 ∨ l = 13 ∨ l = 14 := by omega
  rw [call_e pg (k + 6) _ _ (fn := f_partner) rfl, ← memo1_eq (pp13 k)]
  rcases hc with rfl | rfl | rfl | rfl | rfl | rfl | rfl | rfl | rfl | rfl | rfl | rfl | rfl | rfl
  · exact ⟨6, by decide, by kernel_rfl, by kernel_rfl⟩
  · exact ⟨5, by decide, by kernel_rfl, by kernel_rfl⟩
  · exact ⟨4, by decide, by kernel_rfl, by kernel_rfl⟩
  · exact ⟨3, by decide, by kernel_rfl, by kernel_rfl⟩
  · exact ⟨2, by decide, by kernel_rfl, by kernel_rfl⟩
  · exact ⟨1, by decide, by kernel_rfl, by kernel_rfl⟩
  · exact ⟨14, by decide, by kernel_rfl, by kernel_rfl⟩
  · exact ⟨13, by decide, by kernel_rfl, by kernel_rfl⟩
  · exact ⟨12, by decide, by kernel_rfl, by kernel_rfl⟩
  · exact ⟨11, by decide, by kernel_rfl, by kernel_rfl⟩
  · exact ⟨10, by decide, by kernel_rfl, by kernel_rfl⟩
  · exact ⟨9, by decide, by kernel_rfl, by kernel_rfl⟩
  · exact ⟨8, by decide, by kernel_rfl, by kernel_rfl⟩
  · exact ⟨7, by decide, by kernel_rfl, by kernel_rfl⟩
theorem main13 (ns : List D) (z0 z1 z2 z3 z4 z5 z6 z7 z8 z9 : Int) : isT (tl_law_2 (callK pg 7) [some (.klst ns), some (.lst [.int z0, .int z1, .int z2, .int z3, .int z4, .int z5, .int z6, .int z7, .int z8, .int z9]), some (.int 13), none, none, none, none, none] []) = true := by
  obtain ⟨v1, a1, b1, c1⟩ := pt13 0 (1 + z1 % 14) (by omega)
  obtain ⟨v2, a2, b2, c2⟩ := pt13 0 (1 + z2 % 14) (by omega)
  rw [Nat.zero_add] at b1 c1 b2 c2
  exact mainG _ 13 LP13 ns z0 z1 z2 z3 z4 z5 z6 z7 z8 z9 v1 v2 (by decide) (by rfl) (la13 2) (lb13 5) b1 c1 b2 c2 (by omega) (by omega) ls13 lr13
def LP17 : List D := [.tup [.int 7, .int 1, .int (-3), .int (-3)], .tup [.int 7, .int 1, .int (-3), .int 3], .tup [.int 7, .int 1, .int 3, .int (-3)], .tup [.int 7, .int 1, .int 3, .int 3], .tup [.int 7, .int 3, .int (-3), .int (-1)], .tup [.int 7, .int 3, .int (-3), .int 1], .tup [.int 7, .int 3, .int (-1), .int (-3)], .tup [.int 7, .int 3, .int (-1), .int 3], .tup [.int 7, .int 3, .int 1, .int (-3)], .tup [.int 7, .int 3, .int 1, .int 3], .tup [.int 7, .int 3, .int 3, .int (-1)], .tup [.int 7, .int 3, .int 3, .int 1], .tup [.int 8, .int (-2), .int 0, .int 0], .tup [.int 8, .int 0, .int (-2), .int 0], .tup [.int 8, .int 0, .int 0, .int (-2)], .tup [.int 8, .int 0, .int 0, .int 2], .tup [.int 8, .int 0, .int 2, .int 0], .tup [.int 8, .int 2, .int 0, .int 0]]
def LA17R : List (Int × Int × Int × Int) → List D := fun r => r.map fun q => .tup [.int q.1, .int q.2.1, .int q.2.2.1, .int q.2.2.2]
def LA17K : List (Int × Int × Int × Int) → List (List Key) := fun r => r.map fun q => kq q.1 q.2.1 q.2.2.1 q.2.2.2
def LA17X0 : List D := LA17R [(8, 2, 0, 0), (8, 0, 2, 0), (8, 0, 0, 2), (8, 0, 0, -2), (8, 0, -2, 0), (8, -2, 0, 0), (7, 3, 3, 1), (7, 3, 3, -1), (7, 3, 1, 3)]
def LA17K0 : List (List Key) := LA17K [(-8, -2, 0, 0), (-5, 3, -5, 3), (-5, 3, -3, -5), (-5, 3, 3, 5), (-5, 3, 5, -3), (-3, -5, -5, 3), (-3, -5, -3, -5), (-3, -5, 3, 5), (-3, -5, 5, -3), (-2, 8, 0, 0), (0, 0, -8, -2), (0, 0, -2, 8), (0, 0, 2, -8), (0, 0, 8, 2), (2, -8, 0, 0), (3, 5, -5, 3), (3, 5, -3, -5), (3, 5, 3, 5), (3, 5, 5, -3), (5, -3, -5, 3), (5, -3, -3, -5), (5, -3, 3, 5), (5, -3, 5, -3), (8, 2, 0, 0), (-8, 0, -2, 0), (-5, -5, 3, -3), (-5, -3, 3, 5), (-5, 3, 3, -5), (-5, 5, 3, 3), (-3, -5, -5, -3), (-3, -3, -5, 5), (-3, 3, -5, -5), (-3, 5, -5, 3), (-2, 0, 8, 0), (0, -8, 0, 2), (0, -2, 0, -8), (0, 2, 0, 8), (0, 8, 0, -2), (2, 0, -8, 0), (3, -5, 5, -3), (3, -3, 5, 5), (3, 3, 5, -5), (3, 5, 5, 3), (5, -5, -3, -3), (5, -3, -3, 5), (5, 3, -3, -5), (5, 5, -3, 3), (8, 0, 2, 0), (-8, 0, 0, -2), (-5, -5, 3, 3), (-5, -3, -5, 3), (-5, 3, 5, 3), (-5, 5, -3, 3), (-3, -5, 3, -5), (-3, -3, -5, -5), (-3, 3, 5, -5), (-3, 5, -3, -5), (-2, 0, 0, 8), (0, -8, -2, 0), (0, -2, 8, 0), (0, 2, -8, 0), (0, 8, 2, 0), (2, 0, 0, -8), (3, -5, 3, 5), (3, -3, -5, 5), (3, 3, 5, 5), (3, 5, -3, 5), (5, -5, 3, -3), (5, -3, -5, -3), (5, 3, 5, -3), (5, 5, -3, -3), (8, 0, 0, 2), (-8, 0, 0, 2), (-5, -5, -3, -3), (-5, -3, 5, -3), (-5, 3, -5, -3), (-5, 5, 3, -3), (-3, -5, -3, 5), (-3, -3, 5, 5), (-3, 3, -5, 5), (-3, 5, 3, 5), (-2, 0, 0, -8), (0, -8, 2, 0), (0, -2, -8, 0), (0, 2, 8, 0), (0, 8, -2, 0), (2, 0, 0, 8), (3, -5, -3, -5), (3, -3, 5, -5), (3, 3, -5, -5), (3, 5, 3, -5), (5, -5, -3, 3), (5, -3, 5, 3), (5, 3, -5, 3), (5, 5, 3, 3), (8, 0, 0, -2), (-8, 0, 2, 0), (-5, -5, -3, 3), (-5, -3, -3, -5), (-5, 3, -3, 5), (-5, 5, -3, -3), (-3, -5, 5, 3), (-3, -3, 5, -5), (-3, 3, 5, 5), (-3, 5, 5, -3), (-2, 0, -8, 0), (0, -8, 0, -2), (0, -2, 0, 8), (0, 2, 0, -8), (0, 8, 0, 2), (2, 0, 8, 0), (3, -5, -5, 3), (3, -3, -5, -5), (3, 3, -5, 5), (3, 5, -5, -3), (5, -5, 3, 3), (5, -3, 3, -5), (5, 3, 3, 5), (5, 5, 3, -3), (8, 0, -2, 0), (-8, 2, 0, 0), (-5, -3, -5, -3), (-5, -3, -3, 5), (-5, -3, 3, -5), (-5, -3, 5, 3), (-3, 5, -5, -3), (-3, 5, -3, 5), (-3, 5, 3, -5), (-3, 5, 5, 3), (-2, -8, 0, 0), (0, 0, -8, 2), (0, 0, -2, -8), (0, 0, 2, 8), (0, 0, 8, -2), (2, 8, 0, 0), (3, -5, -5, -3), (3, -5, -3, 5), (3, -5, 3, -5), (3, -5, 5, 3), (5, 3, -5, -3), (5, 3, -3, 5), (5, 3, 3, -5), (5, 3, 5, 3), (8, -2, 0, 0), (-7, -3, -3, -1), (-7, 3, 1, 3), (-6, 0, 4, -4), (-4, -4, 0, 6), (-4, 4, -6, 0), (-3, -7, 3, -1), (-3, -1, 7, 3), (-3, 1, -3, -7), (-3, 7, 1, -3), (-1, -3, -7, 3), (-1, 3, -3, 7), (0, -6, -4, -4), (0, 6, 4, 4), (1, -3, 3, -7), (1, 3, 7, -3), (3, -7, -1, 3), (3, -1, 3, 7), (3, 1, -7, -3), (3, 7, -3, 1), (4, -4, 6, 0), (4, 4, 0, -6), (6, 0, -4, 4), (7, -3, -1, -3), (7, 3, 3, 1), (-7, -3, -3, 1), (-7, 1, 3, -3), (-6, 4, 0, 4), (-4, -6, 4, 0), (-4, 0, -4, -6), (-3, -3, 1, 7), (-3, 1, 7, 3), (-3, 3, -7, 1), (-3, 7, -1, -3), (-1, -7, -3, -3), (-1, -3, 3, -7), (0, -4, -6, 4), (0, 4, 6, -4), (1, 3, -3, 7), (1, 7, 3, 3), (3, -7, 1, 3), (3, -3, 7, -1), (3, -1, -7, -3), (3, 3, -1, -7), (4, 0, 4, 6), (4, 6, -4, 0), (6, -4, 0, -4), (7, -1, -3, 3), (7, 3, 3, -1), (-7, -3, -1, -3), (-7, 1, 3, 3), (-6, 4, -4, 0), (-4, -6, 0, 4), (-4, 0, 6, -4), (-3, -3, -7, 1), (-3, 1, -3, 7), (-3, 3, -1, -7), (-3, 7, 3, -1), (-1, -7, 3, -3), (-1, -3, 7, 3), (0, -4, -4, -6), (0, 4, 4, 6), (1, 3, -7, -3), (1, 7, -3, 3), (3, -7, -3, 1), (3, -3, 1, 7), (3, -1, 3, -7), (3, 3, 7, -1), (4, 0, -6, 4), (4, 6, 0, -4), (6, -4, 4, 0), (7, -1, -3, -3), (7, 3, 1, 3)]
def LA17F0 : List D := LA17R [(8, 2, 0, 0), (8, 0, 2, 0), (8, 0, 0, 2), (8, 0, 0, -2), (8, 0, -2, 0), (8, -2, 0, 0), (7, 3, 3, 1), (7, 3, 3, -1), (7, 3, 1, 3)]
def LA17X1 : List D := LA17R [(7, 3, 1, -3), (7, 3, -1, 3), (7, 3, -1, -3), (7, 3, -3, 1)]
def LA17K1 : List (List Key) := LA17K0 ++ LA17K [(-7, -3, -1, 3), (-7, 3, 3, -1), (-6, 0, -4, -4), (-4, -4, 6, 0), (-4, 4, 0, 6), (-3, -7, -1, -3), (-3, -1, 3, -7), (-3, 1, -7, 3), (-3, 7, -3, -1), (-1, -3, 3, 7), (-1, 3, 7, 3), (0, -6, -4, 4), (0, 6, 4, -4), (1, -3, -7, -3), (1, 3, -3, -7), (3, -7, 3, 1), (3, -1, 7, -3), (3, 1, -3, 7), (3, 7, 1, 3), (4, -4, 0, -6), (4, 4, -6, 0), (6, 0, 4, 4), (7, -3, -3, 1), (7, 3, 1, -3), (-7, -3, 1, -3), (-7, 3, -3, 1), (-6, 0, 4, 4), (-4, -4, -6, 0), (-4, 4, 0, -6), (-3, -7, 1, 3), (-3, -1, -3, 7), (-3, 1, 7, -3), (-3, 7, 3, 1), (-1, -3, -3, -7), (-1, 3, -7, -3), (0, -6, 4, -4), (0, 6, -4, 4), (1, -3, 7, 3), (1, 3, 3, 7), (3, -7, -3, -1), (3, -1, -7, 3), (3, 1, 3, -7), (3, 7, -1, -3), (4, -4, 0, 6), (4, 4, 6, 0), (6, 0, -4, -4), (7, -3, 3, -1), (7, 3, -1, 3), (-7, -3, 1, 3), (-7, 1, -3, -3), (-6, 4, 4, 0), (-4, -6, 0, -4), (-4, 0, -6, 4), (-3, -3, 7, -1), (-3, 1, 3, -7), (-3, 3, 1, 7), (-3, 7, -3, 1), (-1, -7, -3, 3), (-1, -3, -7, -3), (0, -4, 4, 6), (0, 4, -4, -6), (1, 3, 7, 3), (1, 7, 3, -3), (3, -7, 3, -1), (3, -3, -1, -7), (3, -1, -3, 7), (3, 3, -7, 1), (4, 0, 6, -4), (4, 6, 0, 4), (6, -4, -4, 0), (7, -1, 3, 3), (7, 3, -1, -3), (-7, -3, 3, -1), (-7, 1, -3, 3), (-6, 4, 0, -4), (-4, -6, -4, 0), (-4, 0, 4, 6), (-3, -3, -1, -7), (-3, 1, -7, -3), (-3, 3, 7, -1), (-3, 7, 1, 3), (-1, -7, 3, 3), (-1, -3, -3, 7), (0, -4, 6, -4), (0, 4, -6, 4), (1, 3, 3, -7), (1, 7, -3, -3), (3, -7, -1, -3), (3, -3, -7, 1), (3, -1, 7, 3), (3, 3, 1, 7), (4, 0, -4, -6), (4, 6, 4, 0), (6, -4, 0, 4), (7, -1, 3, -3), (7, 3, -3, 1)]
def LA17F1 : List D := LA17F0 ++ LA17R [(7, 3, 1, -3), (7, 3, -1, 3), (7, 3, -1, -3), (7, 3, -3, 1)]
def LA17X2 : List D := LA17R [(7, 3, -3, -1), (7, 1, 3, 3), (7, 1, 3, -3)]
def LA17K2 : List (List Key) := LA17K1 ++ LA17K [(-7, -3, 3, 1), (-7, 3, -1, -3), (-6, 0, -4, 4), (-4, -4, 0, -6), (-4, 4, 6, 0), (-3, -7, -3, 1), (-3, -1, -7, -3), (-3, 1, 3, 7), (-3, 7, -1, 3), (-1, -3, 7, -3), (-1, 3, 3, -7), (0, -6, 4, 4), (0, 6, -4, -4), (1, -3, -3, 7), (1, 3, -7, 3), (3, -7, 1, -3), (3, -1, -3, -7), (3, 1, 7, 3), (3, 7, 3, -1), (4, -4, -6, 0), (4, 4, 0, 6), (6, 0, 4, -4), (7, -3, 1, 3), (7, 3, -3, -1), (-7, -1, -3, -3), (-7, 3, 3, 1), (-6, -4, 0, 4), (-4, 0, 4, -6), (-4, 6, -4, 0), (-3, -7, 1, -3), (-3, -3, 7, 1), (-3, -1, -7, 3), (-3, 3, -1, 7), (-1, 3, -3, -7), (-1, 7, 3, -3), (0, -4, -6, -4), (0, 4, 6, 4), (1, -7, -3, 3), (1, -3, 3, 7), (3, -3, 1, -7), (3, 1, 7, -3), (3, 3, -7, -1), (3, 7, -1, 3), (4, -6, 4, 0), (4, 0, -4, 6), (6, 4, 0, -4), (7, -3, -3, -1), (7, 1, 3, 3), (-7, -1, -3, 3), (-7, 3, 1, -3), (-6, -4, 4, 0), (-4, 0, -6, -4), (-4, 6, 0, 4), (-3, -7, -3, -1), (-3, -3, 1, -7), (-3, -1, 3, 7), (-3, 3, 7, 1), (-1, 3, -7, 3), (-1, 7, -3, -3), (0, -4, -4, 6), (0, 4, 4, -6), (1, -7, 3, 3), (1, -3, 7, -3), (3, -3, -7, -1), (3, 1, -3, -7), (3, 3, -1, 7), (3, 7, 3, 1), (4, -6, 0, -4), (4, 0, 6, 4), (6, 4, -4, 0), (7, -3, -1, 3), (7, 1, 3, -3)]
def LA17F2 : List D := LA17F1 ++ LA17R [(7, 3, -3, -1), (7, 1, 3, 3), (7, 1, 3, -3)]
def LA17X3 : List D := LA17R [(7, 1, -3, 3), (7, 1, -3, -3), (7, -1, 3, 3), (7, -1, 3, -3), (7, -1, -3, 3), (7, -1, -3, -3), (7, -3, 3, 1), (7, -3, 3, -1), (7, -3, 1, 3), (7, -3, 1, -3), (7, -3, -1, 3), (7, -3, -1, -3), (7, -3, -3, 1), (7, -3, -3, -1), (6, 4, 4, 0), (6, 4, 0, 4), (6, 4, 0, -4), (6, 4, -4, 0), (6, 0, 4, 4), (6, 0, 4, -4), (6, 0, -4, 4), (6, 0, -4, -4), (6, -4, 4, 0), (6, -4, 0, 4), (6, -4, 0, -4), (6, -4, -4, 0), (5, 5, 3, 3), (5, 5, 3, -3), (5, 5, -3, 3), (5, 5, -3, -3), (5, 3, 5, 3), (5, 3, 5, -3), (5, 3, 3, 5), (5, 3, 3, -5), (5, 3, -3, 5), (5, 3, -3, -5), (5, 3, -5, 3), (5, 3, -5, -3), (5, -3, 5, 3), (5, -3, 5, -3), (5, -3, 3, 5), (5, -3, 3, -5), (5, -3, -3, 5), (5, -3, -3, -5), (5, -3, -5, 3), (5, -3, -5, -3), (5, -5, 3, 3), (5, -5, 3, -3), (5, -5, -3, 3), (5, -5, -3, -3), (4, 6, 4, 0), (4, 6, 0, 4), (4, 6, 0, -4), (4, 6, -4, 0), (4, 4, 6, 0), (4, 4, 0, 6), (4, 4, 0, -6), (4, 4, -6, 0), (4, 0, 6, 4), (4, 0, 6, -4), (4, 0, 4, 6), (4, 0, 4, -6), (4, 0, -4, 6), (4, 0, -4, -6), (4, 0, -6, 4), (4, 0, -6, -4), (4, -4, 6, 0), (4, -4, 0, 6), (4, -4, 0, -6), (4, -4, -6, 0), (4, -6, 4, 0), (4, -6, 0, 4), (4, -6, 0, -4), (4, -6, -4, 0), (3, 7, 3, 1), (3, 7, 3, -1), (3, 7, 1, 3), (3, 7, 1, -3), (3, 7, -1, 3), (3, 7, -1, -3), (3, 7, -3, 1), (3, 7, -3, -1), (3, 5, 5, 3), (3, 5, 5, -3), (3, 5, 3, 5), (3, 5, 3, -5), (3, 5, -3, 5), (3, 5, -3, -5), (3, 5, -5, 3), (3, 5, -5, -3), (3, 3, 7, 1), (3, 3, 7, -1), (3, 3, 5, 5), (3, 3, 5, -5), (3, 3, 1, 7), (3, 3, 1, -7), (3, 3, -1, 7), (3, 3, -1, -7), (3, 3, -5, 5), (3, 3, -5, -5), (3, 3, -7, 1), (3, 3, -7, -1), (3, 1, 7, 3), (3, 1, 7, -3), (3, 1, 3, 7), (3, 1, 3, -7), (3, 1, -3, 7), (3, 1, -3, -7), (3, 1, -7, 3), (3, 1, -7, -3), (3, -1, 7, 3), (3, -1, 7, -3), (3, -1, 3, 7), (3, -1, 3, -7), (3, -1, -3, 7), (3, -1, -3, -7), (3, -1, -7, 3), (3, -1, -7, -3), (3, -3, 7, 1), (3, -3, 7, -1), (3, -3, 5, 5), (3, -3, 5, -5), (3, -3, 1, 7), (3, -3, 1, -7), (3, -3, -1, 7), (3, -3, -1, -7), (3, -3, -5, 5), (3, -3, -5, -5), (3, -3, -7, 1), (3, -3, -7, -1), (3, -5, 5, 3), (3, -5, 5, -3), (3, -5, 3, 5), (3, -5, 3, -5), (3, -5, -3, 5), (3, -5, -3, -5), (3, -5, -5, 3), (3, -5, -5, -3), (3, -7, 3, 1), (3, -7, 3, -1), (3, -7, 1, 3), (3, -7, 1, -3), (3, -7, -1, 3), (3, -7, -1, -3), (3, -7, -3, 1), (3, -7, -3, -1), (2, 8, 0, 0), (2, 0, 8, 0), (2, 0, 0, 8), (2, 0, 0, -8), (2, 0, -8, 0), (2, -8, 0, 0), (1, 7, 3, 3), (1, 7, 3, -3), (1, 7, -3, 3), (1, 7, -3, -3), (1, 3, 7, 3), (1, 3, 7, -3), (1, 3, 3, 7), (1, 3, 3, -7), (1, 3, -3, 7), (1, 3, -3, -7), (1, 3, -7, 3), (1, 3, -7, -3), (1, -3, 7, 3), (1, -3, 7, -3), (1, -3, 3, 7), (1, -3, 3, -7), (1, -3, -3, 7), (1, -3, -3, -7), (1, -3, -7, 3), (1, -3, -7, -3), (1, -7, 3, 3), (1, -7, 3, -3), (1, -7, -3, 3), (1, -7, -3, -3)]
def LA17K3 : List (List Key) := LA17K2 ++ LA17K [(-7, -1, 3, -3), (-7, 3, -1, 3), (-6, -4, -4, 0), (-4, 0, 6, 4), (-4, 6, 0, -4), (-3, -7, 3, 1), (-3, -3, -1, 7), (-3, -1, -3, -7), (-3, 3, -7, -1), (-1, 3, 7, -3), (-1, 7, 3, 3), (0, -4, 4, -6), (0, 4, -4, 6), (1, -7, -3, -3), (1, -3, -7, 3), (3, -3, 7, 1), (3, 1, 3, 7), (3, 3, 1, -7), (3, 7, -3, -1), (4, -6, 0, 4), (4, 0, -6, -4), (6, 4, 4, 0), (7, -3, 1, -3), (7, 1, -3, 3), (-7, -1, 3, 3), (-7, 3, -3, -1), (-6, -4, 0, -4), (-4, 0, -4, 6), (-4, 6, 4, 0), (-3, -7, -1, 3), (-3, -3, -7, -1), (-3, -1, 7, -3), (-3, 3, 1, -7), (-1, 3, 3, 7), (-1, 7, -3, 3), (0, -4, 6, 4), (0, 4, -6, -4), (1, -7, 3, -3), (1, -3, -3, -7), (3, -3, -1, 7), (3, 1, -7, 3), (3, 3, 7, 1), (3, 7, 1, -3), (4, -6, -4, 0), (4, 0, 4, -6), (6, 4, 0, 4), (7, -3, 3, 1), (7, 1, -3, -3)]
def LA17F3 : List D := LA17F2 ++ LA17R [(7, 1, -3, 3), (7, 1, -3, -3)]
theorem LA17c0 (k : Nat)  : forW LAg (LAB (callK pg (k + 4))) LA17X0 [some (.int 17), some (.ref 0), some (.ref 1), none, none] [.lst false [], .dt false [] []] = some ([some (.int 17), some (.ref 0), some (.ref 1), some (.tup [.int 7, .int 3, .int 1, .int 3]), some (.tup [.int 7, .int 3, .int 1, .int 3])], [.lst false LA17F0, .dt false LA17K0 (List.replicate 216 (.bl true))]) := by kernel_rfl
theorem LA17c1 (k : Nat)  : forW LAg (LAB (callK pg (k + 4))) LA17X1 [some (.int 17), some (.ref 0), some (.ref 1), some (.tup [.int 7, .int 3, .int 1, .int 3]), some (.tup [.int 7, .int 3, .int 1, .int 3])] [.lst false LA17F0, .dt false LA17K0 (List.replicate 216 (.bl true))] = some ([some (.int 17), some (.ref 0), some (.ref 1), some (.tup [.int 7, .int 3, .int (-3), .int 1]), some (.tup [.int 7, .int 3, .int (-3), .int 1])], [.lst false LA17F1, .dt false LA17K1 (List.replicate 312 (.bl true))]) := by kernel_rfl
theorem LA17c2 (k : Nat)  : forW LAg (LAB (callK pg (k + 4))) LA17X2 [some (.int 17), some (.ref 0), some (.ref 1), some (.tup [.int 7, .int 3, .int (-3), .int 1]), some (.tup [.int 7, .int 3, .int (-3), .int 1])] [.lst false LA17F1, .dt false LA17K1 (List.replicate 312 (.bl true))] = some ([some (.int 17), some (.ref 0), some (.ref 1), some (.tup [.int 7, .int 1, .int 3, .int (-3)]), some (.tup [.int 7, .int 1, .int 3, .int (-3)])], [.lst false LA17F2, .dt false LA17K2 (List.replicate 384 (.bl true))]) := by kernel_rfl
theorem LA17c3 (k : Nat)  : forW LAg (LAB (callK pg (k + 4))) LA17X3 [some (.int 17), some (.ref 0), some (.ref 1), some (.tup [.int 7, .int 1, .int 3, .int (-3)]), some (.tup [.int 7, .int 1, .int 3, .int (-3)])] [.lst false LA17F2, .dt false LA17K2 (List.replicate 384 (.bl true))] = some ([some (.int 17), some (.ref 0), some (.ref 1), some (.tup [.int 1, .int (-7), .int (-3), .int (-3)]), some (.tup [.int 7, .int 1, .int (-3), .int (-3)])], [.lst false LA17F3, .dt false LA17K3 (List.replicate 432 (.bl true))]) := by kernel_rfl
theorem LA17for (k : Nat)  : forV LAg (LAB (callK pg (k + 4))) (LA17X0 ++ (LA17X1 ++ (LA17X2 ++ (LA17X3 ++ [])))) [some (.int 17), some (.ref 0), some (.ref 1), none, none] [.lst false [], .dt false [] []] = some (.nx [some (.int 17), some (.ref 0), some (.ref 1), some (.tup [.int 1, .int (-7), .int (-3), .int (-3)]), some (.tup [.int 7, .int 1, .int (-3), .int (-3)])] [.lst false LA17F3, .dt false LA17K3 (List.replicate 432 (.bl true))]) := by
  rw [forW_app _ _ _ _ _ _ _ (LA17c0 k )]
  rw [forW_app _ _ _ _ _ _ _ (LA17c1 k )]
  rw [forW_app _ _ _ _ _ _ _ (LA17c2 k )]
  rw [forW_app _ _ _ _ _ _ _ (LA17c3 k )]
  rfl
theorem LA17hd (k : Nat) (Y : Xst) : LAh (callK pg (k + 4)) Y (stD 5 [.int 17]) [] = Y [some (.int 17), some (.ref 0), some (.ref 1), none, none] [.lst false [], .dt false [] []] := by kernel_rfl
theorem LA17it (k : Nat) (Y : List D → Os) : bs (LAi (callK pg (k + 4)) [some (.int 17), some (.ref 0), some (.ref 1), none, none] [.lst false [], .dt false [] []]) [some (.int 17), some (.ref 0), some (.ref 1), none, none] [.lst false [], .dt false [] []] Y = Y (LA17X0 ++ (LA17X1 ++ (LA17X2 ++ (LA17X3 ++ [])))) := by kernel_rfl
theorem LA17tl (k : Nat) : LAt (callK pg (k + 4)) [some (.int 17), some (.ref 0), some (.ref 1), some (.tup [.int 1, .int (-7), .int (-3), .int (-3)]), some (.tup [.int 7, .int 1, .int (-3), .int (-3)])] [.lst false LA17F3, .dt false LA17K3 (List.replicate 432 (.bl true))] = some (.rt (.lst LP17) true [.lst false LA17F3, .dt false LA17K3 (List.replicate 432 (.bl true))]) := by kernel_rfl
theorem la17 (k : Nat) : callK pg (k + 5) i_letters [.int 17] = rt (.lst LP17, true) := by
  rw [call_e pg (k + 4) _ _ (fn := f_letters) rfl]
  have a1 := LA17hd k
  have a2 := LA17it k
  have a3 := LA17for k 
  have a4 := LA17tl k
  exact LAglue _ a1 a2 a3 a4 (by kernel_rfl)
def LB17R : List (Int × Int × Int × Int) → List D := fun r => r.map fun q => .tup [.int q.1, .int q.2.1, .int q.2.2.1, .int q.2.2.2]
def LB17K : List (Int × Int × Int × Int) → List (List Key) := fun r => r.map fun q => kq q.1 q.2.1 q.2.2.1 q.2.2.2
def LB17X0 : List D := LB17R [(8, 2, 0, 0), (8, 2, 0, 0), (8, 0, 2, 0), (8, 0, 2, 0), (8, 0, 0, 2), (8, 0, 0, -2), (8, 0, -2, 0), (8, 0, -2, 0), (8, -2, 0, 0), (8, -2, 0, 0), (7, 3, 3, 1), (7, 3, 3, -1), (7, 3, 1, 3)]
def LB17K0 : List (List Key) := LB17K [(-3, -5, -3, -5), (-3, -5, -5, 3), (-3, -5, 5, -3), (-3, -5, 3, 5), (-5, 3, -3, -5), (-5, 3, -5, 3), (-5, 3, 5, -3), (-5, 3, 3, 5), (5, -3, -3, -5), (5, -3, -5, 3), (5, -3, 5, -3), (5, -3, 3, 5), (3, 5, -3, -5), (3, 5, -5, 3), (3, 5, 5, -3), (3, 5, 3, 5), (-8, -2, 0, 0), (8, 2, 0, 0), (2, -8, 0, 0), (-2, 8, 0, 0), (0, 0, -8, -2), (0, 0, 8, 2), (0, 0, 2, -8), (0, 0, -2, 8), (-3, -5, -5, -3), (-3, -3, -5, 5), (-5, -5, 3, -3), (-5, -3, 3, 5), (-3, 3, -5, -5), (-3, 5, -5, 3), (-5, 3, 3, -5), (-5, 5, 3, 3), (5, -5, -3, -3), (5, -3, -3, 5), (3, -5, 5, -3), (3, -3, 5, 5), (5, 3, -3, -5), (5, 5, -3, 3), (3, 3, 5, -5), (3, 5, 5, 3), (-8, 0, -2, 0), (8, 0, 2, 0), (0, -8, 0, 2), (0, 8, 0, -2), (2, 0, -8, 0), (-2, 0, 8, 0), (0, -2, 0, -8), (0, 2, 0, 8), (-3, -3, -5, -5), (-5, -3, -5, 3), (-3, -5, 3, -5), (-5, -5, 3, 3), (-3, 5, -3, -5), (-5, 5, -3, 3), (-3, 3, 5, -5), (-5, 3, 5, 3), (5, -3, -5, -3), (3, -3, -5, 5), (5, -5, 3, -3), (3, -5, 3, 5), (5, 5, -3, -3), (3, 5, -3, 5), (5, 3, 5, -3), (3, 3, 5, 5), (-8, 0, 0, -2), (8, 0, 0, 2), (0, -8, -2, 0), (0, 8, 2, 0), (0, 2, -8, 0), (0, -2, 8, 0), (2, 0, 0, -8), (-2, 0, 0, 8), (-5, -5, -3, -3), (-3, -5, -3, 5), (-5, -3, 5, -3), (-3, -3, 5, 5), (-5, 3, -5, -3), (-3, 3, -5, 5), (-5, 5, 3, -3), (-3, 5, 3, 5), (3, -5, -3, -5), (5, -5, -3, 3), (3, -3, 5, -5), (5, -3, 5, 3), (3, 3, -5, -5), (5, 3, -5, 3), (3, 5, 3, -5), (5, 5, 3, 3), (-8, 0, 0, 2), (8, 0, 0, -2), (0, -8, 2, 0), (0, 8, -2, 0), (0, -2, -8, 0), (0, 2, 8, 0), (-2, 0, 0, -8), (2, 0, 0, 8), (-5, -3, -3, -5), (-5, -5, -3, 3), (-3, -3, 5, -5), (-3, -5, 5, 3), (-5, 5, -3, -3), (-5, 3, -3, 5), (-3, 5, 5, -3), (-3, 3, 5, 5), (3, -3, -5, -5), (3, -5, -5, 3), (5, -3, 3, -5), (5, -5, 3, 3), (3, 5, -5, -3), (3, 3, -5, 5), (5, 5, 3, -3), (5, 3, 3, 5), (-8, 0, 2, 0), (8, 0, -2, 0), (0, -8, 0, -2), (0, 8, 0, 2), (-2, 0, -8, 0), (2, 0, 8, 0), (0, 2, 0, -8), (0, -2, 0, 8), (-5, -3, -5, -3), (-5, -3, -3, 5), (-5, -3, 3, -5), (-5, -3, 5, 3), (-3, 5, -5, -3), (-3, 5, -3, 5), (-3, 5, 3, -5), (-3, 5, 5, 3), (3, -5, -5, -3), (3, -5, -3, 5), (3, -5, 3, -5), (3, -5, 5, 3), (5, 3, -5, -3), (5, 3, -3, 5), (5, 3, 3, -5), (5, 3, 5, 3), (-8, 2, 0, 0), (8, -2, 0, 0), (-2, -8, 0, 0), (2, 8, 0, 0), (0, 0, -8, 2), (0, 0, 8, -2), (0, 0, -2, -8), (0, 0, 2, 8), (0, -6, -4, -4), (-1, -3, -7, 3), (-3, -7, 3, -1), (-4, -4, 0, 6), (-3, 1, -3, -7), (-4, 4, -6, 0), (-6, 0, 4, -4), (-7, 3, 1, 3), (7, -3, -1, -3), (6, 0, -4, 4), (4, -4, 6, 0), (3, -1, 3, 7), (4, 4, 0, -6), (3, 7, -3, 1), (1, 3, 7, -3), (0, 6, 4, 4), (-7, -3, -3, -1), (7, 3, 3, 1), (3, -7, -1, 3), (-3, 7, 1, -3), (3, 1, -7, -3), (-3, -1, 7, 3), (1, -3, 3, -7), (-1, 3, -3, 7), (-1, -7, -3, -3), (0, -4, -6, 4), (-4, -6, 4, 0), (-3, -3, 1, 7), (-4, 0, -4, -6), (-3, 3, -7, 1), (-7, 1, 3, -3), (-6, 4, 0, 4), (6, -4, 0, -4), (7, -1, -3, 3), (3, -3, 7, -1), (4, 0, 4, 6), (3, 3, -1, -7), (4, 6, -4, 0), (0, 4, 6, -4), (1, 7, 3, 3), (-7, -3, -3, 1), (7, 3, 3, -1), (3, -7, 1, 3), (-3, 7, -1, -3), (3, -1, -7, -3), (-3, 1, 7, 3), (-1, -3, 3, -7), (1, 3, -3, 7), (0, -4, -4, -6), (-3, -3, -7, 1), (-1, -7, 3, -3), (-4, -6, 0, 4), (-3, 3, -1, -7), (-6, 4, -4, 0), (-4, 0, 6, -4), (-7, 1, 3, 3), (7, -1, -3, -3), (4, 0, -6, 4), (6, -4, 4, 0), (3, -3, 1, 7), (4, 6, 0, -4), (1, 7, -3, 3), (3, 3, 7, -1), (0, 4, 4, 6), (-7, -3, -1, -3), (7, 3, 1, 3), (3, -7, -3, 1), (-3, 7, 3, -1), (1, 3, -7, -3), (-1, -3, 7, 3), (3, -1, 3, -7), (-3, 1, -3, 7)]
def LB17F0 : List D := LB17R [(8, 2, 0, 0), (8, 0, 2, 0), (8, 0, 0, 2), (8, 0, 0, -2), (8, 0, -2, 0), (8, -2, 0, 0), (7, 3, 3, 1), (7, 3, 3, -1), (7, 3, 1, 3)]
def LB17X1 : List D := LB17R [(7, 3, 1, -3), (7, 3, -1, 3), (7, 3, -1, -3), (7, 3, -3, 1)]
def LB17K1 : List (List Key) := LB17K0 ++ LB17K [(-3, -7, -1, -3), (0, -6, -4, 4), (-4, -4, 6, 0), (-1, -3, 3, 7), (-6, 0, -4, -4), (-3, 1, -7, 3), (-7, 3, 3, -1), (-4, 4, 0, 6), (4, -4, 0, -6), (7, -3, -3, 1), (3, -1, 7, -3), (6, 0, 4, 4), (1, 3, -3, -7), (4, 4, -6, 0), (0, 6, 4, -4), (3, 7, 1, 3), (-7, -3, -1, 3), (7, 3, 1, -3), (3, -7, 3, 1), (-3, 7, -3, -1), (1, -3, -7, -3), (-1, 3, 7, 3), (-3, -1, 3, -7), (3, 1, -3, 7), (-1, -3, -3, -7), (-4, -4, -6, 0), (0, -6, 4, -4), (-3, -7, 1, 3), (-4, 4, 0, -6), (-7, 3, -3, 1), (-3, 1, 7, -3), (-6, 0, 4, 4), (6, 0, -4, -4), (3, -1, -7, 3), (7, -3, 3, -1), (4, -4, 0, 6), (3, 7, -1, -3), (0, 6, -4, 4), (4, 4, 6, 0), (1, 3, 3, 7), (-7, -3, 1, -3), (7, 3, -1, 3), (3, -7, -3, -1), (-3, 7, 3, 1), (-1, 3, -7, -3), (1, -3, 7, 3), (3, 1, 3, -7), (-3, -1, -3, 7), (-4, -6, 0, -4), (-1, -7, -3, 3), (-3, -3, 7, -1), (0, -4, 4, 6), (-7, 1, -3, -3), (-4, 0, -6, 4), (-6, 4, 4, 0), (-3, 3, 1, 7), (3, -3, -1, -7), (6, -4, -4, 0), (4, 0, 6, -4), (7, -1, 3, 3), (0, 4, -4, -6), (3, 3, -7, 1), (1, 7, 3, -3), (4, 6, 0, 4), (-7, -3, 1, 3), (7, 3, -1, -3), (3, -7, 3, -1), (-3, 7, -3, 1), (-1, -3, -7, -3), (1, 3, 7, 3), (-3, 1, 3, -7), (3, -1, -3, 7), (-3, -3, -1, -7), (-4, -6, -4, 0), (0, -4, 6, -4), (-1, -7, 3, 3), (-6, 4, 0, -4), (-7, 1, -3, 3), (-3, 3, 7, -1), (-4, 0, 4, 6), (4, 0, -4, -6), (3, -3, -7, 1), (7, -1, 3, -3), (6, -4, 0, 4), (1, 7, -3, -3), (0, 4, -6, 4), (4, 6, 4, 0), (3, 3, 1, 7), (-7, -3, 3, -1), (7, 3, -3, 1), (3, -7, -1, -3), (-3, 7, 1, 3), (-3, 1, -7, -3), (3, -1, 7, 3), (1, 3, 3, -7), (-1, -3, -3, 7)]
def LB17F1 : List D := LB17F0 ++ LB17R [(7, 3, 1, -3), (7, 3, -1, 3), (7, 3, -1, -3), (7, 3, -3, 1)]
def LB17X2 : List D := LB17R [(7, 3, -3, -1), (7, 1, 3, 3), (7, 1, 3, -3)]
def LB17K2 : List (List Key) := LB17K1 ++ LB17K [(-4, -4, 0, -6), (-3, -7, -3, 1), (-1, -3, 7, -3), (0, -6, 4, 4), (-7, 3, -1, -3), (-6, 0, -4, 4), (-4, 4, 6, 0), (-3, 1, 3, 7), (3, -1, -3, -7), (4, -4, -6, 0), (6, 0, 4, -4), (7, -3, 1, 3), (0, 6, -4, -4), (1, 3, -7, 3), (3, 7, 3, -1), (4, 4, 0, 6), (-7, -3, 3, 1), (7, 3, -3, -1), (3, -7, 1, -3), (-3, 7, -1, 3), (-3, -1, -7, -3), (3, 1, 7, 3), (-1, 3, 3, -7), (1, -3, -3, 7), (0, -4, -6, -4), (-3, -1, -7, 3), (-3, -7, 1, -3), (-6, -4, 0, 4), (-1, 3, -3, -7), (-4, 6, -4, 0), (-4, 0, 4, -6), (-7, 3, 3, 1), (7, -3, -3, -1), (4, 0, -4, 6), (4, -6, 4, 0), (1, -3, 3, 7), (6, 4, 0, -4), (3, 7, -1, 3), (3, 1, 7, -3), (0, 4, 6, 4), (-7, -1, -3, -3), (7, 1, 3, 3), (1, -7, -3, 3), (-1, 7, 3, -3), (3, 3, -7, -1), (-3, -3, 7, 1), (3, -3, 1, -7), (-3, 3, -1, 7), (-3, -7, -3, -1), (0, -4, -4, 6), (-6, -4, 4, 0), (-3, -1, 3, 7), (-4, 0, -6, -4), (-1, 3, -7, 3), (-7, 3, 1, -3), (-4, 6, 0, 4), (4, -6, 0, -4), (7, -3, -1, 3), (1, -3, 7, -3), (4, 0, 6, 4), (3, 1, -3, -7), (6, 4, -4, 0), (0, 4, 4, -6), (3, 7, 3, 1), (-7, -1, -3, 3), (7, 1, 3, -3), (1, -7, 3, 3), (-1, 7, -3, -3), (3, -3, -7, -1), (-3, 3, 7, 1), (-3, -3, 1, -7), (3, 3, -1, 7)]
def LB17F2 : List D := LB17F1 ++ LB17R [(7, 3, -3, -1), (7, 1, 3, 3), (7, 1, 3, -3)]
def LB17X3 : List D := LB17R [(7, 1, -3, 3), (7, 1, -3, -3), (7, -1, 3, 3), (7, -1, 3, -3), (7, -1, -3, 3), (7, -1, -3, -3), (7, -3, 3, 1), (7, -3, 3, -1), (7, -3, 1, 3), (7, -3, 1, -3), (7, -3, -1, 3), (7, -3, -1, -3), (7, -3, -3, 1), (7, -3, -3, -1), (6, 4, 4, 0), (6, 4, 4, 0), (6, 4, 0, 4), (6, 4, 0, -4), (6, 4, -4, 0), (6, 4, -4, 0), (6, 0, 4, 4), (6, 0, 4, -4), (6, 0, -4, 4), (6, 0, -4, -4), (6, -4, 4, 0), (6, -4, 4, 0), (6, -4, 0, 4), (6, -4, 0, -4), (6, -4, -4, 0), (6, -4, -4, 0), (5, 5, 3, 3), (5, 5, 3, -3), (5, 5, -3, 3), (5, 5, -3, -3), (5, 3, 5, 3), (5, 3, 5, -3), (5, 3, 3, 5), (5, 3, 3, -5), (5, 3, -3, 5), (5, 3, -3, -5), (5, 3, -5, 3), (5, 3, -5, -3), (5, -3, 5, 3), (5, -3, 5, -3), (5, -3, 3, 5), (5, -3, 3, -5), (5, -3, -3, 5), (5, -3, -3, -5), (5, -3, -5, 3), (5, -3, -5, -3), (5, -5, 3, 3), (5, -5, 3, -3), (5, -5, -3, 3), (5, -5, -3, -3), (4, 6, 4, 0), (4, 6, 4, 0), (4, 6, 0, 4), (4, 6, 0, -4), (4, 6, -4, 0), (4, 6, -4, 0), (4, 4, 6, 0), (4, 4, 6, 0), (4, 4, 0, 6), (4, 4, 0, -6), (4, 4, -6, 0), (4, 4, -6, 0), (4, 0, 6, 4), (4, 0, 6, -4), (4, 0, 4, 6), (4, 0, 4, -6), (4, 0, -4, 6), (4, 0, -4, -6), (4, 0, -6, 4), (4, 0, -6, -4), (4, -4, 6, 0), (4, -4, 6, 0), (4, -4, 0, 6), (4, -4, 0, -6), (4, -4, -6, 0), (4, -4, -6, 0), (4, -6, 4, 0), (4, -6, 4, 0), (4, -6, 0, 4), (4, -6, 0, -4), (4, -6, -4, 0), (4, -6, -4, 0), (3, 7, 3, 1), (3, 7, 3, -1), (3, 7, 1, 3), (3, 7, 1, -3), (3, 7, -1, 3), (3, 7, -1, -3), (3, 7, -3, 1), (3, 7, -3, -1), (3, 5, 5, 3), (3, 5, 5, -3), (3, 5, 3, 5), (3, 5, 3, -5), (3, 5, -3, 5), (3, 5, -3, -5), (3, 5, -5, 3), (3, 5, -5, -3), (3, 3, 7, 1), (3, 3, 7, -1), (3, 3, 5, 5), (3, 3, 5, -5), (3, 3, 1, 7), (3, 3, 1, -7), (3, 3, -1, 7), (3, 3, -1, -7), (3, 3, -5, 5), (3, 3, -5, -5), (3, 3, -7, 1), (3, 3, -7, -1), (3, 1, 7, 3), (3, 1, 7, -3), (3, 1, 3, 7), (3, 1, 3, -7), (3, 1, -3, 7), (3, 1, -3, -7), (3, 1, -7, 3), (3, 1, -7, -3), (3, -1, 7, 3), (3, -1, 7, -3), (3, -1, 3, 7), (3, -1, 3, -7), (3, -1, -3, 7), (3, -1, -3, -7), (3, -1, -7, 3), (3, -1, -7, -3), (3, -3, 7, 1), (3, -3, 7, -1), (3, -3, 5, 5), (3, -3, 5, -5), (3, -3, 1, 7), (3, -3, 1, -7), (3, -3, -1, 7), (3, -3, -1, -7), (3, -3, -5, 5), (3, -3, -5, -5), (3, -3, -7, 1), (3, -3, -7, -1), (3, -5, 5, 3), (3, -5, 5, -3), (3, -5, 3, 5), (3, -5, 3, -5), (3, -5, -3, 5), (3, -5, -3, -5), (3, -5, -5, 3), (3, -5, -5, -3), (3, -7, 3, 1), (3, -7, 3, -1), (3, -7, 1, 3), (3, -7, 1, -3), (3, -7, -1, 3), (3, -7, -1, -3), (3, -7, -3, 1), (3, -7, -3, -1), (2, 8, 0, 0), (2, 8, 0, 0), (2, 0, 8, 0), (2, 0, 8, 0), (2, 0, 0, 8), (2, 0, 0, -8), (2, 0, -8, 0), (2, 0, -8, 0), (2, -8, 0, 0), (2, -8, 0, 0), (1, 7, 3, 3), (1, 7, 3, -3), (1, 7, -3, 3), (1, 7, -3, -3), (1, 3, 7, 3), (1, 3, 7, -3), (1, 3, 3, 7), (1, 3, 3, -7), (1, 3, -3, 7), (1, 3, -3, -7), (1, 3, -7, 3), (1, 3, -7, -3), (1, -3, 7, 3), (1, -3, 7, -3), (1, -3, 3, 7), (1, -3, 3, -7), (1, -3, -3, 7), (1, -3, -3, -7), (1, -3, -7, 3), (1, -3, -7, -3), (1, -7, 3, 3), (1, -7, 3, -3), (1, -7, -3, 3), (1, -7, -3, -3)]
def LB17K3 : List (List Key) := LB17K2 ++ LB17K [(-3, -1, -3, -7), (-6, -4, -4, 0), (0, -4, 4, -6), (-3, -7, 3, 1), (-4, 6, 0, -4), (-7, 3, -1, 3), (-1, 3, 7, -3), (-4, 0, 6, 4), (4, 0, -6, -4), (1, -3, -7, 3), (7, -3, 1, -3), (4, -6, 0, 4), (3, 7, -3, -1), (0, 4, -4, 6), (6, 4, 4, 0), (3, 1, 3, 7), (-7, -1, 3, -3), (7, 1, -3, 3), (1, -7, -3, -3), (-1, 7, 3, 3), (-3, 3, -7, -1), (3, -3, 7, 1), (3, 3, 1, -7), (-3, -3, -1, 7), (-6, -4, 0, -4), (-3, -7, -1, 3), (-3, -1, 7, -3), (0, -4, 6, 4), (-7, 3, -3, -1), (-4, 0, -4, 6), (-4, 6, 4, 0), (-1, 3, 3, 7), (1, -3, -3, -7), (4, -6, -4, 0), (4, 0, 4, -6), (7, -3, 3, 1), (0, 4, -6, -4), (3, 1, -7, 3), (3, 7, 1, -3), (6, 4, 0, 4), (-7, -1, 3, 3), (7, 1, -3, -3), (1, -7, 3, -3), (-1, 7, -3, 3), (-3, -3, -7, -1), (3, 3, 7, 1), (-3, 3, 1, -7), (3, -3, -1, 7)]
def LB17F3 : List D := LB17F2 ++ LB17R [(7, 1, -3, 3), (7, 1, -3, -3)]
theorem LB17c0 (k : Nat) (x2 x3 x4 x8 x10 x11 : Option D) (rt0 : MO) : forW LBg (LBB (callK pg (k + 1))) LB17X0 [some (.int 17), some (.ref 0), x2, x3, x4, some (.ref 1), some (.ref 2), none, x8, none, x10, x11] [rt0, .lst false [], .dt false [] []] = some ([some (.int 17), some (.ref 0), x2, x3, x4, some (.ref 1), some (.ref 2), some (.tup [.int 7, .int 3, .int 1, .int 3]), x8, some (.tup [.int 0, .int 0, .int 0, .int 2]), x10, x11], [rt0, .lst false LB17F0, .dt false LB17K0 (List.replicate 216 (.bl true))]) := by kernel_rfl
theorem LB17c1 (k : Nat) (x2 x3 x4 x8 x10 x11 : Option D) (rt0 : MO) : forW LBg (LBB (callK pg (k + 1))) LB17X1 [some (.int 17), some (.ref 0), x2, x3, x4, some (.ref 1), some (.ref 2), some (.tup [.int 7, .int 3, .int 1, .int 3]), x8, some (.tup [.int 0, .int 0, .int 0, .int 2]), x10, x11] [rt0, .lst false LB17F0, .dt false LB17K0 (List.replicate 216 (.bl true))] = some ([some (.int 17), some (.ref 0), x2, x3, x4, some (.ref 1), some (.ref 2), some (.tup [.int 7, .int 3, .int (-3), .int 1]), x8, some (.tup [.int 0, .int 0, .int 0, .int 2]), x10, x11], [rt0, .lst false LB17F1, .dt false LB17K1 (List.replicate 312 (.bl true))]) := by kernel_rfl
theorem LB17c2 (k : Nat) (x2 x3 x4 x8 x10 x11 : Option D) (rt0 : MO) : forW LBg (LBB (callK pg (k + 1))) LB17X2 [some (.int 17), some (.ref 0), x2, x3, x4, some (.ref 1), some (.ref 2), some (.tup [.int 7, .int 3, .int (-3), .int 1]), x8, some (.tup [.int 0, .int 0, .int 0, .int 2]), x10, x11] [rt0, .lst false LB17F1, .dt false LB17K1 (List.replicate 312 (.bl true))] = some ([some (.int 17), some (.ref 0), x2, x3, x4, some (.ref 1), some (.ref 2), some (.tup [.int 7, .int 1, .int 3, .int (-3)]), x8, some (.tup [.int 0, .int 0, .int 0, .int 2]), x10, x11], [rt0, .lst false LB17F2, .dt false LB17K2 (List.replicate 384 (.bl true))]) := by kernel_rfl
theorem LB17c3 (k : Nat) (x2 x3 x4 x8 x10 x11 : Option D) (rt0 : MO) : forW LBg (LBB (callK pg (k + 1))) LB17X3 [some (.int 17), some (.ref 0), x2, x3, x4, some (.ref 1), some (.ref 2), some (.tup [.int 7, .int 1, .int 3, .int (-3)]), x8, some (.tup [.int 0, .int 0, .int 0, .int 2]), x10, x11] [rt0, .lst false LB17F2, .dt false LB17K2 (List.replicate 384 (.bl true))] = some ([some (.int 17), some (.ref 0), x2, x3, x4, some (.ref 1), some (.ref 2), some (.tup [.int 1, .int (-7), .int (-3), .int (-3)]), x8, some (.tup [.int 0, .int 0, .int 0, .int 2]), x10, x11], [rt0, .lst false LB17F3, .dt false LB17K3 (List.replicate 432 (.bl true))]) := by kernel_rfl
theorem LB17for (k : Nat) (x2 x3 x4 x8 x10 x11 : Option D) (rt0 : MO) : forV LBg (LBB (callK pg (k + 1))) (LB17X0 ++ (LB17X1 ++ (LB17X2 ++ (LB17X3 ++ [])))) [some (.int 17), some (.ref 0), x2, x3, x4, some (.ref 1), some (.ref 2), none, x8, none, x10, x11] [rt0, .lst false [], .dt false [] []] = some (.nx [some (.int 17), some (.ref 0), x2, x3, x4, some (.ref 1), some (.ref 2), some (.tup [.int 1, .int (-7), .int (-3), .int (-3)]), x8, some (.tup [.int 0, .int 0, .int 0, .int 2]), x10, x11] [rt0, .lst false LB17F3, .dt false LB17K3 (List.replicate 432 (.bl true))]) := by
  rw [forW_app _ _ _ _ _ _ _ (LB17c0 k x2 x3 x4 x8 x10 x11 rt0)]
  rw [forW_app _ _ _ _ _ _ _ (LB17c1 k x2 x3 x4 x8 x10 x11 rt0)]
  rw [forW_app _ _ _ _ _ _ _ (LB17c2 k x2 x3 x4 x8 x10 x11 rt0)]
  rw [forW_app _ _ _ _ _ _ _ (LB17c3 k x2 x3 x4 x8 x10 x11 rt0)]
  rfl
def LB17W : List D := LB17R [(1, -7, -3, 3), (1, -7, -3, -3), (1, -7, 3, 3), (1, -7, 3, -3), (1, -3, -7, 3), (1, -3, -7, -3), (1, -3, -3, 7), (1, -3, -3, -7), (1, -3, 3, 7), (1, -3, 3, -7), (1, -3, 7, 3), (1, -3, 7, -3), (1, 3, -7, 3), (1, 3, -7, -3), (1, 3, -3, 7), (1, 3, -3, -7), (1, 3, 3, 7), (1, 3, 3, -7), (1, 3, 7, 3), (1, 3, 7, -3), (1, 7, -3, 3), (1, 7, -3, -3), (1, 7, 3, 3), (1, 7, 3, -3), (2, -8, 0, 0), (2, -8, 0, 0), (2, 0, -8, 0), (2, 0, -8, 0), (2, 0, 0, 8), (2, 0, 0, -8), (2, 0, 8, 0), (2, 0, 8, 0), (2, 8, 0, 0), (2, 8, 0, 0), (3, -7, -3, 1), (3, -7, -3, -1), (3, -7, -1, 3), (3, -7, -1, -3), (3, -7, 1, 3), (3, -7, 1, -3), (3, -7, 3, 1), (3, -7, 3, -1), (3, -5, -5, 3), (3, -5, -5, -3), (3, -5, -3, 5), (3, -5, -3, -5), (3, -5, 3, 5), (3, -5, 3, -5), (3, -5, 5, 3), (3, -5, 5, -3), (3, -3, -7, 1), (3, -3, -7, -1), (3, -3, -5, 5), (3, -3, -5, -5), (3, -3, -1, 7), (3, -3, -1, -7), (3, -3, 1, 7), (3, -3, 1, -7), (3, -3, 5, 5), (3, -3, 5, -5), (3, -3, 7, 1), (3, -3, 7, -1), (3, -1, -7, 3), (3, -1, -7, -3), (3, -1, -3, 7), (3, -1, -3, -7), (3, -1, 3, 7), (3, -1, 3, -7), (3, -1, 7, 3), (3, -1, 7, -3), (3, 1, -7, 3), (3, 1, -7, -3), (3, 1, -3, 7), (3, 1, -3, -7), (3, 1, 3, 7), (3, 1, 3, -7), (3, 1, 7, 3), (3, 1, 7, -3), (3, 3, -7, 1), (3, 3, -7, -1), (3, 3, -5, 5), (3, 3, -5, -5), (3, 3, -1, 7), (3, 3, -1, -7), (3, 3, 1, 7), (3, 3, 1, -7), (3, 3, 5, 5), (3, 3, 5, -5), (3, 3, 7, 1), (3, 3, 7, -1), (3, 5, -5, 3), (3, 5, -5, -3), (3, 5, -3, 5), (3, 5, -3, -5), (3, 5, 3, 5), (3, 5, 3, -5), (3, 5, 5, 3), (3, 5, 5, -3), (3, 7, -3, 1), (3, 7, -3, -1), (3, 7, -1, 3), (3, 7, -1, -3), (3, 7, 1, 3), (3, 7, 1, -3), (3, 7, 3, 1), (3, 7, 3, -1), (4, -6, -4, 0), (4, -6, -4, 0), (4, -6, 0, 4), (4, -6, 0, -4), (4, -6, 4, 0), (4, -6, 4, 0), (4, -4, -6, 0), (4, -4, -6, 0), (4, -4, 0, 6), (4, -4, 0, -6), (4, -4, 6, 0), (4, -4, 6, 0), (4, 0, -6, 4), (4, 0, -6, -4), (4, 0, -4, 6), (4, 0, -4, -6), (4, 0, 4, 6), (4, 0, 4, -6), (4, 0, 6, 4), (4, 0, 6, -4), (4, 4, -6, 0), (4, 4, -6, 0), (4, 4, 0, 6), (4, 4, 0, -6), (4, 4, 6, 0), (4, 4, 6, 0), (4, 6, -4, 0), (4, 6, -4, 0), (4, 6, 0, 4), (4, 6, 0, -4), (4, 6, 4, 0), (4, 6, 4, 0), (5, -5, -3, 3), (5, -5, -3, -3), (5, -5, 3, 3), (5, -5, 3, -3), (5, -3, -5, 3), (5, -3, -5, -3), (5, -3, -3, 5), (5, -3, -3, -5), (5, -3, 3, 5), (5, -3, 3, -5), (5, -3, 5, 3), (5, -3, 5, -3), (5, 3, -5, 3), (5, 3, -5, -3), (5, 3, -3, 5), (5, 3, -3, -5), (5, 3, 3, 5), (5, 3, 3, -5), (5, 3, 5, 3), (5, 3, 5, -3), (5, 5, -3, 3), (5, 5, -3, -3), (5, 5, 3, 3), (5, 5, 3, -3), (6, -4, -4, 0), (6, -4, -4, 0), (6, -4, 0, 4), (6, -4, 0, -4), (6, -4, 4, 0), (6, -4, 4, 0), (6, 0, -4, 4), (6, 0, -4, -4), (6, 0, 4, 4), (6, 0, 4, -4), (6, 4, -4, 0), (6, 4, -4, 0), (6, 4, 0, 4), (6, 4, 0, -4), (6, 4, 4, 0), (6, 4, 4, 0), (7, -3, -3, 1), (7, -3, -3, -1), (7, -3, -1, 3), (7, -3, -1, -3), (7, -3, 1, 3), (7, -3, 1, -3), (7, -3, 3, 1), (7, -3, 3, -1), (7, -1, -3, 3), (7, -1, -3, -3), (7, -1, 3, 3), (7, -1, 3, -3), (7, 1, -3, 3), (7, 1, -3, -3), (7, 1, 3, 3), (7, 1, 3, -3), (7, 3, -3, 1), (7, 3, -3, -1), (7, 3, -1, 3), (7, 3, -1, -3), (7, 3, 1, 3), (7, 3, 1, -3), (7, 3, 3, 1), (7, 3, 3, -1), (8, -2, 0, 0), (8, -2, 0, 0), (8, 0, -2, 0), (8, 0, -2, 0), (8, 0, 0, 2), (8, 0, 0, -2), (8, 0, 2, 0), (8, 0, 2, 0), (8, 2, 0, 0), (8, 2, 0, 0)]
theorem LB17hd (k : Nat) (Y : Xst) : LBh (callK pg (k + 1)) Y (stD 12 [.int 17]) [] = Y [some (.int 17), some (.ref 0), some (.int 33), some (.lst LB17W), some (.int 33), some (.ref 1), some (.ref 2), none, some (.int 33), none, some (.int 33), some (.int (-1089))] [.dk false [.inl 0, .inl 1, .inl 4, .inl 9, .inl 16, .inl 25, .inl 36, .inl 49, .inl 64, .inl 81, .inl 100, .inl 121, .inl 144, .inl 169, .inl 196, .inl 225, .inl 256, .inl 289, .inl 324, .inl 361, .inl 400, .inl 441, .inl 484, .inl 529, .inl 576, .inl 625, .inl 676, .inl 729, .inl 784, .inl 841, .inl 900, .inl 961, .inl 1024, .inl 1089] [.int 0, .int 1, .int 2, .int 3, .int 4, .int 5, .int 6, .int 7, .int 8, .int 9, .int 10, .int 11, .int 12, .int 13, .int 14, .int 15, .int 16, .int 17, .int 18, .int 19, .int 20, .int 21, .int 22, .int 23, .int 24, .int 25, .int 26, .int 27, .int 28, .int 29, .int 30, .int 31, .int 32, .int 33], .lst false [], .dt false [] []] := by kernel_rfl
theorem LB17it (k : Nat) (Y : List D → Os) : bs (LBi (callK pg (k + 1)) [some (.int 17), some (.ref 0), some (.int 33), some (.lst LB17W), some (.int 33), some (.ref 1), some (.ref 2), none, some (.int 33), none, some (.int 33), some (.int (-1089))] [.dk false [.inl 0, .inl 1, .inl 4, .inl 9, .inl 16, .inl 25, .inl 36, .inl 49, .inl 64, .inl 81, .inl 100, .inl 121, .inl 144, .inl 169, .inl 196, .inl 225, .inl 256, .inl 289, .inl 324, .inl 361, .inl 400, .inl 441, .inl 484, .inl 529, .inl 576, .inl 625, .inl 676, .inl 729, .inl 784, .inl 841, .inl 900, .inl 961, .inl 1024, .inl 1089] [.int 0, .int 1, .int 2, .int 3, .int 4, .int 5, .int 6, .int 7, .int 8, .int 9, .int 10, .int 11, .int 12, .int 13, .int 14, .int 15, .int 16, .int 17, .int 18, .int 19, .int 20, .int 21, .int 22, .int 23, .int 24, .int 25, .int 26, .int 27, .int 28, .int 29, .int 30, .int 31, .int 32, .int 33], .lst false [], .dt false [] []]) [some (.int 17), some (.ref 0), some (.int 33), some (.lst LB17W), some (.int 33), some (.ref 1), some (.ref 2), none, some (.int 33), none, some (.int 33), some (.int (-1089))] [.dk false [.inl 0, .inl 1, .inl 4, .inl 9, .inl 16, .inl 25, .inl 36, .inl 49, .inl 64, .inl 81, .inl 100, .inl 121, .inl 144, .inl 169, .inl 196, .inl 225, .inl 256, .inl 289, .inl 324, .inl 361, .inl 400, .inl 441, .inl 484, .inl 529, .inl 576, .inl 625, .inl 676, .inl 729, .inl 784, .inl 841, .inl 900, .inl 961, .inl 1024, .inl 1089] [.int 0, .int 1, .int 2, .int 3, .int 4, .int 5, .int 6, .int 7, .int 8, .int 9, .int 10, .int 11, .int 12, .int 13, .int 14, .int 15, .int 16, .int 17, .int 18, .int 19, .int 20, .int 21, .int 22, .int 23, .int 24, .int 25, .int 26, .int 27, .int 28, .int 29, .int 30, .int 31, .int 32, .int 33], .lst false [], .dt false [] []] Y = Y (LB17X0 ++ (LB17X1 ++ (LB17X2 ++ (LB17X3 ++ [])))) := by kernel_rfl
theorem LB17tl (k : Nat) : LBt (callK pg (k + 1)) [some (.int 17), some (.ref 0), some (.int 33), some (.lst LB17W), some (.int 33), some (.ref 1), some (.ref 2), some (.tup [.int 1, .int (-7), .int (-3), .int (-3)]), some (.int 33), some (.tup [.int 0, .int 0, .int 0, .int 2]), some (.int 33), some (.int (-1089))] [.dk false [.inl 0, .inl 1, .inl 4, .inl 9, .inl 16, .inl 25, .inl 36, .inl 49, .inl 64, .inl 81, .inl 100, .inl 121, .inl 144, .inl 169, .inl 196, .inl 225, .inl 256, .inl 289, .inl 324, .inl 361, .inl 400, .inl 441, .inl 484, .inl 529, .inl 576, .inl 625, .inl 676, .inl 729, .inl 784, .inl 841, .inl 900, .inl 961, .inl 1024, .inl 1089] [.int 0, .int 1, .int 2, .int 3, .int 4, .int 5, .int 6, .int 7, .int 8, .int 9, .int 10, .int 11, .int 12, .int 13, .int 14, .int 15, .int 16, .int 17, .int 18, .int 19, .int 20, .int 21, .int 22, .int 23, .int 24, .int 25, .int 26, .int 27, .int 28, .int 29, .int 30, .int 31, .int 32, .int 33], .lst false LB17F3, .dt false LB17K3 (List.replicate 432 (.bl true))] = some (.rt (.lst LP17) true [.dk false [.inl 0, .inl 1, .inl 4, .inl 9, .inl 16, .inl 25, .inl 36, .inl 49, .inl 64, .inl 81, .inl 100, .inl 121, .inl 144, .inl 169, .inl 196, .inl 225, .inl 256, .inl 289, .inl 324, .inl 361, .inl 400, .inl 441, .inl 484, .inl 529, .inl 576, .inl 625, .inl 676, .inl 729, .inl 784, .inl 841, .inl 900, .inl 961, .inl 1024, .inl 1089] [.int 0, .int 1, .int 2, .int 3, .int 4, .int 5, .int 6, .int 7, .int 8, .int 9, .int 10, .int 11, .int 12, .int 13, .int 14, .int 15, .int 16, .int 17, .int 18, .int 19, .int 20, .int 21, .int 22, .int 23, .int 24, .int 25, .int 26, .int 27, .int 28, .int 29, .int 30, .int 31, .int 32, .int 33], .lst false LB17F3, .dt false LB17K3 (List.replicate 432 (.bl true))]) := by kernel_rfl
theorem lb17 (k : Nat) : callK pg (k + 2) i_law_letters [.int 17] = rt (.lst LP17, true) := by
  rw [call_e pg (k + 1) _ _ (fn := f_law_letters) rfl]
  have a1 := LB17hd k
  have a2 := LB17it k
  have a3 := LB17for k (some (.int 33)) (some (.lst LB17W)) (some (.int 33)) (some (.int 33)) (some (.int 33)) (some (.int (-1089))) (.dk false [.inl 0, .inl 1, .inl 4, .inl 9, .inl 16, .inl 25, .inl 36, .inl 49, .inl 64, .inl 81, .inl 100, .inl 121, .inl 144, .inl 169, .inl 196, .inl 225, .inl 256, .inl 289, .inl 324, .inl 361, .inl 400, .inl 441, .inl 484, .inl 529, .inl 576, .inl 625, .inl 676, .inl 729, .inl 784, .inl 841, .inl 900, .inl 961, .inl 1024, .inl 1089] [.int 0, .int 1, .int 2, .int 3, .int 4, .int 5, .int 6, .int 7, .int 8, .int 9, .int 10, .int 11, .int 12, .int 13, .int 14, .int 15, .int 16, .int 17, .int 18, .int 19, .int 20, .int 21, .int 22, .int 23, .int 24, .int 25, .int 26, .int 27, .int 28, .int 29, .int 30, .int 31, .int 32, .int 33])
  have a4 := LB17tl k
  exact LBglue _ a1 a2 a3 a4 (by kernel_rfl)
theorem ls17 : shOk (.lst LP17) = true := by kernel_rfl
theorem lr17 : rfs LP17 = true := by kernel_rfl
def PV17 : Rv (D × Bool) := rt (.lst [.int 7, .int 6, .int 11, .int 10, .int 1, .int 8, .int 5, .int 2, .int 3, .int 12, .int 9, .int 4, .int 18, .int 17, .int 16, .int 15, .int 14, .int 13], true)
theorem pp17 (k : Nat) : callK pg (k + 6) i_partners_of [.int 17] = PV17 := by
  rw [call_e pg (k + 5) _ _ (fn := f_partners_of) rfl, ← memo1_eq (la17 k)]
  kernel_rfl
theorem pt17 (k : Nat) (l : Int) (h : 0 < l ∧ l ≤ 18) : ∃ v : Int, v.natAbs < 100 ∧ callK pg (k + 7) i_partner [.int 17, .int l] = rt (.int v, false) ∧ callK pg (k + 7) i_law_partner [.lst LP17, .int l] = rt (.int v, false) := by
  have hc : l = 1 ∨ l = 2 ∨ l = 3 ∨ l = 4 ∨ l = 5 ∨ l = 6 ∨ l = 7 ∨ l = 8 ∨ l = 9 ∨ l = 10 ∨ l = 11 ∨ l = 12 ∨ l = 13 ∨ l = 14 ∨ l = 15 ∨ l = 16 ∨ l = 17 ∨ l = 18 := by omega
  rw [call_e pg (k + 6) _ _ (fn := f_partner) rfl, ← memo1_eq (pp17 k)]
  rcases hc with rfl | rfl | rfl | rfl | rfl | rfl | rfl | rfl | rfl | rfl | rfl | rfl | rfl | rfl | rfl | rfl | rfl | rfl
  · exact ⟨7, by decide, by kernel_rfl, by kernel_rfl⟩
  · exact ⟨6, by decide, by kernel_rfl, by kernel_rfl⟩
  · exact ⟨11, by decide, by kernel_rfl, by kernel_rfl⟩
  · exact ⟨10, by decide, by kernel_rfl, by kernel_rfl⟩
  · exact ⟨1, by decide, by kernel_rfl, by kernel_rfl⟩
  · exact ⟨8, by decide, by kernel_rfl, by kernel_rfl⟩
  · exact ⟨5, by decide, by kernel_rfl, by kernel_rfl⟩
  · exact ⟨2, by decide, by kernel_rfl, by kernel_rfl⟩
  · exact ⟨3, by decide, by kernel_rfl, by kernel_rfl⟩
  · exact ⟨12, by decide, by kernel_rfl, by kernel_rfl⟩
  · exact ⟨9, by decide, by kernel_rfl, by kernel_rfl⟩
  · exact ⟨4, by decide, by kernel_rfl, by kernel_rfl⟩
  · exact ⟨18, by decide, by kernel_rfl, by kernel_rfl⟩
  · exact ⟨17, by decide, by kernel_rfl, by kernel_rfl⟩
  · exact ⟨16, by decide, by kernel_rfl, by kernel_rfl⟩
  · exact ⟨15, by decide, by kernel_rfl, by kernel_rfl⟩
  · exact ⟨14, by decide, by kernel_rfl, by kernel_rfl⟩
  · exact ⟨13, by decide, by kernel_rfl, by kernel_rfl⟩
theorem main17 (ns : List D) (z0 z1 z2 z3 z4 z5 z6 z7 z8 z9 : Int) : isT (tl_law_2 (callK pg 7) [some (.klst ns), some (.lst [.int z0, .int z1, .int z2, .int z3, .int z4, .int z5, .int z6, .int z7, .int z8, .int z9]), some (.int 17), none, none, none, none, none] []) = true := by
  obtain ⟨v1, a1, b1, c1⟩ := pt17 0 (1 + z1 % 18) (by omega)
  obtain ⟨v2, a2, b2, c2⟩ := pt17 0 (1 + z2 % 18) (by omega)
  rw [Nat.zero_add] at b1 c1 b2 c2
  exact mainG _ 17 LP17 ns z0 z1 z2 z3 z4 z5 z6 z7 z8 z9 v1 v2 (by decide) (by rfl) (la17 2) (lb17 5) b1 c1 b2 c2 (by omega) (by omega) ls17 lr17
theorem plain_law (ns : List Int) (h : ns.length ≤ 63) : ∃ b, callK pg 8 i_law [.klst (ns.map D.int)] = some (.ok (.bl true, b)) := by
  obtain ⟨zs, hl, hd, hn⟩ := num_at 5 ns h 10 (by decide)
  match zs, hl with
  | [z0, z1, z2, z3, z4, z5, z6, z7, z8, z9], _ =>
    refine law_of ?_
    rw [tl_law_0]
    have hn' : callK pg 7 1 [.klst (ns.map D.int), .int 10] = rt (.lst [.int z0, .int z1, .int z2, .int z3, .int z4, .int z5, .int z6, .int z7, .int z8, .int z9], true) := hn
    have hr : z0 % 10 = 0 ∨ z0 % 10 = 1 ∨ z0 % 10 = 2 ∨ z0 % 10 = 3 ∨ z0 % 10 = 4 ∨ z0 % 10 = 5 ∨ z0 % 10 = 6 ∨ z0 % 10 = 7 ∨ z0 % 10 = 8 ∨ z0 % 10 = 9 := by omega
    rcases hr with h | h | h | h | h | h | h | h | h | h
    · have e := main3 (ns.map D.int) z0 z1 z2 z3 z4 z5 z6 z7 z8 z9
      simpa [f_law, stD, hn', tl_law_1, ixAt, L2.ixN, fm, h] using e
    · have e := main5 (ns.map D.int) z0 z1 z2 z3 z4 z5 z6 z7 z8 z9
      simpa [f_law, stD, hn', tl_law_1, ixAt, L2.ixN, fm, h] using e
    · have e := main3 (ns.map D.int) z0 z1 z2 z3 z4 z5 z6 z7 z8 z9
      simpa [f_law, stD, hn', tl_law_1, ixAt, L2.ixN, fm, h] using e
    · have e := main7 (ns.map D.int) z0 z1 z2 z3 z4 z5 z6 z7 z8 z9
      simpa [f_law, stD, hn', tl_law_1, ixAt, L2.ixN, fm, h] using e
    · have e := main5 (ns.map D.int) z0 z1 z2 z3 z4 z5 z6 z7 z8 z9
      simpa [f_law, stD, hn', tl_law_1, ixAt, L2.ixN, fm, h] using e
    · have e := main3 (ns.map D.int) z0 z1 z2 z3 z4 z5 z6 z7 z8 z9
      simpa [f_law, stD, hn', tl_law_1, ixAt, L2.ixN, fm, h] using e
    · have e := main11 (ns.map D.int) z0 z1 z2 z3 z4 z5 z6 z7 z8 z9
      simpa [f_law, stD, hn', tl_law_1, ixAt, L2.ixN, fm, h] using e
    · have e := main7 (ns.map D.int) z0 z1 z2 z3 z4 z5 z6 z7 z8 z9
      simpa [f_law, stD, hn', tl_law_1, ixAt, L2.ixN, fm, h] using e
    · have e := main13 (ns.map D.int) z0 z1 z2 z3 z4 z5 z6 z7 z8 z9
      simpa [f_law, stD, hn', tl_law_1, ixAt, L2.ixN, fm, h] using e
    · have e := main17 (ns.map D.int) z0 z1 z2 z3 z4 z5 z6 z7 z8 z9
      simpa [f_law, stD, hn', tl_law_1, ixAt, L2.ixN, fm, h] using e

theorem all_mk {l : PySem.W.OpenLaw} {w : World} {K : PySem.W.Frag} {h : Heap} {mg : Str → Option Value} {fa : Addr} (X : K.In h) (G : h.Ns mainGlobals mg) (hfa : mg "law" = some (.ref fa))
    {g0 g1 g2 g3 g4 g5 g6 g7 g8 g9 g10 g11 g12 g13 g14 g15 g16 g17 g18 g19 g20 g21 g22 g23 : Addr} {od0 an0 od1 an1 od2 an2 od3 an3 od4 an4 od5 an5 od6 an6 od7 an7 od8 an8 od9 an9 od10 an10 od11 an11 od12 an12 od13 an13 od14 an14 od15 an15 od16 an16 od17 an17 od18 an18 od19 an19 od20 an20 od21 an21 od22 an22 od23 an23 : Option Addr} {sl0 sl1 sl2 sl3 sl4 sl5 sl6 sl7 sl8 sl9 sl10 sl11 sl12 sl13 sl14 sl15 sl16 sl17 sl18 sl19 sl20 sl21 sl22 sl23 : Array (Option Value)} {oc0 kV0 dc0 pm0 cd0 ct0 oc1 kV1 dc1 pm1 cd1 ct1 oc2 kV2 dc2 pm2 cd2 ct2 oc3 kV3 dc3 pm3 cd3 ct3 oc4 kV4 dc4 pm4 cd4 ct4 oc5 kV5 dc5 pm5 cd5 ct5 oc6 kV6 dc6 pm6 cd6 ct6 oc7 kV7 dc7 pm7 cd7 ct7 oc8 kV8 dc8 pm8 cd8 ct8 oc9 kV9 dc9 pm9 cd9 ct9 oc10 kV10 dc10 pm10 cd10 ct10 oc11 kV11 dc11 pm11 cd11 ct11 oc12 kV12 dc12 pm12 cd12 ct12 oc13 kV13 dc13 pm13 cd13 ct13 oc14 kV14 dc14 pm14 cd14 ct14 oc15 kV15 dc15 pm15 cd15 ct15 oc16 kV16 dc16 pm16 cd16 ct16 oc17 kV17 dc17 pm17 cd17 ct17 oc18 kV18 dc18 pm18 cd18 ct18 oc19 kV19 dc19 pm19 cd19 ct19 oc20 kV20 dc20 pm20 cd20 ct20 oc21 kV21 dc21 pm21 cd21 ct21 oc22 kV22 dc22 pm22 cd22 ct22 oc23 kV23 dc23 pm23 cd23 ct23 : Value} {tk0 tk1 tk2_0 tk2_1 tk2_2 tk2_3 : Tok} {gt2 : Addr} {dt2 : Option Addr} {nt2 : Nat} {st2 : Array (Option Value)}
    (a0 : PySem.W.nsIn K mainGlobals "_law_row" = some (some (.ref g0)))
    (l0 : K.lookup g0 = some ⟨oc0, od0, .func (PySem.W.fnOf "_law_row" "_law_row" (defArgs s_law_row) (defBody s_law_row) (defScope s_law_row) .none kV0 dc0 pm0 an0 cd0 ct0), sl0⟩)
    (c0 : PySem.W.codeIn K cd0 "_law_row" = true)
    (k0 : PySem.W.keepIn K (.ref g0) = true)
    (a1 : PySem.W.nsIn K mainGlobals "_law_numbers" = some (some (.ref g1)))
    (l1 : K.lookup g1 = some ⟨oc1, od1, .func (PySem.W.fnOf "_law_numbers" "_law_numbers" (defArgs s_law_numbers) (defBody s_law_numbers) (defScope s_law_numbers) .none kV1 dc1 pm1 an1 cd1 ct1), sl1⟩)
    (c1 : PySem.W.codeIn K cd1 "_law_numbers" = true)
    (k1 : PySem.W.keepIn K (.ref g1) = true)
    (a2 : PySem.W.nsIn K mainGlobals "_law_units" = some (some (.ref g2)))
    (l2 : K.lookup g2 = some ⟨oc2, od2, .func (PySem.W.fnOf "_law_units" "_law_units" (defArgs s_law_units) (defBody s_law_units) (defScope s_law_units) .none kV2 dc2 pm2 an2 cd2 ct2), sl2⟩)
    (c2 : PySem.W.codeIn K cd2 "_law_units" = true)
    (k2 : PySem.W.keepIn K (.ref g2) = true)
    (a3 : PySem.W.nsIn K mainGlobals "_law_product" = some (some (.ref g3)))
    (l3 : K.lookup g3 = some ⟨oc3, od3, .func (PySem.W.fnOf "_law_product" "_law_product" (defArgs s_law_product) (defBody s_law_product) (defScope s_law_product) .none kV3 dc3 pm3 an3 cd3 ct3), sl3⟩)
    (c3 : PySem.W.codeIn K cd3 "_law_product" = true)
    (k3 : PySem.W.keepIn K (.ref g3) = true)
    (a4 : PySem.W.nsIn K mainGlobals "_law_letters" = some (some (.ref g4)))
    (l4 : K.lookup g4 = some ⟨oc4, od4, .func (PySem.W.fnOf "_law_letters" "_law_letters" (defArgs s_law_letters) (defBody s_law_letters) (defScope s_law_letters) .none kV4 dc4 pm4 an4 cd4 ct4), sl4⟩)
    (c4 : PySem.W.codeIn K cd4 "_law_letters" = true)
    (k4 : PySem.W.keepIn K (.ref g4) = true)
    (a5 : PySem.W.nsIn K mainGlobals "check_prime" = some (some (.ref g5)))
    (l5 : K.lookup g5 = some ⟨oc5, od5, .func (PySem.W.fnOf "check_prime" "check_prime" (defArgs s_check_prime) (defBody s_check_prime) (defScope s_check_prime) .none kV5 dc5 pm5 an5 cd5 ct5), sl5⟩)
    (c5 : PySem.W.codeIn K cd5 "check_prime" = true)
    (k5 : PySem.W.keepIn K (.ref g5) = true)
    (a6 : PySem.W.nsIn K mainGlobals "pairs_of" = some (some (.ref g6)))
    (l6 : K.lookup g6 = some ⟨oc6, od6, .func (PySem.W.fnOf "pairs_of" "pairs_of" (defArgs s_pairs_of) (defBody s_pairs_of) (defScope s_pairs_of) .none kV6 dc6 pm6 an6 cd6 ct6), sl6⟩)
    (c6 : PySem.W.codeIn K cd6 "pairs_of" = true)
    (k6 : PySem.W.keepIn K (.ref g6) = true)
    (a7 : PySem.W.nsIn K mainGlobals "numbers_of" = some (some (.ref g7)))
    (l7 : K.lookup g7 = some ⟨oc7, od7, .func (PySem.W.fnOf "numbers_of" "numbers_of" (defArgs s_numbers_of) (defBody s_numbers_of) (defScope s_numbers_of) .none kV7 dc7 pm7 an7 cd7 ct7), sl7⟩)
    (c7 : PySem.W.codeIn K cd7 "numbers_of" = true)
    (k7 : PySem.W.keepIn K (.ref g7) = true)
    (a8 : PySem.W.nsIn K mainGlobals "is_number" = some (some (.ref g8)))
    (l8 : K.lookup g8 = some ⟨oc8, od8, .func (PySem.W.fnOf "is_number" "is_number" (defArgs s_is_number) (defBody s_is_number) (defScope s_is_number) .none kV8 dc8 pm8 an8 cd8 ct8), sl8⟩)
    (c8 : PySem.W.codeIn K cd8 "is_number" = true)
    (k8 : PySem.W.keepIn K (.ref g8) = true)
    (a9 : PySem.W.nsIn K mainGlobals "check_number" = some (some (.ref g9)))
    (l9 : K.lookup g9 = some ⟨oc9, od9, .func (PySem.W.fnOf "check_number" "check_number" (defArgs s_check_number) (defBody s_check_number) (defScope s_check_number) .none kV9 dc9 pm9 an9 cd9 ct9), sl9⟩)
    (c9 : PySem.W.codeIn K cd9 "check_number" = true)
    (k9 : PySem.W.keepIn K (.ref g9) = true)
    (a10 : PySem.W.nsIn K mainGlobals "check_not_zero" = some (some (.ref g10)))
    (l10 : K.lookup g10 = some ⟨oc10, od10, .func (PySem.W.fnOf "check_not_zero" "check_not_zero" (defArgs s_check_not_zero) (defBody s_check_not_zero) (defScope s_check_not_zero) .none kV10 dc10 pm10 an10 cd10 ct10), sl10⟩)
    (c10 : PySem.W.codeIn K cd10 "check_not_zero" = true)
    (k10 : PySem.W.keepIn K (.ref g10) = true)
    (a11 : PySem.W.nsIn K mainGlobals "product" = some (some (.ref g11)))
    (l11 : K.lookup g11 = some ⟨oc11, od11, .func (PySem.W.fnOf "product" "product" (defArgs s_product) (defBody s_product) (defScope s_product) .none kV11 dc11 pm11 an11 cd11 ct11), sl11⟩)
    (c11 : PySem.W.codeIn K cd11 "product" = true)
    (k11 : PySem.W.keepIn K (.ref g11) = true)
    (a12 : PySem.W.nsIn K mainGlobals "units" = some (some (.ref g12)))
    (l12 : K.lookup g12 = some ⟨oc12, od12, .func (PySem.W.fnOf "units" "units" (defArgs s_units) (defBody s_units) (defScope s_units) .none kV12 dc12 pm12 an12 cd12 ct12), sl12⟩)
    (c12 : PySem.W.codeIn K cd12 "units" = true)
    (k12 : PySem.W.keepIn K (.ref g12) = true)
    (a13 : PySem.W.nsIn K mainGlobals "associates" = some (some (.ref g13)))
    (l13 : K.lookup g13 = some ⟨oc13, od13, .func (PySem.W.fnOf "associates" "associates" (defArgs s_associates) (defBody s_associates) (defScope s_associates) .none kV13 dc13 pm13 an13 cd13 ct13), sl13⟩)
    (c13 : PySem.W.codeIn K cd13 "associates" = true)
    (k13 : PySem.W.keepIn K (.ref g13) = true)
    (a14 : PySem.W.nsIn K mainGlobals "letters" = some (some (.ref g14)))
    (l14 : K.lookup g14 = some ⟨oc14, od14, .func (PySem.W.fnOf "letters" "letters" (defArgs s_letters) (defBody s_letters) (defScope s_letters) .none kV14 dc14 pm14 an14 cd14 ct14), sl14⟩)
    (c14 : PySem.W.codeIn K cd14 "letters" = true)
    (k14 : PySem.W.keepIn K (.ref g14) = true)
    (a15 : PySem.W.nsIn K mainGlobals "check_word" = some (some (.ref g15)))
    (l15 : K.lookup g15 = some ⟨oc15, od15, .func (PySem.W.fnOf "check_word" "check_word" (defArgs s_check_word) (defBody s_check_word) (defScope s_check_word) .none kV15 dc15 pm15 an15 cd15 ct15), sl15⟩)
    (c15 : PySem.W.codeIn K cd15 "check_word" = true)
    (k15 : PySem.W.keepIn K (.ref g15) = true)
    (a16 : PySem.W.nsIn K mainGlobals "canonical" = some (some (.ref g16)))
    (l16 : K.lookup g16 = some ⟨oc16, od16, .func (PySem.W.fnOf "canonical" "canonical" (defArgs s_canonical) (defBody s_canonical) (defScope s_canonical) .none kV16 dc16 pm16 an16 cd16 ct16), sl16⟩)
    (c16 : PySem.W.codeIn K cd16 "canonical" = true)
    (k16 : PySem.W.keepIn K (.ref g16) = true)
    (a17 : PySem.W.nsIn K mainGlobals "conjugate" = some (some (.ref g17)))
    (l17 : K.lookup g17 = some ⟨oc17, od17, .func (PySem.W.fnOf "conjugate" "conjugate" (defArgs s_conjugate) (defBody s_conjugate) (defScope s_conjugate) .none kV17 dc17 pm17 an17 cd17 ct17), sl17⟩)
    (c17 : PySem.W.codeIn K cd17 "conjugate" = true)
    (k17 : PySem.W.keepIn K (.ref g17) = true)
    (a18 : PySem.W.nsIn K mainGlobals "partners_of" = some (some (.ref g18)))
    (l18 : K.lookup g18 = some ⟨oc18, od18, .func (PySem.W.fnOf "partners_of" "partners_of" (defArgs s_partners_of) (defBody s_partners_of) (defScope s_partners_of) .none kV18 dc18 pm18 an18 cd18 ct18), sl18⟩)
    (c18 : PySem.W.codeIn K cd18 "partners_of" = true)
    (k18 : PySem.W.keepIn K (.ref g18) = true)
    (a19 : PySem.W.nsIn K mainGlobals "partner" = some (some (.ref g19)))
    (l19 : K.lookup g19 = some ⟨oc19, od19, .func (PySem.W.fnOf "partner" "partner" (defArgs s_partner) (defBody s_partner) (defScope s_partner) .none kV19 dc19 pm19 an19 cd19 ct19), sl19⟩)
    (c19 : PySem.W.codeIn K cd19 "partner" = true)
    (k19 : PySem.W.keepIn K (.ref g19) = true)
    (a20 : PySem.W.nsIn K mainGlobals "_law_greatest" = some (some (.ref g20)))
    (l20 : K.lookup g20 = some ⟨oc20, od20, .func (PySem.W.fnOf "_law_greatest" "_law_greatest" (defArgs s_law_greatest) (defBody s_law_greatest) (defScope s_law_greatest) .none kV20 dc20 pm20 an20 cd20 ct20), sl20⟩)
    (c20 : PySem.W.codeIn K cd20 "_law_greatest" = true)
    (k20 : PySem.W.keepIn K (.ref g20) = true)
    (a21 : PySem.W.nsIn K mainGlobals "_law_turned" = some (some (.ref g21)))
    (l21 : K.lookup g21 = some ⟨oc21, od21, .func (PySem.W.fnOf "_law_turned" "_law_turned" (defArgs s_law_turned) (defBody s_law_turned) (defScope s_law_turned) .none kV21 dc21 pm21 an21 cd21 ct21), sl21⟩)
    (c21 : PySem.W.codeIn K cd21 "_law_turned" = true)
    (k21 : PySem.W.keepIn K (.ref g21) = true)
    (a22 : PySem.W.nsIn K mainGlobals "_law_partner" = some (some (.ref g22)))
    (l22 : K.lookup g22 = some ⟨oc22, od22, .func (PySem.W.fnOf "_law_partner" "_law_partner" (defArgs s_law_partner) (defBody s_law_partner) (defScope s_law_partner) .none kV22 dc22 pm22 an22 cd22 ct22), sl22⟩)
    (c22 : PySem.W.codeIn K cd22 "_law_partner" = true)
    (k22 : PySem.W.keepIn K (.ref g22) = true)
    (a23 : PySem.W.nsIn K mainGlobals "law" = some (some (.ref g23)))
    (l23 : K.lookup g23 = some ⟨oc23, od23, .func (PySem.W.fnOf "law" "law" (defArgs s_law) (defBody s_law) (defScope s_law) .none kV23 dc23 pm23 an23 cd23 ct23), sl23⟩)
    (c23 : PySem.W.codeIn K cd23 "law" = true)
    (k23 : PySem.W.keepIn K (.ref g23) = true)
    (z0 : PySem.W.nsIn K mainGlobals "range" = some none)
    (z1 : PySem.W.nsIn K mainGlobals "abs" = some none)
    (z2 : PySem.W.nsIn K mainGlobals "int" = some none)
    (z3 : PySem.W.nsIn K mainGlobals "len" = some none)
    (z4 : PySem.W.nsIn K mainGlobals "max" = some none)
    (z5 : PySem.W.nsIn K mainGlobals "tuple" = some none)
    (z6 : PySem.W.nsIn K mainGlobals "sorted" = some none)
    (z7 : PySem.W.nsIn K mainGlobals "any" = some none)
    (z8 : PySem.W.nsIn K mainGlobals "isinstance" = some none)
    (z9 : PySem.W.nsIn K mainGlobals "bool" = some none)
    (z10 : PySem.W.nsIn K mainGlobals "repr" = some none)
    (z11 : PySem.W.nsIn K mainGlobals "list" = some none)
    (m0 : PySem.W.nsIn K mainGlobals "isqrt" = some (some (.builtin "math.isqrt")))
    (v0 : PySem.W.nsIn K mainGlobals "MOST_PRIME" = some (some (.int 199 tk0)))
    (v1 : PySem.W.nsIn K mainGlobals "PARTS" = some (some (.int 4 tk1)))
    (v2 : PySem.W.nsIn K mainGlobals "ZERO" = some (some (.ref gt2)))
    (u2 : K.lookup gt2 = some ⟨.type "tuple", dt2, .seq #[.int 0 tk2_0, .int 0 tk2_1, .int 0 tk2_2, .int 0 tk2_3] nt2, st2⟩)
    : ∃ fd : FuncData, (∀ (s : Shared) (v : Value), BindsTo s fd ⟨[v], []⟩ [("_law_script", v)]) ∧ ∀ base : Heap, K.In base → base.Ns mainGlobals mg → LawOk l.prog w K mg base fa fd "_law_script" (spG (xiOf K sg0.xs xfl) K pg 7 f_law) := by
  have F0 := L2.fun_mk (st := s_law_row) l0 c0 k0
  have F1 := L2.fun_mk (st := s_law_numbers) l1 c1 k1
  have F2 := L2.fun_mk (st := s_law_units) l2 c2 k2
  have F3 := L2.fun_mk (st := s_law_product) l3 c3 k3
  have F4 := L2.fun_mk (st := s_law_letters) l4 c4 k4
  have F5 := L2.fun_mk (st := s_check_prime) l5 c5 k5
  have F6 := L2.fun_mk (st := s_pairs_of) l6 c6 k6
  have F7 := L2.fun_mk (st := s_numbers_of) l7 c7 k7
  have F8 := L2.fun_mk (st := s_is_number) l8 c8 k8
  have F9 := L2.fun_mk (st := s_check_number) l9 c9 k9
  have F10 := L2.fun_mk (st := s_check_not_zero) l10 c10 k10
  have F11 := L2.fun_mk (st := s_product) l11 c11 k11
  have F12 := L2.fun_mk (st := s_units) l12 c12 k12
  have F13 := L2.fun_mk (st := s_associates) l13 c13 k13
  have F14 := L2.fun_mk (st := s_letters) l14 c14 k14
  have F15 := L2.fun_mk (st := s_check_word) l15 c15 k15
  have F16 := L2.fun_mk (st := s_canonical) l16 c16 k16
  have F17 := L2.fun_mk (st := s_conjugate) l17 c17 k17
  have F18 := L2.fun_mk (st := s_partners_of) l18 c18 k18
  have F19 := L2.fun_mk (st := s_partner) l19 c19 k19
  have F20 := L2.fun_mk (st := s_law_greatest) l20 c20 k20
  have F21 := L2.fun_mk (st := s_law_turned) l21 c21 k21
  have F22 := L2.fun_mk (st := s_law_partner) l22 c22 k22
  have F23 := L2.fun_mk (st := s_law) l23 c23 k23
  have M : ModOk l.prog w K mg (xiOf K sg0.xs xfl) sg0 pg.G fts := by
    refine ⟨?_, ?_, ?_, ?_, ?_, ?_, ?_, ?_⟩
    · exact all_cons (a := t_law_row) ⟨_, _, F0, PySem.W.mg_of X G a0, F0.binds (ps := t_law_row.ps) fun _ _ _ _ _ _ us hl => match us, hl with | [_, _], _ => rfl⟩ <| all_cons (a := t_law_numbers) ⟨_, _, F1, PySem.W.mg_of X G a1, F1.binds (ps := t_law_numbers.ps) fun _ _ _ _ _ _ us hl => match us, hl with | [_, _], _ => rfl⟩ <| all_cons (a := t_law_units) ⟨_, _, F2, PySem.W.mg_of X G a2, F2.binds (ps := t_law_units.ps) fun _ _ _ _ _ _ us hl => match us, hl with | [], _ => rfl⟩ <| all_cons (a := t_law_product) ⟨_, _, F3, PySem.W.mg_of X G a3, F3.binds (ps := t_law_product.ps) fun _ _ _ _ _ _ us hl => match us, hl with | [_, _], _ => rfl⟩ <| all_cons (a := t_law_letters) ⟨_, _, F4, PySem.W.mg_of X G a4, F4.binds (ps := t_law_letters.ps) fun _ _ _ _ _ _ us hl => match us, hl with | [_], _ => rfl⟩ <| all_cons (a := t_check_prime) ⟨_, _, F5, PySem.W.mg_of X G a5, F5.binds (ps := t_check_prime.ps) fun _ _ _ _ _ _ us hl => match us, hl with | [_], _ => rfl⟩ <| all_cons (a := t_pairs_of) ⟨_, _, F6, PySem.W.mg_of X G a6, F6.binds (ps := t_pairs_of.ps) fun _ _ _ _ _ _ us hl => match us, hl with | [_, _], _ => rfl⟩ <| all_cons (a := t_numbers_of) ⟨_, _, F7, PySem.W.mg_of X G a7, F7.binds (ps := t_numbers_of.ps) fun _ _ _ _ _ _ us hl => match us, hl with | [_], _ => rfl⟩ <| all_cons (a := t_is_number) ⟨_, _, F8, PySem.W.mg_of X G a8, F8.binds (ps := t_is_number.ps) fun _ _ _ _ _ _ us hl => match us, hl with | [_], _ => rfl⟩ <| all_cons (a := t_check_number) ⟨_, _, F9, PySem.W.mg_of X G a9, F9.binds (ps := t_check_number.ps) fun _ _ _ _ _ _ us hl => match us, hl with | [_], _ => rfl⟩ <| all_cons (a := t_check_not_zero) ⟨_, _, F10, PySem.W.mg_of X G a10, F10.binds (ps := t_check_not_zero.ps) fun _ _ _ _ _ _ us hl => match us, hl with | [_], _ => rfl⟩ <| all_cons (a := t_product) ⟨_, _, F11, PySem.W.mg_of X G a11, F11.binds (ps := t_product.ps) fun _ _ _ _ _ _ us hl => match us, hl with | [_, _], _ => rfl⟩ <| all_cons (a := t_units) ⟨_, _, F12, PySem.W.mg_of X G a12, F12.binds (ps := t_units.ps) fun _ _ _ _ _ _ us hl => match us, hl with | [], _ => rfl⟩ <| all_cons (a := t_associates) ⟨_, _, F13, PySem.W.mg_of X G a13, F13.binds (ps := t_associates.ps) fun _ _ _ _ _ _ us hl => match us, hl with | [_], _ => rfl⟩ <| all_cons (a := t_letters) ⟨_, _, F14, PySem.W.mg_of X G a14, F14.binds (ps := t_letters.ps) fun _ _ _ _ _ _ us hl => match us, hl with | [_], _ => rfl⟩ <| all_cons (a := t_check_word) ⟨_, _, F15, PySem.W.mg_of X G a15, F15.binds (ps := t_check_word.ps) fun _ _ _ _ _ _ us hl => match us, hl with | [_, _], _ => rfl⟩ <| all_cons (a := t_canonical) ⟨_, _, F16, PySem.W.mg_of X G a16, F16.binds (ps := t_canonical.ps) fun _ _ _ _ _ _ us hl => match us, hl with | [_], _ => rfl⟩ <| all_cons (a := t_conjugate) ⟨_, _, F17, PySem.W.mg_of X G a17, F17.binds (ps := t_conjugate.ps) fun _ _ _ _ _ _ us hl => match us, hl with | [_], _ => rfl⟩ <| all_cons (a := t_partners_of) ⟨_, _, F18, PySem.W.mg_of X G a18, F18.binds (ps := t_partners_of.ps) fun _ _ _ _ _ _ us hl => match us, hl with | [_], _ => rfl⟩ <| all_cons (a := t_partner) ⟨_, _, F19, PySem.W.mg_of X G a19, F19.binds (ps := t_partner.ps) fun _ _ _ _ _ _ us hl => match us, hl with | [_, _], _ => rfl⟩ <| all_cons (a := t_law_greatest) ⟨_, _, F20, PySem.W.mg_of X G a20, F20.binds (ps := t_law_greatest.ps) fun _ _ _ _ _ _ us hl => match us, hl with | [_], _ => rfl⟩ <| all_cons (a := t_law_turned) ⟨_, _, F21, PySem.W.mg_of X G a21, F21.binds (ps := t_law_turned.ps) fun _ _ _ _ _ _ us hl => match us, hl with | [_], _ => rfl⟩ <| all_cons (a := t_law_partner) ⟨_, _, F22, PySem.W.mg_of X G a22, F22.binds (ps := t_law_partner.ps) fun _ _ _ _ _ _ us hl => match us, hl with | [_, _], _ => rfl⟩ <| all_nil
    · exact all_cons (PySem.W.mg_none_of X G z0) <| all_cons (PySem.W.mg_none_of X G z1) <| all_cons (PySem.W.mg_none_of X G z2) <| all_cons (PySem.W.mg_none_of X G z3) <| all_cons (PySem.W.mg_none_of X G z4) <| all_cons (PySem.W.mg_none_of X G z5) <| all_cons (PySem.W.mg_none_of X G z6) <| all_cons (PySem.W.mg_none_of X G z7) <| all_cons (PySem.W.mg_none_of X G z8) <| all_cons (PySem.W.mg_none_of X G z9) <| all_cons (PySem.W.mg_none_of X G z10) <| all_cons (PySem.W.mg_none_of X G z11) <| all_nil
    · intro b hb hm
      cases b <;> first | (cases hb; done) | skip
      all_goals first | exact PySem.W.mg_of X G (by assumption) | exact absurd hm (by decide +kernel)
    · exact glob_cons (glob_int (PySem.W.mg_of X G v0)) <| glob_cons (glob_int (PySem.W.mg_of X G v1)) <| glob_cons (glob_ktup (is := [0, 0, 0, 0]) (PySem.W.mg_of X G v2) u2 (show 4 ≤ PySem.sizeLine from by decide) (.cons ⟨_, rfl⟩ (.cons ⟨_, rfl⟩ (.cons ⟨_, rfl⟩ (.cons ⟨_, rfl⟩ (.nil)))))) <| glob_nil
    · exact fun k x h => by cases h
    · exact fun x ks h => by cases h
    · exact fun k h => by cases h
    · exact fun f kf h => by cases h
  have eg : g23 = fa := by
    have := (PySem.W.mg_of X G a23).symm.trans hfa
    cases this
    rfl
  exact law_endG M pg_ok (t := t_law) (fn := f_law) lk_law rfl rfl (fun F => (e_law F).symm) rfl (eg ▸ F23) ⟨rfl, by decide, by decide⟩ fun _ _ _ _ _ _ s v => .of_eq rfl
noncomputable def spL (K : PySem.W.Frag) : Sp := spG (xiOf K sg0.xs xfl) K pg 7 f_law
theorem spL_ok {K : PySem.W.Frag} {H : Hp} {a : Addr} {ns : List Int} (hl : ns.length ≤ 63) (hS : SqL K H a (ns.map V.int)) : spL K [.ref a] H (fun v _ => v = .bl true) fun _ _ _ => False := by
  refine spG_ok ?_ hS
  have h := plain_law ns hl
  rw [call_e pg 7 _ _ (fn := f_law) rfl] at h
  exact h
end
end MP
open PySem PySem.W PyProof.Rows
set_option maxHeartbeats 0 in
theorem PySem.Challenge.cw_turnprimes_k69_letters_holds : PySem.Challenge.rw_turnprimes_k69_letters.Holds := by
  w_on; o_law; k_head; (case hw => w_witness2)
  k_fill
  refine MP.walk_ofG (l := PySem.Challenge.rw_turnprimes_k69_letters) (n := 63) (x := "_law_script") (sp := fun w => MP.spL _) rfl (by decide) rfl (fun w h Y => PySem.W.kIn_of Y) ?F (fun _ _ a ns hl hS => MP.spL_ok hl hS)
  case F =>
    intro w mg fa h KX G hmg
    refine' MP.all_mk KX G hmg ?a0 ?l0 ?c0 ?k0 ?a1 ?l1 ?c1 ?k1 ?a2 ?l2 ?c2 ?k2 ?a3 ?l3 ?c3 ?k3 ?a4 ?l4 ?c4 ?k4 ?a5 ?l5 ?c5 ?k5 ?a6 ?l6 ?c6 ?k6 ?a7 ?l7 ?c7 ?k7 ?a8 ?l8 ?c8 ?k8 ?a9 ?l9 ?c9 ?k9 ?a10 ?l10 ?c10 ?k10 ?a11 ?l11 ?c11 ?k11 ?a12 ?l12 ?c12 ?k12 ?a13 ?l13 ?c13 ?k13 ?a14 ?l14 ?c14 ?k14 ?a15 ?l15 ?c15 ?k15 ?a16 ?l16 ?c16 ?k16 ?a17 ?l17 ?c17 ?k17 ?a18 ?l18 ?c18 ?k18 ?a19 ?l19 ?c19 ?k19 ?a20 ?l20 ?c20 ?k20 ?a21 ?l21 ?c21 ?k21 ?a22 ?l22 ?c22 ?k22 ?a23 ?l23 ?c23 ?k23 ?z0 ?z1 ?z2 ?z3 ?z4 ?z5 ?z6 ?z7 ?z8 ?z9 ?z10 ?z11 ?m0 ?v0 ?v1 ?v2 ?u2
    (case a0 => k_is); (case l0 => k_is); (case c0 => k_is); (case k0 => k_is); (case a1 => k_is); (case l1 => k_is); (case c1 => k_is); (case k1 => k_is); (case a2 => k_is); (case l2 => k_is); (case c2 => k_is); (case k2 => k_is); (case a3 => k_is); (case l3 => k_is); (case c3 => k_is); (case k3 => k_is); (case a4 => k_is); (case l4 => k_is); (case c4 => k_is); (case k4 => k_is); (case a5 => k_is); (case l5 => k_is); (case c5 => k_is); (case k5 => k_is); (case a6 => k_is); (case l6 => k_is); (case c6 => k_is); (case k6 => k_is); (case a7 => k_is); (case l7 => k_is); (case c7 => k_is); (case k7 => k_is); (case a8 => k_is); (case l8 => k_is); (case c8 => k_is); (case k8 => k_is); (case a9 => k_is); (case l9 => k_is); (case c9 => k_is); (case k9 => k_is); (case a10 => k_is); (case l10 => k_is); (case c10 => k_is); (case k10 => k_is); (case a11 => k_is); (case l11 => k_is); (case c11 => k_is); (case k11 => k_is); (case a12 => k_is); (case l12 => k_is); (case c12 => k_is); (case k12 => k_is); (case a13 => k_is); (case l13 => k_is); (case c13 => k_is); (case k13 => k_is); (case a14 => k_is); (case l14 => k_is); (case c14 => k_is); (case k14 => k_is); (case a15 => k_is); (case l15 => k_is); (case c15 => k_is); (case k15 => k_is); (case a16 => k_is); (case l16 => k_is); (case c16 => k_is); (case k16 => k_is); (case a17 => k_is); (case l17 => k_is); (case c17 => k_is); (case k17 => k_is); (case a18 => k_is); (case l18 => k_is); (case c18 => k_is); (case k18 => k_is); (case a19 => k_is); (case l19 => k_is); (case c19 => k_is); (case k19 => k_is); (case a20 => k_is); (case l20 => k_is); (case c20 => k_is); (case k20 => k_is); (case a21 => k_is); (case l21 => k_is); (case c21 => k_is); (case k21 => k_is); (case a22 => k_is); (case l22 => k_is); (case c22 => k_is); (case k22 => k_is); (case a23 => k_is); (case l23 => k_is); (case c23 => k_is); (case k23 => k_is); (case z0 => k_is); (case z1 => k_is); (case z2 => k_is); (case z3 => k_is); (case z4 => k_is); (case z5 => k_is); (case z6 => k_is); (case z7 => k_is); (case z8 => k_is); (case z9 => k_is); (case z10 => k_is); (case z11 => k_is); (case m0 => k_is); (case v0 => k_is); (case v1 => k_is); (case v2 => k_is); (case u2 => k_is)
