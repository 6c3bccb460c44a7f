import PyProof.Rows.All
import HandS.ForMost
import HandS.TupAny
import HandS.Style
import HandS.Lambda
import HandS.ForExc
import HandS.Deep
import HandS.Wide
import HandS.IsInst
import HandS.ExcIs
import HandS.TupMul
import HandS.Flow
import HandS.Rev
import HandS.Zip
import KE.GoesEnum
import HandS.Iter
import KE.GoesZip
import KE.GoesMore
import HandS.TryOnly
import HandS.More
import HandS.Exc
import HandS.EndBits
import HandS.Words
import HandS.EndTab
import KE.KNestM
import PySem.Challenge.RW_roundcuts_k03_fields_known
set_option Elab.async false
set_option linter.all false
/-! A small language of values: what the program's defs compute, without a heap. -/
namespace Rc
open PySem
abbrev D := PyData
abbrev Env := List (Option (Bool × D))

inductive Res (α : Type) where
  | ok (a : α)
  | exc (x : Str)
  | bad
def Res.bind {α β : Type} : Res α → (α → Res β) → Res β
  | .ok a, f => f a
  | .exc x, _ => .exc x
  | .bad, _ => .bad
@[simp] theorem bind_ok {α β : Type} (a : α) (f : α → Res β) : (Res.ok a).bind f = f a := rfl
@[simp] theorem bind_exc {α β : Type} (x : Str) (f : α → Res β) : (Res.exc x : Res α).bind f = .exc x := rfl
@[simp] theorem bind_bad {α β : Type} (f : α → Res β) : (Res.bad : Res α).bind f = .bad := rfl
def Res.ofO {α : Type} : Option α → Res α
  | some a => .ok a
  | none => .bad
@[simp] theorem ofO_some {α : Type} (a : α) : Res.ofO (some a) = .ok a := rfl
@[simp] theorem ofO_none {α : Type} : Res.ofO (none : Option α) = .bad := rfl

def geti : Env → Nat → Option (Bool × D)
  | [], _ => none
  | x :: _, 0 => x
  | _ :: m, i + 1 => geti m i
theorem geti_eq : ∀ (m : Env) (i : Nat), geti m i = (m[i]?).join
  | [], _ => by simp [geti]
  | x :: m, 0 => by simp [geti]
  | x :: m, i + 1 => by rw [geti, geti_eq m i]; simp

/-- what a def makes of its arguments: a new object or not, its value, the arguments behind it -/
abbrev MF := List (Bool × D) → Res (Bool × D × List (Bool × D))

inductive Bop | add | sub | mul | fdiv | mod | pow
inductive Cop | eq | ne | lt | le | gt | ge | isin | notin | is | isnot
inductive Blt | len | abs | all | any | max2 | min2 | max1 | min1 | tuple | list | int

mutual
inductive E where
  | var (i : Nat)
  | con (d : PyData)
  | bin (o : Bop) (a b : E)
  | neg (a : E)
  | nt (a : E)
  | and (a b : E)
  | or (a b : E)
  | cmp (o : Cop) (a b : E)
  | chn (o p : Cop) (a b c : E)
  | ite (c a b : E)
  | tup (es : Es)
  | lst (es : Es)
  | dct
  | idx (a b : E)
  | slc (a lo hi : E)
  | rvs (a : E)
  | call (f : MF) (ms : List Bool) (es : Es)
  | blt (b : Blt) (es : Es)
  | isi (a : E) (ts : List String)
  | lc (e : E) (g : List Nat) (it : It) (c : E) (own : List Nat)
  /-- isinstance of a value that is d -/
  | isx (i : Nat) (d : PyData) (b : Bool)
  /-- e in a frame of its own, of the names but others: the number of the refusal's kind as a list, or None -/
  | rfd (e : E) (others : List Nat) (ks : List (Str × Nat))
  /-- e, a truth, in an environment of which nothing is owned -/
  | pk (e : E)
  /-- a tuple that has something in it, or else, behind None, another tuple -/
  | vor (a b : E)
inductive Es where
  | nil
  | cons (e : E) (es : Es)
inductive It where
  | sq (e : E)
  | rg (a : E)
  | rg2 (a b : E)
  | zp (a b : E)
  /-- zip of two lists, the target a name -/
  | zn (a b : E)
  /-- zip of three lists -/
  | zp3 (a b c : E)
  | en (a : E)
  | rv (a : E)
end

/-! ### operations on data -/
def bits (i : Int) : Nat := i.natAbs.log2
def mulOk (i j : Int) : Prop := bits i + bits j < 1000000
instance (i j : Int) : Decidable (mulOk i j) := inferInstanceAs (Decidable (_ < _))
def divOk (j : Int) : Prop := j ≠ 0 ∧ bits j < 9000
instance (j : Int) : Decidable (divOk j) := inferInstanceAs (Decidable (_ ∧ _))
def lenOk (n : Nat) : Prop := n ≤ sizeLine
instance (n : Nat) : Decidable (lenOk n) := inferInstanceAs (Decidable (_ ≤ _))

/-- asked classically: the kernel must not count up to 2 ^ 63 -/
def repOk (n : Nat) (k : Int) : Prop := k < 2 ^ 63 ∧ -(2 ^ 63) ≤ k ∧ lenOk (n * k.toNat)
noncomputable instance (n : Nat) (k : Int) : Decidable (repOk n k) := Classical.propDecidable _
def insOk (n : Nat) (i : Int) : Prop := 0 ≤ i ∧ i < 2 ^ 63 ∧ lenOk (n + 1)
noncomputable instance (n : Nat) (i : Int) : Decidable (insOk n i) := Classical.propDecidable _
def popOk (i : Int) : Prop := -(2 ^ 63) ≤ i ∧ i < 2 ^ 63
noncomputable instance (i : Int) : Decidable (popOk i) := Classical.propDecidable _
noncomputable def bop : Bop → D → D → Option (Bool × D)
  | .add, .int i, .int j => some (false, .int (i + j))
  | .add, .list xs, .list ys => if lenOk (xs.length + ys.length) then some (true, .list (xs ++ ys)) else none
  | .add, .tuple xs, .tuple ys => if lenOk (xs.length + ys.length) then some (false, .tuple (xs ++ ys)) else none
  | .sub, .int i, .int j => some (false, .int (i - j))
  | .mul, .int i, .int j => if mulOk i j then some (false, .int (i * j)) else none
  | .mul, .list xs, .int k => if repOk xs.length k then some (true, .list (List.replicate k.toNat xs).flatten) else none
  | .mul, .tuple xs, .int k => if xs ≠ [] ∧ 2 ≤ k ∧ k ≤ 1000 ∧ xs.length ≤ 1000 then some (false, .tuple (List.replicate k.toNat xs).flatten) else none
  | .fdiv, .int i, .int j => if divOk j then some (false, .int (i.fdiv j)) else none
  | .mod, .int i, .int j => if j ≠ 0 then some (false, .int (i.fmod j)) else none
  | .pow, .int i, .int j => if 0 ≤ j ∧ j ≤ 1000000 ∧ i.natAbs < 2 ^ 64 then some (false, .int (i ^ j.toNat)) else none
  | _, _, _ => none

def cop : Cop → D → D → Option Bool
  | .eq, x, y => if SeqAt.shaped x = true ∧ SeqAt.shaped y = true then some (PyData.eqv x y) else none
  | .ne, x, y => if SeqAt.shaped x = true ∧ SeqAt.shaped y = true then some (!PyData.eqv x y) else none
  | .lt, .int i, .int j => some (decide (i < j))
  | .le, .int i, .int j => some (decide (i ≤ j))
  | .gt, .int i, .int j => some (decide (j < i))
  | .ge, .int i, .int j => some (decide (j ≤ i))
  | .isin, x, .list ys => if SeqAt.shaped x = true ∧ SeqAt.shaped (.list ys) = true then some (ys.any fun z => PyData.eqv z x) else none
  | .notin, x, .list ys => if SeqAt.shaped x = true ∧ SeqAt.shaped (.list ys) = true then some (!ys.any fun z => PyData.eqv z x) else none
  | .is, x, .none => some (match x with | .none => true | _ => false)
  | .isnot, x, .none => some (match x with | .none => false | _ => true)
  | .is, .bool a, .bool b => some (a == b)
  | .isnot, .bool a, .bool b => some (!(a == b))
  | _, _, _ => none

def tyOf : D → Option String
  | .none => some "NoneType" | .bool _ => some "bool" | .int _ => some "int" | .str _ => some "str" | .list _ => some "list" | .tuple _ => some "tuple"
  | .dict [] => some "dict"
  | .dict ((.tuple _, _) :: _) => some "dict"
  | _ => none
def isiB (a t : String) : Bool := a == t || (a == "bool" && t == "int")
def isiD (d : D) (ts : List String) : Option Bool := (tyOf d).map fun a => ts.any (isiB a)

def allB : List D → Option Bool
  | [] => some true
  | .bool b :: xs => (allB xs).map (b && ·)
  | _ :: _ => none
def anyB : List D → Option Bool
  | [] => some false
  | .bool b :: xs => (anyB xs).map (b || ·)
  | _ :: _ => none
def intsOf : List D → Option (List Int)
  | [] => some []
  | .int i :: xs => (intsOf xs).map (i :: ·)
  | _ :: _ => none
def maxL : List Int → Option Int
  | [] => none
  | x :: xs => some (xs.foldl max x)
def minL : List Int → Option Int
  | [] => none
  | x :: xs => some (xs.foldl min x)

def bltF : Blt → List D → Option (Bool × D)
  | .len, [.list xs] => some (false, .int xs.length)
  | .len, [.tuple xs] => some (false, .int xs.length)
  | .len, [.dict [(.list xs, .none)]] => some (false, .int xs.length)
  | .abs, [.int i] => some (false, .int (if i < 0 then -i else i))
  | .all, [.list xs] => (allB xs).map fun b => (false, .bool b)
  | .any, [.list xs] => (anyB xs).map fun b => (false, .bool b)
  | .max2, [.int i, .int j] => some (false, .int (if j > i then j else i))
  | .min2, [.int i, .int j] => some (false, .int (if j < i then j else i))
  | .max1, [.list xs] => (intsOf xs).bind fun ns => (maxL ns).map fun i => (false, .int i)
  | .min1, [.list xs] => (intsOf xs).bind fun ns => (minL ns).map fun i => (false, .int i)
  | .tuple, [.list xs] => some (false, .tuple xs)
  | .tuple, [.tuple xs] => some (false, .tuple xs)
  | .list, [.list xs] => some (true, .list xs)
  | .list, [.tuple xs] => some (true, .list xs)
  | .int, [.int i] => some (false, .int i)
  | .int, [.bool b] => some (false, .int (if b then 1 else 0))
  | _, _ => none

def atD (xs : List D) (i : Int) : Option D := L2.atI xs i
def idxF : D → D → Option D
  | .list xs, .int i => atD xs i
  | .tuple xs, .int i => atD xs i
  | .dict [(.list xs, .none)], .int i => atD xs i
  | _, _ => none
def cutD (xs : List D) (lo hi : Option Int) : List D := (xs.drop (HT.sIx xs.length 0 lo)).take (HT.sIx xs.length xs.length hi - HT.sIx xs.length 0 lo)
def slcF : D → Option Int → Option Int → Option (Bool × D)
  | .list xs, lo, hi => some (true, .list (cutD xs lo hi))
  | .tuple xs, lo, hi => some (false, .tuple (cutD xs lo hi))
  | _, _, _ => none
def rvsF : D → Option (Bool × D)
  | .list xs => some (true, .list xs.reverse)
  | _ => none

/-! ### names -/
/-- a part of a slice -/
def partI : E → D → Option (Option Int)
  | .con .none, _ => some none
  | _, .int i => some (some i)
  | _, _ => none
def E.vr : E → Option Nat
  | .var i => some i
  | _ => none
/-- the operand's value at the time of the operation -/
def rd : E → D → Env → Option D
  | .var i, _, m => (geti m i).map (·.2)
  | _, d, _ => some d
@[simp] theorem rd_var (i : Nat) (d : D) (m : Env) : rd (.var i) d m = (geti m i).map (·.2) := rfl
def rds : List (E × D) → Env → Option (List D)
  | [], _ => some []
  | (e, d) :: r, m => (rd e d m).bind fun x => (rds r m).map (x :: ·)
/-- a place of the environment that is told of from now on -/
def leak (m : Env) (i : Nat) : Env := match geti m i with
  | some (true, d) => m.set i (some (false, d))
  | _ => m
/-- three lists, item by item -/
def z3 (xs ys us : List D) : List D := List.zipWith (fun p u => .tuple [p.1, p.2, u]) (List.zip xs ys) us
/-- nothing is owned -/
def shAll (m : Env) : Env := m.map fun p => p.map fun q => (false, q.2)
/-- the environment behind the taking of an operand -/
def tkm : E → Env → Env
  | .var i, m => leak m i
  | _, m => m

def wipeE (m : Env) : List Nat → Env
  | [] => m
  | v :: vs => (wipeE m vs).set v none
def shO : Option (Bool × D) → Bool
  | some (true, _) => false
  | _ => true
/-- the places own as in m₀ -/
def backE (m₀ m : Env) : List Nat → Env
  | [] => m
  | v :: vs => (backE m₀ m vs).set v (geti m₀ v)
/-- the sources of a loop stand as they stood -/
def srcOk (m : Env) : List (Nat × List D) → Prop
  | [] => True
  | (i, xs) :: r => (∃ b, geti m i = some (b, .list xs)) ∧ srcOk m r
/-- nothing is raised in it -/
def Res.noX {α : Type} : Res α → Res α
  | .exc _ => .bad
  | r => r
@[simp] theorem noX_ok {α : Type} (a : α) : (Res.ok a).noX = .ok a := rfl
/-- a target: one name, or several -/
def bindT : List Nat → D → Env → Option Env
  | [i], d, m => some (m.set i (some (false, d)))
  | is, .tuple ds, m => if ds.length = is.length then some ((is.zip ds).foldl (fun m p => m.set p.1 (some (false, p.2))) m) else none
  | is, .list ds, m => if ds.length = is.length then some ((is.zip ds).foldl (fun m p => m.set p.1 (some (false, p.2))) m) else none
  | _, _, _ => none

abbrev Arg := Sum Nat D
/-- the arguments at the call -/
def fetch : List Arg → Env → Option (List (Bool × D) × Env)
  | [], m => some ([], m)
  | .inr d :: r, m => (fetch r m).map fun (as, m') => ((false, d) :: as, m')
  | .inl i :: r, m => match geti m i with
    | some (true, d) => (fetch r (m.set i none)).map fun (as, m') => ((true, d) :: as, m')
    | some (false, d) => (fetch r m).map fun (as, m') => ((false, d) :: as, m')
    | none => none
/-- .. and behind it -/
def back : List Arg → List (Bool × D) → List (Bool × D) → Env → Env
  | .inl i :: r, (true, _) :: as, f :: fs, m => (back r as fs m).set i (some f)
  | _ :: r, _ :: as, _ :: fs, m => back r as fs m
  | _, _, _, m => m

section
open Classical
noncomputable def lcL (srcs : List (Nat × List D)) (own : List Nat) (g : List Nat) (cnd : Env → Res (Bool × Env)) (elt : Env → Res (D × Env)) : List D → Env → Res (List D × Env)
  | [], m => if srcOk m srcs then .ok ([], m) else .bad
  | d :: ds, m => if srcOk m srcs then
      (Res.ofO (bindT g d m)).bind fun m1 => (cnd m1).bind fun p => if p.1 = true then (elt p.2).bind fun q => (lcL srcs own g cnd elt ds (wipeE q.2 own)).bind fun r => .ok (q.1 :: r.1, r.2)
        else lcL srcs own g cnd elt ds (wipeE p.2 own)
    else .bad
end

def asB : D → Option Bool
  | .bool b => some b
  | _ => none
def srcsOf : E → D → Env → List (Nat × List D)
  | .var i, .list xs, m => match geti m i with
    | some (true, _) => [(i, xs)]
    | _ => []
  | _, _, _ => []
def seqD : D → Option (List D)
  | .list xs => some xs
  | .tuple xs => some xs
  | _ => none
def isL : D → Bool
  | .list _ => true
  | _ => false
def rngD (lo hi : Int) : List D := (List.range (hi - lo).toNat).map fun (k : Nat) => .int (lo + k)
def smallI (i : Int) : Prop := -(2 ^ 62) ≤ i ∧ i < 2 ^ 62
instance (i : Int) : Decidable (smallI i) := inferInstanceAs (Decidable (_ ∧ _))

section
open Classical
noncomputable def isxF (d' d : D) (b : Bool) (m : Env) : Res ((Bool × D) × Env) := if d' = d then .ok ((false, .bool b), m) else .bad
end
/-- behind a refusal: what was owned is not known, but for others -/
def keepX (others : List Nat) : Nat → Env → Env
  | _, [] => []
  | k, p :: m => (if others.contains k = true then p else match p with | some (true, _) => none | p => p) :: keepX others (k + 1) m
mutual
noncomputable def ev : E → Env → Res ((Bool × D) × Env)
  | .var i, m => match geti m i with | some (_, d) => .ok ((false, d), m) | none => .bad
  | .con d, m => .ok ((false, d), m)
  | .bin o a b, m => (ev a m).bind fun p => (ev b p.2).bind fun q => (Res.ofO ((rd a p.1.2 q.2).bind fun x => (rd b q.1.2 q.2).bind fun y => bop o x y)).bind fun r => .ok (r, q.2)
  | .neg a, m => (ev a m).bind fun p => match p.1.2 with | .int i => .ok ((false, .int (-i)), p.2) | _ => .bad
  | .nt a, m => (ev a m).bind fun p => match p.1.2 with | .bool b => .ok ((false, .bool (!b)), p.2) | _ => .bad
  | .and a b, m => (ev a m).bind fun p => match p.1.2 with | .bool true => ((ev b p.2).bind fun q => match q.1.2 with | .bool c => .ok ((false, .bool c), q.2) | _ => .bad) | .bool false => .ok ((false, .bool false), p.2) | _ => .bad
  | .or a b, m => (ev a m).bind fun p => match p.1.2 with | .bool false => ((ev b p.2).bind fun q => match q.1.2 with | .bool c => .ok ((false, .bool c), q.2) | _ => .bad) | .bool true => .ok ((false, .bool true), p.2) | _ => .bad
  | .cmp o a b, m => (ev a m).bind fun p => (ev b p.2).bind fun q => (Res.ofO ((rd a p.1.2 q.2).bind fun x => (rd b q.1.2 q.2).bind fun y => cop o x y)).bind fun r => .ok ((false, .bool r), q.2)
  | .chn o o' a b c, m => (ev a m).bind fun p => (ev b p.2).bind fun q => (Res.ofO ((rd a p.1.2 q.2).bind fun x => (rd b q.1.2 q.2).bind fun y => cop o x y)).bind fun r =>
      if r = true then (ev c q.2).bind fun t => (Res.ofO ((rd b q.1.2 t.2).bind fun x => (rd c t.1.2 t.2).bind fun y => cop o' x y)).bind fun r' => .ok ((false, .bool r'), t.2) else .ok ((false, .bool false), q.2)
  | .ite c a b, m => (ev c m).bind fun p => match p.1.2 with
      | .bool true => ((ev a p.2).bind fun q => .ok ((false, q.1.2), tkm a q.2))
      | .bool false => ((ev b p.2).bind fun q => .ok ((false, q.1.2), tkm b q.2))
      | _ => .bad
  | .tup es, m => (evs es m).bind fun p => if lenOk p.1.length then .ok ((false, .tuple p.1), p.2) else .bad
  | .lst es, m => (evs es m).bind fun p => if lenOk p.1.length then .ok ((true, .list p.1), p.2) else .bad
  | .dct, m => .ok ((true, .dict []), m)
  | .idx a b, m => (ev a m).bind fun p => (ev b p.2).bind fun q => (Res.ofO ((rd a p.1.2 q.2).bind fun x => (rd b q.1.2 q.2).bind fun y => idxF x y)).bind fun r => .ok ((false, r), q.2)
  | .slc a l h, m => (ev a m).bind fun p => (ev l p.2).bind fun q => (Res.ofO (partI l q.1.2)).bind fun lo => (ev h q.2).bind fun t => (Res.ofO (partI h t.1.2)).bind fun hi =>
      (Res.ofO ((rd a p.1.2 t.2).bind fun x => slcF x lo hi)).bind fun r => .ok (r, t.2)
  | .rvs a, m => (ev a m).bind fun p => (Res.ofO (rvsF p.1.2)).bind fun r => .ok (r, p.2)
  | .call f ms es, m => (evA ms es m).bind fun p => match fetch p.1 p.2 with
      | some (as, m1) => (f as).bind fun r => if r.2.2.length = as.length then .ok ((r.1, r.2.1), back p.1 as r.2.2 m1) else .bad
      | none => .bad
  | .blt b es, m => (evO es m).bind fun p => (Res.ofO ((rds p.1 p.2).bind fun xs => bltF b xs)).bind fun r => .ok (r, p.2)
  | .isi a ts, m => (ev a m).bind fun p => (Res.ofO ((rd a p.1.2 p.2).bind fun x => isiD x ts)).bind fun b => .ok ((false, .bool b), p.2)
  | .lc e g it c own, m => (evI it m).bind fun p =>
      if (own.all fun i => shO (geti p.2.2 i)) = true then
        ((lcL p.2.1 own g (fun m => (ev c m).bind fun q => match q.1.2 with | .bool b => .ok (b, q.2) | _ => .bad) (fun m => (ev e m).bind fun q => .ok (q.1.2, tkm e q.2)) p.1 (wipeE p.2.2 own)).noX).bind fun r =>
          if lenOk r.1.length then .ok ((true, .list r.1), backE p.2.2 r.2 own) else .bad
      else .bad
  | .isx i d b, m => match geti m i with
      | some (false, d') => isxF d' d b m
      | _ => .bad
  | .rfd e os ks, m => match ev e (wipeE m os) with
      | .ok p => .ok ((false, .none), backE m p.2 os)
      | .exc x => (Res.ofO (ks.lookup x)).bind fun i => .ok ((true, .list [.int i]), keepX os 0 m)
      | .bad => .bad
  | .vor a b, m => (ev a m).bind fun p => match p.1.2 with
      | .tuple (x :: xs) => .ok ((false, .tuple (x :: xs)), tkm a p.2)
      | .none => ((ev b (tkm a p.2)).noX).bind fun q => match q.1.2 with
        | .tuple ys => .ok ((false, .tuple ys), tkm b q.2)
        | _ => .bad
      | _ => .bad
  | .pk e, m => match ev e (shAll m) with
      | .ok ((_, .bool b), _) => .ok ((false, .bool b), m)
      | _ => .bad
/-- displayed items -/
noncomputable def evs : Es → Env → Res (List D × Env)
  | .nil, m => .ok ([], m)
  | .cons e es, m => (ev e m).bind fun p => (evs es (tkm e p.2)).bind fun q => .ok (p.1.2 :: q.1, q.2)
/-- operands -/
noncomputable def evO : Es → Env → Res (List (E × D) × Env)
  | .nil, m => .ok ([], m)
  | .cons e es, m => (ev e m).bind fun p => (evO es p.2).bind fun q => .ok ((e, p.1.2) :: q.1, q.2)
/-- arguments -/
noncomputable def evA : List Bool → Es → Env → Res (List Arg × Env)
  | _, .nil, m => .ok ([], m)
  | ms, .cons e es, m => (ev e m).bind fun p => match e, ms with
      | .var i, true :: ms' => (evA ms' es p.2).bind fun q => .ok (.inl i :: q.1, q.2)
      | _, _ => (evA ms.tail es (tkm e p.2)).bind fun q => .ok (.inr p.1.2 :: q.1, q.2)
/-- what is walked: the items, the sources that must stand -/
noncomputable def evI : It → Env → Res (List D × List (Nat × List D) × Env)
  | .sq e, m => (ev e m).bind fun p => (Res.ofO (seqD p.1.2)).bind fun xs => .ok (xs, srcsOf e p.1.2 p.2, p.2)
  | .rg a, m => (ev a m).bind fun p => match p.1.2 with
      | .int j => @ite _ (smallI j) (Classical.propDecidable _) (.ok (rngD 0 j, [], p.2)) .bad
      | _ => .bad
  | .rg2 a b, m => (ev a m).bind fun p => (ev b p.2).bind fun q => match p.1.2, q.1.2 with
      | .int i, .int j => @ite _ (smallI i ∧ smallI j) (Classical.propDecidable _) (.ok (rngD i j, [], q.2)) .bad
      | _, _ => .bad
  | .zp a b, m => (ev a m).bind fun p => (ev b p.2).bind fun q =>
(Res.ofO (rd a p.1.2 q.2)).bind fun x => (Res.ofO (rd b q.1.2 q.2)).bind fun y =>
      if isL x = isL y then (Res.ofO (seqD x)).bind fun xs => (Res.ofO (seqD y)).bind fun ys => .ok (List.zipWith (fun u v => .tuple [u, v]) xs ys, srcsOf a x q.2 ++ srcsOf b y q.2, q.2) else .bad
  | .zn a b, m => (ev a m).bind fun p => (ev b p.2).bind fun q =>
      (Res.ofO (rd a p.1.2 q.2)).bind fun x => (Res.ofO (rd b q.1.2 q.2)).bind fun y =>
      match x, y with
      | .list xs, .list ys => .ok (List.zipWith (fun u v => .tuple [u, v]) xs ys, srcsOf a x q.2 ++ srcsOf b y q.2, q.2)
      | _, _ => .bad
  | .zp3 a b c, m => (ev a m).bind fun p => (ev b p.2).bind fun q => (ev c q.2).bind fun r =>
      (Res.ofO (rd a p.1.2 r.2)).bind fun x => (Res.ofO (rd b q.1.2 r.2)).bind fun y => (Res.ofO (rd c r.1.2 r.2)).bind fun u =>
      match x, y, u with
      | .list xs, .list ys, .list us => .ok (z3 xs ys us, srcsOf a x r.2 ++ (srcsOf b y r.2 ++ srcsOf c u r.2), r.2)
      | _, _, _ => .bad
  | .en a, m => (ev a m).bind fun p => (Res.ofO (seqD p.1.2)).bind fun xs => .ok ((List.range xs.length).zipWith (fun (k : Nat) v => .tuple [.int k, v]) xs, srcsOf a p.1.2 p.2, p.2)
  | .rv a, m => (ev a m).bind fun p => (Res.ofO (seqD p.1.2)).bind fun xs => .ok (xs.reverse, srcsOf a p.1.2 p.2, p.2)
end

/-! ### statements -/
inductive Mth | append | insert | pop | popAt | extend | clear
mutual
inductive S where
  | asg (i : Nat) (e : E)
  | unp (g : List Nat) (e : E)
  | par (g : List Nat) (es : Es)
  | sti (i : Nat) (x e : E)
  | mth (i : Nat) (k : Mth) (es : Es)
  | exp (e : E)
  | ret (e : E)
  | retv (i : Nat)
  | retn
  | sif (c : E) (a b : Ss)
  | sfor (g : List Nat) (it : It) (b : Ss)
  | whl (c : E) (b : Ss)
  | rais (x : Str)
  | brk
  | cnt
  | pass
  | blk (pre : List Nat) (b : Ss) (post : List Nat)
inductive Ss where
  | nil
  | cons (s : S) (ss : Ss)
end
/-- how a statement ends -/
inductive Fw where
  | nx (m : Env)
  | rt (fr : Bool) (d : D) (m : Env)
  | bk (m : Env)
  | ct (m : Env)

/-- names that are not asked for any more -/
def Fw.wipe (vs : List Nat) : Fw → Fw
  | .nx m => .nx (wipeE m vs)
  | .rt fr d m => .rt fr d (wipeE m vs)
  | .bk m => .bk (wipeE m vs)
  | .ct m => .ct (wipeE m vs)

/-- a method that changes a list (the items handed in) -/
noncomputable def mthF : Mth → D → List D → Option D
  | .append, .list xs, [y] => if lenOk (xs.length + 1) then some (.list (xs ++ [y])) else none
  | .insert, .list xs, [.int i, y] => if insOk xs.length i then some (.list (xs.take i.toNat ++ y :: xs.drop i.toNat)) else none
  | .pop, .list xs, [] => if xs ≠ [] then some (.list xs.dropLast) else none
  | .popAt, .list xs, [.int i] => if popOk i then (L2.ixN xs.length i).map fun k => .list (xs.eraseIdx k) else none
  | .extend, .list xs, [.list ys] => if lenOk (xs.length + ys.length) then some (.list (xs ++ ys)) else none
  | .clear, .list _, [] => some (.list [])
  | _, _, _ => none
/-- keys of dicts: tuples of ints -/
def keyOf : D → Option (List Int)
  | .tuple xs => intsOf xs
  | _ => none
def putD : List (D × D) → List Int → D → List (D × D)
  | [], k, v => [(.tuple (k.map .int), v)]
  | (k', v') :: r, k, v => if keyOf k' = some k then (k', v) :: r else (k', v') :: putD r k v
def hasD (kvs : List (D × D)) (k : List Int) : Bool := kvs.any fun p => decide (keyOf p.1 = some k)
/-- x[i] = v -/
def stiF : D → D → D → Option D
  | .list xs, .int i, v => (L2.ixN xs.length i).map fun k => .list (xs.set k v)
  | _, _, _ => none

section
open Classical
noncomputable def forL (srcs : List (Nat × List D)) (g : List Nat) (body : Env → Res Fw) : List D → Env → Res Fw
  | [], m => if srcOk m srcs then .ok (.nx m) else .bad
  | d :: ds, m => if srcOk m srcs then
      (Res.ofO (bindT g d m)).bind fun m1 => (body m1).bind fun f => match f with
        | .nx m2 => forL srcs g body ds m2
        | .ct m2 => forL srcs g body ds m2
        | .bk m2 => .ok (.nx m2)
        | .rt fr d m2 => .ok (.rt fr d m2)
    else .bad
end
/-- a turn of a while -/
inductive Wt where
  | go (m : Env)
  | stop (r : Res Fw)
def wturn (c : Env → Res (Bool × Env)) (b : Env → Res Fw) (m : Env) : Wt :=
  match c m with
  | .ok (true, m1) => match b m1 with
    | .ok (.nx m2) => .go m2
    | .ok (.ct m2) => .go m2
    | .ok (.bk m2) => .stop (.ok (.nx m2))
    | .ok (.rt fr d m2) => .stop (.ok (.rt fr d m2))
    | .exc x => .stop (.exc x)
    | .bad => .stop .bad
  | .ok (false, m1) => .stop (.ok (.nx m1))
  | .exc x => .stop (.exc x)
  | .bad => .stop .bad
def whN (c : Env → Res (Bool × Env)) (b : Env → Res Fw) : Nat → Env → Option (Res Fw)
  | 0, _ => none
  | n + 1, m => match wturn c b m with
    | .go m2 => whN c b n m2
    | .stop r => some r
section
open Classical
noncomputable def wh (c : Env → Res (Bool × Env)) (b : Env → Res Fw) (m : Env) : Res Fw :=
  if h : ∃ p : Nat × Res Fw, whN c b p.1 m = some p.2 then (choose h).2 else .bad
end
theorem whN_mono {c b} : ∀ {n k : Nat} {m : Env} {r : Res Fw}, whN c b n m = some r → n ≤ k → whN c b k m = some r
  | 0, _, _, _, h, _ => by simp [whN] at h
  | n + 1, 0, _, _, _, h => by omega
  | n + 1, k + 1, m, r, h, hk => by
    unfold whN at h ⊢
    split at h
    · rename_i m2 e
      exact whN_mono h (by omega)
    · exact h
theorem wh_of {c b} {n : Nat} {m : Env} {r : Res Fw} (h : whN c b n m = some r) : wh c b m = r := by
  have ex : ∃ p : Nat × Res Fw, whN c b p.1 m = some p.2 := ⟨(n, r), h⟩
  unfold wh
  rw [dif_pos ex]
  have q := Classical.choose_spec ex
  have a := whN_mono q (Nat.le_max_left (Classical.choose ex).1 n)
  have b' := whN_mono h (Nat.le_max_right (Classical.choose ex).1 n)
  rw [a] at b'
  exact Option.some.inj b'
theorem wh_stop {c b} {m : Env} {r : Res Fw} (h : wturn c b m = .stop r) : wh c b m = r := wh_of (n := 1) (by unfold whN; rw [h])
theorem wh_go {c b} {m m2 : Env} (h : wturn c b m = .go m2) : wh c b m = wh c b m2 := by
  by_cases ex : ∃ p : Nat × Res Fw, whN c b p.1 m2 = some p.2
  · obtain ⟨⟨n, r⟩, q⟩ := ex
    rw [wh_of q]
    refine wh_of (n := n + 1) ?_
    unfold whN
    rw [h]
    exact q
  · have ex2 : ¬ ∃ p : Nat × Res Fw, whN c b p.1 m = some p.2 := fun ⟨⟨n, r⟩, q⟩ => by
      cases n with
      | zero => simp [whN] at q
      | succ n =>
        unfold whN at q
        rw [h] at q
        exact ex ⟨(n, r), q⟩
    unfold wh
    rw [dif_neg ex, dif_neg ex2]

def takeV : E → (Bool × D) → Bool × D
  | .var _, p => (false, p.2)
  | _, p => p
noncomputable def evC (c : E) (m : Env) : Res (Bool × Env) := (ev c m).bind fun q => match q.1.2 with | .bool b => .ok (b, q.2) | _ => .bad
mutual
noncomputable def exS : S → Env → Res Fw
  | .asg i e, m => (ev e m).bind fun p => .ok (.nx ((tkm e p.2).set i (some (takeV e p.1))))
  | .unp g e, m => (ev e m).bind fun p => (Res.ofO (bindT g p.1.2 (tkm e p.2))).bind fun m1 => .ok (.nx m1)
  | .par g es, m => (evs es m).bind fun p => if p.1.length = g.length then .ok (.nx ((g.zip p.1).foldl (fun m q => m.set q.1 (some (false, q.2))) p.2)) else .bad
  | .sti i x e, m => (ev e m).bind fun p => (match geti (tkm e p.2) i with
      | some (true, _) => (ev x (tkm e p.2)).bind fun q => (match geti q.2 i with
        | some (true, d) => (Res.ofO ((rd x q.1.2 q.2).bind fun k => stiF d k p.1.2)).bind fun d' => .ok (.nx (q.2.set i (some (true, d'))))
        | _ => .bad)
      | _ => .bad)
  | .mth i k es, m => match geti m i with
      | some (true, .list _) => (evs es m).bind fun p => (match geti p.2 i with
        | some (true, d) => (Res.ofO (mthF k d p.1)).bind fun d' => .ok (.nx (p.2.set i (some (true, d'))))
        | _ => .bad)
      | _ => .bad
  | .exp e, m => (ev e m).bind fun p => .ok (.nx p.2)
  | .ret e, m => (ev e m).bind fun p => .ok (.rt (takeV e p.1).1 p.1.2 (tkm e p.2))
  | .retv i, m => match geti m i with
      | some (f, d) => .ok (.rt f d (m.set i none))
      | none => .bad
  | .retn, m => .ok (.rt false .none m)
  | .sif c a b, m => (evC c m).bind fun p => if p.1 = true then exSs a p.2 else exSs b p.2
  | .sfor g it b, m => (evI it m).bind fun p => forL p.2.1 g (fun m => exSs b m) p.1 p.2.2
  | .whl c b, m => wh (evC c) (fun m => exSs b m) m
  | .rais x, _ => .exc x
  | .brk, m => .ok (.bk m)
  | .cnt, m => .ok (.ct m)
  | .pass, m => .ok (.nx m)
  | .blk pre b post, m => (exSs b (wipeE m pre)).bind fun f => .ok (f.wipe post)
noncomputable def exSs : Ss → Env → Res Fw
  | .nil, m => .ok (.nx m)
  | .cons s ss, m => (exS s m).bind fun f => match f with
      | .nx m1 => exSs ss m1
      | .rt fr d m1 => .ok (.rt fr d m1)
      | .bk m1 => .ok (.bk m1)
      | .ct m1 => .ok (.ct m1)
end
/-- a def: how many names, its body -/
structure Fn where
  n : Nat
  body : Ss
/-- the arguments behind the body -/
def finsOf : Nat → List (Bool × D) → Env → Option (List (Bool × D))
  | _, [], _ => some []
  | k, (false, d) :: r, m => (finsOf (k + 1) r m).map ((false, d) :: ·)
  | k, (true, _) :: r, m => (geti m k).bind fun p => (finsOf (k + 1) r m).map (p :: ·)
noncomputable def runFn (F : Fn) (as : List (Bool × D)) : Res (Bool × D × List (Bool × D)) :=
  (exSs F.body (as.map some ++ List.replicate (F.n - as.length) none)).bind fun f => match f with
    | .nx m => (Res.ofO (finsOf 0 as m)).bind fun fs => .ok (false, .none, fs)
    | .rt fr d m => (Res.ofO (finsOf 0 as m)).bind fun fs => .ok (fr, d, fs)
    | _ => .bad
end Rc

set_option maxRecDepth 100000
/-! How the language's values lie in the layer's heap. -/
namespace Rc
open PySem L2
/-- the tables of code objects that the law's lambdas fill, with the lambdas' names -/
class Tbs where
  T : List (Addr × Str)

theorem Same.seqT {K : PySem.W.Frag} {H H' : Hp} {a : Addr} {xs : List V} (e : Same H H') (h : SqT K H a xs) : SqT K H' a xs := by
  rcases h with (h | ⟨o, h⟩) | h
  · exact .inl (.inl (e _ _ h))
  · exact .inl (.inr ⟨o, e _ _ h⟩)
  · exact .inr h

def keyD : Key → D
  | .inl i => .int i
  | .inr s => .str s
/-- an object of which no more is known than where it is -/
def adrD (a : Addr) : D := .dict [(.none, .int (a : Int))]
/-- the script, as a value -/
def scrD (ns : List Int) : D := .dict [(.list (ns.map .int), .none)]
mutual
inductive Rp (K : PySem.W.Frag) (H : Hp) : V → D → Prop
  | non : Rp K H .non .none
  | bl (b : Bool) : Rp K H (.bl b) (.bool b)
  | int (i : Int) : Rp K H (.int i) (.int i)
  | str (x : Str) : Rp K H (.str x) (.str x)
  | lst {a : Addr} {xs : List V} {ds : List D} : H a = some (.lst xs) → RpA K H xs ds → Rp K H (.ref a) (.list ds)
  | tup {a : Addr} {xs : List V} {ds : List D} : SqT K H a xs → RpA K H xs ds → Rp K H (.ref a) (.tuple ds)
  | dct {a : Addr} {kvs : List (List Key × V)} {ws : List (D × D)} {vs : List V} {ds : List D} : H a = some (.dT kvs) → RpA K H vs ds → vs = kvs.map (·.2) → ds = ws.map (·.2) → ws.map (·.1) = kvs.map (fun p => PyData.tuple (p.1.map keyD)) → Rp K H (.ref a) (.dict ws)
  | scr {a : Addr} {ns : List Int} {d : D} : SqL K H a (ns.map V.int) → d = scrD ns → Rp K H (.ref a) d
  | adr {a : Addr} {d : D} : d = adrD a → Rp K H (.ref a) d
inductive RpA (K : PySem.W.Frag) (H : Hp) : List V → List D → Prop
  | nil : RpA K H [] []
  | cons {v : V} {vs : List V} {d : D} {ds : List D} : Rp K H v d → RpA K H vs ds → RpA K H (v :: vs) (d :: ds)
end
section
variable {K : PySem.W.Frag} {H H' : Hp}
mutual
theorem Rp.mono' (e : Same H H') : ∀ {v : V} {d : D}, Rp K H v d → Rp K H' v d
  | _, _, .non => .non
  | _, _, .bl b => .bl b
  | _, _, .int i => .int i
  | _, _, .str x => .str x
  | _, _, .lst h1 h2 => .lst (e _ _ h1) (RpA.mono' e h2)
  | _, _, .tup h1 h2 => .tup (Same.seqT e h1) (RpA.mono' e h2)
  | _, _, .dct h1 h2 h3 h4 h5 => .dct (e _ _ h1) (RpA.mono' e h2) h3 h4 h5
  | _, _, .scr h1 h2 => .scr (e.seq h1) h2
  | _, _, .adr h => .adr h
theorem RpA.mono' (e : Same H H') : ∀ {vs : List V} {ds : List D}, RpA K H vs ds → RpA K H' vs ds
  | _, _, .nil => .nil
  | _, _, .cons h1 h2 => .cons (Rp.mono' e h1) (RpA.mono' e h2)
end
theorem Rp.mono (e : Same H H') (d : D) (v : V) (h : Rp K H v d) : Rp K H' v d := Rp.mono' e h
theorem RpA.mono (e : Same H H') (ds : List D) (vs : List V) (h : RpA K H vs ds) : RpA K H' vs ds := RpA.mono' e h
mutual
theorem Rp.toDp : ∀ (d : D) (v : V), d.canLay0 = true → Rp K H v d → Dp K H v d
  | .none, _, _, h => by
    cases h with
    | non => exact .non
    | scr _ e => cases e
    | adr e => cases e
  | .bool _, _, _, h => by
    cases h with
    | bl => exact .bl _
    | scr _ e => cases e
    | adr e => cases e
  | .int _, _, _, h => by
    cases h with
    | int => exact .int _
    | scr _ e => cases e
    | adr e => cases e
  | .str _, _, _, h => by
    cases h with
    | str => exact .str _
    | scr _ e => cases e
    | adr e => cases e
  | .list ds, _, c, h => by
    cases h with
    | lst hs ha => exact .lst (SqL.of hs) (RpA.toDp ds _ (by simpa [PyData.canLay0] using c) ha)
    | scr _ e => cases e
    | adr e => cases e
  | .tuple ds, _, c, h => by
    cases h with
    | tup hs ha => exact .tup hs (RpA.toDp ds _ (by simpa [PyData.canLay0] using c) ha)
    | scr _ e => cases e
    | adr e => cases e
  | .dict _, _, c, _ => by simp [PyData.canLay0] at c
theorem RpA.toDp : ∀ (ds : List D) (vs : List V), PyData.canLayAll0 ds = true → RpA K H vs ds → DpAll K H vs ds
  | [], _, _, h => by cases h; exact .nil
  | d :: ds, _, c, h => by
    have c : (d.canLay0 && PyData.canLayAll0 ds) = true := by simpa [PyData.canLayAll0] using c
    rw [Bool.and_eq_true] at c
    cases h with
    | cons h1 h2 => exact .cons (Rp.toDp d _ c.1 h1) (RpA.toDp ds _ c.2 h2)
end
theorem RpA.length : ∀ {vs : List V} {ds : List D}, RpA K H vs ds → vs.length = ds.length
  | _, _, .nil => rfl
  | _, _, .cons _ t => by simp [RpA.length t]
theorem RpA.get : ∀ {vs : List V} {ds : List D} {i : Nat} {d : D}, RpA K H vs ds → ds[i]? = some d → ∃ v, vs[i]? = some v ∧ Rp K H v d
  | _, _, _, _, .nil, e => by simp at e
  | _, _, 0, _, .cons r _, e => by simp at e; subst e; exact ⟨_, rfl, r⟩
  | _, _, i + 1, d, .cons _ t, e => by
    obtain ⟨v, h1, h2⟩ := RpA.get (i := i) (d := d) t (by simpa using e)
    exact ⟨v, by simpa using h1, h2⟩
theorem RpA.getV : ∀ {vs : List V} {ds : List D} {i : Nat} {v : V}, RpA K H vs ds → vs[i]? = some v → ∃ d, ds[i]? = some d ∧ Rp K H v d
  | _, _, _, _, .nil, e => by simp at e
  | _, _, 0, _, .cons r _, e => by simp at e; subst e; exact ⟨_, rfl, r⟩
  | _, _, i + 1, d, .cons _ t, e => by
    obtain ⟨v, h1, h2⟩ := RpA.getV (i := i) (v := d) t (by simpa using e)
    exact ⟨v, by simpa using h1, h2⟩
theorem RpA.append : ∀ {vs ws : List V} {ds es : List D}, RpA K H vs ds → RpA K H ws es → RpA K H (vs ++ ws) (ds ++ es)
  | _, _, _, _, .nil, h => h
  | _, _, _, _, .cons r t, h => .cons r (RpA.append t h)
theorem RpA.take : ∀ {vs : List V} {ds : List D} (n : Nat), RpA K H vs ds → RpA K H (vs.take n) (ds.take n)
  | _, _, 0, _ => by simp; exact .nil
  | _, _, _ + 1, .nil => by simp; exact .nil
  | _, _, n + 1, .cons r t => .cons r (RpA.take n t)
theorem RpA.drop : ∀ {vs : List V} {ds : List D} (n : Nat), RpA K H vs ds → RpA K H (vs.drop n) (ds.drop n)
  | _, _, 0, h => h
  | _, _, _ + 1, .nil => by simp; exact .nil
  | _, _, n + 1, .cons _ t => RpA.drop n t
theorem RpA.reverse : ∀ {vs : List V} {ds : List D}, RpA K H vs ds → RpA K H vs.reverse ds.reverse
  | _, _, .nil => .nil
  | _, _, .cons r t => by simp only [List.reverse_cons]; exact (RpA.reverse t).append (.cons r .nil)
theorem RpA.set : ∀ {vs : List V} {ds : List D} (n : Nat) {v : V} {d : D}, RpA K H vs ds → Rp K H v d → RpA K H (vs.set n v) (ds.set n d)
  | _, _, _, _, _, .nil, _ => .nil
  | _, _, 0, _, _, .cons _ t, r => .cons r t
  | _, _, n + 1, _, _, .cons r' t, r => .cons r' (RpA.set n t r)
theorem RpA.erase : ∀ {vs : List V} {ds : List D} (n : Nat), RpA K H vs ds → RpA K H (vs.eraseIdx n) (ds.eraseIdx n)
  | _, _, _, .nil => .nil
  | _, _, 0, .cons _ t => t
  | _, _, n + 1, .cons r t => .cons r (RpA.erase n t)
theorem RpA.dropLast {vs : List V} {ds : List D} (h : RpA K H vs ds) : RpA K H vs.dropLast ds.dropLast := by
  rw [List.dropLast_eq_take, List.dropLast_eq_take, h.length]
  exact h.take _
theorem RpA.nil_iff {vs : List V} {ds : List D} (h : RpA K H vs ds) : vs = [] ↔ ds = [] := by
  cases h with
  | nil => simp
  | cons _ _ => simp
theorem RpA.cut {vs : List V} {ds : List D} (lo hi : Option Int) (h : RpA K H vs ds) : RpA K H (cutV vs lo hi) (cutD ds lo hi) := by
  unfold cutV cutD
  rw [h.length]
  exact (h.drop _).take _
theorem RpA.replicate {vs : List V} {ds : List D} (h : RpA K H vs ds) : ∀ n : Nat, RpA K H (List.replicate n vs).flatten (List.replicate n ds).flatten
  | 0 => by simp; exact .nil
  | n + 1 => by simp only [List.replicate_succ, List.flatten_cons]; exact h.append (RpA.replicate h n)
end

/-! ### what is owned -/
inductive Cont (K : PySem.W.Frag) (H : Hp) : HO → D → Prop
  | lst {vs : List V} {ds : List D} : RpA K H vs ds → Cont K H (.lst vs) (.list ds)
  | dT {kvs : List (List Key × V)} {ws : List (D × D)} : RpA K H (kvs.map (·.2)) (ws.map (·.2)) → ws.map (·.1) = kvs.map (fun p => PyData.tuple (p.1.map keyD)) → Cont K H (.dT kvs) (.dict ws)
theorem Cont.mono {K : PySem.W.Frag} {H H' : Hp} (e : Same H H') {o : HO} {d : D} (c : Cont K H o d) : Cont K H' o d := by
  cases c with
  | lst h => exact .lst (RpA.mono e _ _ h)
  | dT h h2 => exact .dT (RpA.mono e _ _ h) h2
def Own (σ : St) (m : Env) (a : Addr) : Prop := ∃ i d, σ[i]? = some (some (.ref a)) ∧ geti m i = some (true, d)
variable [Tbs]
/-- what is shared is there, and no table; the tables are there -/
structure Sub (Hs H : Hp) : Prop where
  same : Same Hs H
  tab : LamX.Tabs Tbs.T H
  ntb : ∀ b ps, Hs b ≠ some (.tbl ps)
instance {Hs H : Hp} : CoeOut (Sub Hs H) (Same Hs H) := ⟨Sub.same⟩
instance {Hs H : Hp} : CoeFun (Sub Hs H) (fun _ => ∀ b o, Hs b = some o → H b = some o) := ⟨Sub.same⟩
/-- no object but a table, perhaps -/
def Dead (H : Hp) (b : Addr) : Prop := ∀ o, H b = some o → ∃ ps, o = .tbl ps
theorem Dead.of {H : Hp} {b : Addr} (n : H b = none) : Dead H b := fun o e => by rw [n] at e; cases e
theorem Cont.notT {H : Hp} {K : PySem.W.Frag} {o : HO} {d : D} (c : Cont K H o d) (ps : Array Value) : o ≠ .tbl ps := fun z => by subst z; cases c
theorem Dead.no {H Hs : Hp} {K : PySem.W.Frag} {b : Addr} {o : HO} {d : D} (h : Dead H b) (e : H b = some o) (c : Cont K Hs o d) : False := by
  obtain ⟨ps, z⟩ := h o e
  exact c.notT ps z
/-- a new object -/
theorem Sub.new {Hs H : Hp} (s : Sub Hs H) {p : Addr} {o : HO} (n : H p = none) : Sub Hs (upd H p o) := by
  have hn : ∀ b u, H b = some u → upd H p o b = some u := fun b u q => by rw [upd_ne (fun z => by rw [z, n] at q; cases q)]; exact q
  exact ⟨fun b u q => hn b u (s b u q), LamX.Tabs.ext s.tab hn, s.ntb⟩
/-- .. told of -/
theorem Sub.tell {Hs H : Hp} (s : Sub Hs H) {p : Addr} {o : HO} (e : H p = some o) (t : ∀ ps, o ≠ .tbl ps) : Sub (upd Hs p o) H :=
  ⟨fun b u q => by
    by_cases hb : b = p
    · subst hb; rw [upd_same] at q; cases q; exact e
    · rw [upd_ne hb] at q; exact s b u q, s.tab, fun b ps h => by
    by_cases hb : b = p
    · subst hb; rw [upd_same] at h; exact t ps (Option.some.inj h)
    · rw [upd_ne hb] at h; exact s.ntb b ps h⟩
/-- an object that is no table and no code is changed -/
theorem Sub.put {Hs H : Hp} (s : Sub Hs H) {p : Addr} {o' : HO} (nt : ∀ ps, H p ≠ some (.tbl ps)) (nc : ∀ q, H p ≠ some (LamX.CodeO p q)) (n : Hs p = none) : Sub Hs (upd H p o') := by
  refine ⟨fun b u q => by rw [upd_ne (fun z => by rw [z, n] at q; cases q)]; exact s b u q, fun q hq => ?_, s.ntb⟩
  obtain ⟨ps, h1, h2, h3⟩ := s.tab q hq
  refine ⟨ps, by rw [upd_ne (fun z => nt ps (by rw [← z]; exact h1))]; exact h1, h2, fun pos cv hc => ?_⟩
  obtain ⟨a, e1, e2⟩ := h3 pos cv hc
  refine ⟨a, e1, ?_⟩
  rw [upd_ne]
  · exact e2
  · rintro rfl
    exact nc _ e2
/-- a list or a dict is changed -/
theorem Sub.chg {Hs H : Hp} {K : PySem.W.Frag} (s : Sub Hs H) {p : Addr} {o o' : HO} {d : D} (e : H p = some o) (c : Cont K Hs o d) (n : Hs p = none) : Sub Hs (upd H p o') :=
  s.put (fun ps z => by rw [e] at z; exact c.notT ps (Option.some.inj z)) (fun q z => by rw [e] at z; cases c <;> cases z) n
structure REnv (K : PySem.W.Frag) (Hs H : Hp) (σ : St) (m : Env) : Prop where
  sub : Sub Hs H
  len : σ.length = m.length
  val : ∀ i d, geti m i = some (false, d) → ∃ v, σ[i]? = some (some v) ∧ Rp K Hs v d
  own : ∀ i d, geti m i = some (true, d) → ∃ a o, σ[i]? = some (some (.ref a)) ∧ H a = some o ∧ Cont K Hs o d ∧ Hs a = none
  inj : ∀ i j d e a, geti m i = some (true, d) → geti m j = some (true, e) → σ[i]? = some (some (.ref a)) → σ[j]? = some (some (.ref a)) → i = j
structure Fram (Hs H : Hp) (O : Addr → Prop) (Hs' H' : Hp) (O' : Addr → Prop) : Prop where
  same : Same Hs Hs'
  keep : ∀ b o, H b = some o → ¬ O b → H' b = some o ∨ ∃ ps, o = .tbl ps
  news : ∀ b, Hs' b ≠ none → Hs b ≠ none ∨ Dead H b ∨ O b
  owns : ∀ b, O' b → O b ∨ Dead H b
theorem Fram.refl {Hs H : Hp} {O : Addr → Prop} : Fram Hs H O Hs H O := ⟨Same.refl _, fun _ _ h _ => .inl h, fun _ h => .inl h, fun _ h => .inl h⟩
theorem Fram.keepN {Hs H Hs1 H1 : Hp} {O O1 : Addr → Prop} (a : Fram Hs H O Hs1 H1 O1) {b : Addr} {o : HO} (h : H b = some o) (n : ¬ O b) (t : ∀ ps, o ≠ .tbl ps) : H1 b = some o :=
  (a.keep b o h n).resolve_right fun ⟨ps, z⟩ => t ps z
theorem Fram.dead {Hs H Hs1 H1 : Hp} {O O1 : Addr → Prop} (a : Fram Hs H O Hs1 H1 O1) {b : Addr} (d : Dead H1 b) (n : ¬ O b) : Dead H b := fun o e =>
  (a.keep b o e n).elim (d o) id
theorem Fram.keepU {Hs H Hs1 H1 : Hp} {O O1 : Addr → Prop} (a : Fram Hs H O Hs1 H1 O1) {p : Addr} {o' : HO} (n : H1 p = none) {b : Addr} {o : HO} (h : H b = some o) (k : ¬ O b) : upd H1 p o' b = some o ∨ ∃ ps, o = .tbl ps := by
  rcases a.keep b o h k with e | e
  · refine .inl ?_
    rw [upd_ne (fun z => by rw [z, n] at e; cases e)]
    exact e
  · exact .inr e
theorem Fram.none {Hs H Hs1 H1 : Hp} {O O1 : Addr → Prop} (a : Fram Hs H O Hs1 H1 O1) {p : Addr} (n : H1 p = none) (k : ¬ O p) : Dead H p := a.dead (.of n) k
theorem Fram.trans {Hs H Hs1 H1 Hs2 H2 : Hp} {O O1 O2 : Addr → Prop} (a : Fram Hs H O Hs1 H1 O1) (b : Fram Hs1 H1 O1 Hs2 H2 O2) : Fram Hs H O Hs2 H2 O2 where
  same := a.same.trans b.same
  keep := fun c o h n => by
    by_cases t : ∃ ps, o = .tbl ps
    · exact .inr t
    · have n1 : ¬ O1 c := fun z => (a.owns c z).elim n fun q => t (q o h)
      exact b.keep c o ((a.keep c o h n).resolve_right t) n1
  news := fun c h => by
    by_cases hO : O c
    · exact .inr (.inr hO)
    rcases b.news c h with q | q | q
    · exact a.news c q
    · exact .inr (.inl (a.dead q hO))
    · exact (a.owns c q).elim (fun z => absurd z hO) fun z => .inr (.inl z)
  owns := fun c h => by
    by_cases hO : O c
    · exact .inl hO
    rcases b.owns c h with q | q
    · exact a.owns c q
    · exact .inr (a.dead q hO)
theorem Fram.weak {Hs H Hs1 H1 : Hp} {O O1 O2 : Addr → Prop} (a : Fram Hs H O Hs1 H1 O1) (h : ∀ b, O2 b → O1 b) : Fram Hs H O Hs1 H1 O2 :=
  ⟨a.same, a.keep, a.news, fun b z => a.owns b (h b z)⟩
/-- what an exception finds -/
def ExF (H : Hp) (O : Addr → Prop) (H' : Hp) : Prop := (∀ b o, H b = some o → ¬ O b → H' b = some o ∨ ∃ ps, o = .tbl ps) ∧ LamX.Tabs Tbs.T H'
theorem ExF.refl {Hs H : Hp} {O : Addr → Prop} (s : Sub Hs H) : ExF H O H := ⟨fun _ _ h _ => .inl h, s.tab⟩
theorem ExF.trans {Hs H Hs1 H1 H2 : Hp} {O O1 : Addr → Prop} (a : Fram Hs H O Hs1 H1 O1) (b : ExF H1 O1 H2) : ExF H O H2 := by
  refine ⟨fun c o h n => ?_, b.2⟩
  by_cases t : ∃ ps, o = .tbl ps
  · exact .inr t
  · have n1 : ¬ O1 c := fun z => (a.owns c z).elim n fun q => t (q o h)
    exact b.1 c o ((a.keep c o h n).resolve_right t) n1
theorem ExF.big {H H' : Hp} {O O1 : Addr → Prop} (x : ExF H O H') (h : ∀ b, O b → O1 b) : ExF H O1 H' := ⟨fun b o q n => x.1 b o q fun z => n (h b z), x.2⟩
/-- more may be owned ahead -/
theorem Fram.big {Hs H Hs1 H1 : Hp} {O O1 O2 : Addr → Prop} (a : Fram Hs H O Hs1 H1 O1) (h : ∀ b, O b → O2 b) : Fram Hs H O2 Hs1 H1 O1 :=
  ⟨a.same, fun b o q n => a.keep b o q fun z => n (h b z), fun b q => (a.news b q).imp id fun z => z.imp id (h b), fun b q => (a.owns b q).imp (h b) id⟩

/-! ### results -/
def OV (O : Addr → Prop) (fr : Bool) (v : V) : Addr → Prop := fun b => O b ∨ (fr = true ∧ v = .ref b)
/-- a value told: a new object that nothing else tells of, or shared -/
def RV (K : PySem.W.Frag) (Hs H : Hp) (O : Addr → Prop) (fr : Bool) (v : V) (d : D) : Prop :=
  match fr with
  | true => ∃ a o, v = .ref a ∧ H a = some o ∧ Cont K Hs o d ∧ Hs a = none ∧ ¬ O a
  | false => Rp K Hs v d
/-- .. of an expression: a name's is the name's -/
def RR (K : PySem.W.Frag) (e : E) (σ : St) (m : Env) (Hs H : Hp) (fr : Bool) (v : V) (d : D) : Prop :=
  match e.vr with
  | some i => σ[i]? = some (some v) ∧ ∃ f, geti m i = some (f, d)
  | none => RV K Hs H (Own σ m) fr v d
/-- an operand -/
def BR (K : PySem.W.Frag) (e : E) (σ : St) (Hs : Hp) (v : V) (d : D) : Prop :=
  match e.vr with
  | some i => σ[i]? = some (some v)
  | none => Rp K Hs v d
/-- a value that may be read -/
def RB (K : PySem.W.Frag) (Hs H : Hp) (v : V) (d : D) : Prop := Rp K Hs v d ∨ ∃ a o, v = .ref a ∧ H a = some o ∧ Cont K Hs o d

def PostR {α : Type} (P : α → Prop) (Xc : Str → Prop) : Res α → Prop
  | .ok a => P a
  | .exc x => Xc x
  | .bad => False
theorem PostR.bind {α β : Type} {P : β → Prop} {Xc : Str → Prop} {r : Res α} {f : α → Res β} (h : PostR P Xc (r.bind f)) : PostR (fun a => PostR P Xc (f a)) Xc r := by
  cases r <;> exact h
theorem PostR.imp {α : Type} {P P' : α → Prop} {Xc Xc' : Str → Prop} {r : Res α} (h : PostR P Xc r) (hp : ∀ a, P a → P' a) (hx : ∀ x, Xc x → Xc' x) : PostR P' Xc' r := by
  cases r with
  | ok a => exact hp a h
  | exc x => exact hx x h
  | bad => exact h
theorem PostR.ofO {α : Type} {P : α → Prop} {Xc : Str → Prop} {r : Option α} (h : PostR P Xc (Res.ofO r)) : ∃ a, r = some a ∧ P a := by
  cases r with
  | none => exact h.elim
  | some a => exact ⟨a, rfl, h⟩

section
variable {K : PySem.W.Frag} {Hs H Hs' H' : Hp} {σ : St} {m m' : Env}
theorem geti_set_same {m : Env} {i : Nat} {x : Option (Bool × D)} (h : i < m.length) : geti (m.set i x) i = x := by
  rw [geti_eq, List.getElem?_set_self h]; simp
theorem geti_set_ne {m : Env} {i j : Nat} {x : Option (Bool × D)} (h : i ≠ j) : geti (m.set i x) j = geti m j := by
  rw [geti_eq, geti_eq, List.getElem?_set_ne h]
theorem geti_lt {m : Env} {i : Nat} {p : Bool × D} (h : geti m i = some p) : i < m.length := by
  rw [geti_eq] at h
  by_cases q : i < m.length
  · exact q
  · rw [List.getElem?_eq_none (by omega)] at h; simp at h
theorem set_over {m : Env} {i : Nat} {x : Option (Bool × D)} (h : ¬ i < m.length) : m.set i x = m := List.set_eq_of_length_le (by omega)

theorem REnv.rb (R : REnv K Hs H σ m) {i : Nat} {f : Bool} {d : D} {v : V} (h : geti m i = some (f, d)) (e : σ[i]? = some (some v)) : RB K Hs H v d := by
  cases f with
  | false =>
    obtain ⟨v', e', r⟩ := R.val i d h
    rw [e] at e'; cases e'
    exact .inl r
  | true =>
    obtain ⟨a, o, e', h1, h2, _⟩ := R.own i d h
    rw [e] at e'; cases e'
    exact .inr ⟨a, o, rfl, h1, h2⟩
theorem rd_eq (e : E) (d : D) (m : Env) : rd e d m = match e.vr with | some i => (geti m i).map (·.2) | none => some d := by cases e <;> rfl
theorem tkm_eq (e : E) (m : Env) : tkm e m = match e.vr with | some i => leak m i | none => m := by cases e <;> rfl
theorem takeV_eq (e : E) (p : Bool × D) : takeV e p = match e.vr with | some _ => (false, p.2) | none => p := by cases e <;> rfl
/-- an operand at the operation -/
theorem REnv.op (R : REnv K Hs H σ m) {e : E} {d d' : D} {v : V} (b : BR K e σ Hs v d) (h : rd e d m = some d') : RB K Hs H v d' := by
  rw [rd_eq] at h
  unfold BR at b
  cases q : e.vr with
  | none =>
    rw [q] at b h
    have h := Option.some.inj h; subst h; exact .inl b
  | some i =>
    rw [q] at b h
    have h : (geti m i).map (·.2) = some d' := h
    cases q : geti m i with
    | none => rw [q] at h; simp at h
    | some p =>
      obtain ⟨f, x⟩ := p
      rw [q] at h
      have h : x = d' := Option.some.inj h
      subst h
      exact R.rb q b
theorem BR.mono {e : E} {v : V} {d : D} (s : Same Hs Hs') (b : BR K e σ Hs v d) : BR K e σ Hs' v d := by
  unfold BR at b ⊢
  cases q : e.vr with
  | none => rw [q] at b; exact Rp.mono s _ _ b
  | some i => rw [q] at b; exact b
theorem RB.seqL {v : V} {ds : List D} (b : RB K Hs H v (.list ds)) (s : Same Hs H) : ∃ a vs, v = .ref a ∧ H a = some (.lst vs) ∧ RpA K Hs vs ds := by
  rcases b with b | ⟨a, o, e, h, c⟩
  · cases b with
    | lst h1 h2 => exact ⟨_, _, rfl, s _ _ h1, h2⟩
    | scr _ e => cases e
    | adr e => cases e
  · cases c with
    | lst h2 => exact ⟨a, _, e, h, h2⟩
theorem RB.seqT {v : V} {ds : List D} (b : RB K Hs H v (.tuple ds)) (s : Same Hs H) : ∃ a vs, v = .ref a ∧ SqT K H a vs ∧ RpA K Hs vs ds := by
  rcases b with b | ⟨a, o, e, h, c⟩
  · cases b with
    | tup h1 h2 => exact ⟨_, _, rfl, Same.seqT s h1, h2⟩
    | scr _ e => cases e
    | adr e => cases e
  · cases c
theorem RB.int {v : V} {i : Int} (b : RB K Hs H v (.int i)) : v = .int i := by
  rcases b with b | ⟨a, o, e, h, c⟩
  · cases b with
    | int => rfl
    | scr _ e => cases e
    | adr e => cases e
  · cases c
theorem RB.bl {v : V} {i : Bool} (b : RB K Hs H v (.bool i)) : v = .bl i := by
  rcases b with b | ⟨a, o, e, h, c⟩
  · cases b with
    | bl => rfl
    | scr _ e => cases e
    | adr e => cases e
  · cases c
theorem RB.non {v : V} (b : RB K Hs H v .none) : v = .non := by
  rcases b with b | ⟨a, o, e, h, c⟩
  · cases b with
    | non => rfl
    | scr _ e => cases e
    | adr e => cases e
  · cases c
theorem RB.str {v : V} {x : Str} (b : RB K Hs H v (.str x)) : v = .str x := by
  rcases b with b | ⟨a, o, e, h, c⟩
  · cases b with
    | str => rfl
    | scr _ e => cases e
    | adr e => cases e
  · cases c
/-- None alone is None -/
theorem RB.isN {v : V} {d : D} (b : RB K Hs H v d) : decide (v = .non) = (match d with | .none => true | _ => false) := by
  rcases b with b | ⟨a, o, e, h, c⟩
  · cases b with
    | non => rfl
    | scr _ e => subst e; rfl
    | adr e => subst e; rfl
    | _ => rfl
  · subst e
    cases c <;> rfl
theorem RB.dp {v : V} {d : D} (b : RB K Hs H v d) (s : Same Hs H) (hs : SeqAt.shaped d = true) : Dp K H v d := by
  have c := SeqAt.canLay_of_shaped hs
  rcases b with b | ⟨a, o, e, h, k⟩
  · exact Rp.toDp _ _ c (Rp.mono s _ _ b)
  · cases k with
    | lst h2 =>
      subst e
      exact .lst (SqL.of h) (RpA.toDp _ _ (by simpa [PyData.canLay0] using c) (RpA.mono s _ _ h2))
    | dT _ => simp [PyData.canLay0] at c

/-- an object told of from now on -/
theorem Same.upd {Hs : Hp} {a : Addr} {o : HO} (n : Hs a = none) : Same Hs (upd Hs a o) := fun b x e => by
  rw [upd_ne (ne_of_none e n)]
  exact e
theorem Cont.rp {a : Addr} {o : HO} {d : D} (c : Cont K Hs o d) (n : Hs a = none) : Rp K (upd Hs a o) (.ref a) d := by
  cases c with
  | lst h => exact .lst upd_same (RpA.mono (Same.upd n) _ _ h)
  | dT h h2 => exact .dct upd_same (RpA.mono (Same.upd n) _ _ h) rfl rfl h2
end
end Rc

set_option maxRecDepth 100000
/-! Calls of defs whose promise is a function of values. -/
namespace Rc
open PySem L2
variable [Tbs]

/-- the promise: the def computes f -/
def spM (K : PySem.W.Frag) (mg : Str → Option Value) (n : Nat) (f : MF) : Sp := fun vs H Q E => vs.length = n ∧ ∃ Hs as, REnv K Hs H (vs.map some) (as.map some) ∧
  PostR (fun r => ∀ v Hs' H', REnv K Hs' H' (vs.map some) (r.2.2.map some) →
      Fram Hs H (Own (vs.map some) (as.map some)) Hs' H' (OV (Own (vs.map some) (r.2.2.map some)) r.1 v) → RV K Hs' H' (Own (vs.map some) (r.2.2.map some)) r.1 v r.2.1 → Q v H')
    (fun x => ∀ C H', mg x = some (.ref C) → ExF H (Own (vs.map some) (as.map some)) H' → E (.ref C) none H') (f as)

/-- arguments at hand -/
inductive AR (K : PySem.W.Frag) (σ : L2.St) (Hs : Hp) : List V → List Arg → Prop
  | nil : AR K σ Hs [] []
  | slot {i : Nat} {v : V} {vs as} : σ[i]? = some (some v) → AR K σ Hs vs as → AR K σ Hs (v :: vs) (.inl i :: as)
  | val {d : D} {v : V} {vs as} : Rp K Hs v d → AR K σ Hs vs as → AR K σ Hs (v :: vs) (.inr d :: as)
section
variable {K : PySem.W.Frag} {Hs H Hs' H' : Hp} {σ : L2.St} {m m' m1 : Env}
theorem AR.length : ∀ {vs : List V} {as : List Arg}, AR K σ Hs vs as → vs.length = as.length
  | _, _, .nil => rfl
  | _, _, .slot _ t => by simp [AR.length t]
  | _, _, .val _ t => by simp [AR.length t]
theorem AR.mono (s : Same Hs Hs') : ∀ {vs : List V} {as : List Arg}, AR K σ Hs vs as → AR K σ Hs' vs as
  | _, _, .nil => .nil
  | _, _, .slot e t => .slot e (AR.mono s t)
  | _, _, .val r t => .val (Rp.mono s _ _ r) (AR.mono s t)
theorem AR.inl : ∀ {vs : List V} {as : List Arg} {j i : Nat}, AR K σ Hs vs as → as[j]? = some (.inl i) → ∃ v, vs[j]? = some v ∧ σ[i]? = some (some v)
  | _, _, _, _, .nil, h => by simp at h
  | _, _, 0, _, .slot e _, h => by simp at h; subst h; exact ⟨_, rfl, e⟩
  | _, _, 0, _, .val _ _, h => by simp at h
  | _, _, j + 1, _, .slot _ t, h => by
    obtain ⟨v, a, b⟩ := AR.inl (j := j) t (by simpa using h)
    exact ⟨v, by simpa using a, b⟩
  | _, _, j + 1, _, .val _ t, h => by
    obtain ⟨v, a, b⟩ := AR.inl (j := j) t (by simpa using h)
    exact ⟨v, by simpa using a, b⟩
theorem AR.inr : ∀ {vs : List V} {as : List Arg} {j : Nat} {d : D}, AR K σ Hs vs as → as[j]? = some (.inr d) → ∃ v, vs[j]? = some v ∧ Rp K Hs v d
  | _, _, _, _, .nil, h => by simp at h
  | _, _, 0, _, .slot e _, h => by simp at h
  | _, _, 0, _, .val r _, h => by simp at h; subst h; exact ⟨_, rfl, r⟩
  | _, _, j + 1, _, .slot _ t, h => by
    obtain ⟨v, a, b⟩ := AR.inr (j := j) t (by simpa using h)
    exact ⟨v, by simpa using a, b⟩
  | _, _, j + 1, _, .val _ t, h => by
    obtain ⟨v, a, b⟩ := AR.inr (j := j) t (by simpa using h)
    exact ⟨v, by simpa using a, b⟩

structure FS (args : List Arg) (m : Env) (as : List (Bool × D)) (m1 : Env) : Prop where
  len : as.length = args.length
  mlen : m1.length = m.length
  stay : ∀ i, geti m1 i = geti m i ∨ (geti m1 i = none ∧ ∃ (j : Nat) (d : D), args[j]? = some (.inl i) ∧ as[j]? = some (true, d) ∧ geti m i = some (true, d))
  own : ∀ (j : Nat) (d : D), as[j]? = some (true, d) → ∃ i, args[j]? = some (.inl i) ∧ geti m i = some (true, d) ∧ geti m1 i = none
  sh : ∀ (j : Nat) (d : D), as[j]? = some (false, d) → args[j]? = some (.inr d) ∨ ∃ i, args[j]? = some (.inl i) ∧ geti m i = some (false, d)
  one : ∀ (j k i : Nat) (d e : D), as[j]? = some (true, d) → as[k]? = some (true, e) → args[j]? = some (.inl i) → args[k]? = some (.inl i) → j = k
theorem fetch_spec : ∀ {args : List Arg} {m : Env} {as : List (Bool × D)} {m1 : Env}, fetch args m = some (as, m1) → FS args m as m1
  | [], m, as, m1, h => by
    simp only [fetch, Option.some.injEq, Prod.mk.injEq] at h
    obtain ⟨rfl, rfl⟩ := h
    exact ⟨rfl, rfl, fun i => .inl rfl, fun j d h => by simp at h, fun j d h => by simp at h, fun j k i d e h => by simp at h⟩
  | .inr d :: r, m, as, m1, h => by
    simp only [fetch, Option.map_eq_some_iff] at h
    obtain ⟨⟨as', m'⟩, h1, h2⟩ := h
    simp only [Prod.mk.injEq] at h2
    obtain ⟨rfl, rfl⟩ := h2
    have f := fetch_spec h1
    refine ⟨by simp [f.len], f.mlen, fun i => ?_, fun j e h => ?_, fun j e h => ?_, fun j k i d' e h1 h2 h3 h4 => ?_⟩
    · rcases f.stay i with q | ⟨q, j, e, a, b, c⟩
      · exact .inl q
      · exact .inr ⟨q, j + 1, e, by simpa using a, by simpa using b, c⟩
    · cases j with
      | zero => simp at h
      | succ j =>
        obtain ⟨i, a, b⟩ := f.own j e (by simpa using h)
        exact ⟨i, by simpa using a, b⟩
    · cases j with
      | zero => simp at h; subst h; exact .inl rfl
      | succ j =>
        rcases f.sh j e (by simpa using h) with q | ⟨i, a, b⟩
        · exact .inl (by simpa using q)
        · exact .inr ⟨i, by simpa using a, b⟩
    · cases j with
      | zero => simp at h1
      | succ j =>
        cases k with
        | zero => simp at h2
        | succ k => rw [f.one j k i d' e (by simpa using h1) (by simpa using h2) (by simpa using h3) (by simpa using h4)]
  | .inl i₀ :: r, m, as, m1, h => by
    unfold fetch at h
    split at h
    · rename_i d₀ hg
      simp only [Option.map_eq_some_iff] at h
      obtain ⟨⟨as', m'⟩, h1, h2⟩ := h
      simp only [Prod.mk.injEq] at h2
      obtain ⟨rfl, rfl⟩ := h2
      have f := fetch_spec h1
      have hlt := geti_lt hg
      have at0 : geti (m.set i₀ none) i₀ = none := geti_set_same hlt
      have noneAt : geti m' i₀ = none := by
        rcases f.stay i₀ with q | ⟨q, _⟩
        · rw [q]; exact at0
        · exact q
      have ne : ∀ i p, geti (m.set i₀ none) i = some p → i ≠ i₀ := fun i p e z => by rw [z, at0] at e; cases e
      refine ⟨by simp [f.len], by rw [f.mlen]; simp, fun i => ?_, fun j e h => ?_, fun j e h => ?_, fun j k i d' e h1 h2 h3 h4 => ?_⟩
      · by_cases hi : i = i₀
        · subst hi
          exact .inr ⟨noneAt, 0, d₀, rfl, rfl, hg⟩
        · rcases f.stay i with q | ⟨q, j, e, a, b, c⟩
          · exact .inl (by rw [q, geti_set_ne (Ne.symm hi)])
          · exact .inr ⟨q, j + 1, e, by simpa using a, by simpa using b, by rw [geti_set_ne (Ne.symm hi)] at c; exact c⟩
      · cases j with
        | zero => simp at h; subst h; exact ⟨i₀, rfl, hg, noneAt⟩
        | succ j =>
          obtain ⟨i, a, b, c⟩ := f.own j e (by simpa using h)
          have hi := ne i _ b
          rw [geti_set_ne (Ne.symm hi)] at b
          exact ⟨i, by simpa using a, b, c⟩
      · cases j with
        | zero => simp at h
        | succ j =>
          rcases f.sh j e (by simpa using h) with q | ⟨i, a, b⟩
          · exact .inl (by simpa using q)
          · have hi := ne i _ b
            rw [geti_set_ne (Ne.symm hi)] at b
            exact .inr ⟨i, by simpa using a, b⟩
      · cases j with
        | zero =>
          cases k with
          | zero => rfl
          | succ k =>
            obtain ⟨i', a, b, _⟩ := f.own k e (by simpa using h2)
            have h4' : r[k]? = some (Sum.inl i) := by simpa using h4
            rw [h4'] at a
            have : i = i' := by simpa using a
            subst this
            have : i₀ = i := by simpa using h3
            exact absurd this.symm (ne i _ b)
        | succ j =>
          cases k with
          | zero =>
            obtain ⟨i', a, b, _⟩ := f.own j d' (by simpa using h1)
            have h3' : r[j]? = some (Sum.inl i) := by simpa using h3
            rw [h3'] at a
            have : i = i' := by simpa using a
            subst this
            have : i₀ = i := by simpa using h4
            exact absurd this.symm (ne i _ b)
          | succ k => rw [f.one j k i d' e (by simpa using h1) (by simpa using h2) (by simpa using h3) (by simpa using h4)]
    · rename_i d₀ hg
      simp only [Option.map_eq_some_iff] at h
      obtain ⟨⟨as', m'⟩, h1, h2⟩ := h
      simp only [Prod.mk.injEq] at h2
      obtain ⟨rfl, rfl⟩ := h2
      have f := fetch_spec h1
      refine ⟨by simp [f.len], f.mlen, fun i => ?_, fun j e h => ?_, fun j e h => ?_, fun j k i d' e h1 h2 h3 h4 => ?_⟩
      · rcases f.stay i with q | ⟨q, j, e, a, b, c⟩
        · exact .inl q
        · exact .inr ⟨q, j + 1, e, by simpa using a, by simpa using b, c⟩
      · cases j with
        | zero => simp at h
        | succ j =>
          obtain ⟨i, a, b⟩ := f.own j e (by simpa using h)
          exact ⟨i, by simpa using a, b⟩
      · cases j with
        | zero => simp at h; subst h; exact .inr ⟨i₀, rfl, hg⟩
        | succ j =>
          rcases f.sh j e (by simpa using h) with q | ⟨i, a, b⟩
          · exact .inl (by simpa using q)
          · exact .inr ⟨i, by simpa using a, b⟩
      · cases j with
        | zero => simp at h1
        | succ j =>
          cases k with
          | zero => simp at h2
          | succ k => rw [f.one j k i d' e (by simpa using h1) (by simpa using h2) (by simpa using h3) (by simpa using h4)]
    · cases h
theorem back_len : ∀ {args : List Arg} {as fs : List (Bool × D)} {m : Env}, (back args as fs m).length = m.length
  | [], _, _, m => by simp [back]
  | .inl i :: r, [], _, m => by simp [back]
  | .inl i :: r, (true, _) :: as, [], m => by simp [back]
  | .inl i :: r, (false, _) :: as, [], m => by simp [back]
  | .inl i :: r, (true, _) :: as, f :: fs, m => by simp [back, back_len (args := r)]
  | .inl i :: r, (false, _) :: as, f :: fs, m => by simp [back, back_len (args := r)]
  | .inr d :: r, [], _, m => by simp [back]
  | .inr d :: r, _ :: as, [], m => by simp [back]
  | .inr d :: r, _ :: as, f :: fs, m => by simp [back, back_len (args := r)]
/-- where the environment behind a call differs -/
theorem back_spec : ∀ {args : List Arg} {as fs : List (Bool × D)} {m : Env} (i : Nat), as.length = args.length → fs.length = as.length → (∀ (j : Nat), args[j]? = some (.inl i) → i < m.length) →
    (∃ (j : Nat) (d : D) (f : Bool × D), args[j]? = some (.inl i) ∧ as[j]? = some (true, d) ∧ fs[j]? = some f ∧ geti (back args as fs m) i = some f) ∨
      (geti (back args as fs m) i = geti m i ∧ ∀ (j : Nat) (d : D), args[j]? = some (.inl i) → as[j]? ≠ some (true, d))
  | [], as, fs, m, i, _, _, _ => .inr ⟨by cases as <;> simp [back], fun j d h => by simp at h⟩
  | a :: r, [], _, m, i, h, _, _ => by simp at h
  | a :: r, x :: as, [], m, i, _, h, _ => by simp at h
  | a :: r, x :: as, f :: fs, m, i, h1, h2, hl => by
    have ih := back_spec (args := r) (as := as) (fs := fs) (m := m) i (by simpa using h1) (by simpa using h2) (fun j h => hl (j + 1) (by simpa using h))
    have other : (back (a :: r) (x :: as) (f :: fs) m = back r as fs m) → (∀ d, ¬ (a = .inl i ∧ x = (true, d))) →
        ((∃ (j : Nat) (d : D) (g : Bool × D), (a :: r)[j]? = some (.inl i) ∧ (x :: as)[j]? = some (true, d) ∧ (f :: fs)[j]? = some g ∧ geti (back (a :: r) (x :: as) (f :: fs) m) i = some g) ∨
      (geti (back (a :: r) (x :: as) (f :: fs) m) i = geti m i ∧ ∀ (j : Nat) (d : D), (a :: r)[j]? = some (.inl i) → (x :: as)[j]? ≠ some (true, d))) := fun e n => by
      rw [e]
      rcases ih with ⟨j, d, g, a1, a2, a3, a4⟩ | ⟨b1, b2⟩
      · exact .inl ⟨j + 1, d, g, by simpa using a1, by simpa using a2, by simpa using a3, a4⟩
      · refine .inr ⟨b1, fun j d h => ?_⟩
        cases j with
        | zero =>
          intro q
          exact n d ⟨by simpa using h, by simpa using q⟩
        | succ j => simpa using b2 j d (by simpa using h)
    cases a with
    | inr d => exact other (by simp [back]) (by simp)
    | inl i' =>
      obtain ⟨b, d₀⟩ := x
      cases b with
      | false => exact other (by simp [back]) (by simp)
      | true =>
        have e : back (.inl i' :: r) ((true, d₀) :: as) (f :: fs) m = (back r as fs m).set i' (some f) := by simp [back]
        by_cases hi : i' = i
        · subst hi
          refine .inl ⟨0, d₀, f, rfl, rfl, rfl, ?_⟩
          rw [e]
          exact geti_set_same (by rw [back_len]; exact hl 0 rfl)
        · rw [e, geti_set_ne hi]
          rcases ih with ⟨j, d, g, a1, a2, a3, a4⟩ | ⟨b1, b2⟩
          · exact .inl ⟨j + 1, d, g, by simpa using a1, by simpa using a2, by simpa using a3, a4⟩
          · refine .inr ⟨b1, fun j d h => ?_⟩
            cases j with
            | zero => exact absurd (by simpa using h) hi
            | succ j => simpa using b2 j d (by simpa using h)
theorem geti_map (as : List (Bool × D)) (j : Nat) : geti (as.map some) j = as[j]? := by
  rw [geti_eq, List.getElem?_map]
  cases as[j]? <;> rfl
theorem getσ {vs : List V} {j : Nat} {v : V} : (vs.map some : L2.St)[j]? = some (some v) ↔ vs[j]? = some v := by
  rw [List.getElem?_map]
  cases vs[j]? <;> simp

/-- what the callee finds -/
theorem FS.env {args : List Arg} {as : List (Bool × D)} {vs : List V} (f : FS args m as m1) (R : REnv K Hs H σ m) (A : AR K σ Hs vs args) : REnv K Hs H (vs.map some) (as.map some) where
  sub := R.sub
  len := by simp [A.length, f.len]
  val := fun j d h => by
    rw [geti_map] at h
    rcases f.sh j d h with q | ⟨i, a, b⟩
    · obtain ⟨v, e, r⟩ := A.inr q
      exact ⟨v, getσ.mpr e, r⟩
    · obtain ⟨v, e, e'⟩ := A.inl a
      obtain ⟨v', e2, r⟩ := R.val i d b
      rw [e'] at e2; cases e2
      exact ⟨v, getσ.mpr e, r⟩
  own := fun j d h => by
    rw [geti_map] at h
    obtain ⟨i, a, b, _⟩ := f.own j d h
    obtain ⟨v, e, e'⟩ := A.inl a
    obtain ⟨ad, o, e2, r⟩ := R.own i d b
    rw [e'] at e2; cases e2
    exact ⟨ad, o, getσ.mpr e, r⟩
  inj := fun j k d e a h1 h2 h3 h4 => by
    rw [geti_map] at h1 h2
    obtain ⟨i, a1, b1, _⟩ := f.own j d h1
    obtain ⟨i', a2, b2, _⟩ := f.own k e h2
    obtain ⟨v, e1, e1'⟩ := A.inl a1
    obtain ⟨v', e2, e2'⟩ := A.inl a2
    rw [getσ.mp h3] at e1; cases e1
    rw [getσ.mp h4] at e2; cases e2
    have : i = i' := R.inj i i' d e a b1 b2 e1' e2'
    subst this
    exact f.one j k i d e h1 h2 a1 a2
theorem FS.ownA {args : List Arg} {as : List (Bool × D)} {vs : List V} (f : FS args m as m1) (A : AR K σ Hs vs args) {b : Addr} (h : Own (vs.map some) (as.map some) b) : ∃ (j i : Nat) (d : D), args[j]? = some (.inl i) ∧ as[j]? = some (true, d) ∧ σ[i]? = some (some (.ref b)) ∧ geti m i = some (true, d) := by
  obtain ⟨j, d, h1, h2⟩ := h
  rw [geti_map] at h2
  obtain ⟨i, a, b, _⟩ := f.own j d h2
  obtain ⟨v, e, e'⟩ := A.inl a
  rw [getσ.mp h1] at e; cases e
  exact ⟨j, i, d, a, h2, e', b⟩
/-- behind the call -/
theorem FS.after {args : List Arg} {as fs : List (Bool × D)} {vs : List V} {fr : Bool} {v : V} {d : D} (f : FS args m as m1) (R : REnv K Hs H σ m) (A : AR K σ Hs vs args) (hl : fs.length = as.length)
    (R' : REnv K Hs' H' (vs.map some) (fs.map some)) (F : Fram Hs H (Own (vs.map some) (as.map some)) Hs' H' (OV (Own (vs.map some) (fs.map some)) fr v)) (r : RV K Hs' H' (Own (vs.map some) (fs.map some)) fr v d) :
    REnv K Hs' H' σ (back args as fs m1) ∧ Fram Hs H (Own σ m) Hs' H' (OV (Own σ (back args as fs m1)) fr v) ∧ RV K Hs' H' (Own σ (back args as fs m1)) fr v d := by
  have bs := fun i => back_spec (args := args) (as := as) (fs := fs) (m := m1) i f.len hl
  have lt : ∀ (i j : Nat), args[j]? = some (.inl i) → i < m1.length := fun i j h => by
    have hj : j < as.length := by
      rw [f.len]
      by_cases q : j < args.length
      · exact q
      · rw [List.getElem?_eq_none (by omega)] at h; cases h
    have e : as[j]? = some as[j] := List.getElem?_eq_getElem hj
    rw [f.mlen]
    rcases hb : as[j] with ⟨b, x⟩
    rw [hb] at e
    cases b with
    | true =>
      obtain ⟨i', a, b, _⟩ := f.own j x e
      rw [h] at a; cases a
      exact geti_lt b
    | false =>
      rcases f.sh j x e with q | ⟨i', a, b⟩
      · rw [h] at q; cases q
      · rw [h] at a; cases a
        exact geti_lt b
  -- an untaken name stands as it stood
  have back' : ∀ i p, geti (back args as fs m1) i = some p → (∃ (j : Nat) (e : D), args[j]? = some (.inl i) ∧ as[j]? = some (true, e) ∧ fs[j]? = some p) ∨
      (geti m i = some p ∧ ∀ (j : Nat) (e : D), args[j]? = some (.inl i) → as[j]? ≠ some (true, e)) := fun i p h => by
    rcases bs i (lt i) with ⟨j, e, g, a1, a2, a3, a4⟩ | ⟨b1, b2⟩
    · rw [a4] at h; cases h
      exact .inl ⟨j, e, a1, a2, a3⟩
    · rw [b1] at h
      rcases f.stay i with q | ⟨q, _⟩
      · rw [q] at h
        exact .inr ⟨h, b2⟩
      · rw [q] at h; cases h
  have notOwn : ∀ i e a, geti m i = some (true, e) → σ[i]? = some (some (.ref a)) → (∀ (j : Nat) (x : D), args[j]? = some (.inl i) → as[j]? ≠ some (true, x)) → ¬ Own (vs.map some) (as.map some) a := fun i e a h1 h2 h3 h => by
    obtain ⟨j, i', x, a1, a2, a3, a4⟩ := f.ownA A h
    have : i = i' := R.inj i i' e x a h1 a4 h2 a3
    subst this
    exact h3 j x a1 a2
  have fsAt : ∀ {j i : Nat} {e : D} {b : Bool}, args[j]? = some (.inl i) → as[j]? = some (true, e) → ∀ {x : D}, fs[j]? = some (b, x) → ∃ a, vs[j]? = some (.ref a) ∧ σ[i]? = some (some (.ref a)) ∧ geti m i = some (true, e) := fun {j i e b} h1 h2 {x} h3 => by
    obtain ⟨i', a, b', _⟩ := f.own j e h2
    rw [h1] at a; cases a
    obtain ⟨w, e1, e1'⟩ := A.inl h1
    obtain ⟨ad, o, e2, _⟩ := R.own i e b'
    rw [e1'] at e2; cases e2
    exact ⟨ad, e1, e1', b'⟩
  have kept : ∀ i e a o, geti m i = some (true, e) → σ[i]? = some (some (.ref a)) → (∀ (j : Nat) (x : D), args[j]? = some (.inl i) → as[j]? ≠ some (true, x)) → H a = some o → (∀ ps, o ≠ .tbl ps) → Hs a = none → H' a = some o ∧ Hs' a = none := fun i e a o h1 h2 h3 h4 ht h5 => by
    have no := notOwn i e a h1 h2 h3
    refine ⟨F.keepN h4 no ht, ?_⟩
    cases q : Hs' a with
    | none => rfl
    | some u =>
      rcases F.news a (by rw [q]; simp) with z | z | z
      · exact absurd h5 z
      · obtain ⟨ps, z⟩ := z o h4
        exact absurd z (ht ps)
      · exact absurd z no
  have E : REnv K Hs' H' σ (back args as fs m1) := by
    refine ⟨R'.sub, by rw [back_len, f.mlen]; exact R.len, fun i e h => ?_, fun i e h => ?_, fun i k e x a h1 h2 h3 h4 => ?_⟩
    · rcases back' i _ h with ⟨j, y, a1, a2, a3⟩ | ⟨a1, _⟩
      · obtain ⟨a, e1, e2, _⟩ := fsAt a1 a2 a3
        obtain ⟨w, e3, r⟩ := R'.val j e (by rw [geti_map]; exact a3)
        rw [getσ.mpr e1] at e3; cases e3
        exact ⟨_, e2, r⟩
      · obtain ⟨w, e1, r⟩ := R.val i e a1
        exact ⟨w, e1, Rp.mono F.same _ _ r⟩
    · rcases back' i _ h with ⟨j, y, a1, a2, a3⟩ | ⟨a1, a2⟩
      · obtain ⟨a, e1, e2, _⟩ := fsAt a1 a2 a3
        obtain ⟨ad, o, e3, r⟩ := R'.own j e (by rw [geti_map]; exact a3)
        rw [getσ.mpr e1] at e3; cases e3
        exact ⟨_, o, e2, r⟩
      · obtain ⟨ad, o, e1, h1, h2, h3⟩ := R.own i e a1
        obtain ⟨k1, k2⟩ := kept i e ad o a1 e1 a2 h1 h2.notT h3
        exact ⟨ad, o, e1, k1, h2.mono F.same, k2⟩
    · have wasOwn : ∀ i e, geti (back args as fs m1) i = some (true, e) → ∃ y, geti m i = some (true, y) := fun i e h => by
        rcases back' i _ h with ⟨j, y, a1, a2, a3⟩ | ⟨a1, _⟩
        · obtain ⟨_, _, _, z⟩ := fsAt a1 a2 a3
          exact ⟨y, z⟩
        · exact ⟨e, a1⟩
      obtain ⟨y, hy⟩ := wasOwn i e h1
      obtain ⟨z, hz⟩ := wasOwn k x h2
      exact R.inj i k y z a hy hz h3 h4
  have ownB : ∀ b, Own (vs.map some) (as.map some) b → Own σ m b := fun b h => by
    obtain ⟨j, i, x, a1, a2, a3, a4⟩ := f.ownA A h
    exact ⟨i, x, a3, a4⟩
  have own2 : ∀ b, Own σ (back args as fs m1) b → Own σ m b := fun b ⟨i, x, h1, h2⟩ => by
    rcases back' i _ h2 with ⟨j, y, a1, a2, a3⟩ | ⟨a1, _⟩
    · obtain ⟨_, _, _, z⟩ := fsAt a1 a2 a3
      exact ⟨i, y, h1, z⟩
    · exact ⟨i, x, h1, a1⟩
  refine ⟨E, ⟨F.same, fun b o h n => F.keep b o h fun z => n (ownB b z), fun b h => (F.news b h).imp id fun z => z.imp id (ownB b), fun b h => ?_⟩, ?_⟩
  · rcases h with h | h
    · exact .inl (own2 b h)
    · exact (F.owns b (.inr h)).imp (ownB b) id
  · cases fr with
    | false => exact r
    | true =>
      obtain ⟨a, o, e1, h1, h2, h3, h4⟩ := r
      refine ⟨a, o, e1, h1, h2, h3, fun ⟨i, x, g1, g2⟩ => ?_⟩
      rcases back' i _ g2 with ⟨j, y, a1, a2, a3⟩ | ⟨a1, a2⟩
      · obtain ⟨ad, q1, q2, _⟩ := fsAt a1 a2 a3
        rw [g1] at q2; cases q2
        exact h4 ⟨j, x, getσ.mpr q1, by rw [geti_map]; exact a3⟩
      · obtain ⟨ad, o', q1, q2, q4, q3⟩ := R.own i x a1
        rw [g1] at q1; cases q1
        rcases F.owns a (.inr ⟨rfl, e1⟩) with z | z
        · exact notOwn i x a a1 g1 a2 z
        · exact z.no q2 q4
end
end Rc

set_option maxRecDepth 100000
/-! From the program's text to the language. -/
namespace Rc
open PySem L2

structure FnE where
  n : Nat
  f : MF
  ms : List Bool
/-- what is known of a def's names -/
structure TC where
  N : List Str
  sc : Scope
  fns : List (Str × FnE)
  cns : List (Str × D)
  /-- the names that are not asked for any more: in a loop behind each turn, behind a statement; by the statement's line -/
  kl : List (Nat × List Nat × List Nat) := []
  /-- a name whose value is known, and what isinstance says of it -/
  isx : Option (Str × D × List (Str × Bool)) := none
  /-- the def that tells of refusals, the kinds of them -/
  ref : Option (Str × List (Str × Nat)) := none

def isVis (sc : Scope) (x : Str) : Bool := match sc.names.lookup x with
  | some .local => true
  | some .cell => true
  | some .free => true
  | _ => false
def isGl (sc : Scope) (x : Str) : Bool := match sc.names.lookup x with
  | some .globalImplicit => true
  | _ => false
def ixOf (N : List Str) (x : Str) : Option Nat := N.findIdx? (· == x)
def okName (x : Str) : Bool := !(x == ("__debug__" : Str)) && !(x == ("__classdict__" : Str))

def bopOf : Operator → Option Bop
  | .Add => some .add | .Sub => some .sub | .Mult => some .mul | .FloorDiv => some .fdiv | .Mod => some .mod | .Pow => some .pow
  | _ => none
def copOf : CmpOp → Cop
  | .Eq => .eq | .NotEq => .ne | .Lt => .lt | .LtE => .le | .Gt => .gt | .GtE => .ge | .Is => .is | .IsNot => .isnot | .In => .isin | .NotIn => .notin
def isSlice : Expr → Bool
  | .Slice .. => true
  | .Starred .. => true
  | _ => false
/-- two names looked at -/
def isLook : Expr → Bool
  | .Call (.Name x _) [.Name _ _, .Name _ _] [] _ => x == ("_law_same" : Str)
  | _ => false
/-- expressions whose place in calls, truth and stores is the plain one -/
def isPlain : Expr → Bool
  | .BinOp .. | .UnaryOp .. | .Dict .. | .ListComp .. | .Call .. | .Constant .. | .Subscript .. | .Name .. | .List .. | .Tuple .. | .Compare .. | .BoolOp .. | .IfExp .. => true
  | _ => false
def tyNames : List (Str × String) := [("int", "int"), ("bool", "bool"), ("tuple", "tuple"), ("list", "list"), ("str", "str"), ("dict", "dict")]
def tyOfName (sc : Scope) (fns : List (Str × FnE)) : Expr → Option String
  | .Name x _ => if okName x && isGl sc x && (fns.lookup x).isNone then tyNames.lookup x else none
  | _ => none
def tysIn (sc : Scope) (fns : List (Str × FnE)) : List Expr → Option (List String)
  | [] => some []
  | e :: es => (tyOfName sc fns e).bind fun t => (tysIn sc fns es).map (t :: ·)
def nameList : List Expr → Option (List Str)
  | [] => some []
  | .Name x _ :: es => (nameList es).map (x :: ·)
  | _ :: _ => none
def tgtNames : Expr → Option (List Str)
  | .Name x _ => some [x]
  | .Tuple es _ _ => nameList es
  | _ => none
def tgtIx (N : List Str) : List Str → Option (List Nat)
  | [] => some []
  | x :: xs => (ixOf N x).bind fun i => (tgtIx N xs).map (i :: ·)
def isTup : Expr → Bool
  | .Tuple .. => true
  | _ => false
/-- a name that may be stored -/
def isLoc (sc : Scope) (x : Str) : Bool := match sc.names.lookup x with
  | some .local => true
  | some .cell => true
  | _ => false
def ownOf (N : List Str) (sc : Scope) : List (Str × Nat) := sc.names.filterMap fun (x, k) => match k with
  | .local | .cell => (ixOf N x).map fun i => (x, i)
  | _ => none
def bltOf (x : Str) (n : Nat) : Option Blt :=
  if x = "len" ∧ n = 1 then some .len else if x = "abs" ∧ n = 1 then some .abs else if x = "all" ∧ n = 1 then some .all else if x = "any" ∧ n = 1 then some .any
  else if x = "max" ∧ n = 2 then some .max2 else if x = "min" ∧ n = 2 then some .min2 else if x = "max" ∧ n = 1 then some .max1 else if x = "min" ∧ n = 1 then some .min1
  else if x = "tuple" ∧ n = 1 then some .tuple else if x = "list" ∧ n = 1 then some .list else if x = "int" ∧ n = 1 then some .int else none
def blts : List Str := ["len", "abs", "all", "any", "max", "min", "tuple", "list", "int", "isinstance", "range", "zip", "enumerate", "reversed", "bool", "str", "dict"]

def isxOf (c : TC) : Expr → Expr → Option E
  | .Name v _, .Name x _ => match c.isx with
    | some (v', d, l) => if v == v' && okName v && isVis c.sc v && okName x && isGl c.sc x && (c.fns.lookup x).isNone then (l.lookup x).bind fun b => (ixOf c.N v).map fun i => .isx i d b else none
    | none => none
  | _, _ => none
/-- a lambda's names, but the free ones -/
def othersOf (N : List Str) (sc : Scope) : List Nat := (List.range N.length).filter fun i => match N[i]? with
  | some x => !(match sc.names.lookup x with | some .free => true | _ => false)
  | none => true
/-- list(reversed(a)) -/
def lrOf (x : Str) : List Expr → Option Expr
  | [.Call (.Name y _) [a] [] _] => if x = ("list" : Str) ∧ y = ("reversed" : Str) then some a else none
  | _ => none
/-- behind or: a value that may be a tuple -/
def isVal : Expr → Bool
  | .Subscript _ _ _ => true
  | _ => false
mutual
def trE : Nat → TC → Expr → Option E
  | 0, _, _ => none
  | n + 1, c, .Name x _ => if okName x then (if isVis c.sc x then (ixOf c.N x).map .var else if isGl c.sc x then (c.cns.lookup x).map .con else none) else none
  | n + 1, c, .Constant (.int i) _ _ => some (.con (.int i))
  | n + 1, c, .Constant (.bool b) _ _ => some (.con (.bool b))
  | n + 1, c, .Constant .none _ _ => some (.con .none)
  | n + 1, c, .Constant (.str x) _ _ => some (.con (.str x))
  | n + 1, c, .BinOp a o b _ => (bopOf o).bind fun o => (trE n c a).bind fun a => (trE n c b).bind fun b => some (.bin o a b)
  | n + 1, c, .UnaryOp .USub a _ => (trE n c a).bind fun a => some (.neg a)
  | n + 1, c, .UnaryOp .Not a _ => (trE n c a).bind fun ea => some (.nt (if (isLook a && ea.vr.isNone) = true then .pk ea else ea))
  | n + 1, c, .BoolOp o es _ => trB n c o es
  | n + 1, c, .Compare a [o] [b] _ => (trE n c a).bind fun a' => (trE n c b).bind fun b' => some (.cmp (copOf o) a' b')
  | n + 1, c, .Compare a [o, o'] [b, d] _ => (trE n c a).bind fun a' => (trE n c b).bind fun b' => (trE n c d).bind fun d' => some (.chn (copOf o) (copOf o') a' b' d')
  | n + 1, c, .IfExp t a b _ => (trE n c t).bind fun t => (trE n c a).bind fun a => (trE n c b).bind fun b => some (.ite t a b)
  | n + 1, c, .Tuple es _ _ => (trEs n c es).bind fun es => some (.tup es)
  | n + 1, c, .List es _ => (trEs n c es).bind fun es => some (.lst es)
  | n + 1, c, .Dict [] [] _ => some .dct
  | n + 1, c, .Subscript a (.Slice none none (some (.UnaryOp .USub (.Constant (.int 1) _ _) _)) _) _ => (trE n c a).bind fun a => some (.rvs a)
  | n + 1, c, .Subscript a (.Slice lo hi none _) _ => (trE n c a).bind fun a => (trO n c lo).bind fun lo => (trO n c hi).bind fun hi => some (.slc a lo hi)
  | n + 1, c, .Subscript a b _ => if isSlice b then none else (trE n c a).bind fun a => (trE n c b).bind fun b => some (.idx a b)
  | n + 1, c, .Call (.Name x _) [.Lambda ⟨[], [], none, [], [], none, []⟩ body sc _] [] _ => match c.ref with
    | some (r, ks) => if x == r && okName x && isGl c.sc x && LamX.lamSB c.sc sc then (trE n { c with sc := sc, isx := none, ref := none } body).bind fun e => some (.rfd e (othersOf c.N sc) ks) else none
    | none => none
  | n + 1, c, .Call (.Name x _) (e₀ :: es₀) [] _ => let es := e₀ :: es₀
    if okName x && isGl c.sc x then
      (match c.fns.lookup x with
        | some e => if es.length = e.n then (trEs n c es).bind fun es => some (.call e.f e.ms es) else none
        | none => match x == ("isinstance" : Str), es with
          | true, [a, .Tuple ts _ _] => if isPlain a && decide (ts.length ≤ 100) then (trE n c a).bind fun a => (tysIn c.sc c.fns ts).bind fun ts => some (.isi a ts) else none
          | true, [a, t] => if let some q := isxOf c a t then some q else if isPlain a then (trE n c a).bind fun a => (tyOfName c.sc c.fns t).bind fun t => some (.isi a [t]) else none
          | true, _ => none
          | false, _ => match lrOf x es with
            | some a => if (isGl c.sc ("reversed" : Str) && isPlain a) = true then (trE n c a).bind fun a => some (.rvs a) else none
            | none => (bltOf x es.length).bind fun b => (trEs n c es).bind fun es => some (.blt b es)) else none
  | n + 1, c, .ListComp elt [⟨tg, iter, ifs, 0⟩] sc pos => if blkC c.N c.sc sc (ownOf c.N sc) then
      (tgtNames tg).bind fun xs => (tgtIx c.N xs).bind fun g => (trI n c tg iter).bind fun it =>
        let c' : TC := { c with sc := relS sc c.sc, isx := none, ref := none }
        if xs.all (fun x => isLoc c'.sc x && isLoc sc x) && g.all (fun i => (ownOf c.N sc).any fun p => p.2 == i) && decide g.Nodup && (!(isTup tg) || decide (g.length ≠ 1)) then
          (trE n c' elt).bind fun e => (trT n c' ifs).bind fun t => some (.lc e g it t ((ownOf c.N sc).map (·.2)))
        else none else none
  | _, _, _ => none
def trB : Nat → TC → BoolOp → List Expr → Option E
  | 0, _, _, _ => none
  | n + 1, c, _, [a] => trE n c a
  | n + 1, c, .And, a :: b :: r => (trE n c a).bind fun a => (trB n c .And (b :: r)).bind fun b => some (.and a b)
  | n + 1, c, .Or, [a, b] => if isVal b = true then (trE n c a).bind fun a => (trE n c b).bind fun b => some (.vor a b) else (trE n c a).bind fun a => (trB n c .Or [b]).bind fun b => some (.or a b)
  | n + 1, c, .Or, a :: b :: r => (trE n c a).bind fun a => (trB n c .Or (b :: r)).bind fun b => some (.or a b)
  | _, _, _, _ => none
def trEs : Nat → TC → List Expr → Option Es
  | 0, _, _ => none
  | n + 1, _, [] => some .nil
  | n + 1, c, e :: es => if isPlain e then (trE n c e).bind fun e => (trEs n c es).bind fun es => some (.cons e es) else none
def trO : Nat → TC → Option Expr → Option E
  | 0, _, _ => none
  | n + 1, _, none => some (.con .none)
  | n + 1, c, some e => match trE n c e with
    | some (.con .none) => none
    | r => r
def trT : Nat → TC → List Expr → Option E
  | 0, _, _ => none
  | n + 1, _, [] => some (.con (.bool true))
  | n + 1, c, [e] => trE n c e
  | _, _, _ => none
def trI : Nat → TC → Expr → Expr → Option It
  | 0, _, _, _ => none
  | n + 1, c, tg, e => match e with
    | .Call (.Name x p) es [] q =>
      if (okName x && isGl c.sc x && (c.fns.lookup x).isNone && (es.all isPlain)) = true then
        if x = ("range" : Str) then (match es with
          | [a] => (trE n c a).bind fun a => some (.rg a)
          | [a, b] => (trE n c a).bind fun a => (trE n c b).bind fun b => some (.rg2 a b)
          | _ => none)
        else if x = ("zip" : Str) then (match es with
          | [a, b] => if isTup tg = true then (trE n c a).bind fun a => (trE n c b).bind fun b => some (.zp a b) else (match tg with
            | .Name _ _ => (trE n c a).bind fun a => (trE n c b).bind fun b => some (.zn a b)
            | _ => none)
          | [a, b, d] => if isTup tg = true then (trE n c a).bind fun a => (trE n c b).bind fun b => (trE n c d).bind fun d => some (.zp3 a b d) else none
          | _ => none)
        else if x = ("enumerate" : Str) then (match es with
          | [a] => if isTup tg = true then (trE n c a).bind fun a => some (.en a) else none
          | _ => none)
        else if x = ("reversed" : Str) then (match es with
          | [a] => (trE n c a).bind fun a => some (.rv a)
          | _ => none)
        else (trE n c (.Call (.Name x p) es [] q)).bind fun e => some (.sq e)
      else (trE n c (.Call (.Name x p) es [] q)).bind fun e => some (.sq e)
    | e => if isPlain e then (trE n c e).bind fun e => some (.sq e) else none
end
end Rc

set_option maxRecDepth 100000
set_option maxHeartbeats 4000000
/-! Expressions: the model does what the language says. -/
namespace Rc
open PySem L2
variable [Tbs]

structure Callable (X : Cx) (W : XK) (x : Str) (e : FnE) : Prop where
  ex : ∃ (f : Addr) (fd : FuncData) (ps : List Str) (k : Nat), FnOk X.prog X.w X.K X.mg X.base (L2.CX X.prog X.w) k f fd ps (spM X.K X.mg e.n e.f) ∧ Room k X.A ∧ X.mg x = some (.ref f) ∧
    PySem.W.keepIn X.K (.ref f) = true ∧ Binds X.K fd ps [] ∧ Passes (L2.CX X.prog X.w) X W
structure GoodB (X : Cx) (W : XK) (c : TC) : Prop where
  calm : X.calm = true
  N : X.N = c.N
  nd : X.N.Nodup
  sc : X.env.scope = c.sc
  hu : X.A.units + 65 < cLine
  fns : ∀ x e, c.fns.lookup x = some e → Callable X W x e
  cns : ∀ x d, c.cns.lookup x = some d → ∃ v u, X.mg x = some u ∧ RelV v u ∧ ∀ H, Rp X.K H v d
  blt : ∀ x ∈ blts, X.mg x = none
  isx : ∀ v d l x b i, c.isx = some (v, d, l) → l.lookup x = some b → ixOf c.N v = some i → isGl c.sc "isinstance" = true → okName v = true → isVis c.sc v = true → okName x = true → isGl c.sc x = true → ∀ p p1 p2 p3, PE X (.Call (.Name ("isinstance" : Str) p) [.Name v p1, .Name x p2] [] p3) (fun σ H Q => (∃ Hs u, σ[i]? = some (some u) ∧ Rp X.K Hs u d) ∧ Q (.bl b) H)
/-- what is known of a refusal's class -/
structure KindOk (K : PySem.W.Frag) (mg : Str → Option Value) (CE : Addr) (tens : List Str) (x : Str) (i : Nat) : Prop where
  ex : ∃ C, mg x = some (.ref C) ∧ PySem.W.exmOne K (.ref C) (.ref CE) = some true ∧ ExcC K C ∧ (∀ j y, tens[j]? = some y → ∃ Dy, mg y = some (.ref Dy) ∧ PySem.W.kitOne K (.ref C) (.ref Dy) = some (decide (i = j))) ∧ PySem.W.kitOne K (.ref C) (.type "ValueError") = some true
/-- what the def that tells of refusals makes of the reading of what it calls -/
def TTr (mg : Str → Option Value) (ks : List (Str × Nat)) : (XK → Hp → VK → Prop) → Hp → VK → Prop := fun tl H Q => LamX.Tabs Tbs.T H ∧ ∀ (E' : XK) (Q' : VK),
  (∀ cls d H', (LamX.Tabs Tbs.T H' ∧ ∃ x i C, ks.lookup x = some i ∧ mg x = some (.ref C) ∧ cls = .ref C ∧ d = none ∧ ∀ H2, LamX.ExtN H' H2 → LamX.Tabs Tbs.T H2 → ∀ p, H2 p = none → Q (.ref p) (upd H2 p (.lst [.int (i : Int)]))) → E' cls d H') →
  (∀ v H', (LamX.Tabs Tbs.T H' ∧ ∀ H2, LamX.ExtN H' H2 → LamX.Tabs Tbs.T H2 → Q .non H2) → Q' v H') → tl E' H Q'
structure RefOk (X : Cx) (c : TC) (r : Str) (ks : List (Str × Nat)) : Prop where
  ex : ∃ (g cd P : Addr) (a : Str) (Ng : List Str) (k : Nat) (pg : Arguments) (bg : List Stmt) (sg : Scope) (dV kV doc pm cdv ct oc : Value) (an od : Option Addr) (osl : Array (Option Value)),
    X.mg r = some (.ref g) ∧ PySem.W.keepIn X.K (.ref g) = true ∧ X.K.lookup g = some ⟨oc, od, .func (PySem.W.fnOf r r pg bg sg dV kV doc pm an cdv ct), osl⟩ ∧ PySem.W.codeIn X.K cdv r = true ∧ L2.Binds X.K (PySem.W.fnOf r r pg bg sg dV kV doc pm an cdv ct) [a] [] ∧
    FnScope Ng [a] sg ∧ Ng[0]? = some a ∧ Vis sg a ∧ okName a = true ∧ LamX.GivesTo X Ng r sg g cdv bg a (X.env.qual ++ "<lambda>") (TTr X.mg ks) ∧ LamX.TabB X.base X.mg cd P ∧ X.env.code = .ref cd ∧ (P, X.env.qual ++ "<lambda>") ∈ Tbs.T ∧
    (∀ p ∈ Tbs.T, p.1 = P → p.2 = X.env.qual ++ "<lambda>") ∧ Room (k + 2) X.A ∧
    ∀ (scope : Scope) (A : Around) (outer : List PySem.Env) (s : Shared) (H : Hp) (E : XK) (f c' : Addr), LamX.LamS X.env.scope scope → Room k (A.deeper (LamX.lamEnv X scope s.heap.objs.size f c')) → GoodB (LamX.lamCx X A outer s H E scope f c') E { c with sc := scope, isx := none, ref := none }
structure Good (X : Cx) (W : XK) (c : TC) : Prop extends GoodB X W c where
  ref : ∀ r ks, c.ref = some (r, ks) → RefOk X c r ks

def XcE (mg : Str → Option Value) (W : XK) (σ : L2.St) (H : Hp) (m : Env) (x : Str) : Prop := ∀ C H', mg x = some (.ref C) → ExF H (Own σ m) H' → W (.ref C) none H'
def tE (K : PySem.W.Frag) (mg : Str → Option Value) (W : XK) (e : E) : TE := fun σ H Q => ∃ Hs m, REnv K Hs H σ m ∧
  PostR (fun p => ∀ v Hs' H', REnv K Hs' H' σ p.2 → Fram Hs H (Own σ m) Hs' H' (OV (Own σ p.2) p.1.1 v) → RR K e σ p.2 Hs' H' p.1.1 v p.1.2 → Q v H') (XcE mg W σ H m) (ev e m)
def tT (K : PySem.W.Frag) (mg : Str → Option Value) (W : XK) (e : E) : TT := fun σ H Q => ∃ Hs m, REnv K Hs H σ m ∧
  PostR (fun p => ∀ Hs' H', REnv K Hs' H' σ p.2 → Fram Hs H (Own σ m) Hs' H' (Own σ p.2) → Q p.1 H') (XcE mg W σ H m) (evC e m)
def tO (K : PySem.W.Frag) (mg : Str → Option Value) (W : XK) (es : Es) : TA := fun σ H Q => ∃ Hs m, REnv K Hs H σ m ∧
  PostR (fun p => ∀ vs Hs' H', REnv K Hs' H' σ p.2 → Fram Hs H (Own σ m) Hs' H' (Own σ p.2) → Paired (fun v (q : E × D) => BR K q.1 σ Hs' v q.2) vs p.1 → Q vs H') (XcE mg W σ H m) (evO es m)
def tS (K : PySem.W.Frag) (mg : Str → Option Value) (W : XK) (es : Es) : TA := fun σ H Q => ∃ Hs m, REnv K Hs H σ m ∧
  PostR (fun p => ∀ vs Hs' H', REnv K Hs' H' σ p.2 → Fram Hs H (Own σ m) Hs' H' (Own σ p.2) → RpA K Hs' vs p.1 → Q vs H') (XcE mg W σ H m) (evs es m)
def tAr (K : PySem.W.Frag) (mg : Str → Option Value) (W : XK) (ms : List Bool) (es : Es) : TA := fun σ H Q => ∃ Hs m, REnv K Hs H σ m ∧
  PostR (fun p => ∀ vs Hs' H', REnv K Hs' H' σ p.2 → Fram Hs H (Own σ m) Hs' H' (Own σ p.2) → AR K σ Hs' vs p.1 → Q vs H') (XcE mg W σ H m) (evA ms es m)

theorem PE.imp {X : Cx} {e : Expr} {t t' : TE} (h : PE X e t) (i : ∀ σ H Q, t' σ H Q → t σ H Q) : PE X e t' := ⟨fun pins s σ H Q I q => h.run pins s σ H Q I (i σ H Q q)⟩
theorem PT.imp {X : Cx} {e : Expr} {t t' : TT} (h : PT X e t) (i : ∀ σ H Q, t' σ H Q → t σ H Q) : PT X e t' := ⟨fun pins s σ H Q I q => h.run pins s σ H Q I (i σ H Q q)⟩
theorem PW.imp {X : Cx} {e : Expr} {t t' : TT} (h : PW X e t) (i : ∀ σ H Q, t' σ H Q → t σ H Q) : PW X e t' := ⟨fun wh pins s σ H Q I q => h.run wh pins s σ H Q I (i σ H Q q)⟩
theorem PA.imp {X : Cx} {e : List Expr} {t t' : TA} (h : PA X e t) (i : ∀ σ H Q, t' σ H Q → t σ H Q) : PA X e t' := ⟨fun pos pins s σ H Q I q => h.run pos pins s σ H Q I (i σ H Q q)⟩

section
variable {K : PySem.W.Frag} {mg : Str → Option Value} {W : XK} {Hs H Hs' H' Hs1 H1 : Hp} {σ : L2.St} {m m' m1 : Env}
theorem XcE.next {x : Str} (F : Fram Hs H (Own σ m) Hs1 H1 (Own σ m1)) (h : XcE mg W σ H m x) : XcE mg W σ H1 m1 x := fun C H' hm e => h C H' hm (ExF.trans F e)
theorem PostR.next {α : Type} {P : α → Prop} {r : Res α} (F : Fram Hs H (Own σ m) Hs1 H1 (Own σ m1)) (h : PostR P (XcE mg W σ H m) r) : PostR P (XcE mg W σ H1 m1) r := h.imp (fun _ z => z) fun _ z => z.next F
theorem tE_mono {e : E} {Q Q' : VK} (h : tE K mg W e σ H Q) (i : ∀ v H', Q v H' → Q' v H') : tE K mg W e σ H Q' := by
  obtain ⟨Hs, m, R, h⟩ := h
  exact ⟨Hs, m, R, h.imp (fun p hp v Hs' H' a b c => i _ _ (hp v Hs' H' a b c)) fun _ z => z⟩
theorem told {v : V} {d : D} (R : REnv K Hs1 H1 σ m1) (F : Fram Hs H (Own σ m) Hs1 H1 (OV (Own σ m1) true v)) (r : RV K Hs1 H1 (Own σ m1) true v d) :
    ∃ Hs2, REnv K Hs2 H1 σ m1 ∧ Fram Hs H (Own σ m) Hs2 H1 (Own σ m1) ∧ Rp K Hs2 v d ∧ Same Hs1 Hs2 := by
  obtain ⟨a, o, rfl, h1, h2, h3, h4⟩ := r
  have s : Same Hs1 (upd Hs1 a o) := Same.upd h3
  refine ⟨upd Hs1 a o, ⟨R.sub.tell h1 h2.notT, R.len, fun i d h => ?_, fun i d h => ?_, R.inj⟩, ⟨F.same.trans s, F.keep, fun b h => ?_, fun b h => F.owns b (.inl h)⟩, h2.rp h3, s⟩
  · obtain ⟨v, e, r⟩ := R.val i d h
    exact ⟨v, e, Rp.mono s _ _ r⟩
  · obtain ⟨b, u, e, q1, q2, q3⟩ := R.own i d h
    refine ⟨b, u, e, q1, q2.mono s, ?_⟩
    rw [upd_ne]
    · exact q3
    · rintro rfl
      exact h4 ⟨i, d, e, h⟩
  · by_cases hb : b = a
    · subst hb
      exact .inr ((F.owns b (.inr ⟨rfl, rfl⟩)).elim .inr .inl)
    · rw [upd_ne hb] at h
      exact F.news b h
theorem OV_false {O : Addr → Prop} {v : V} : OV O false v = O := by
  funext b
  simp [OV]
theorem BR.of_none {e : E} (h : e.vr = none) {v : V} {d : D} (r : Rp K Hs v d) : BR K e σ Hs v d := by unfold BR; rw [h]; exact r
theorem BR.to_none {e : E} (h : e.vr = none) {v : V} {d : D} (b : BR K e σ Hs v d) : Rp K Hs v d := by unfold BR at b; rw [h] at b; exact b
/-- the value of an operand, told of -/
theorem rr_br {e : E} {fr : Bool} {v : V} {d : D} (R : REnv K Hs1 H1 σ m1) (F : Fram Hs H (Own σ m) Hs1 H1 (OV (Own σ m1) fr v)) (r : RR K e σ m1 Hs1 H1 fr v d) :
    ∃ Hs2, REnv K Hs2 H1 σ m1 ∧ Fram Hs H (Own σ m) Hs2 H1 (Own σ m1) ∧ BR K e σ Hs2 v d ∧ (∀ i, e.vr = some i → ∃ f, geti m1 i = some (f, d)) := by
  unfold RR at r
  unfold BR
  cases q : e.vr with
  | some i =>
    rw [q] at r
    exact ⟨Hs1, R, F.weak fun b h => .inl h, r.1, fun j hj => by cases hj; exact r.2⟩
  | none =>
    rw [q] at r
    cases fr with
    | false => exact ⟨Hs1, R, F.weak fun b h => .inl h, r, fun j hj => by cases hj⟩
    | true =>
      obtain ⟨Hs2, R2, F2, r2, _⟩ := told R F r
      exact ⟨Hs2, R2, F2, r2, fun j hj => by cases hj⟩
theorem step {β : Type} {a : E} {P : β → Prop} {f : (Bool × D) × Env → Res β} {Q : VK} (R : REnv K Hs H σ m) (h : PostR P (XcE mg W σ H m) ((ev a m).bind f))
    (k : ∀ p v Hs1 H1, PostR P (XcE mg W σ H1 p.2) (f p) → REnv K Hs1 H1 σ p.2 → Fram Hs H (Own σ m) Hs1 H1 (Own σ p.2) → BR K a σ Hs1 v p.1.2 → (∀ i, a.vr = some i → ∃ f, geti p.2 i = some (f, p.1.2)) → Q v H1) : tE K mg W a σ H Q := by
  refine ⟨Hs, m, R, h.bind.imp (fun p hp v Hs' H' R' F r => ?_) fun x hx => hx⟩
  obtain ⟨Hs2, R2, F2, b, g⟩ := rr_br R' F r
  exact k p v Hs2 H' (hp.next F2) R2 F2 b g
theorem step' {β : Type} {a : E} {P : β → Prop} {f : (Bool × D) × Env → Res β} {Q : VK} (R : REnv K Hs H σ m) (h : PostR P (XcE mg W σ H m) ((ev a m).bind f))
    (k : ∀ p v Hs1 H1, ev a m = .ok p → PostR P (XcE mg W σ H1 p.2) (f p) → REnv K Hs1 H1 σ p.2 → Fram Hs H (Own σ m) Hs1 H1 (Own σ p.2) → BR K a σ Hs1 v p.1.2 → (∀ i, a.vr = some i → ∃ f, geti p.2 i = some (f, p.1.2)) → Q v H1) : tE K mg W a σ H Q := by
  refine ⟨Hs, m, R, ?_⟩
  cases q : ev a m with
  | bad => rw [q] at h; exact h.elim
  | exc x => rw [q] at h; exact h
  | ok p =>
    rw [q] at h
    intro v Hs' H' R' F r
    have hp : PostR P (XcE mg W σ H m) (f p) := h
    obtain ⟨Hs2, R2, F2, b, g⟩ := rr_br R' F r
    exact k p v Hs2 H' q (hp.next F2) R2 F2 b g
/-- .. where nothing is raised -/
theorem step0 {β : Type} {a : E} {P : β → Prop} {f : (Bool × D) × Env → Res β} {Q : VK} (R : REnv K Hs H σ m) (h : PostR P (fun _ => False) ((ev a m).bind f))
    (k : ∀ p v Hs1 H1, PostR P (fun _ => False) (f p) → REnv K Hs1 H1 σ p.2 → Fram Hs H (Own σ m) Hs1 H1 (Own σ p.2) → BR K a σ Hs1 v p.1.2 → (∀ i, a.vr = some i → ∃ f, geti p.2 i = some (f, p.1.2)) → Q v H1) : tE K mg W a σ H Q := by
  refine ⟨Hs, m, R, h.bind.imp (fun p hp v Hs' H' R' F r => ?_) fun x hx => hx.elim⟩
  obtain ⟨Hs2, R2, F2, b, g⟩ := rr_br R' F r
  exact k p v Hs2 H' hp R2 F2 b g
/-- an operand at once -/
theorem now {e : E} {d : D} {v : V} (R : REnv K Hs H σ m) (b : BR K e σ Hs v d) (g : ∀ i, e.vr = some i → ∃ f, geti m i = some (f, d)) : RB K Hs H v d := by
  refine R.op b ?_
  rw [rd_eq]
  cases q : e.vr with
  | none => rfl
  | some i =>
    obtain ⟨f, z⟩ := g i q
    show (geti m i).map (·.2) = some d
    rw [z]
    rfl
/-- the taking of a name -/
theorem leak_ok {i : Nat} {f : Bool} {d : D} {v : V} (R : REnv K Hs1 H1 σ m1) (e : σ[i]? = some (some v)) (h : geti m1 i = some (f, d)) :
    ∃ Hs2, REnv K Hs2 H1 σ (leak m1 i) ∧ Fram Hs1 H1 (Own σ m1) Hs2 H1 (Own σ (leak m1 i)) ∧ Rp K Hs2 v d ∧ Same Hs1 Hs2 := by
  cases f with
  | false =>
    have el : leak m1 i = m1 := by unfold leak; rw [h]
    rw [el]
    obtain ⟨v', e', r⟩ := R.val i d h
    rw [e] at e'; cases e'
    exact ⟨Hs1, R, Fram.refl, r, Same.refl _⟩
  | true =>
    have el : leak m1 i = m1.set i (some (false, d)) := by unfold leak; rw [h]
    rw [el]
    obtain ⟨a, o, e', h1, h2, h3⟩ := R.own i d h
    rw [e] at e'; cases e'
    have s : Same Hs1 (upd Hs1 a o) := Same.upd h3
    have lt := geti_lt h
    have nown : ∀ j x, geti (m1.set i (some (false, d))) j = some (true, x) → j ≠ i ∧ geti m1 j = some (true, x) := fun j x z => by
      by_cases hj : j = i
      · subst hj; rw [geti_set_same lt] at z; cases z
      · rw [geti_set_ne (Ne.symm hj)] at z; exact ⟨hj, z⟩
    refine ⟨upd Hs1 a o, ⟨R.sub.tell h1 h2.notT, by simp [R.len], fun j x z => ?_, fun j x z => ?_, fun j k x y b z1 z2 z3 z4 => R.inj j k x y b (nown j x z1).2 (nown k y z2).2 z3 z4⟩, ⟨s, fun b u q _ => .inl q, fun b q => ?_, fun b ⟨j, x, z1, z2⟩ => .inl ⟨j, x, z1, (nown j x z2).2⟩⟩, h2.rp h3, s⟩
    · by_cases hj : j = i
      · subst hj
        rw [geti_set_same lt] at z
        cases z
        exact ⟨_, e, h2.rp h3⟩
      · rw [geti_set_ne (Ne.symm hj)] at z
        obtain ⟨w, q, r⟩ := R.val j x z
        exact ⟨w, q, Rp.mono s _ _ r⟩
    · obtain ⟨hj, z'⟩ := nown j x z
      obtain ⟨b, u, q, q1, q2, q3⟩ := R.own j x z'
      refine ⟨b, u, q, q1, q2.mono s, ?_⟩
      rw [upd_ne]
      · exact q3
      · rintro rfl
        exact hj (R.inj j i x d b z' h q e)
    · by_cases hb : b = a
      · subst hb; exact .inr (.inr ⟨i, d, e, h⟩)
      · rw [upd_ne hb] at q; exact .inl q
/-- .. taken -/
theorem stepT {β : Type} {a : E} {P : β → Prop} {f : (Bool × D) × Env → Res β} {Q : VK} (R : REnv K Hs H σ m) (h : PostR P (XcE mg W σ H m) ((ev a m).bind f))
    (k : ∀ p v Hs1 H1, PostR P (XcE mg W σ H1 (tkm a p.2)) (f p) → REnv K Hs1 H1 σ (tkm a p.2) → Fram Hs H (Own σ m) Hs1 H1 (Own σ (tkm a p.2)) → Rp K Hs1 v p.1.2 → Q v H1) : tE K mg W a σ H Q := by
  refine step R h fun p v Hs1 H1 hp R1 F1 b g => ?_
  have kk := k p v
  rw [tkm_eq] at kk
  unfold BR at b
  cases q : a.vr with
  | none =>
    rw [q] at b kk
    exact kk Hs1 H1 hp R1 F1 b
  | some i =>
    rw [q] at b kk
    obtain ⟨fl, z⟩ := g i q
    obtain ⟨Hs2, R2, F2, r2, _⟩ := leak_ok R1 b z
    exact kk Hs2 H1 (hp.next F2) R2 (F1.trans F2) r2
theorem stepT0 {β : Type} {a : E} {P : β → Prop} {f : (Bool × D) × Env → Res β} {Q : VK} (R : REnv K Hs H σ m) (h : PostR P (fun _ => False) ((ev a m).bind f))
    (k : ∀ p v Hs1 H1, PostR P (fun _ => False) (f p) → REnv K Hs1 H1 σ (tkm a p.2) → Fram Hs H (Own σ m) Hs1 H1 (Own σ (tkm a p.2)) → Rp K Hs1 v p.1.2 → Q v H1) : tE K mg W a σ H Q := by
  refine step0 R h fun p v Hs1 H1 hp R1 F1 b g => ?_
  have kk := k p v
  rw [tkm_eq] at kk
  unfold BR at b
  cases q : a.vr with
  | none =>
    rw [q] at b kk
    exact kk Hs1 H1 hp R1 F1 b
  | some i =>
    rw [q] at b kk
    obtain ⟨fl, z⟩ := g i q
    obtain ⟨Hs2, R2, F2, r2, _⟩ := leak_ok R1 b z
    exact kk Hs2 H1 hp R2 (F1.trans F2) r2
end
end Rc

set_option maxRecDepth 100000
set_option maxHeartbeats 4000000
namespace Rc
open PySem L2
variable [Tbs]
section
variable {X : Cx} {W : XK} {c : TC}
abbrev PEm (X : Cx) (W : XK) (x : Expr) (e : E) : Prop := PE X x (tE X.K X.mg W e)
abbrev PTm (X : Cx) (W : XK) (x : Expr) (e : E) : Prop := PT X x (tT X.K X.mg W e)
abbrev PWm (X : Cx) (W : XK) (x : Expr) (e : E) : Prop := PW X x (tT X.K X.mg W e)

/-! ### a result at once -/
theorem fin_sh {K : PySem.W.Frag} {mg : Str → Option Value} {W : XK} {Hs H : Hp} {σ : L2.St} {m m1 : Env} {Hs1 H1 : Hp} {e : E} {d : D} {v : V} {Q : VK} (he : e.vr = none)
    (h : ∀ v Hs' H', REnv K Hs' H' σ m1 → Fram Hs H (Own σ m) Hs' H' (OV (Own σ m1) false v) → RR K e σ m1 Hs' H' false v d → Q v H') (R : REnv K Hs1 H1 σ m1) (F : Fram Hs H (Own σ m) Hs1 H1 (Own σ m1)) (r : Rp K Hs1 v d) : Q v H1 := by
  refine h v Hs1 H1 R (by rw [OV_false]; exact F) ?_
  unfold RR
  rw [he]
  exact r
/-- a new list -/
theorem fin_new {K : PySem.W.Frag} {Hs H : Hp} {σ : L2.St} {m m1 : Env} {Hs1 H1 : Hp} {e : E} {d : D} {o : HO} {Q : VK} (he : e.vr = none)
    (h : ∀ v Hs' H', REnv K Hs' H' σ m1 → Fram Hs H (Own σ m) Hs' H' (OV (Own σ m1) true v) → RR K e σ m1 Hs' H' true v d → Q v H') (R : REnv K Hs1 H1 σ m1) (F : Fram Hs H (Own σ m) Hs1 H1 (Own σ m1)) (c : Cont K Hs1 o d)
    (p : Addr) (n : H1 p = none) : Q (.ref p) (upd H1 p o) := by
  have nO : ¬ Own σ m1 p := fun ⟨i, x, a, b⟩ => by
    obtain ⟨q, u, e1, e2, _⟩ := R.own i x b
    rw [a] at e1; cases e1
    rw [n] at e2; cases e2
  have nS : Hs1 p = none := by
    cases q : Hs1 p with
    | none => rfl
    | some u => rw [R.sub p u q] at n; cases n
  have hn : ∀ b u, H1 b = some u → b ≠ p := fun b u q z => by rw [z, n] at q; cases q
  refine h (.ref p) Hs1 (upd H1 p o) ⟨R.sub.new n, R.len, R.val, fun i x z => ?_, R.inj⟩ ⟨F.same, fun b u q k => F.keepU n q k, F.news, fun b z => ?_⟩ ?_
  · obtain ⟨b, u, e1, e2, e3⟩ := R.own i x z
    exact ⟨b, u, e1, by rw [upd_ne (hn b u e2)]; exact e2, e3⟩
  · rcases z with z | ⟨_, z⟩
    · exact F.owns b z
    · cases z
      by_cases q : Own σ m p
      · exact .inl q
      · exact .inr (F.none n q)
  · unfold RR
    rw [he]
    exact ⟨p, o, rfl, upd_same, c, nS, nO⟩
/-- a new tuple -/
theorem fin_tup {K : PySem.W.Frag} {Hs H : Hp} {σ : L2.St} {m m1 : Env} {Hs1 H1 : Hp} {e : E} {ds : List D} {vs : List V} {Q : VK} (he : e.vr = none)
    (h : ∀ v Hs' H', REnv K Hs' H' σ m1 → Fram Hs H (Own σ m) Hs' H' (OV (Own σ m1) false v) → RR K e σ m1 Hs' H' false v (.tuple ds) → Q v H') (R : REnv K Hs1 H1 σ m1) (F : Fram Hs H (Own σ m) Hs1 H1 (Own σ m1)) (c : RpA K Hs1 vs ds)
    (p : Addr) (n : H1 p = none) : Q (.ref p) (upd H1 p (.tup vs)) := by
  have nS : Hs1 p = none := by
    cases q : Hs1 p with
    | none => rfl
    | some u => rw [R.sub p u q] at n; cases n
  have hn : ∀ b u, H1 b = some u → b ≠ p := fun b u q z => by rw [z, n] at q; cases q
  have s : Same Hs1 (upd Hs1 p (.tup vs)) := Same.upd nS
  have nO : ∀ b, Own σ m1 b → b ≠ p := fun b ⟨i, x, a, z⟩ q => by
    obtain ⟨q', u, e1, e2, _⟩ := R.own i x z
    rw [a] at e1; cases e1
    rw [q, n] at e2; cases e2
  refine fin_sh (mg := fun _ => none) (W := fun _ _ _ => True) (Hs1 := upd Hs1 p (.tup vs)) he h ⟨(R.sub.new n).tell upd_same (fun ps z => by cases z), R.len, fun i x z => ?_, fun i x z => ?_, R.inj⟩ ⟨F.same.trans s, fun b u q k => F.keepU n q k, fun b z => ?_, F.owns⟩ (.tup (.inl (.inl upd_same)) (RpA.mono s _ _ c))
  · obtain ⟨w, e1, r⟩ := R.val i x z
    exact ⟨w, e1, Rp.mono s _ _ r⟩
  · obtain ⟨b, u, e1, e2, e3, e4⟩ := R.own i x z
    have ne := nO b ⟨i, x, e1, z⟩
    exact ⟨b, u, e1, by rw [upd_ne ne]; exact e2, e3.mono s, by rw [upd_ne ne]; exact e4⟩
  · by_cases hb : b = p
    · subst hb
      by_cases q : Own σ m b
      · exact .inr (.inr q)
      · exact .inr (.inl (F.none n q))
    · rw [upd_ne hb] at z; exact F.news b z

/-! ### names and constants -/
theorem vis_of {sc : Scope} {x : Str} (h : isVis sc x = true) : Vis sc x := by
  unfold isVis at h
  split at h
  · rename_i e; exact .inl e
  · rename_i e; exact .inr (.inl e)
  · rename_i e; exact .inr (.inr e)
  · cases h
theorem gl_of {sc : Scope} {x : Str} (h : isGl sc x = true) : sc.names.lookup x = some .globalImplicit := by
  unfold isGl at h
  split at h
  · rename_i e; exact e
  · cases h
theorem ix_of {N : List Str} {x : Str} {i : Nat} (h : ixOf N x = some i) : N[i]? = some x := by
  unfold ixOf at h
  rw [List.findIdx?_eq_some_iff_getElem] at h
  obtain ⟨hl, e, _⟩ := h
  rw [List.getElem?_eq_getElem hl]
  simpa using e
theorem okName_of {x : Str} (h : okName x = true) : (x == ("__debug__" : Str)) = false ∧ (x == ("__classdict__" : Str)) = false := by
  unfold okName at h
  rw [Bool.and_eq_true] at h
  exact ⟨by simpa using h.1, by simpa using h.2⟩
theorem s_var (G : Good X W c) {x : Str} {i : Nat} {pos : Pos} (hx : okName x = true) (hv : isVis c.sc x = true) (hi : ixOf c.N x = some i) : PEm X W (.Name x pos) (.var i) := by
  obtain ⟨h1, h2⟩ := okName_of hx
  refine PE.imp (pe_var (i := i) (by rw [G.N]; exact ix_of hi) (by rw [G.sc]; exact vis_of hv) h1 h2) fun σ H Q ⟨Hs, m, R, h⟩ => ?_
  simp only [ev] at h
  cases q : geti m i with
  | none => rw [q] at h; exact h.elim
  | some p =>
    obtain ⟨f, d⟩ := p
    rw [q] at h
    have ex : ∃ v, σ[i]? = some (some v) := by
      cases f with
      | false => obtain ⟨v, e, _⟩ := R.val i d q; exact ⟨v, e⟩
      | true => obtain ⟨a, o, e, _⟩ := R.own i d q; exact ⟨_, e⟩
    obtain ⟨v, e⟩ := ex
    refine ⟨v, e, h v Hs H R ?_ ?_⟩
    · rw [OV_false]; exact Fram.refl
    · exact ⟨e, f, q⟩
theorem s_con {x : Expr} {v : V} {d : D} (h : PE X x (tC v)) (r : ∀ H, Rp X.K H v d) : PEm X W x (.con d) := by
  refine PE.imp h fun σ H Q ⟨Hs, m, R, h⟩ => ?_
  exact fin_sh (mg := X.mg) (W := W) (e := .con d) rfl h R Fram.refl (r Hs)
theorem s_glob (G : Good X W c) {x : Str} {d : D} {pos : Pos} (hx : okName x = true) (hg : isGl c.sc x = true) (hd : c.cns.lookup x = some d) : PEm X W (.Name x pos) (.con d) := by
  obtain ⟨v, u, hm, r, rp⟩ := G.cns x d hd
  exact s_con (pe_glob (by show X.env.scope.names.lookup x = _; rw [G.sc]; exact gl_of hg) hm r (okName_of hx).1) rp

/-! ### truth -/
/-- as a test -/
theorem pt_of {x : Expr} {e : E} (h : PEm X W x e) (he : ∀ whole, isTrue x X.env whole = (do let v ← whole; standAt x.pos; holding [v] (truthy v))) : PTm X W x e := by
  refine PT.imp (pt_val h he) fun σ H Q ⟨Hs, m, R, hq⟩ => ?_
  unfold evC at hq
  refine step R hq fun p v Hs1 H1 hp R1 F1 b g => ?_
  have rb := now R1 b g
  revert hp
  cases hd : p.1.2 with
  | bool k =>
    intro hp
    rw [hd] at rb
    exact ⟨k, rb.bl, hp Hs1 H1 R1 F1⟩
  | _ => intro hp; exact hp.elim
/-- a value from a test's -/
theorem tT_of {K : PySem.W.Frag} {mg : Str → Option Value} {W : XK} {Hs H : Hp} {σ : L2.St} {m : Env} {e : E} {β : Type} {P : β → Prop} {f : Bool × Env → Res β} {Q : Bool → Hp → Prop} (R : REnv K Hs H σ m) (h : PostR P (XcE mg W σ H m) ((evC e m).bind f))
    (k : ∀ p Hs1 H1, PostR P (XcE mg W σ H1 p.2) (f p) → REnv K Hs1 H1 σ p.2 → Fram Hs H (Own σ m) Hs1 H1 (Own σ p.2) → Q p.1 H1) : tT K mg W e σ H Q :=
  ⟨Hs, m, R, h.bind.imp (fun p hp Hs' H' R' F => k p Hs' H' (hp.next F) R' F) fun x hx => hx⟩

/-! ### operators -/
theorem rep_sh {K : PySem.W.Frag} {σ : L2.St} {e : E} (he : e.vr = none) {m : Env} {Hs H : Hp} {v : V} {d : D} (r : Rp K Hs v d) : RR K e σ m Hs H false v d := by
  unfold RR; rw [he]; exact r
theorem op_mulR : OpR X (binaryOp .Mult) (rI mulOk fun i j => .int (i * j)) := op_mulW
theorem op_divR : OpR X (binaryOp .FloorDiv) (rI (fun _ j => divOk j) fun i j => .int (i.fdiv j)) := opI fun _ _ _ _ _ _ _ hc q => PyProof.Rows.floordiv_int hc.1 q (.inl (PyProof.noPylong_of_log2 hc.2))
theorem pe_op2 {op : Operator} {a b : Expr} {ea eb : E} {o : Bop} {pos : Pos} {r : R2} (ho : OpR X (binaryOp op) r) (ha : PEm X W a ea) (hb : PEm X W b eb)
    (hr : ∀ x y fr d, bop o x y = some (fr, d) → ∀ (Hs H Hs1 H1 : Hp) (σ : L2.St) (m m1 : Env) (v w : V) (Q : VK),
      REnv X.K Hs1 H1 σ m1 → Fram Hs H (Own σ m) Hs1 H1 (Own σ m1) → RB X.K Hs1 H1 v x → RB X.K Hs1 H1 w y →
      (∀ v Hs' H', REnv X.K Hs' H' σ m1 → Fram Hs H (Own σ m) Hs' H' (OV (Own σ m1) fr v) → RR X.K (.bin o ea eb) σ m1 Hs' H' fr v d → Q v H') → r v w H1 Q) : PEm X W (.BinOp a op b pos) (.bin o ea eb) := by
  refine PE.imp (pe_op ho ha hb) fun σ H Q ⟨Hs, m, R, h⟩ => ?_
  simp only [ev] at h
  refine step R h fun p v Hs1 H1 hp R1 F1 b1 g1 => ?_
  refine step R1 hp fun q w Hs2 H2 hq R2 F2 b2 g2 => ?_
  obtain ⟨⟨fr, d⟩, hd, hq⟩ := PostR.ofO hq.bind
  rw [Option.bind_eq_some_iff] at hd
  obtain ⟨x, hx, hd⟩ := hd
  rw [Option.bind_eq_some_iff] at hd
  obtain ⟨y, hy, hd⟩ := hd
  exact hr x y fr d hd Hs H Hs2 H2 σ m q.2 v w Q R2 (F1.trans F2) (R2.op (b1.mono F2.same) hx) (R2.op b2 hy) hq
theorem s_add {a b : Expr} {ea eb : E} {pos : Pos} (ha : PEm X W a ea) (hb : PEm X W b eb) : PEm X W (.BinOp a .Add b pos) (.bin .add ea eb) := by
  refine pe_op2 (OpR.or op_add (OpR.or op_cat op_catA)) ha hb fun x y fr d hd Hs H Hs1 H1 σ m m1 v w Q R F rx ry hq => ?_
  cases x <;> cases y <;> simp only [bop] at hd <;> try (cases hd)
  · left
    exact ⟨_, _, rx.int, ry.int, fin_sh (mg := X.mg) (W := W) rfl hq R F (.int _)⟩
  · right; left
    split at hd <;> simp only [Option.some.injEq, Prod.mk.injEq, reduceCtorEq] at hd
    rename_i hl
    obtain ⟨rfl, rfl⟩ := hd
    obtain ⟨p, vs, rfl, h1, r1⟩ := rx.seqL R.sub
    obtain ⟨q, ws, rfl, h2, r2⟩ := ry.seqL R.sub
    refine ⟨p, q, vs, ws, rfl, rfl, h1, h2, by rw [r1.length, r2.length]; exact hl, fun t n => ?_⟩
    exact fin_new rfl hq R F (.lst (r1.append r2)) t n
  · right; right
    split at hd <;> simp only [Option.some.injEq, Prod.mk.injEq, reduceCtorEq] at hd
    rename_i hl
    obtain ⟨rfl, rfl⟩ := hd
    obtain ⟨p, vs, rfl, h1, r1⟩ := rx.seqT R.sub
    obtain ⟨q, ws, rfl, h2, r2⟩ := ry.seqT R.sub
    refine ⟨p, q, vs, ws, rfl, rfl, h1, h2, by rw [r1.length, r2.length]; exact hl, fun e => ?_, fun _ e => ?_, fun _ _ t n => ?_⟩
    · have e2 := r1.nil_iff.mp e
      subst e2
      rw [List.nil_append] at hq
      rcases ry with ry | ⟨a', o', e', _, k⟩
      · exact fin_sh (mg := X.mg) (W := W) rfl hq R F ry
      · cases k
    · have e2 := r2.nil_iff.mp e
      subst e2
      rw [List.append_nil] at hq
      rcases rx with rx | ⟨a', o', e', _, k⟩
      · exact fin_sh (mg := X.mg) (W := W) rfl hq R F rx
      · cases k
    · exact fin_tup rfl hq R F (r1.append r2) t n
theorem s_sub {a b : Expr} {ea eb : E} {pos : Pos} (ha : PEm X W a ea) (hb : PEm X W b eb) : PEm X W (.BinOp a .Sub b pos) (.bin .sub ea eb) := by
  refine pe_op2 op_sub ha hb fun x y fr d hd Hs H Hs1 H1 σ m m1 v w Q R F rx ry hq => ?_
  cases x <;> cases y <;> simp only [bop] at hd <;> try (cases hd)
  exact ⟨_, _, rx.int, ry.int, fin_sh (mg := X.mg) (W := W) rfl hq R F (.int _)⟩
theorem s_mul {a b : Expr} {ea eb : E} {pos : Pos} (ha : PEm X W a ea) (hb : PEm X W b eb) : PEm X W (.BinOp a .Mult b pos) (.bin .mul ea eb) := by
  refine pe_op2 (OpR.or op_mulR (OpR.or op_rep op_repT)) ha hb fun x y fr d hd Hs H Hs1 H1 σ m m1 v w Q R F rx ry hq => ?_
  cases x <;> cases y <;> simp only [bop] at hd <;> try (cases hd)
  · left
    split at hd <;> simp only [Option.some.injEq, Prod.mk.injEq, reduceCtorEq] at hd
    rename_i hl
    obtain ⟨rfl, rfl⟩ := hd
    exact ⟨_, _, rx.int, ry.int, hl, fin_sh (mg := X.mg) (W := W) rfl hq R F (.int _)⟩
  · right; left
    split at hd <;> simp only [Option.some.injEq, Prod.mk.injEq, reduceCtorEq] at hd
    rename_i hl
    obtain ⟨rfl, rfl⟩ := hd
    obtain ⟨p, vs, rfl, h1, r1⟩ := rx.seqL R.sub
    refine ⟨p, _, vs, rfl, ry.int, h1, hl.2.1, hl.1, by rw [r1.length]; exact hl.2.2, fun t n => ?_⟩
    exact fin_new rfl hq R F (.lst (r1.replicate _)) t n
  · right; right
    split at hd <;> simp only [Option.some.injEq, Prod.mk.injEq, reduceCtorEq] at hd
    rename_i hl
    obtain ⟨rfl, rfl⟩ := hd
    obtain ⟨p, vs, rfl, h1, r1⟩ := rx.seqT R.sub
    refine ⟨p, _, vs, rfl, ry.int, h1, fun e => hl.1 (r1.nil_iff.mp e), hl.2.1, hl.2.2.1, by rw [r1.length]; exact hl.2.2.2, fun t n => ?_⟩
    exact fin_tup rfl hq R F (r1.replicate _) t n
theorem s_div {a b : Expr} {ea eb : E} {pos : Pos} (ha : PEm X W a ea) (hb : PEm X W b eb) : PEm X W (.BinOp a .FloorDiv b pos) (.bin .fdiv ea eb) := by
  refine pe_op2 op_divR ha hb fun x y fr d hd Hs H Hs1 H1 σ m m1 v w Q R F rx ry hq => ?_
  cases x <;> cases y <;> simp only [bop] at hd <;> try (cases hd)
  split at hd <;> simp only [Option.some.injEq, Prod.mk.injEq, reduceCtorEq] at hd
  rename_i hl
  obtain ⟨rfl, rfl⟩ := hd
  exact ⟨_, _, rx.int, ry.int, hl, fin_sh (mg := X.mg) (W := W) rfl hq R F (.int _)⟩
theorem s_mod {a b : Expr} {ea eb : E} {pos : Pos} (ha : PEm X W a ea) (hb : PEm X W b eb) : PEm X W (.BinOp a .Mod b pos) (.bin .mod ea eb) := by
  refine pe_op2 op_modN ha hb fun x y fr d hd Hs H Hs1 H1 σ m m1 v w Q R F rx ry hq => ?_
  cases x <;> cases y <;> simp only [bop] at hd <;> try (cases hd)
  split at hd <;> simp only [Option.some.injEq, Prod.mk.injEq, reduceCtorEq] at hd
  rename_i hl
  obtain ⟨rfl, rfl⟩ := hd
  exact ⟨_, _, rx.int, ry.int, hl, fin_sh (mg := X.mg) (W := W) rfl hq R F (.int _)⟩
theorem s_pow {a b : Expr} {ea eb : E} {pos : Pos} (ha : PEm X W a ea) (hb : PEm X W b eb) : PEm X W (.BinOp a .Pow b pos) (.bin .pow ea eb) := by
  refine pe_op2 op_pow ha hb fun x y fr d hd Hs H Hs1 H1 σ m m1 v w Q R F rx ry hq => ?_
  cases x <;> cases y <;> simp only [bop] at hd <;> try (cases hd)
  split at hd <;> simp only [Option.some.injEq, Prod.mk.injEq, reduceCtorEq] at hd
  rename_i hl
  obtain ⟨rfl, rfl⟩ := hd
  exact ⟨_, _, rx.int, ry.int, hl, fin_sh (mg := X.mg) (W := W) rfl hq R F (.int _)⟩
theorem s_bin {a b : Expr} {ea eb : E} {op : Operator} {o : Bop} {pos : Pos} (h : bopOf op = some o) (ha : PEm X W a ea) (hb : PEm X W b eb) : PEm X W (.BinOp a op b pos) (.bin o ea eb) := by
  cases op <;> cases h
  · exact s_add ha hb
  · exact s_sub ha hb
  · exact s_mul ha hb
  · exact s_mod ha hb
  · exact s_pow ha hb
  · exact s_div ha hb
theorem s_neg {a : Expr} {ea : E} {pos : Pos} (ha : PEm X W a ea) : PEm X W (.UnaryOp .USub a pos) (.neg ea) := by
  refine PE.imp (pe_un un_neg ha) fun σ H Q ⟨Hs, m, R, h⟩ => ?_
  simp only [ev] at h
  refine step R h fun p v Hs1 H1 hp R1 F1 b1 g1 => ?_
  have rb := now R1 b1 g1
  revert hp
  cases hd : p.1.2 with
  | int k =>
    intro hp
    rw [hd] at rb
    exact ⟨k, rb.int, fin_sh (mg := X.mg) (W := W) (e := .neg ea) rfl hp R1 F1 (.int _)⟩
  | _ => intro hp; exact hp.elim
theorem s_nt {a : Expr} {ea : E} {pos : Pos} (ha : PEm X W a ea) : PEm X W (.UnaryOp .Not a pos) (.nt ea) := by
  refine PE.imp (pe_not ha) fun σ H Q ⟨Hs, m, R, h⟩ => ?_
  simp only [ev] at h
  refine step R h fun p v Hs1 H1 hp R1 F1 b1 g1 => ?_
  have rb := now R1 b1 g1
  revert hp
  cases hd : p.1.2 with
  | bool k =>
    intro hp
    rw [hd] at rb
    exact ⟨k, rb.bl, fin_sh (mg := X.mg) (W := W) (e := .nt ea) rfl hp R1 F1 (.bl _)⟩
  | _ => intro hp; exact hp.elim
theorem t_nt {a : Expr} {ea : E} {pos : Pos} (ha : PTm X W a ea) : PTm X W (.UnaryOp .Not a pos) (.nt ea) := by
  refine PT.imp (pt_not ha) fun σ H Q ⟨Hs, m, R, h⟩ => ?_
  refine ⟨Hs, m, R, ?_⟩
  unfold evC at h ⊢
  simp only [ev] at h
  cases q : ev ea m with
  | bad => rw [q] at h; exact h.elim
  | exc x => rw [q] at h; exact h
  | ok p =>
    rw [q] at h
    simp only [bind_ok] at h ⊢
    revert h
    cases hd : p.1.2 with
    | bool k => intro h; exact h
    | _ => intro h; exact h.elim
theorem s_and {a b : Expr} {rest : List Expr} {ea eb : E} {pos : Pos} (ha : PEm X W a ea) (hb : PEm X W (.BoolOp .And (b :: rest) pos) eb) : PEm X W (.BoolOp .And (a :: b :: rest) pos) (.and ea eb) := by
  refine PE.imp (pe_and ha hb) fun σ H Q ⟨Hs, m, R, h⟩ => ?_
  simp only [ev] at h
  refine step R h fun p v Hs1 H1 hp R1 F1 b1 g1 => ?_
  have rb := now R1 b1 g1
  revert hp
  cases hd : p.1.2 with
  | bool k =>
    intro hp
    rw [hd] at rb
    refine ⟨k, rb.bl, ?_⟩
    cases k with
    | true =>
      show tE X.K X.mg W eb σ H1 Q
      refine step R1 hp fun q w Hs2 H2 hq R2 F2 b2 g2 => ?_
      have rb2 := now R2 b2 g2
      revert hq
      cases hd2 : q.1.2 with
      | bool k2 =>
        intro hq
        rw [hd2] at rb2
        have e := rb2.bl
        subst e
        exact fin_sh (mg := X.mg) (W := W) (e := .and ea eb) rfl hq R2 (F1.trans F2) (.bl _)
      | _ => intro hq; exact hq.elim
    | false => exact fin_sh (mg := X.mg) (W := W) (e := .and ea eb) rfl hp R1 F1 (.bl _)
  | _ => intro hp; exact hp.elim
theorem s_or {a b : Expr} {rest : List Expr} {ea eb : E} {pos : Pos} (ha : PEm X W a ea) (hb : PEm X W (.BoolOp .Or (b :: rest) pos) eb) : PEm X W (.BoolOp .Or (a :: b :: rest) pos) (.or ea eb) := by
  refine PE.imp (pe_or ha hb) fun σ H Q ⟨Hs, m, R, h⟩ => ?_
  simp only [ev] at h
  refine step R h fun p v Hs1 H1 hp R1 F1 b1 g1 => ?_
  have rb := now R1 b1 g1
  revert hp
  cases hd : p.1.2 with
  | bool k =>
    intro hp
    rw [hd] at rb
    refine ⟨k, rb.bl, ?_⟩
    cases k with
    | false =>
      show tE X.K X.mg W eb σ H1 Q
      refine step R1 hp fun q w Hs2 H2 hq R2 F2 b2 g2 => ?_
      have rb2 := now R2 b2 g2
      revert hq
      cases hd2 : q.1.2 with
      | bool k2 =>
        intro hq
        rw [hd2] at rb2
        have e := rb2.bl
        subst e
        exact fin_sh (mg := X.mg) (W := W) (e := .or ea eb) rfl hq R2 (F1.trans F2) (.bl _)
      | _ => intro hq; exact hq.elim
    | true => exact fin_sh (mg := X.mg) (W := W) (e := .or ea eb) rfl hp R1 F1 (.bl _)
  | _ => intro hp; exact hp.elim
end
end Rc

set_option maxRecDepth 100000
set_option maxHeartbeats 4000000
namespace Rc
open PySem L2
variable [Tbs]
section
variable {X : Cx} {W : XK} {c : TC}

/-! ### tests -/
theorem Res.bind_assoc {α β γ : Type} (r : Res α) (f : α → Res β) (g : β → Res γ) : (r.bind f).bind g = r.bind fun a => (f a).bind g := by cases r <;> rfl
/-- a test's outcome, by the value's -/
theorem evC_and {ea eb : E} {m : Env} : evC (.and ea eb) m = (evC ea m).bind fun p => if p.1 = true then evC eb p.2 else .ok (false, p.2) := by
  unfold evC
  simp only [ev, Res.bind_assoc]
  congr 1; funext p
  cases p.1.2 with
  | bool k =>
    cases k with
    | false => simp
    | true =>
      simp only [bind_ok, if_true, Res.bind_assoc]
      congr 1; funext q
      cases q.1.2 <;> simp
  | _ => simp
theorem evC_or {ea eb : E} {m : Env} : evC (.or ea eb) m = (evC ea m).bind fun p => if p.1 = true then .ok (true, p.2) else evC eb p.2 := by
  unfold evC
  simp only [ev, Res.bind_assoc]
  congr 1; funext p
  cases p.1.2 with
  | bool k =>
    cases k with
    | true => simp
    | false =>
      simp only [bind_ok, Bool.false_eq_true, if_false, Res.bind_assoc]
      congr 1; funext q
      cases q.1.2 <;> simp
  | _ => simp
theorem t_and {a b : Expr} {rest : List Expr} {ea eb : E} {pos : Pos} (ha : PTm X W a ea) (hb : PWm X W (.BoolOp .And (b :: rest) pos) eb) : PWm X W (.BoolOp .And (a :: b :: rest) pos) (.and ea eb) := by
  refine PW.imp (pw_and ha hb) fun σ H Q ⟨Hs, m, R, h⟩ => ?_
  rw [evC_and] at h
  refine tT_of R h fun p Hs1 H1 hp R1 F1 => ?_
  by_cases k : p.1 = true
  · rw [if_pos k] at hp ⊢
    exact ⟨Hs1, p.2, R1, hp.imp (fun q hq Hs2 H2 R2 F2 => hq Hs2 H2 R2 (F1.trans F2)) fun _ z => z⟩
  · rw [if_neg k] at hp ⊢
    exact hp Hs1 H1 R1 F1
theorem t_or {a b : Expr} {rest : List Expr} {ea eb : E} {pos : Pos} (ha : PTm X W a ea) (hb : PWm X W (.BoolOp .Or (b :: rest) pos) eb) : PWm X W (.BoolOp .Or (a :: b :: rest) pos) (.or ea eb) := by
  refine PW.imp (pw_or ha hb) fun σ H Q ⟨Hs, m, R, h⟩ => ?_
  rw [evC_or] at h
  refine tT_of R h fun p Hs1 H1 hp R1 F1 => ?_
  by_cases k : p.1 = true
  · rw [if_pos k] at hp ⊢
    exact hp Hs1 H1 R1 F1
  · rw [if_neg k] at hp ⊢
    exact ⟨Hs1, p.2, R1, hp.imp (fun q hq Hs2 H2 R2 F2 => hq Hs2 H2 R2 (F1.trans F2)) fun _ z => z⟩
theorem t_one {a : Expr} {o : BoolOp} {ea : E} {pos : Pos} (ha : PTm X W a ea) : PWm X W (.BoolOp o [a] pos) ea := by
  cases o with
  | And => exact pw_and1 ha
  | Or => exact pw_or1 ha

/-! ### comparisons -/
/-- what a comparison of values asks -/
def rCop (K : PySem.W.Frag) (o : Cop) : R2 := fun v w H Q => ∃ Hs x y b, Same Hs H ∧ RB K Hs H v x ∧ RB K Hs H w y ∧ cop o x y = some b ∧ Q (.bl b) H
theorem dp_list {K : PySem.W.Frag} {Hs H : Hp} {v : V} {ds : List D} (b : RB K Hs H v (.list ds)) (s : Same Hs H) (hs : SeqAt.shaped (.list ds) = true) : Dp K H v (.list ds) := b.dp s hs
theorem op_cop (G : Good X W c) (op : CmpOp) : OpR X (compareOp op) (rCop X.K (copOf op)) := by
  have hu : X.A.units + 64 < cLine := by have := G.hu; omega
  intro pins s σ H v w a b Q I ra rb h
  obtain ⟨Hs, x, y, r, sm, rx, ry, hc, q⟩ := h
  have both : ∀ {i j : Int}, x = .int i → y = .int j → v = .int i ∧ w = .int j := fun e1 e2 => ⟨by rw [e1] at rx; exact rx.int, by rw [e2] at ry; exact ry.int⟩
  cases op with
  | Eq =>
    simp only [copOf, cop] at hc
    split at hc <;> simp only [Option.some.injEq, reduceCtorEq] at hc
    rename_i hs
    subst hc
    exact op_eqD hu pins s σ H v w a b Q I ra rb ⟨x, y, rx.dp sm hs.1, ry.dp sm hs.2, hs.1, hs.2, q⟩
  | NotEq =>
    simp only [copOf, cop] at hc
    split at hc <;> simp only [Option.some.injEq, reduceCtorEq] at hc
    rename_i hs
    subst hc
    exact op_neD hu pins s σ H v w a b Q I ra rb ⟨x, y, rx.dp sm hs.1, ry.dp sm hs.2, hs.1, hs.2, q⟩
  | Lt =>
    simp only [copOf] at hc
    cases x <;> cases y <;> simp only [cop] at hc <;> try (cases hc)
    obtain ⟨e1, e2⟩ := both rfl rfl
    exact op_lt pins s σ H v w a b Q I ra rb ⟨_, _, e1, e2, q⟩
  | LtE =>
    simp only [copOf] at hc
    cases x <;> cases y <;> simp only [cop] at hc <;> try (cases hc)
    obtain ⟨e1, e2⟩ := both rfl rfl
    exact op_le pins s σ H v w a b Q I ra rb ⟨_, _, e1, e2, q⟩
  | Gt =>
    simp only [copOf] at hc
    cases x <;> cases y <;> simp only [cop] at hc <;> try (cases hc)
    obtain ⟨e1, e2⟩ := both rfl rfl
    exact op_gt pins s σ H v w a b Q I ra rb ⟨_, _, e1, e2, q⟩
  | GtE =>
    simp only [copOf] at hc
    cases x <;> cases y <;> simp only [cop] at hc <;> try (cases hc)
    obtain ⟨e1, e2⟩ := both rfl rfl
    exact op_ge pins s σ H v w a b Q I ra rb ⟨_, _, e1, e2, q⟩
  | In =>
    simp only [copOf] at hc
    cases y <;> simp only [cop] at hc <;> try (cases hc)
    split at hc <;> simp only [Option.some.injEq, reduceCtorEq] at hc
    rename_i hs
    subst hc
    exact op_inD G.hu pins s σ H v w a b Q I ra rb ⟨x, _, rx.dp sm hs.1, ry.dp sm hs.2, hs.1, hs.2, q⟩
  | NotIn =>
    simp only [copOf] at hc
    cases y <;> simp only [cop] at hc <;> try (cases hc)
    split at hc <;> simp only [Option.some.injEq, reduceCtorEq] at hc
    rename_i hs
    subst hc
    exact op_notInD G.hu pins s σ H v w a b Q I ra rb ⟨x, _, rx.dp sm hs.1, ry.dp sm hs.2, hs.1, hs.2, q⟩
  | Is =>
    simp only [copOf] at hc
    cases y with
    | none =>
      have e : r = decide (v = .non) := by
        rw [rx.isN]
        cases x <;> simp only [cop, Option.some.injEq] at hc <;> exact hc.symm
      subst e
      exact op_isN pins s σ H v w a b Q I ra rb ⟨ry.non, q⟩
    | bool k =>
      cases x <;> simp only [cop] at hc <;> try (cases hc)
      rename_i k'
      have e : (k' == k) = decide (k' = k) := by cases k <;> cases k' <;> rfl
      rw [e] at q
      exact op_isBl pins s σ H v w a b Q I ra rb ⟨k', k, rx.bl, ry.bl, q⟩
    | _ => cases x <;> simp only [cop] at hc <;> cases hc
  | IsNot =>
    simp only [copOf] at hc
    cases y with
    | none =>
      have e : r = !decide (v = .non) := by
        rw [rx.isN]
        cases x <;> simp only [cop, Option.some.injEq] at hc <;> exact hc.symm
      subst e
      exact op_notN pins s σ H v w a b Q I ra rb ⟨ry.non, q⟩
    | bool k =>
      cases x <;> simp only [cop] at hc <;> try (cases hc)
      rename_i k'
      have e : (!(k' == k)) = !decide (k' = k) := by cases k <;> cases k' <;> rfl
      rw [e] at q
      exact op_notBl pins s σ H v w a b Q I ra rb ⟨k', k, rx.bl, ry.bl, q⟩
    | _ => cases x <;> simp only [cop] at hc <;> cases hc
/-- both readings of a comparison -/
noncomputable def cmpR (o : Cop) (ea eb : E) (m : Env) : Res (Bool × Env) := (ev ea m).bind fun p => (ev eb p.2).bind fun q => (Res.ofO ((rd ea p.1.2 q.2).bind fun x => (rd eb q.1.2 q.2).bind fun y => cop o x y)).bind fun r => .ok (r, q.2)
theorem ev_cmp {o : Cop} {ea eb : E} {m : Env} : ev (.cmp o ea eb) m = (cmpR o ea eb m).bind fun r => .ok ((false, .bool r.1), r.2) := by
  unfold cmpR
  simp only [ev, Res.bind_assoc, bind_ok]
theorem evC_cmp {o : Cop} {ea eb : E} {m : Env} : evC (.cmp o ea eb) m = cmpR o ea eb m := by
  unfold evC
  rw [ev_cmp, Res.bind_assoc]
  cases cmpR o ea eb m <;> rfl
theorem cmp_core {ea eb : E} {o : Cop} {σ : L2.St} {H Hs : Hp} {m : Env} {Q : VK} (R : REnv X.K Hs H σ m)
    (h : PostR (fun (p : Bool × Env) => ∀ Hs' H', REnv X.K Hs' H' σ p.2 → Fram Hs H (Own σ m) Hs' H' (Own σ p.2) → Q (.bl p.1) H') (XcE X.mg W σ H m) (cmpR o ea eb m)) : tOp (rCop X.K o) (tE X.K X.mg W ea) (tE X.K X.mg W eb) σ H Q := by
  unfold cmpR at h
  refine step R h fun p v Hs1 H1 hp R1 F1 b1 g1 => ?_
  refine step R1 hp fun q w Hs2 H2 hq R2 F2 b2 g2 => ?_
  obtain ⟨r, hd, hq⟩ := PostR.ofO hq.bind
  rw [Option.bind_eq_some_iff] at hd
  obtain ⟨x, hx, hd⟩ := hd
  rw [Option.bind_eq_some_iff] at hd
  obtain ⟨y, hy, hd⟩ := hd
  exact ⟨Hs2, x, y, r, R2.sub, R2.op (b1.mono F2.same) hx, R2.op b2 hy, hd, hq Hs2 H2 R2 (F1.trans F2)⟩
theorem plain_nomark {b : Expr} (h : isPlain b = true) (op : CmpOp) : behindInMarks op b = false := by
  cases b <;> simp [isPlain] at h <;> rfl
theorem s_cmp (G : Good X W c) {a b : Expr} {ea eb : E} {op : CmpOp} {pos : Pos} (hb' : isPlain b = true) (ha : PEm X W a ea) (hb : PEm X W b eb) : PEm X W (.Compare a [op] [b] pos) (.cmp (copOf op) ea eb) := by
  refine PE.imp (pe_cmpR (op_cop G op) ha hb (plain_nomark hb' op)) fun σ H Q ⟨Hs, m, R, h⟩ => ?_
  rw [ev_cmp] at h
  exact cmp_core (W := W) R (h.bind.imp (fun p hp Hs' H' R' F => fin_sh (mg := X.mg) (W := W) (e := .cmp (copOf op) ea eb) rfl hp R' F (.bl p.1)) fun _ z => z)
theorem t_cmp (G : Good X W c) {a b : Expr} {ea eb : E} {op : CmpOp} {pos : Pos} (hb' : isPlain b = true) (ha : PEm X W a ea) (hb : PEm X W b eb) : PTm X W (.Compare a [op] [b] pos) (.cmp (copOf op) ea eb) := by
  refine PT.imp (pt_cmpR (op_cop G op) ha hb (plain_nomark hb' op)) fun σ H Q ⟨Hs, m, R, h⟩ => ?_
  rw [evC_cmp] at h
  exact cmp_core (W := W) R (h.imp (fun p hp Hs' H' R' F => ⟨p.1, rfl, hp Hs' H' R' F⟩) fun _ z => z)
/-! ### chains -/
noncomputable def chnR (o o' : Cop) (a b c : E) (m : Env) : Res (Bool × Env) := (ev a m).bind fun p => (ev b p.2).bind fun q => (Res.ofO ((rd a p.1.2 q.2).bind fun x => (rd b q.1.2 q.2).bind fun y => cop o x y)).bind fun r =>
      if r = true then (ev c q.2).bind fun t => (Res.ofO ((rd b q.1.2 t.2).bind fun x => (rd c t.1.2 t.2).bind fun y => cop o' x y)).bind fun r' => .ok (r', t.2) else .ok (false, q.2)
theorem ev_chn {o o' : Cop} {a b c : E} {m : Env} : ev (.chn o o' a b c) m = (chnR o o' a b c m).bind fun r => .ok ((false, .bool r.1), r.2) := by
  unfold chnR
  simp only [ev, Res.bind_assoc]
  congr 1; funext p; congr 1; funext q; congr 1; funext r
  split <;> simp [Res.bind_assoc]
theorem evC_chn {o o' : Cop} {a b c : E} {m : Env} : evC (.chn o o' a b c) m = chnR o o' a b c m := by
  unfold evC
  rw [ev_chn, Res.bind_assoc]
  cases chnR o o' a b c m <;> rfl
theorem chn_core {ea eb ec : E} {o o' : Cop} {σ : L2.St} {H Hs : Hp} {m : Env} {Q : VK} (R : REnv X.K Hs H σ m)
    (h : PostR (fun (p : Bool × Env) => ∀ Hs' H', REnv X.K Hs' H' σ p.2 → Fram Hs H (Own σ m) Hs' H' (Own σ p.2) → Q (.bl p.1) H') (XcE X.mg W σ H m) (chnR o o' ea eb ec m)) : tChain (rCop X.K o) (rCop X.K o') (tE X.K X.mg W ea) (tE X.K X.mg W eb) (tE X.K X.mg W ec) σ H Q := by
  unfold chnR at h
  refine step R h fun p v Hs1 H1 hp R1 F1 b1 g1 => ?_
  refine step R1 hp fun q w Hs2 H2 hq R2 F2 b2 g2 => ?_
  obtain ⟨r, hd, hq⟩ := PostR.ofO hq.bind
  rw [Option.bind_eq_some_iff] at hd
  obtain ⟨x, hx, hd⟩ := hd
  rw [Option.bind_eq_some_iff] at hd
  obtain ⟨y, hy, hd⟩ := hd
  refine ⟨Hs2, x, y, r, R2.sub, R2.op (b1.mono F2.same) hx, R2.op b2 hy, hd, r, rfl, ?_⟩
  by_cases k : r = true
  · rw [if_pos k] at hq ⊢
    refine step R2 hq fun t u Hs3 H3 ht R3 F3 b3 g3 => ?_
    obtain ⟨r', hd', ht⟩ := PostR.ofO ht.bind
    rw [Option.bind_eq_some_iff] at hd'
    obtain ⟨x', hx', hd'⟩ := hd'
    rw [Option.bind_eq_some_iff] at hd'
    obtain ⟨y', hy', hd'⟩ := hd'
    exact ⟨Hs3, x', y', r', R3.sub, R3.op (b2.mono F3.same) hx', R3.op b3 hy', hd', ht Hs3 H3 R3 ((F1.trans F2).trans F3)⟩
  · rw [if_neg k] at hq ⊢
    exact hq Hs2 H2 R2 (F1.trans F2)
theorem plain_nolast {b c : Expr} (hb : isPlain b = true) (hc : isPlain c = true) (op op' : CmpOp) : lastMarks [op, op'] [b, c] = false := by
  show behindInMarks op' c = false
  exact plain_nomark hc op'
theorem s_chn (G : Good X W c) {a b d : Expr} {ea eb ed : E} {op op' : CmpOp} {pos : Pos} (hb' : isPlain b = true) (hd' : isPlain d = true) (ha : PEm X W a ea) (hb : PEm X W b eb) (hd : PEm X W d ed) : PEm X W (.Compare a [op, op'] [b, d] pos) (.chn (copOf op) (copOf op') ea eb ed) := by
  refine PE.imp (pe_chain (op_cop G op) (op_cop G op') ha hb hd (plain_nolast hb' hd' op op')) fun σ H Q ⟨Hs, m, R, h⟩ => ?_
  rw [ev_chn] at h
  exact chn_core (W := W) R (h.bind.imp (fun p hp Hs' H' R' F => fin_sh (mg := X.mg) (W := W) (e := .chn (copOf op) (copOf op') ea eb ed) rfl hp R' F (.bl p.1)) fun _ z => z)
theorem t_chn (G : Good X W c) {a b d : Expr} {ea eb ed : E} {op op' : CmpOp} {pos : Pos} (hb' : isPlain b = true) (hd' : isPlain d = true) (ha : PEm X W a ea) (hb : PEm X W b eb) (hd : PEm X W d ed) : PTm X W (.Compare a [op, op'] [b, d] pos) (.chn (copOf op) (copOf op') ea eb ed) := by
  refine PT.imp (pt_chain (op_cop G op) (op_cop G op') ha hb hd (plain_nolast hb' hd' op op')) fun σ H Q ⟨Hs, m, R, h⟩ => ?_
  rw [evC_chn] at h
  exact chn_core (W := W) R (h.imp (fun p hp Hs' H' R' F => ⟨p.1, rfl, hp Hs' H' R' F⟩) fun _ z => z)
/-! ### a if t else b -/
theorem s_ite {t a b : Expr} {et ea eb : E} {pos : Pos} (ht : PTm X W t et) (ha : PEm X W a ea) (hb : PEm X W b eb) : PEm X W (.IfExp t a b pos) (.ite et ea eb) := by
  refine PE.imp (pe_ifExp ht ha hb) fun σ H Q ⟨Hs, m, R, h⟩ => ?_
  have e : ev (.ite et ea eb) m = (evC et m).bind fun p => if p.1 = true then (ev ea p.2).bind fun q => .ok ((false, q.1.2), tkm ea q.2) else (ev eb p.2).bind fun q => .ok ((false, q.1.2), tkm eb q.2) := by
    unfold evC
    simp only [ev, Res.bind_assoc]
    congr 1; funext p
    cases p.1.2 with
    | bool k => cases k <;> rfl
    | _ => rfl
  rw [e] at h
  refine tT_of R h fun p Hs1 H1 hp R1 F1 => ?_
  by_cases k : p.1 = true
  · rw [if_pos k] at hp ⊢
    exact stepT R1 hp fun q v Hs2 H2 hq R2 F2 r => fin_sh (mg := X.mg) (W := W) (e := .ite et ea eb) rfl hq R2 (F1.trans F2) r
  · rw [if_neg k] at hp ⊢
    exact stepT R1 hp fun q v Hs2 H2 hq R2 F2 r => fin_sh (mg := X.mg) (W := W) (e := .ite et ea eb) rfl hq R2 (F1.trans F2) r
theorem t_ite {t a b : Expr} {et ea eb : E} {pos : Pos} (ht : PTm X W t et) (ha : PTm X W a ea) (hb : PTm X W b eb) : PTm X W (.IfExp t a b pos) (.ite et ea eb) := by
  refine ⟨fun pins s σ H Q I ⟨Hs, m, R, h⟩ => ?_⟩
  have e : evC (.ite et ea eb) m = (evC et m).bind fun p => if p.1 = true then (evC ea p.2).bind fun q => .ok (q.1, tkm ea q.2) else (evC eb p.2).bind fun q => .ok (q.1, tkm eb q.2) := by
    unfold evC
    simp only [ev, Res.bind_assoc]
    congr 1; funext p
    cases p.1.2 with
    | bool k =>
      cases k
      · simp only [bind_ok, Bool.false_eq_true, if_false, Res.bind_assoc]
        congr 1; funext q
        cases q.1.2 <;> simp
      · simp only [bind_ok, if_true, Res.bind_assoc]
        congr 1; funext q
        cases q.1.2 <;> simp
    | _ => simp
  rw [e] at h
  have hc : tT X.K X.mg W et σ H fun k H1 => (if k = true then tT X.K X.mg W ea σ H1 Q else tT X.K X.mg W eb σ H1 Q) := by
    refine tT_of R h fun p Hs1 H1 hp R1 F1 => ?_
    -- a bool's name is no list: nothing is told of
    have key : ∀ {e' : E}, PostR (fun (q : Bool × Env) => ∀ Hs' H', REnv X.K Hs' H' σ q.2 → Fram Hs H (Own σ m) Hs' H' (Own σ q.2) → Q q.1 H') (XcE X.mg W σ H1 p.2) ((evC e' p.2).bind fun q => .ok (q.1, tkm e' q.2)) → tT X.K X.mg W e' σ H1 Q := fun {e'} hp => by
      refine ⟨Hs1, p.2, R1, ?_⟩
      have hp := hp.bind
      unfold evC at hp ⊢
      cases hq : ev e' p.2 with
      | bad => rw [hq] at hp; exact hp.elim
      | exc x => rw [hq] at hp; exact hp
      | ok q =>
        rw [hq] at hp
        simp only [bind_ok] at hp ⊢
        revert hp
        cases hd : q.1.2 with
        | bool k =>
          intro hp Hs2 H2 R2 F2
          have hp : ∀ Hs' H', REnv X.K Hs' H' σ (tkm e' q.2) → Fram Hs H (Own σ m) Hs' H' (Own σ (tkm e' q.2)) → Q k H' := hp
          have same : tkm e' q.2 = q.2 := by
            cases e' with
            | var i =>
              simp only [ev] at hq
              cases hg : geti p.2 i with
              | none => rw [hg] at hq; cases hq
              | some pr =>
                obtain ⟨f, x⟩ := pr
                rw [hg] at hq
                simp only [Res.ok.injEq] at hq
                subst hq
                simp only at hd
                subst hd
                show leak p.2 i = p.2
                unfold leak
                rw [hg]
                cases f with
                | false => rfl
                | true =>
                  exfalso
                  obtain ⟨a, o, _, _, c, _⟩ := R1.own i _ hg
                  cases c
            | _ => rfl
          rw [same] at hp
          exact hp Hs2 H2 R2 (F1.trans F2)
        | _ => intro hp; exact hp.elim
    by_cases k : p.1 = true
    · rw [if_pos k] at hp ⊢
      exact key hp
    · rw [if_neg k] at hp ⊢
      exact key hp
  show wpAny (model X.prog X.w) X.A (do if ← isTrue t X.env (eval t X.env) then isTrue a X.env (eval a X.env) else isTrue b X.env (eval b X.env)) (TP X pins σ Q) X.xe s
  refine wpAny_bind (thn (ht.run pins s σ H _ I hc) fun k s1 ⟨H1, I1, q1⟩ => ?_)
  have q1 : if k = true then tT X.K X.mg W ea σ H1 Q else tT X.K X.mg W eb σ H1 Q := q1
  by_cases hk : k = true
  · rw [if_pos hk] at q1 ⊢
    exact ha.run pins s1 σ H1 Q I1 q1
  · rw [if_neg hk] at q1 ⊢
    exact hb.run pins s1 σ H1 Q I1 q1
/-! ### a value, or else another -/
theorem res_ret {α : Type} (r : Res α) : r.bind (fun q => .ok q) = r := by cases r <;> rfl
theorem PostR.okD' {α : Type} {P : α → Prop} {Xc : Str → Prop} {a : α} (h : PostR P Xc (.ok a)) : P a := h
theorem noX_bad' {α : Type} {P : α → Prop} {Xc : Str → Prop} {r : Res α} (h : PostR P Xc r.noX) : PostR P (fun _ => False) r := by
  cases r with
  | ok a => exact h
  | exc x => exact h.elim
  | bad => exact h
theorem tru_tup {K : PySem.W.Frag} {Hs H : Hp} {v : V} {x : D} {xs : List D} (r : Rp K Hs v (.tuple (x :: xs))) (s : Same Hs H) : TruV K v H true := by
  obtain ⟨a, vs, rfl, h1, h2⟩ := RB.seqT (.inl r) s
  refine .inr (.inl ⟨vs, h1, ?_⟩)
  cases vs with
  | nil =>
    have := h2.length
    simp at this
  | cons v vs => rfl
theorem s_vor {a b : Expr} {ea eb : E} {pos : Pos} (ha : PEm X W a ea) (hb : PEm X W b eb) : PEm X W (.BoolOp .Or [a, b] pos) (.vor ea eb) := by
  refine PE.imp (pe_orT ha (pe_one hb)) fun σ H Q ⟨Hs, m, R, h⟩ => ?_
  simp only [ev] at h
  show tE X.K X.mg W ea σ H _
  refine stepT R h fun p v Hs1 H1 hp R1 F1 r => ?_
  revert hp
  generalize hd : p.1.2 = d at r
  intro hp
  cases d with
  | none =>
    simp only at hp
    have e := RB.non (.inl r : RB X.K Hs1 H1 v .none)
    subst e
    refine ⟨false, rfl, ?_⟩
    rw [if_neg (by decide)]
    show tE X.K X.mg W eb σ H1 Q
    have hb' := noX_bad' hp.bind
    rw [← res_ret (ev eb (tkm ea p.2))] at hb'
    refine stepT0 R1 hb' fun q w Hs2 H2 hq R2 F2 r2 => ?_
    have hq := PostR.okD' hq
    revert hq
    generalize hd2 : q.1.2 = d2 at r2
    intro hq
    cases d2 with
    | tuple ys => exact fin_sh (mg := X.mg) (W := W) (e := .vor ea eb) rfl hq R2 (F1.trans F2) r2
    | _ => exact hq.elim
  | tuple xs =>
    cases xs with
    | nil => exact hp.elim
    | cons x xs =>
      refine ⟨true, tru_tup r R1.sub, ?_⟩
      rw [if_pos rfl]
      exact fin_sh (mg := X.mg) (W := W) (e := .vor ea eb) rfl hp R1 F1 r
  | _ => exact hp.elim
theorem t_vor {a b : Expr} {ea eb : E} {pos : Pos} (ha : PTm X W a ea) (hb : PTm X W b eb) : PWm X W (.BoolOp .Or [a, b] pos) (.vor ea eb) := by
  refine PW.imp (pw_or ha (pw_or1 hb)) fun σ H Q ⟨Hs, m, R, h⟩ => ?_
  show tT X.K X.mg W ea σ H _
  refine ⟨Hs, m, R, ?_⟩
  unfold evC at h ⊢
  simp only [ev, Res.bind_assoc] at h
  cases hq : ev ea m with
  | bad => rw [hq] at h; exact h.elim
  | exc x => rw [hq] at h; exact h
  | ok p =>
    rw [hq] at h
    simp only [bind_ok] at h
    exfalso
    revert h
    cases p.1.2 with
    | none =>
      simp only [Res.bind_assoc]
      cases hb : ev eb (tkm ea p.2) with
      | ok q =>
        simp only [noX_ok, bind_ok]
        cases q.1.2 <;> exact fun h => h.elim
      | _ => exact fun h => h.elim
    | tuple xs => cases xs <;> exact fun h => h.elim
    | _ => exact fun h => h.elim
end
end Rc

set_option maxRecDepth 100000
set_option maxHeartbeats 4000000
namespace Rc
open PySem L2
variable [Tbs]
section
variable {X : Cx} {W : XK} {c : TC}
theorem plain_star {e : Expr} (h : isPlain e = true) (es : List Expr) (env : PySem.Env) : starEach (e :: es) env = (false, eval e env) :: starEach es env := by
  cases e <;> simp [isPlain] at h <;> rfl
theorem RpA.mono1 {K : PySem.W.Frag} {H H' : Hp} (s : Same H H') {v : V} {d : D} (r : Rp K H v d) : Rp K H' v d := Rp.mono s _ _ r

/-! ### displays, operands, arguments -/
theorem sS_nil : PA X [] (tS X.K X.mg W .nil) := by
  refine PA.imp pa_nil fun σ H Q ⟨Hs, m, R, h⟩ => ?_
  simp only [evs] at h
  exact h [] Hs H R Fram.refl .nil
theorem sS_cons {e : Expr} {es : List Expr} {ee : E} {ees : Es} (hp : isPlain e = true) (he : PEm X W e ee) (hes : PA X es (tS X.K X.mg W ees)) : PA X (e :: es) (tS X.K X.mg W (.cons ee ees)) := by
  refine PA.imp (pa_cons he hes (plain_star hp es _)) fun σ H Q ⟨Hs, m, R, h⟩ => ?_
  simp only [evs] at h
  refine stepT R h fun p v Hs1 H1 hp R1 F1 r => ?_
  refine ⟨Hs1, _, R1, hp.bind.imp (fun q hq vs Hs2 H2 R2 F2 rs => ?_) fun _ z => z⟩
  exact hq (v :: vs) Hs2 H2 R2 (F1.trans F2) (.cons (Rp.mono F2.same _ _ r) rs)
theorem sO_nil : PA X [] (tO X.K X.mg W .nil) := by
  refine PA.imp pa_nil fun σ H Q ⟨Hs, m, R, h⟩ => ?_
  simp only [evO] at h
  exact h [] Hs H R Fram.refl .nil
theorem sO_cons {e : Expr} {es : List Expr} {ee : E} {ees : Es} (hp : isPlain e = true) (he : PEm X W e ee) (hes : PA X es (tO X.K X.mg W ees)) : PA X (e :: es) (tO X.K X.mg W (.cons ee ees)) := by
  refine PA.imp (pa_cons he hes (plain_star hp es _)) fun σ H Q ⟨Hs, m, R, h⟩ => ?_
  simp only [evO] at h
  refine step R h fun p v Hs1 H1 hp R1 F1 b g => ?_
  refine ⟨Hs1, _, R1, hp.bind.imp (fun q hq vs Hs2 H2 R2 F2 rs => ?_) fun _ z => z⟩
  exact hq (v :: vs) Hs2 H2 R2 (F1.trans F2) (.cons (b.mono F2.same) rs)
theorem sA_nil {ms : List Bool} : PA X [] (tAr X.K X.mg W ms .nil) := by
  refine PA.imp pa_nil fun σ H Q ⟨Hs, m, R, h⟩ => ?_
  simp only [evA] at h
  exact h [] Hs H R Fram.refl .nil
theorem sA_cons {e : Expr} {es : List Expr} {ee : E} {ees : Es} {ms : List Bool} (hp : isPlain e = true) (he : PEm X W e ee) (hes : ∀ ms, PA X es (tAr X.K X.mg W ms ees)) : PA X (e :: es) (tAr X.K X.mg W ms (.cons ee ees)) := by
  by_cases hb : ∃ i ms', ee = .var i ∧ ms = true :: ms'
  · obtain ⟨i, ms', rfl, rfl⟩ := hb
    refine PA.imp (pa_cons he (hes ms') (plain_star hp es _)) fun σ H Q ⟨Hs, m, R, h⟩ => ?_
    simp only [evA] at h
    refine step R h fun p v Hs1 H1 hp R1 F1 b g => ?_
    refine ⟨Hs1, _, R1, hp.bind.imp (fun q hq vs Hs2 H2 R2 F2 rs => ?_) fun _ z => z⟩
    exact hq (v :: vs) Hs2 H2 R2 (F1.trans F2) (.slot b rs)
  · refine PA.imp (pa_cons he (hes ms.tail) (plain_star hp es _)) fun σ H Q ⟨Hs, m, R, h⟩ => ?_
    have e' : evA ms (.cons ee ees) m = (ev ee m).bind fun p => (evA ms.tail ees (tkm ee p.2)).bind fun q => .ok (.inr p.1.2 :: q.1, q.2) := by
      simp only [evA]
      congr 1; funext p
      split
      · exact absurd ⟨_, _, rfl, rfl⟩ hb
      · rfl
    rw [e'] at h
    refine stepT R h fun p v Hs1 H1 hp R1 F1 r => ?_
    refine ⟨Hs1, _, R1, hp.bind.imp (fun q hq vs Hs2 H2 R2 F2 rs => ?_) fun _ z => z⟩
    exact hq (v :: vs) Hs2 H2 R2 (F1.trans F2) (.val (Rp.mono F2.same _ _ r) rs)

theorem s_tup {es : List Expr} {ees : Es} {k : Nat} {pos : Pos} (h : PA X es (tS X.K X.mg W ees)) : PEm X W (.Tuple es k pos) (.tup ees) := by
  refine PE.imp (pe_tup h) fun σ H Q ⟨Hs, m, R, h⟩ => ?_
  simp only [ev] at h
  refine ⟨Hs, m, R, h.bind.imp (fun p hp vs Hs1 H1 R1 F1 r => ?_) fun _ z => z⟩
  split at hp
  · rename_i hl
    exact ⟨by rw [r.length]; exact hl, fun q n => fin_tup (e := .tup ees) rfl hp R1 F1 r q n⟩
  · exact hp.elim
theorem s_lst {es : List Expr} {ees : Es} {pos : Pos} (h : PA X es (tS X.K X.mg W ees)) : PEm X W (.List es pos) (.lst ees) := by
  refine PE.imp (pe_lst h) fun σ H Q ⟨Hs, m, R, h⟩ => ?_
  simp only [ev] at h
  refine ⟨Hs, m, R, h.bind.imp (fun p hp vs Hs1 H1 R1 F1 r => ?_) fun _ z => z⟩
  split at hp
  · rename_i hl
    exact ⟨by rw [r.length]; exact hl, fun q n => fin_new (e := .lst ees) rfl hp R1 F1 (.lst r) q n⟩
  · exact hp.elim
theorem s_dct {pos : Pos} : PEm X W (.Dict [] [] pos) .dct := by
  refine PE.imp pe_dnewT fun σ H Q ⟨Hs, m, R, h⟩ => ?_
  simp only [ev] at h
  exact fun p n => fin_new (e := .dct) rfl h R Fram.refl (.dT .nil rfl) p n

/-! ### items and slices -/
def rIdx (K : PySem.W.Frag) : R2 := fun v w H Q => ∃ Hs x y d, Same Hs H ∧ RB K Hs H v x ∧ RB K Hs H w y ∧ idxF x y = some d ∧ ∀ u, Rp K Hs u d → Q u H
theorem atV {K : PySem.W.Frag} {H : Hp} {vs : List V} {ds : List D} {i : Int} {d : D} (r : RpA K H vs ds) (h : atD ds i = some d) : ∃ u, atI vs i = some u ∧ Rp K H u d := by
  unfold atD atI at h
  rw [Option.bind_eq_some_iff] at h
  obtain ⟨j, hj, hd⟩ := h
  obtain ⟨u, hu, ru⟩ := r.get hd
  refine ⟨u, ?_, ru⟩
  unfold atI
  rw [r.length, hj]
  exact hu
theorem no_key (ds : List D) : ∀ kvs : List (List Key × V), ¬ [((PyData.list ds, PyData.none) : D × D)].map (·.1) = kvs.map (fun p => PyData.tuple (p.1.map keyD))
  | [] => by simp
  | k :: r => by simp
theorem scr_of {K : PySem.W.Frag} {Hs H : Hp} {v : V} {ds : List D} (rx : RB K Hs H v (.dict [(.list ds, .none)])) : ∃ (a : Addr) (ns : List Int), v = .ref a ∧ SqL K Hs a (ns.map V.int) ∧ ds = ns.map PyData.int := by
  rcases rx with rx | ⟨a', o, ea, _, k⟩
  · cases rx with
    | dct h1 h2 h3 h4 h5 => exact absurd h5 (no_key ds _)
    | scr h1 h2 =>
      rename_i a ns
      refine ⟨a, ns, rfl, h1, ?_⟩
      unfold scrD at h2
      simpa using h2
    | adr e => cases e
  · cases k with
    | dT h2 h5 => exact absurd h5 (no_key ds _)
theorem ix_idx : IxR X (rIdx X.K) := by
  have base : IxR X (fun x y H Q => rIdx X.K x y H Q) := by
    intro val slc pins s σ H v w a b Q I ra rb h hop
    obtain ⟨Hs, x, y, d, sm, rx, ry, hd, q⟩ := h
    unfold idxF at hd
    split at hd
    · obtain ⟨p, vs, rfl, h1, r1⟩ := rx.seqL sm
      obtain ⟨u, hu, ru⟩ := atV r1 hd
      exact ix_list val slc pins s σ H _ _ a b Q I ra rb ⟨p, vs, _, u, rfl, ry.int, SqL.of h1, hu, q u ru⟩ hop
    · obtain ⟨p, vs, rfl, h1, r1⟩ := rx.seqT sm
      obtain ⟨u, hu, ru⟩ := atV r1 hd
      exact ix_tup val slc pins s σ H _ _ a b Q I ra rb ⟨p, vs, _, u, rfl, ry.int, h1, hu, q u ru⟩ hop
    · rename_i ds i
      obtain ⟨ad, ns, rfl, hq, e⟩ := scr_of rx
      subst e
      have : ∃ n, d = .int n ∧ atI (ns.map V.int) i = some (V.int n) := by
        unfold atD atI at hd
        rw [Option.bind_eq_some_iff] at hd
        obtain ⟨j, hj, hd⟩ := hd
        rw [List.getElem?_map] at hd
        cases hn : ns[j]? with
        | none => rw [hn] at hd; simp at hd
        | some n =>
          rw [hn] at hd
          refine ⟨n, by simpa using hd.symm, ?_⟩
          unfold atI
          rw [List.length_map] at hj ⊢
          rw [hj]
          show (ns.map V.int)[j]? = _
          rw [List.getElem?_map, hn]
          rfl
      obtain ⟨n, rfl, hn⟩ := this
      exact ix_list val slc pins s σ H _ _ a b Q I ra rb ⟨ad, _, _, _, rfl, ry.int, sm.seq hq, hn, q _ (.int n)⟩ hop
    · cases hd
  exact base
theorem plain_ix {b : Expr} (h : isSlice b = false) : PlainIx b := fun o i => by
  cases b <;> simp [isSlice] at h <;> rfl
theorem s_idx {a b : Expr} {ea eb : E} {pos : Pos} (hs : isSlice b = false) (ha : PEm X W a ea) (hb : PEm X W b eb) : PEm X W (.Subscript a b pos) (.idx ea eb) := by
  refine PE.imp (pe_ix ix_idx ha hb (plain_ix hs)) fun σ H Q ⟨Hs, m, R, h⟩ => ?_
  simp only [ev] at h
  refine step R h fun p v Hs1 H1 hp R1 F1 b1 g1 => ?_
  refine step R1 hp fun q w Hs2 H2 hq R2 F2 b2 g2 => ?_
  obtain ⟨d, hd, hq⟩ := PostR.ofO hq.bind
  rw [Option.bind_eq_some_iff] at hd
  obtain ⟨x, hx, hd⟩ := hd
  rw [Option.bind_eq_some_iff] at hd
  obtain ⟨y, hy, hd⟩ := hd
  exact ⟨Hs2, x, y, d, R2.sub, R2.op (b1.mono F2.same) hx, R2.op b2 hy, hd, fun u ru => fin_sh (mg := X.mg) (W := W) (e := .idx ea eb) rfl hq R2 (F1.trans F2) ru⟩
/-- a slice's part -/
theorem po_of {o : Option Expr} {e : E} (h : match o with | none => e = .con .none | some x => PEm X W x e ∧ e ≠ .con .none) : PO X o (fun σ H Q => ∃ Hs m, REnv X.K Hs H σ m ∧
    PostR (fun (p : Option Int × Env) => ∀ Hs' H', REnv X.K Hs' H' σ p.2 → Fram Hs H (Own σ m) Hs' H' (Own σ p.2) → Q p.1 H') (XcE X.mg W σ H m) ((ev e m).bind fun p => (Res.ofO (partI e p.1.2)).bind fun i => .ok (i, p.2))) := by
  cases o with
  | none =>
    have h : e = .con .none := h
    subst h
    refine ⟨fun pins s σ H Q I ⟨Hs, m, R, h⟩ => po_none.run pins s σ H Q I ?_⟩
    exact h Hs H R Fram.refl
  | some x =>
    obtain ⟨hx, hn⟩ := h
    refine ⟨fun pins s σ H Q I ⟨Hs, m, R, h⟩ => (po_some hx).run pins s σ H Q I ?_⟩
    refine step R h fun p v Hs1 H1 hp R1 F1 b1 g1 => ?_
    have rb := now R1 b1 g1
    obtain ⟨i, hi, hp⟩ := PostR.ofO hp.bind
    revert hi
    generalize p.1.2 = d at rb
    intro hi
    have : ∃ k, d = .int k ∧ i = some k := by
      unfold partI at hi
      split at hi
      · exact absurd rfl hn
      · exact ⟨_, rfl, by simpa using hi.symm⟩
      · cases hi
    obtain ⟨k, rfl, rfl⟩ := this
    exact ⟨k, rb.int, hp Hs1 H1 R1 F1⟩
def rSlm (K : PySem.W.Frag) : V → Option Int → Option Int → Hp → VK → Prop := fun v lo hi H Q => ∃ Hs x fr d, Same Hs H ∧ RB K Hs H v x ∧ slcF x lo hi = some (fr, d) ∧
  (∀ u, fr = false → Rp K Hs u d → Q u H) ∧ (∀ o, fr = true → Cont K Hs o d → ∀ p, H p = none → Q (.ref p) (upd H p o)) ∧ (∀ us, fr = false → ∀ ds, d = .tuple ds → RpA K Hs us ds → ∀ p, H p = none → Q (.ref p) (upd H p (.tup us)))
theorem sl_m : SlR X (rSlm X.K) := by
  intro pins s σ H v a vl vu lo hi sl Q I ra hs pl pu h
  obtain ⟨Hs, x, fr, d, sm, rx, hd, q1, q2, q3⟩ := h
  cases x <;> simp only [slcF] at hd <;> try (cases hd)
  · obtain ⟨p, vs, rfl, h1, r1⟩ := rx.seqL sm
    exact sl_list pins s σ H _ a vl vu lo hi sl Q I ra hs pl pu ⟨p, vs, rfl, SqL.of h1, fun t n => q2 _ rfl (.lst (r1.cut lo hi)) t n⟩
  · rename_i ds
    obtain ⟨p, vs, rfl, h1, r1⟩ := rx.seqT sm
    refine sl_tupA pins s σ H _ a vl vu lo hi sl Q I ra hs pl pu ⟨p, vs, rfl, h1, fun hw => ?_, fun hw t n => q3 _ rfl _ rfl (r1.cut lo hi) t n⟩
    refine q1 _ rfl ?_
    have e : cutD ds lo hi = ds := by
      rw [r1.length] at hw
      unfold cutD
      rw [hw.1, hw.2]
      simp
    rw [e]
    rcases rx with rx | ⟨a', o, ea, _, k⟩
    · exact rx
    · cases k
theorem s_slc {a : Expr} {lo hi : Option Expr} {ea el eh : E} {p2 pos : Pos} (ha : PEm X W a ea) (hl : match lo with | none => el = .con .none | some x => PEm X W x el ∧ el ≠ .con .none)
    (hh : match hi with | none => eh = .con .none | some x => PEm X W x eh ∧ eh ≠ .con .none) : PEm X W (.Subscript a (.Slice lo hi none p2) pos) (.slc ea el eh) := by
  refine PE.imp (pe_slice sl_m ha (po_of hl) (po_of hh)) fun σ H Q ⟨Hs, m, R, h⟩ => ?_
  simp only [ev] at h
  refine step R h fun p v Hs1 H1 hp R1 F1 b1 g1 => ?_
  have e1 : ∀ {e : E} {m : Env} {β : Type} (G : Option Int → Env → Res β), ((ev e m).bind fun q => (Res.ofO (partI e q.1.2)).bind fun lo => G lo q.2) = ((ev e m).bind fun q => (Res.ofO (partI e q.1.2)).bind fun i => .ok (i, q.2)).bind fun r => G r.1 r.2 := by
    intro e m β G
    simp only [Res.bind_assoc, bind_ok]
  rw [e1 (fun lo m' => (ev eh m').bind fun t => (Res.ofO (partI eh t.1.2)).bind fun hi => (Res.ofO ((rd ea p.1.2 t.2).bind fun x => slcF x lo hi)).bind fun r => .ok (r, t.2))] at hp
  refine ⟨Hs1, _, R1, hp.bind.imp (fun q hq Hs2 H2 R2 F2 => ?_) fun _ z => z⟩
  have hq := hq.next F2
  rw [e1 (fun hi m' => (Res.ofO ((rd ea p.1.2 m').bind fun x => slcF x q.1 hi)).bind fun r => .ok (r, m'))] at hq
  refine ⟨Hs2, _, R2, hq.bind.imp (fun t ht Hs3 H3 R3 F3 => ?_) fun _ z => z⟩
  obtain ⟨⟨fr, d⟩, hd, ht⟩ := PostR.ofO ht.bind
  rw [Option.bind_eq_some_iff] at hd
  obtain ⟨x, hx, hd⟩ := hd
  refine ⟨Hs3, x, fr, d, R3.sub, R3.op (b1.mono (F2.same.trans F3.same)) hx, hd, fun u hf ru => ?_, fun o hf co pp n => ?_, fun us hf ds hds ru pp n => ?_⟩
  · subst hf
    exact fin_sh (mg := X.mg) (W := W) (e := .slc ea el eh) rfl ht R3 ((F1.trans F2).trans F3) ru
  · subst hf
    exact fin_new (e := .slc ea el eh) rfl ht R3 ((F1.trans F2).trans F3) co pp n
  · subst hf hds
    exact fin_tup (e := .slc ea el eh) rfl ht R3 ((F1.trans F2).trans F3) ru pp n
end
end Rc

set_option maxRecDepth 100000
set_option maxHeartbeats 4000000
namespace Rc
open PySem L2
variable [Tbs]
section
variable {X : Cx} {W : XK} {c : TC}
theorem plain_back {pos : Pos} {env : PySem.Env} : ∀ {es : List Expr}, es.all isPlain = true → (backTo pos (starEach es env)).any (·.1) = false
  | [], _ => rfl
  | e :: es, h => by
    rw [List.all_cons, Bool.and_eq_true] at h
    rw [plain_star h.1]
    have ih := plain_back (pos := pos) (env := env) h.2
    show (false || (backTo pos (starEach es env)).any (·.1)) = false
    rw [ih]
    rfl
theorem s_rvs {a : Expr} {ea : E} {k : Nat} {p1 p2 p3 pos : Pos} (ha : PEm X W a ea) : PEm X W (.Subscript a (.Slice none none (some (.UnaryOp .USub (.Constant (.int 1) k p1) p2)) p3) pos) (.rvs ea) := by
  refine PE.imp (pe_revL ha) fun σ H Q ⟨Hs, m, R, h⟩ => ?_
  simp only [ev] at h
  refine step R h fun p v Hs1 H1 hp R1 F1 b1 g1 => ?_
  have rb := now R1 b1 g1
  obtain ⟨r, hd, hp⟩ := PostR.ofO hp.bind
  revert hd
  generalize p.1.2 = d at rb
  intro hd
  cases d <;> simp only [rvsF, Option.some.injEq, reduceCtorEq] at hd
  subst hd
  obtain ⟨q, vs, rfl, h1, r1⟩ := rb.seqL R1.sub
  exact ⟨q, vs, rfl, SqL.of h1, fun t n => fin_new (e := .rvs ea) rfl hp R1 F1 (.lst r1.reverse) t n⟩

/-! ### calls -/
theorem PostR.okD {α : Type} {P : α → Prop} {Xc : Str → Prop} {a : α} (h : PostR P Xc (.ok a)) : P a := h
def Es.len : Es → Nat
  | .nil => 0
  | .cons _ es => es.len + 1
theorem evA_len : ∀ {es : Es} {ms : List Bool} {m : Env} {p : List Arg × Env}, evA ms es m = .ok p → p.1.length = es.len
  | .nil, ms, m, p, h => by
    simp only [evA, Res.ok.injEq] at h
    subst h
    rfl
  | .cons e es, ms, m, p, h => by
    simp only [evA] at h
    cases he : ev e m with
    | bad => rw [he] at h; cases h
    | exc x => rw [he] at h; cases h
    | ok q =>
      rw [he] at h
      simp only [bind_ok] at h
      split at h
      · rename_i i ms'
        cases hs : evA ms' es q.2 with
        | bad => rw [hs] at h; cases h
        | exc x => rw [hs] at h; cases h
        | ok r =>
          rw [hs] at h
          simp only [bind_ok, Res.ok.injEq] at h
          subst h
          simp [Es.len, evA_len hs]
      · cases hs : evA ms.tail es (tkm e q.2) with
        | bad => rw [hs] at h; cases h
        | exc x => rw [hs] at h; cases h
        | ok r =>
          rw [hs] at h
          simp only [bind_ok, Res.ok.injEq] at h
          subst h
          simp [Es.len, evA_len hs]
theorem s_call (G : Good X W c) {x : Str} {e : Expr} {es : List Expr} {f : FnE} {ees : Es} {p pos : Pos} (hx : okName x = true) (hg : isGl c.sc x = true) (hf : c.fns.lookup x = some f) (hn : ees.len = f.n) (hp : (e :: es).all isPlain = true)
    (ha : PA X (e :: es) (tAr X.K X.mg W f.ms ees)) : PEm X W (.Call (.Name x p) (e :: es) [] pos) (.call f.f f.ms ees) := by
  obtain ⟨fa, fd, ps, k, F, hr, hm, hk, hb, hpass⟩ := (G.fns x f hf).ex
  have hp1 : isPlain e = true ∧ es.all isPlain = true := by rw [List.all_cons, Bool.and_eq_true] at hp; exact hp
  refine PE.imp (pe_call F hr (by show X.env.scope.names.lookup x = _; rw [G.sc]; exact gl_of hg) hm hk hb .nil hpass ha (okName_of hx).1 (plain_star hp1.1 es _) (plain_back hp1.2)) fun σ H Q ⟨Hs, m, R, h⟩ => ?_
  simp only [ev] at h
  refine ⟨Hs, m, R, ?_⟩
  have hb := h.bind
  cases hq : evA f.ms ees m with
  | bad => rw [hq] at hb; exact hb.elim
  | exc x => rw [hq] at hb; exact hb
  | ok q =>
    rw [hq] at hb
    intro vs Hs1 H1 R1 F1 ar
    replace hb := PostR.okD hb
    show spM X.K X.mg f.n f.f (vs ++ []) H1 Q W
    rw [List.append_nil]
    refine ⟨by rw [ar.length, evA_len hq]; exact hn, ?_⟩
    rcases hfe : fetch q.1 q.2 with _ | ⟨as, m1⟩
    · simp only [hfe] at hb
      exact hb.elim
    · simp only [hfe] at hb
      have fs := fetch_spec hfe
      refine ⟨Hs1, as, fs.env R1 ar, hb.bind.imp (fun r hr v Hs' H' R' F' rv => ?_) fun y hy C H' hC hE => hy C H' hC (ExF.trans F1 (hE.big fun b z => ?_))⟩
      · split at hr
        · rename_i hl
          obtain ⟨E1, E2, E3⟩ := fs.after R1 ar hl R' F' rv
          exact hr v Hs' H' E1 (F1.trans E2) E3
        · exact hr.elim
      · obtain ⟨j, i, d, _, _, h3, h4⟩ := fs.ownA ar z
        exact ⟨i, d, h3, h4⟩

/-! ### built-in functions -/
theorem allB_of {K : PySem.W.Frag} {H : Hp} : ∀ {vs : List V} {ds : List D} {b : Bool}, RpA K H vs ds → allB ds = some b → ∃ bs : List Bool, vs = bs.map V.bl ∧ b = bs.all id
  | _, _, _, .nil, h => ⟨[], rfl, by simp only [allB, Option.some.injEq] at h; rw [← h]; rfl⟩
  | _, d :: ds, b, .cons r t, h => by
    cases d <;> simp only [allB, reduceCtorEq] at h
    rename_i k
    rw [Option.map_eq_some_iff] at h
    obtain ⟨b', h1, h2⟩ := h
    obtain ⟨bs, e1, e2⟩ := allB_of t h1
    refine ⟨k :: bs, ?_, ?_⟩
    · cases r with
      | bl => rw [e1]; rfl
      | scr _ e => cases e
      | adr e => cases e
    · rw [← h2, e2]; rfl
theorem anyB_of {K : PySem.W.Frag} {H : Hp} : ∀ {vs : List V} {ds : List D} {b : Bool}, RpA K H vs ds → anyB ds = some b → ∃ bs : List Bool, vs = bs.map V.bl ∧ b = bs.any id
  | _, _, _, .nil, h => ⟨[], rfl, by simp only [anyB, Option.some.injEq] at h; rw [← h]; rfl⟩
  | _, d :: ds, b, .cons r t, h => by
    cases d <;> simp only [anyB, reduceCtorEq] at h
    rename_i k
    rw [Option.map_eq_some_iff] at h
    obtain ⟨b', h1, h2⟩ := h
    obtain ⟨bs, e1, e2⟩ := anyB_of t h1
    refine ⟨k :: bs, ?_, ?_⟩
    · cases r with
      | bl => rw [e1]; rfl
      | scr _ e => cases e
      | adr e => cases e
    · rw [← h2, e2]; rfl
theorem ints_of {K : PySem.W.Frag} {H : Hp} : ∀ {vs : List V} {ds : List D} {ns : List Int}, RpA K H vs ds → intsOf ds = some ns → vs = ns.map V.int
  | _, _, _, .nil, h => by simp only [intsOf, Option.some.injEq] at h; rw [← h]; rfl
  | _, d :: ds, b, .cons r t, h => by
    cases d <;> simp only [intsOf, reduceCtorEq] at h
    rename_i k
    rw [Option.map_eq_some_iff] at h
    obtain ⟨b', h1, h2⟩ := h
    have e1 := ints_of t h1
    cases r with
    | int => rw [e1, ← h2]; rfl
    | scr _ e => cases e
    | adr e => cases e
theorem foldl_max : ∀ (xs : List Int) (x : Int), (xs.foldl max x = x ∨ xs.foldl max x ∈ xs) ∧ x ≤ xs.foldl max x ∧ ∀ y ∈ xs, y ≤ xs.foldl max x
  | [], x => ⟨.inl rfl, Int.le_refl _, by simp⟩
  | y :: xs, x => by
    obtain ⟨a, b, c⟩ := foldl_max xs (max x y)
    simp only [List.foldl_cons, List.mem_cons]
    refine ⟨?_, by omega, fun z hz => ?_⟩
    · rcases a with a | a
      · rw [a]
        by_cases h : x ≤ y
        · rw [Int.max_eq_right h]; exact .inr (.inl rfl)
        · rw [Int.max_eq_left (by omega)]; exact .inl rfl
      · exact .inr (.inr a)
    · rcases hz with rfl | hz
      · omega
      · exact c z hz
theorem foldl_min : ∀ (xs : List Int) (x : Int), (xs.foldl min x = x ∨ xs.foldl min x ∈ xs) ∧ xs.foldl min x ≤ x ∧ ∀ y ∈ xs, xs.foldl min x ≤ y
  | [], x => ⟨.inl rfl, Int.le_refl _, by simp⟩
  | y :: xs, x => by
    obtain ⟨a, b, c⟩ := foldl_min xs (min x y)
    simp only [List.foldl_cons, List.mem_cons]
    refine ⟨?_, by omega, fun z hz => ?_⟩
    · rcases a with a | a
      · rw [a]
        by_cases h : x ≤ y
        · rw [Int.min_eq_left h]; exact .inl rfl
        · rw [Int.min_eq_right (by omega)]; exact .inr (.inl rfl)
      · exact .inr (.inr a)
    · rcases hz with rfl | hz
      · omega
      · exact c z hz
theorem max_is {ns : List Int} {m k : Int} (h : maxL ns = some k) (h1 : m ∈ ns) (h2 : ∀ y ∈ ns, y ≤ m) : m = k := by
  cases ns with
  | nil => cases h
  | cons x xs =>
    simp only [maxL, Option.some.injEq] at h
    obtain ⟨a, b, c⟩ := foldl_max xs x
    rw [h] at a b c
    have h3 : k ≤ m := by
      rcases a with a | a
      · rw [a]; exact h2 x List.mem_cons_self
      · exact h2 k (List.mem_cons_of_mem _ a)
    have h4 : m ≤ k := by
      rcases List.mem_cons.mp h1 with e | e
      · rw [e]; exact b
      · exact c m e
    omega
theorem min_is {ns : List Int} {m k : Int} (h : minL ns = some k) (h1 : m ∈ ns) (h2 : ∀ y ∈ ns, m ≤ y) : m = k := by
  cases ns with
  | nil => cases h
  | cons x xs =>
    simp only [minL, Option.some.injEq] at h
    obtain ⟨a, b, c⟩ := foldl_min xs x
    rw [h] at a b c
    have h3 : m ≤ k := by
      rcases a with a | a
      · rw [a]; exact h2 x List.mem_cons_self
      · exact h2 k (List.mem_cons_of_mem _ a)
    have h4 : k ≤ m := by
      rcases List.mem_cons.mp h1 with e | e
      · rw [e]; exact b
      · exact c m e
    omega
theorem maxL_pos {ns : List Int} {k : Int} (h : maxL ns = some k) : 0 < ns.length := by
  cases ns with
  | nil => cases h
  | cons x xs => simp
theorem minL_pos {ns : List Int} {k : Int} (h : minL ns = some k) : 0 < ns.length := by
  cases ns with
  | nil => cases h
  | cons x xs => simp
def rBlt (K : PySem.W.Frag) (b : Blt) : List V → Hp → VK → Prop := fun vs H Q => ∃ Hs ds fr d, Same Hs H ∧ Paired (fun v x => RB K Hs H v x) vs ds ∧ bltF b ds = some (fr, d) ∧
  (∀ u, fr = false → Rp K Hs u d → Q u H) ∧ (∀ o, fr = true → Cont K Hs o d → ∀ p, H p = none → Q (.ref p) (upd H p o)) ∧ (∀ us, fr = false → ∀ ds, d = .tuple ds → RpA K Hs us ds → ∀ p, H p = none → Q (.ref p) (upd H p (.tup us)))
theorem paired1 {α β : Type} {F : α → β → Prop} {xs : List α} {y : β} (h : Paired F xs [y]) : ∃ x, xs = [x] ∧ F x y := by
  cases h with
  | cons a t => cases t; exact ⟨_, rfl, a⟩
theorem paired2 {α β : Type} {F : α → β → Prop} {xs : List α} {y z : β} (h : Paired F xs [y, z]) : ∃ x w, xs = [x, w] ∧ F x y ∧ F w z := by
  cases h with
  | cons a t =>
    cases t with
    | cons b t => cases t; exact ⟨_, _, rfl, a, b⟩
def Blt.fn : Blt → Value
  | .len => .builtin "len" | .abs => .builtin "abs" | .all => .builtin "all" | .any => .builtin "any" | .max2 => .builtin "max" | .min2 => .builtin "min" | .max1 => .builtin "max" | .min1 => .builtin "min"
  | .tuple => .type "tuple" | .list => .type "list" | .int => .type "int"
theorem blt_ok (G : Good X W c) (b : Blt) : CallR X b.fn (rBlt X.K b) := by
  intro pins s σ H vs us Q I rv h
  obtain ⟨Hs, ds, fr, d, sm, pr, hd, q1, q2, q3⟩ := h
  unfold bltF at hd
  split at hd
  · -- len of a list
    obtain ⟨v, rfl, rb⟩ := paired1 pr
    obtain ⟨a, ws, rfl, h1, r1⟩ := rb.seqL sm
    simp only [Option.some.injEq, Prod.mk.injEq] at hd
    obtain ⟨rfl, rfl⟩ := hd
    refine call_len_seq pins s σ H _ us Q I rv ⟨a, ws, rfl, .inl (SqL.of h1), ?_⟩
    rw [r1.length]
    exact q1 _ rfl (.int _)
  · obtain ⟨v, rfl, rb⟩ := paired1 pr
    obtain ⟨a, ws, rfl, h1, r1⟩ := rb.seqT sm
    simp only [Option.some.injEq, Prod.mk.injEq] at hd
    obtain ⟨rfl, rfl⟩ := hd
    refine call_len_seq pins s σ H _ us Q I rv ⟨a, ws, rfl, .inr h1, ?_⟩
    rw [r1.length]
    exact q1 _ rfl (.int _)
  · obtain ⟨v, rfl, rb⟩ := paired1 pr
    obtain ⟨a, ns, rfl, h1, e⟩ := scr_of rb
    simp only [Option.some.injEq, Prod.mk.injEq] at hd
    obtain ⟨rfl, rfl⟩ := hd
    subst e
    refine call_len_seq pins s σ H _ us Q I rv ⟨a, _, rfl, .inl (sm.seq h1), ?_⟩
    rw [List.length_map]
    have := q1 (.int ns.length) rfl (by rw [List.length_map]; exact .int _)
    exact this
  · obtain ⟨v, rfl, rb⟩ := paired1 pr
    simp only [Option.some.injEq, Prod.mk.injEq] at hd
    obtain ⟨rfl, rfl⟩ := hd
    exact call_abs pins s σ H _ us Q I rv ⟨_, by rw [rb.int], q1 _ rfl (.int _)⟩
  · obtain ⟨v, rfl, rb⟩ := paired1 pr
    obtain ⟨a, ws, rfl, h1, r1⟩ := rb.seqL sm
    rw [Option.map_eq_some_iff] at hd
    obtain ⟨k, hk, hd⟩ := hd
    simp only [Prod.mk.injEq] at hd
    obtain ⟨rfl, rfl⟩ := hd
    obtain ⟨bs, rfl, rfl⟩ := allB_of r1 hk
    exact cr_all G.calm pins s σ H _ us Q I rv ⟨a, bs, rfl, SqL.of h1, q1 _ rfl (.bl _)⟩
  · obtain ⟨v, rfl, rb⟩ := paired1 pr
    obtain ⟨a, ws, rfl, h1, r1⟩ := rb.seqL sm
    rw [Option.map_eq_some_iff] at hd
    obtain ⟨k, hk, hd⟩ := hd
    simp only [Prod.mk.injEq] at hd
    obtain ⟨rfl, rfl⟩ := hd
    obtain ⟨bs, rfl, rfl⟩ := anyB_of r1 hk
    exact cr_any G.calm pins s σ H _ us Q I rv ⟨a, bs, rfl, SqL.of h1, q1 _ rfl (.bl _)⟩
  · obtain ⟨v, w, rfl, rb, rb2⟩ := paired2 pr
    simp only [Option.some.injEq, Prod.mk.injEq] at hd
    obtain ⟨rfl, rfl⟩ := hd
    exact call_max2 G.calm pins s σ H _ us Q I rv ⟨_, _, by rw [rb.int, rb2.int], q1 _ rfl (.int _)⟩
  · obtain ⟨v, w, rfl, rb, rb2⟩ := paired2 pr
    simp only [Option.some.injEq, Prod.mk.injEq] at hd
    obtain ⟨rfl, rfl⟩ := hd
    exact call_min2 G.calm pins s σ H _ us Q I rv ⟨_, _, by rw [rb.int, rb2.int], q1 _ rfl (.int _)⟩
  · obtain ⟨v, rfl, rb⟩ := paired1 pr
    obtain ⟨a, ws, rfl, h1, r1⟩ := rb.seqL sm
    rw [Option.bind_eq_some_iff] at hd
    obtain ⟨ns, hns, hd⟩ := hd
    rw [Option.map_eq_some_iff] at hd
    obtain ⟨k, hk, hd⟩ := hd
    simp only [Prod.mk.injEq] at hd
    obtain ⟨rfl, rfl⟩ := hd
    have e := ints_of r1 hns
    subst e
    refine cr_max G.calm pins s σ H _ us Q I rv ⟨a, ns, rfl, SqL.of h1, maxL_pos hk, fun m hm hle => ?_⟩
    rw [max_is hk hm hle]
    exact q1 _ rfl (.int _)
  · obtain ⟨v, rfl, rb⟩ := paired1 pr
    obtain ⟨a, ws, rfl, h1, r1⟩ := rb.seqL sm
    rw [Option.bind_eq_some_iff] at hd
    obtain ⟨ns, hns, hd⟩ := hd
    rw [Option.map_eq_some_iff] at hd
    obtain ⟨k, hk, hd⟩ := hd
    simp only [Prod.mk.injEq] at hd
    obtain ⟨rfl, rfl⟩ := hd
    have e := ints_of r1 hns
    subst e
    refine cr_min G.calm pins s σ H _ us Q I rv ⟨a, ns, rfl, SqL.of h1, minL_pos hk, fun m hm hle => ?_⟩
    rw [min_is hk hm hle]
    exact q1 _ rfl (.int _)
  · obtain ⟨v, rfl, rb⟩ := paired1 pr
    obtain ⟨a, ws, rfl, h1, r1⟩ := rb.seqL sm
    simp only [Option.some.injEq, Prod.mk.injEq] at hd
    obtain ⟨rfl, rfl⟩ := hd
    exact call_tuple_of pins s σ H _ us Q I rv ⟨a, ws, rfl, .inl ⟨SqL.of h1, fun l n => q3 ws rfl _ rfl r1 l n⟩⟩
  · obtain ⟨v, rfl, rb⟩ := paired1 pr
    obtain ⟨a, ws, rfl, h1, r1⟩ := rb.seqT sm
    simp only [Option.some.injEq, Prod.mk.injEq] at hd
    obtain ⟨rfl, rfl⟩ := hd
    refine call_tuple_of pins s σ H _ us Q I rv ⟨a, ws, rfl, .inr ⟨h1, q1 _ rfl ?_⟩⟩
    rcases rb with rb | ⟨a', o, ea, _, k⟩
    · exact rb
    · cases k
  · obtain ⟨v, rfl, rb⟩ := paired1 pr
    obtain ⟨a, ws, rfl, h1, r1⟩ := rb.seqL sm
    simp only [Option.some.injEq, Prod.mk.injEq] at hd
    obtain ⟨rfl, rfl⟩ := hd
    exact call_list_of pins s σ H _ us Q I rv ⟨a, ws, rfl, .inl (SqL.of h1), fun l n => q2 _ rfl (.lst r1) l n⟩
  · obtain ⟨v, rfl, rb⟩ := paired1 pr
    obtain ⟨a, ws, rfl, h1, r1⟩ := rb.seqT sm
    simp only [Option.some.injEq, Prod.mk.injEq] at hd
    obtain ⟨rfl, rfl⟩ := hd
    exact call_list_of pins s σ H _ us Q I rv ⟨a, ws, rfl, .inr h1, fun l n => q2 _ rfl (.lst r1) l n⟩
  · obtain ⟨v, rfl, rb⟩ := paired1 pr
    simp only [Option.some.injEq, Prod.mk.injEq] at hd
    obtain ⟨rfl, rfl⟩ := hd
    exact call_int1 pins s σ H _ us Q I rv (.inl ⟨_, by rw [rb.int], q1 _ rfl (.int _)⟩)
  · obtain ⟨v, rfl, rb⟩ := paired1 pr
    simp only [Option.some.injEq, Prod.mk.injEq] at hd
    obtain ⟨rfl, rfl⟩ := hd
    exact call_int1 pins s σ H _ us Q I rv (.inr ⟨_, by rw [rb.bl], q1 _ rfl (.int _)⟩)
  · cases hd
end
end Rc

set_option maxRecDepth 100000
set_option maxHeartbeats 4000000
namespace Rc
open PySem L2
variable [Tbs]
section
variable {X : Cx} {W : XK} {c : TC}
theorem gl_at (G : Good X W c) {x : Str} (h : isGl c.sc x = true) : Gl X x := by show X.env.scope.names.lookup x = _; rw [G.sc]; exact gl_of h
def Blt.nm : Blt → Str
  | .len => "len" | .abs => "abs" | .all => "all" | .any => "any" | .max2 => "max" | .min2 => "min" | .max1 => "max" | .min1 => "min" | .tuple => "tuple" | .list => "list" | .int => "int"
theorem bltOf_name {x : Str} {n : Nat} {b : Blt} (h : bltOf x n = some b) : x = b.nm := by
  unfold bltOf at h
  repeat' split at h
  all_goals first | (cases h; done) | (simp only [Option.some.injEq] at h; subst h; rename_i hx; exact hx.1)
theorem nm_blts (b : Blt) : b.nm ∈ blts := by cases b <;> decide +kernel
theorem boot_nm (b : Blt) : bootBuiltins b.nm = some b.fn := by cases b <;> decide +kernel
theorem nm_ne (b : Blt) : b.nm ≠ "__name__" := by cases b <;> decide +kernel
theorem s_blt (G : Good X W c) {x : Str} {n : Nat} {b : Blt} {e : Expr} {es : List Expr} {ees : Es} {p pos : Pos} (hx : okName x = true) (hg : isGl c.sc x = true) (hb : bltOf x n = some b) (hp : (e :: es).all isPlain = true)
    (ha : PA X (e :: es) (tO X.K X.mg W ees)) : PEm X W (.Call (.Name x p) (e :: es) [] pos) (.blt b ees) := by
  have hp1 : isPlain e = true ∧ es.all isPlain = true := by rw [List.all_cons, Bool.and_eq_true] at hp; exact hp
  have en := bltOf_name hb
  have hm : X.mg x = none := by rw [en]; exact G.blt _ (nm_blts b)
  have hv : bootBuiltins x = some b.fn := by rw [en]; exact boot_nm b
  have hne : x ≠ "__name__" := by rw [en]; exact nm_ne b
  have base : PE X (.Call (.Name x p) (e :: es) [] pos) (tCB (rBlt X.K b) (tO X.K X.mg W ees)) := by
    have ok := blt_ok (c := c) G b
    cases b
    all_goals first
      | exact pe_callB ok (gl_at G hg) hm hv ha hne (okName_of hx).1 (plain_star hp1.1 es _) (plain_back hp1.2)
      | exact pe_callTy ok (gl_at G hg) hm hv ha hne (okName_of hx).1 (plain_star hp1.1 es _) (plain_back hp1.2)
  refine PE.imp base fun σ H Q ⟨Hs, m, R, h⟩ => ?_
  simp only [ev] at h
  refine ⟨Hs, m, R, h.bind.imp (fun q hq vs Hs1 H1 R1 F1 ps => ?_) fun _ z => z⟩
  obtain ⟨⟨fr, d⟩, hd, hq⟩ := PostR.ofO hq.bind
  rw [Option.bind_eq_some_iff] at hd
  obtain ⟨xs, hxs, hd⟩ := hd
  have pr : ∀ {vs : List V} {l : List (E × D)} {xs : List D}, Paired (fun v (q : E × D) => BR X.K q.1 σ Hs1 v q.2) vs l → rds l q.2 = some xs → Paired (fun v x => RB X.K Hs1 H1 v x) vs xs := by
    intro vs l
    induction l generalizing vs with
    | nil =>
      intro xs h1 h2
      cases h1
      simp only [rds, Option.some.injEq] at h2
      subst h2
      exact .nil
    | cons a l ih =>
      intro xs h1 h2
      cases h1 with
      | cons ra rl =>
        obtain ⟨ee, dd⟩ := a
        simp only [rds] at h2
        rw [Option.bind_eq_some_iff] at h2
        obtain ⟨y, hy, h2⟩ := h2
        rw [Option.map_eq_some_iff] at h2
        obtain ⟨ys, hys, rfl⟩ := h2
        exact .cons (R1.op ra hy) (ih rl hys)
  refine ⟨Hs1, xs, fr, d, R1.sub, pr ps hxs, hd, fun u hf ru => ?_, fun o hf co pp n => ?_, fun us hf ds hds ru pp n => ?_⟩
  · subst hf
    exact fin_sh (mg := X.mg) (W := W) (e := .blt b ees) rfl hq R1 F1 ru
  · subst hf
    exact fin_new (e := .blt b ees) rfl hq R1 F1 co pp n
  · subst hf hds
    exact fin_tup (e := .blt b ees) rfl hq R1 F1 ru pp n

/-! ### isinstance -/
theorem tyx_of {K : PySem.W.Frag} {Hs H : Hp} {v : V} {d : D} {t : String} (b : RB K Hs H v d) (s : Same Hs H) (h : tyOf d = some t) : TyX K H v (.type t) := by
  have tupT : ∀ {a : Addr} {xs : List V}, SqT K H a xs → TyX K H (.ref a) (.type "tuple") := fun {a xs} q => by
    rcases q with (q | ⟨o, q⟩) | ⟨o, its, n, hk, hc, _⟩
    · exact .base (.tup q)
    · exact .fTuple q
    · exact .kTuple hk hc
  rcases b with b | ⟨a, o, rfl, h1, c⟩
  · cases b with
    | non => cases h; exact .base .non
    | bl b => cases h; exact .base (.bl b)
    | int i => cases h; exact .base (.int i)
    | str x => cases h; exact .base (.str x)
    | lst h1 _ => cases h; exact .base (.lst (s _ _ h1))
    | tup h1 _ => cases h; exact tupT (Same.seqT s h1)
    | dct h1 _ _ _ _ =>
      have : t = "dict" := by
        unfold tyOf at h
        split at h <;> first | (cases h; done) | (simp only [Option.some.injEq] at h; first | exact h.symm | (rename_i e; cases e))
      subst this
      exact .base (.dT (s _ _ h1))
    | scr _ e => subst e; simp [scrD, tyOf] at h
    | adr e => subst e; simp [adrD, tyOf] at h
  · cases c with
    | lst _ => cases h; exact .base (.lst h1)
    | dT _ _ =>
      have : t = "dict" := by
        unfold tyOf at h
        split at h <;> first | (cases h; done) | (simp only [Option.some.injEq] at h; first | exact h.symm | (rename_i e; cases e))
      subst this
      exact .base (.dT h1)
theorem TyX.mono_upd {K : PySem.W.Frag} {H : Hp} {v : V} {t : Value} {p : Addr} {o : HO} (h : TyX K H v t) (n : H p = none) : TyX K (upd H p o) v t := by
  have hn : ∀ b u, H b = some u → upd H p o b = some u := fun b u q => by
    rw [upd_ne (fun z => by rw [z, n] at q; cases q)]
    exact q
  cases h with
  | base h =>
    cases h with
    | non => exact .base .non
    | bl x => exact .base (.bl x)
    | int x => exact .base (.int x)
    | str x => exact .base (.str x)
    | flt x => exact .base (.flt x)
    | lst e => exact .base (.lst (hn _ _ e))
    | frz e => exact .base (.frz (hn _ _ e))
    | tup e => exact .base (.tup (hn _ _ e))
    | dK e => exact .base (.dK (hn _ _ e))
    | dT e => exact .base (.dT (hn _ _ e))
    | ins e cl ha hn' htk hm => exact .base (.ins (hn _ _ e) cl ha hn' htk hm)
  | byt b => exact .byt b
  | set e => exact .set (hn _ _ e)
  | kList e c => exact .kList e c
  | kTuple e c => exact .kTuple e c
  | kDict e c => exact .kDict e c
  | fTuple e => exact .fTuple (hn _ _ e)
  | fDict e => exact .fDict (hn _ _ e)
def tyAll : List String := ["NoneType", "bool", "int", "str", "list", "tuple", "dict"]
theorem tyOf_all {d : D} {t : String} (h : tyOf d = some t) : t ∈ tyAll := by
  unfold tyOf at h
  split at h <;> first | (cases h; done) | (simp only [Option.some.injEq] at h; subst h; decide +kernel)
theorem kit_isi : ∀ a ∈ tyAll, ∀ t ∈ tyNames.map (·.2), kitB a t = some (isiB a t) := by decide +kernel
theorem tyName_mem {x : Str} {t : String} (h : tyNames.lookup x = some t) : t ∈ tyNames.map (·.2) := by
  have := PySem.mem_of_lookup h
  exact List.mem_map.mpr ⟨_, this, rfl⟩
theorem tyName_boot : ∀ p ∈ tyNames, bootBuiltins p.1 = some (.type p.2) ∧ p.1 ≠ "__name__" ∧ p.1 ∈ blts := by decide +kernel
theorem pe_ty (G : Good X W c) {t : Expr} {ty : String} (h : tyOfName c.sc c.fns t = some ty) : PE X t (tC (.ty ty)) ∧ ty ∈ tyNames.map (·.2) ∧ isPlain t = true := by
  cases t <;> simp only [tyOfName, reduceCtorEq] at h
  rename_i x pos
  split at h
  · rename_i hc
    simp only [Bool.and_eq_true] at hc
    obtain ⟨h1, h2, h3⟩ := tyName_boot _ (PySem.mem_of_lookup h)
    exact ⟨pe_bltn (gl_at G hc.1.2) (G.blt _ h3) h1 rfl h2 (okName_of hc.1.1).1, tyName_mem h, rfl⟩
  · cases h
theorem isi_core {a : Expr} {ea : E} {ts : List String} {σ : L2.St} {H Hs : Hp} {m : Env} {Q : VK} (R : REnv X.K Hs H σ m)
    (h : PostR (fun (p : (Bool × D) × Env) => ∀ v Hs' H', REnv X.K Hs' H' σ p.2 → Fram Hs H (Own σ m) Hs' H' (OV (Own σ p.2) p.1.1 v) → RR X.K (.isi ea ts) σ p.2 Hs' H' p.1.1 v p.1.2 → Q v H') (XcE X.mg W σ H m) (ev (.isi ea ts) m)) :
    tE X.K X.mg W ea σ H fun v H1 => ∃ t b, TyX X.K H1 v (.type t) ∧ t ∈ tyAll ∧ b = ts.any (isiB t) ∧ (∃ Hs1 m1, REnv X.K Hs1 H1 σ m1 ∧ ∀ Hs2 H2, REnv X.K Hs2 H2 σ m1 → Fram Hs1 H1 (Own σ m1) Hs2 H2 (Own σ m1) → Q (.bl b) H2) := by
  simp only [ev] at h
  refine step R h fun p v Hs1 H1 hp R1 F1 b1 g1 => ?_
  obtain ⟨b, hd, hp⟩ := PostR.ofO hp.bind
  rw [Option.bind_eq_some_iff] at hd
  obtain ⟨x, hx, hd⟩ := hd
  unfold isiD at hd
  rw [Option.map_eq_some_iff] at hd
  obtain ⟨t, ht, hb⟩ := hd
  exact ⟨t, b, tyx_of (R1.op b1 hx) R1.sub ht, tyOf_all ht, hb.symm, Hs1, p.2, R1, fun Hs2 H2 R2 F2 => fin_sh (mg := X.mg) (W := W) (e := .isi ea ts) rfl hp R2 (F1.trans F2) (.bl b)⟩
theorem s_isi1 (G : Good X W c) {a t : Expr} {ea : E} {ty : String} {p pos : Pos} (hg : isGl c.sc ("isinstance" : Str) = true) (hpl : isPlain a = true) (ha : PEm X W a ea) (ht : tyOfName c.sc c.fns t = some ty) :
    PEm X W (.Call (.Name ("isinstance" : Str) p) [a, t] [] pos) (.isi ea [ty]) := by
  obtain ⟨h1, h2, h3⟩ := pe_ty G ht
  have pa : PA X [a, t] (tCons (tE X.K X.mg W ea) (tCons (tC (.ty ty)) tNil)) := pa_cons ha (pa_cons h1 pa_nil (plain_star h3 _ _)) (plain_star hpl _ _)
  refine PE.imp (pe_callB (call_isi (X := X)) (gl_at G hg) (G.blt _ (by decide +kernel)) (by decide +kernel) pa (by decide +kernel) (by decide +kernel) (plain_star hpl _ _) (plain_back (by simp [h3]))) fun σ H Q ⟨Hs, m, R, h⟩ => ?_
  have hc := isi_core (a := a) R h
  refine tE_mono hc fun v H1 ⟨t', b, hty, hm, hb, Hs1, m1, R1, q⟩ => ?_
  refine ⟨v, .ty ty, .type t', .type ty, b, rfl, .ty ty, hty, ?_, q Hs1 H1 R1 Fram.refl⟩
  rw [hb]
  show kitB t' ty = _
  rw [kit_isi t' hm ty h2]
  simp
theorem garb {K : PySem.W.Frag} {Hs H : Hp} {σ : L2.St} {m : Env} (R : REnv K Hs H σ m) {p : Addr} {o : HO} (n : H p = none) : REnv K Hs (upd H p o) σ m ∧ Fram Hs H (Own σ m) Hs (upd H p o) (Own σ m) := by
  have hn : ∀ b u, H b = some u → b ≠ p := fun b u q z => by rw [z, n] at q; cases q
  refine ⟨⟨R.sub.new n, R.len, R.val, fun i x z => ?_, R.inj⟩, ⟨Same.refl _, fun b u q k => (Fram.refl (Hs := Hs)).keepU n q k, fun b q => .inl q, fun b q => .inl q⟩⟩
  · obtain ⟨b, u, e1, e2, e3⟩ := R.own i x z
    exact ⟨b, u, e1, by rw [upd_ne (hn b u e2)]; exact e2, e3⟩
theorem tysIn_ok (G : Good X W c) : ∀ {es : List Expr} {ts : List String}, tysIn c.sc c.fns es = some ts → ∃ t, PA X es t ∧ (∀ σ H (Q : List V → Hp → Prop), Q (ts.map V.ty) H → t σ H Q) ∧ ∀ t ∈ ts, t ∈ tyNames.map (·.2)
  | [], ts, h => by
    simp only [tysIn, Option.some.injEq] at h
    subst h
    exact ⟨_, pa_nil, fun σ H Q q => q, by simp⟩
  | e :: es, ts, h => by
    simp only [tysIn] at h
    rw [Option.bind_eq_some_iff] at h
    obtain ⟨t, h1, h⟩ := h
    rw [Option.map_eq_some_iff] at h
    obtain ⟨ts', h2, rfl⟩ := h
    obtain ⟨p1, p2, p3⟩ := pe_ty G h1
    obtain ⟨tt, q1, q2, q3⟩ := tysIn_ok G h2
    refine ⟨_, pa_cons p1 q1 (plain_star p3 _ _), fun σ H Q q => q2 σ H _ q, fun t ht => ?_⟩
    rcases List.mem_cons.mp ht with rfl | ht
    · exact p2
    · exact q3 t ht
theorem kit_any {K : PySem.W.Frag} {t : String} (ht : t ∈ tyAll) : ∀ {ts : List String}, (∀ x ∈ ts, x ∈ tyNames.map (·.2)) → PySem.W.kitAny K (.type t) (ts.map Value.type) = some (ts.any (isiB t))
  | [], _ => rfl
  | x :: ts, h => by
    refine kitAny_cons (b := isiB t x) (show kitB t x = _ from kit_isi t ht x (h x List.mem_cons_self)) (fun e => ?_) fun e => ?_
    · rw [kit_any ht fun y hy => h y (List.mem_cons_of_mem _ hy)]
      simp [e]
    · simp [e]
theorem cls_all : ∀ ts : List String, Paired ClsV (ts.map V.ty) (ts.map Value.type)
  | [] => .nil
  | t :: ts => .cons (.ty t) (cls_all ts)
theorem s_isiT (G : Good X W c) {a : Expr} {es : List Expr} {k : Nat} {tpos : Pos} {ea : E} {ts : List String} {p pos : Pos} (hg : isGl c.sc ("isinstance" : Str) = true) (hpl : isPlain a = true) (ha : PEm X W a ea) (ht : tysIn c.sc c.fns es = some ts) (hl : ts.length ≤ sizeLine) :
    PEm X W (.Call (.Name ("isinstance" : Str) p) [a, .Tuple es k tpos] [] pos) (.isi ea ts) := by
  obtain ⟨tt, q1, q2, q3⟩ := tysIn_ok G ht
  have pa : PA X [a, .Tuple es k tpos] (tCons (tE X.K X.mg W ea) (tCons (tTup tt) tNil)) := pa_cons ha (pa_cons (pe_tup q1) pa_nil (plain_star rfl _ _)) (plain_star hpl _ _)
  refine PE.imp (pe_callB (call_isiT (X := X)) (gl_at G hg) (G.blt _ (by decide +kernel)) (by decide +kernel) pa (by decide +kernel) (by decide +kernel) (plain_star hpl _ _) (plain_back rfl)) fun σ H Q ⟨Hs, m, R, h⟩ => ?_
  have hc := isi_core (a := a) R h
  refine tE_mono hc fun v H1 ⟨t', b, hty, hm, hb, Hs1, m1, R1, q⟩ => ?_
  refine q2 σ H1 _ ⟨by rw [List.length_map]; exact hl, fun tp n => ?_⟩
  obtain ⟨R2, F2⟩ := garb R1 (o := .tup (ts.map V.ty)) n
  refine ⟨v, tp, ts.map V.ty, .type t', ts.map Value.type, b, rfl, upd_same, cls_all ts, ?_, ?_, q _ _ R2 F2⟩
  · exact TyX.mono_upd hty n
  · rw [hb]; exact kit_any hm q3
end
end Rc

set_option maxRecDepth 100000
set_option maxHeartbeats 1000000
/-! list(reversed(x)), x a list: a new list. -/
namespace RT
open PySem PySem.Spec PyProof.Rows L2
section
variable {prog : Program} {w : World} {A : Around} {E : Value → Shared → Prop} {s : Shared}
abbrev emL (S : Addr) (h : Heap) (n : Nat) : Prop := h.get? S = some { cls := .type "list", data := .seq #[] n }
abbrev kpO (h h' : Heap) (it S : Addr) : Prop := ∀ (x : Addr) (y : Obj), x ≠ it → x ≠ S → h.get? x = some y → h'.get? x = some y
abbrev bwd (its : Array Value) (j : Nat) (u : Value) : Prop := its[its.size - 1 - j]? = some u
/-- a list is made longer by what an iterator backwards yields -/
theorem ext_bw {R : Result → Shared → Prop} {it l S : Addr} {its : Array Value} {res : Value} {n : Nat} (a1 : A.handled = none) (a2 : s.heap.IsRevIter it l ((its.size : Int) - 1)) (a3 : s.heap.IsList l its)
    (a4 : l ≠ it) (a5 : S ≠ it) (a6 : S ≠ l) (a7 : its.size ≤ sizeLine) (a8 : emL S s.heap n)
    (q : ∀ (h' : Heap) (tk : Nat) (got : Array Value) (k : Nat), kpO s.heap h' it S → h'.get? S = some { cls := .type "list", dict := none, data := .seq got k, slots := #[] } → ItemsOf (bwd its) got its.size → R (.ok (.ret res)) { s with heap := h', toks := tk }) :
    wpAny (model prog w) A.in1 (Builtin.List.listExtendWith (.ref S) (.ref it) res) (fun r t => match r with | .done f => R (.ok f) t | .again c => c.quiet = true ∧ codeAny (model prog w) A c R t) (fun e t => R (.error e) t) s := by
  have wk := (Walks.listRev (prog := prog) (w := w) (A := A.in1) a1 it l a4 its).toS
  have nm : S ∉ [it, l] := by simp [a5, a6]
  have ty : s.TypeIs (.ref it) "list_reverseiterator" := a2.typeIs
  have ns : Builtin.List.listSameRef (.ref S) (.ref it) = false := by simp [Builtin.List.listSameRef, a5]
  unfold Builtin.List.listExtendWith
  refine wpAny_bind (wpAny_typeOf ty ?_)
  rw [if_neg (by rw [ns]; decide)]
  refine wpAny_bind (wpAny_pyIter_revIter a2 (wpAny_bind (wpAny_holding ?_)))
  unfold Builtin.List.listLengthHint
  refine wpAny_bind (wpAny_specialOf ty nolen_lri (wpAny_bind (wpAny_specialOf ty hint_lri ?_)))
  generalize hi : ("list_reverseiterator.__length_hint__" : String) = name
  wp_delta
  rw [show splitId name = some ("list_reverseiterator", "__length_hint__") by subst hi; decide +kernel]
  subst hi
  refine wpAny_bind (wpAny_isInstance (b := true) ty (by rw [isSubtype_type]; kernel_rfl) (wpAny_pure ?_))
  rw [if_neg (by decide)]
  have z : ((its.size : Nat) : Int) - 1 - ((0 : Nat) : Int) = (its.size : Int) - 1 := by omega
  refine wpAny_pure ⟨plainId_quiet F.plain_extend_loop _, codeAny_extend_loopS wk a7 S nm res its.size 0 _ #[] n rfl (Nat.zero_le _) ⟨Nat.zero_le _, by rw [z]; exact a2, a3⟩ a8 (ItemsOf.nil _) fun t got k mv eS hg => ?_⟩
  rw [Moved.eq_with mv]
  refine q t.heap t.toks got k (fun x y n1 n2 e => mv.heap x y (fun hx => ?_) e) eS hg
  simp only [List.mem_cons, List.not_mem_nil, or_false] at hx
  exact hx.elim n2 n1
/-- list(it) -/
theorem call_list_bw {Q : Value → Shared → Prop} {it l : Addr} {its : Array Value} (a1 : A.handled = none) (a2 : s.heap.IsRevIter it l ((its.size : Int) - 1)) (a3 : s.heap.IsList l its) (a4 : l ≠ it) (a7 : its.size ≤ sizeLine)
    (q : ∀ (h' : Heap) (tk : Nat) (got : Array Value) (k : Nat), (∀ x y, x ≠ it → s.heap.get? x = some y → h'.get? x = some y) → h'.get? s.heap.objs.size = some { cls := .type "list", dict := none, data := .seq got k, slots := #[] } → ItemsOf (bwd its) got its.size → Q (.ref s.heap.objs.size) { s with heap := h', toks := tk }) :
    wpAny (model prog w) A (call (.type "list") [.ref it]) Q E s := by
  refine callType_codes (Q₁ := fun o t => o = .ref s.heap.objs.size ∧ t = { s with heap := s.heap.push { cls := .type "list", data := .seq #[] } }) F.called_list (F.typeCall_list_1 _) F.entry_list_init (code_list_new _ ⟨rfl, rfl⟩) fun o t ho => ?_
  obtain ⟨rfl, rfl⟩ := ho
  obtain ⟨oi, hoi, _⟩ := id a2
  obtain ⟨ol, hol, _⟩ := id a3
  have n1 : s.heap.objs.size ≠ it := Nat.ne_of_gt (Heap.lt_size hoi)
  have n2 : s.heap.objs.size ≠ l := Nat.ne_of_gt (Heap.lt_size hol)
  have e0 : emL s.heap.objs.size (s.heap.push { cls := .type "list", data := .seq #[] }) 0 := Heap.get?_push_size _ rfl
  refine ⟨⟨_, e0, rfl⟩, F.args_list_init_2 _ _, ?_⟩
  show wpAny _ _ (do let was ← Builtin.List.listItems (.ref s.heap.objs.size); Builtin.List.listUpdate (.ref s.heap.objs.size) (fun _ => #[]); letGo was.toList.reverse; Builtin.List.listExtendWith (.ref s.heap.objs.size) (.ref it) .none) _ _ _
  refine wpAny_bind ?_
  unfold Builtin.List.listItems
  refine wpAny_bind (wpAny_seqItems e0 rfl (wpAny_pure ?_))
  show wpAny _ _ (updateSeq s.heap.objs.size (fun _ => #[]) >>= fun _ => letGo (#[] : Array Value).toList.reverse >>= fun _ => Builtin.List.listExtendWith (.ref s.heap.objs.size) (.ref it) .none) _ _ _
  refine wpAny_bind (wpAny_updateSeq e0 rfl ?_)
  have e1 := Heap.get?_update_self (Obj.mapSeq (fun _ => (#[] : Array Value))) e0 rfl
  have oth : ∀ x y, x ≠ s.heap.objs.size → s.heap.get? x = some y → ((s.heap.push { cls := .type "list", data := .seq #[] }).update s.heap.objs.size (Obj.mapSeq (fun _ => (#[] : Array Value)))).get? x = some y := fun x y hx e => (Heap.get?_update_other _ _ (Ne.symm hx)).trans (Heap.get?_push_of_some _ e)
  refine wpAny_bind (wpAny_letGo (ext_bw (A := A.in1) (S := s.heap.objs.size) (show A.in1.handled = none from a1) (a2.at fun o e => oth it o (Ne.symm n1) e) ?_ a4 n1 n2 a7 e1 fun h' tk got k kp eS hg => ?_))
  · exact a3.at fun o e => oth l o (Ne.symm n2) e
  · exact ⟨rfl, q h' tk got k (fun x y hx e => kp x y hx (Nat.ne_of_lt (Heap.lt_size e)) (oth x y (Nat.ne_of_lt (Heap.lt_size e)) e)) eS hg⟩
end
section
variable {X : Cx}
/-- list(reversed(x)) -/
def tLstRev (K : PySem.W.Frag) (te : TE) : TE := fun σ H Q => te σ H fun v H1 => ∃ (a : Addr) (xs : List V), v = .ref a ∧ SqL K H1 a xs ∧ ∀ q, H1 q = none → Q (.ref q) (upd H1 q (.lst xs.reverse))
theorem pe_lstRev {e : Expr} {te : TE} {p p2 pos pos2 : Pos} (hc : X.calm = true) (g1 : Gl X "list") (m1 : X.mg "list" = none) (g2 : Gl X "reversed") (m2 : X.mg "reversed" = none) (he : PE X e te)
    (s1 : starEach [e] X.env = (false, eval e X.env) :: starEach [] X.env := by rfl)
    (s2 : starEach [.Call (.Name "reversed" p2) [e] [] pos2] X.env = (false, eval (.Call (.Name "reversed" p2) [e] [] pos2) X.env) :: starEach [] X.env := by rfl) :
    PE X (.Call (.Name "list" p) [.Call (.Name "reversed" p2) [e] [] pos2] [] pos) (tLstRev X.K te) := by
  refine ⟨fun pins s σ H Q I h => ?_⟩
  refine Call_ (ld_blt I g1 m1 boot_list (PyProof.Rows.callWith_type1 (args_cons (Call_ (ld_blt I g2 m2 PyProof.Rows.boot_reversed (PyProof.Rows.callWith_type1 (args_cons (thn (he.run pins s σ H _ I h) fun u t ⟨v, H1, J, rl, k⟩ => args_nil ?_) s1) s1 rfl))) s2) s2))
  obtain ⟨a, xs, ev, hq, k⟩ := k
  subst ev
  obtain rfl : u = Value.ref a := rl
  obtain ⟨its, rv, pl, hz⟩ := J.list hq
  refine call_reversed_list pl.isList (args_nil ?_)
  have J2 : Inv X pins σ H1 { t with heap := t.heap.push (revObj a ((its.toArray.size : Int) - 1)) } := J.kept (t' := t.toks) fun x y e => Heap.get?_push_of_some _ e
  obtain ⟨f0, f1, f2, f3, f4, f5⟩ := J.fpOk (H' := H1) (b := t.heap.objs.size) (Nat.le_refl _) (J.hok.fresh (Nat.le_refl _))
  have hl := pl.isList
  obtain ⟨ol, hol, _⟩ := id hl
  have lt := Heap.lt_size hol
  have sz : its.toArray.size ≤ sizeLine := by rw [List.size_toArray, ← rv.length]; exact hz
  refine call_list_bw (s := { t with heap := t.heap.push (revObj a ((its.toArray.size : Int) - 1)) }) (J.ok.hd hc) ⟨_, Heap.get?_push_size _ rfl, rfl, rfl⟩ (hl.push _) (Nat.ne_of_lt lt) sz fun h' tk got c kp eS hi => ?_
  have new : ObjOk X.prog X.w (upd H1 (t.heap.push (revObj a ((its.toArray.size : Int) - 1))).objs.size (.lst xs.reverse)) h' (t.heap.push (revObj a ((its.toArray.size : Int) - 1))).objs.size (.lst xs.reverse) :=
    ⟨by rw [List.length_reverse]; exact hz, got.toList, c, vals_rev rv hi, by rw [Array.toArray_toList]; exact eS⟩
  refine ⟨.ref (t.heap.push (revObj a ((its.toArray.size : Int) - 1))).objs.size, _, J2.turnedNew (t' := tk) (ch := [t.heap.objs.size]) (fun x y hx e => kp x y (fun z => hx (by simp [z])) e) (fun b hb => ?_) (Nat.le_refl _) new, rfl, k _ (J2.hok.fresh (Nat.le_refl _))⟩
  have e : b = t.heap.objs.size := by simpa using hb
  subst e
  exact ⟨f0, f1, f2, f3, f4, f5⟩
end
end RT
namespace Rc
open PySem L2
variable [Tbs]
section
variable {X : Cx} {W : XK} {c : TC}
theorem s_lrv (G : Good X W c) {a : Expr} {ea : E} {p p2 pos pos2 : Pos} (h1 : isGl c.sc ("list" : Str) = true) (h2 : isGl c.sc ("reversed" : Str) = true) (hp : isPlain a = true) (ha : PEm X W a ea) :
    PEm X W (.Call (.Name ("list" : Str) p) [.Call (.Name ("reversed" : Str) p2) [a] [] pos2] [] pos) (.rvs ea) := by
  refine PE.imp (RT.pe_lstRev G.calm (gl_at G h1) (G.blt _ (by decide +kernel)) (gl_at G h2) (G.blt _ (by decide +kernel)) ha (plain_star hp _ _)) fun σ H Q ⟨Hs, m, R, h⟩ => ?_
  simp only [ev] at h
  refine step R h fun q v Hs1 H1 hq R1 F1 b g => ?_
  have rb := now R1 b g
  obtain ⟨r, hd, hq⟩ := PostR.ofO hq.bind
  revert hd
  generalize q.1.2 = d at rb
  intro hd
  cases d <;> simp only [rvsF, Option.some.injEq, reduceCtorEq] at hd
  subst hd
  obtain ⟨l, vs, rfl, k1, k2⟩ := rb.seqL R1.sub
  exact ⟨l, vs, rfl, SqL.of k1, fun t n => fin_new (e := .rvs ea) rfl hq R1 F1 (.lst k2.reverse) t n⟩
end
end Rc

set_option maxRecDepth 100000
/-! enumerate over a tuple. -/
namespace Rc
open PySem PySem.Spec PyProof.Rows L2
set_option maxHeartbeats 1000000 in
theorem meets_enum1 {v : Value} {ob : Obj} {Hx : Heap → Prop} (Bg : Begins v ob Hx) :
    Meets (Builtin.«enumerate.__new__» ⟨[.type "enumerate", v], []⟩) (fun _ R s => Hx s.heap ∧
      R (.ok (.ret (.ref (s.heap.push ob).objs.size))) { s with heap := (s.heap.push ob).push { cls := .type "enumerate", data := .fields #[.none, .bool false, .ref s.heap.objs.size, rawInt 0, .none, .none] } }) :=
  .of_wp fun pr wo Ar Rx st h => by
    obtain ⟨hp, gg, dd, tk, os⟩ := st
    obtain ⟨h1, hR⟩ := h
    have hsubE := sub_enumerate
    have qq : ∀ {A' : Around} {E : Value → Shared → Prop} {Q : Value → Shared → Prop}, Q (.ref hp.objs.size) ⟨hp.push ob, gg, dd, tk, os⟩ → wpAny (model pr wo) A' (pyIter v) Q E ⟨hp, gg, dd, tk, os⟩ :=
      fun q => Bg.iter pr wo _ _ ⟨hp, gg, dd, tk, os⟩ _ h1 q
    wp_walk using qq
    refine wpAny_stack_any fun stk => wpAny_pure ?_
    split
    · rename_i cc _ _ _ _ _
      cases (cc == Value.type "enumerate")
      · wp_walk using qq
        exact ⟨_, rfl, hR⟩
      · wp_walk using qq
        exact ⟨_, rfl, hR⟩
    · wp_walk using qq
      exact ⟨_, rfl, hR⟩
theorem call_enumT {prog : Program} {w : World} {A : Around} {E : Value → Shared → Prop} {s : Shared} {t : Addr} {items : Array Value} {Q : Value → Shared → Prop} (hT : s.heap.IsTuple t items)
    (h : ∀ h', IsEnum h' (s.heap.objs.size + 1) s.heap.objs.size 0 .none → h'.IsTupleIter s.heap.objs.size t 0 → h'.objs.size = s.heap.objs.size + 2 → (∀ c q, s.heap.get? c = some q → h'.get? c = some q) →
      Q (.ref (s.heap.objs.size + 1)) { s with heap := h' }) : wpAny (model prog w) A (call (.type "enumerate") [.ref t]) Q E s := by
  have Bg := begins_tuple t items
  refine callType_new F.called_enumerate (by decide) (F.typeCall_enumerate_1 _) (F.newCall_enumerate_1 _) (fun obj => F.args_object_init_2 obj _) F.entry_enumerate_new (meets_enum1 Bg) ⟨hT, ?_⟩
  have hz : (s.heap.push { cls := .type "tuple_iterator", data := .fields #[.ref t, .int 0 0] }).objs.size = s.heap.objs.size + 1 := Heap.size_push ..
  show _ ∧ _
  rw [hz]
  have he : IsEnum ((s.heap.push { cls := .type "tuple_iterator", data := .fields #[.ref t, .int 0 0] }).push { cls := .type "enumerate", data := .fields #[.none, .bool false, .ref s.heap.objs.size, rawInt 0, .none, .none] }) (s.heap.objs.size + 1) s.heap.objs.size 0 .none := by
    have q := Heap.get?_push_size (s.heap.push { cls := .type "tuple_iterator", data := .fields #[.ref t, .int 0 0] }) (o := { cls := .type "enumerate", data := .fields #[.none, .bool false, .ref s.heap.objs.size, rawInt 0, .none, .none] }) rfl
    rw [hz] at q
    exact q
  refine ⟨⟨_, he, rfl⟩, h _ he ⟨_, Heap.get?_push_of_some _ (Heap.get?_push_size _ rfl), rfl, rfl⟩ (by rw [Heap.size_push, hz]) fun c q x => Heap.get?_push_of_some _ (Heap.get?_push_of_some _ x)⟩
theorem enumT_end {prog : Program} {w : World} {A : Around} {E : Value → Shared → Prop} {s : Shared} {e it t : Addr} {n : Int} {k : Nat} {items : Array Value} {old : Value} {Q : Option Value → Shared → Prop} (hh : A.handled = none)
    (he : IsEnum s.heap e it n old) (hit : s.heap.IsTupleIter it t k) (hT : s.heap.IsTuple t items) (hx : items[k]? = none) (hQ : ∀ h', Heap.ExtBut it s.heap h' → Q none { s with heap := h' }) : wpAny (model prog w) A (pyNext (.ref e)) Q E s := by
  have ty : s.TypeIs (.ref e) "enumerate" := ⟨_, he, rfl⟩
  unfold pyNext
  refine wpAny_bind (wpAny_attempt (wpAny_callSpecial?_slot (name := Str.ofString "__next__") ty F.slot_enumerate_next (wpAny_call_entry F.slot_enumerate_next ty F.entry_enumerate_next ?_ (F.args_enumerate_next_1 _))))
  show wpAny _ _ (field (.ref e) 2 >>= _) _ _ _
  refine wpAny_bind (wpAny_field he rfl (x := .ref it) rfl ?_)
  refine wpAny_bind (wpAny_nextOf_tuple_end hh hit hT hx fun h1 x he1 hx1 => ?_)
  obtain ⟨o, ho, hc⟩ := hx1
  refine wpAny_bind (wpAny_isInstance (T := "StopIteration") (b := true) ⟨o, ho, hc⟩ isSubtype_stop ?_)
  exact wpAny_pure (hQ _ he1)
/-- the tuple at a, each item in a new pair with its number -/
def IteT (K : PySem.W.Frag) (a : Addr) : L2.It :=
  ⟨fun n H => ∃ (l : List V) (y : V), SqT K H a l ∧ l[n]? = some y, fun n H v H' => ∃ T y, v = .ref T ∧ H T = none ∧ H' = upd H T (.tup [.int (n : Nat), y]) ∧ ∀ l, SqT K H a l → l[n]? = some y, fun n H => ∃ l : List V, SqT K H a l ∧ l.length ≤ n⟩
theorem turn_enumT {P : Program} {w : World} {K : PySem.W.Frag} {elts : List Expr} {kk : Nat} {tpos : Pos} (a e it : Addr) (hai : a ≠ it) :
    Turn P w K (.Tuple elts kk tpos) (IteT K a) [e, it] e (fun n h => (∃ old, IsEnum h e it ((n : Nat) : Int) old) ∧ h.IsTupleIter it a n ∧ e ≠ it ∧ e ≠ a) where
  mem := by simp
  obj := fun n h st c hc => by
    obtain ⟨⟨old, he⟩, ⟨o, ho, _, hd⟩, _⟩ := st
    have e' : c = e ∨ c = it := by simpa using hc
    rcases e' with q | q
    · rw [q]
      exact ⟨_, he, fun v z => nomatch z⟩
    · rw [q]
      exact ⟨o, ho, fun v z => by rw [hd] at z; cases z⟩
  keep := fun n h h' st k => by
    obtain ⟨⟨old, he⟩, hi, hne⟩ := st
    exact ⟨⟨old, k e (by simp) _ he⟩, hi.at fun o q => k it (by simp) o q, hne⟩
  item := by
    intro X hP hw hK hc n pins s σ H E I hf st hg
    subst hP hw hK
    obtain ⟨⟨old, he⟩, hit, hne, hea⟩ := st
    obtain ⟨l, y, hq, hx⟩ := hg
    obtain ⟨its, rv, p, _⟩ := I.tuple hq
    obtain ⟨u, hu, ru⟩ := rv.get hx
    have hel : e < s.heap.objs.size := Heap.lt_size he
    have hil : it < s.heap.objs.size := by
      obtain ⟨_, q, _⟩ := hit
      exact Heap.lt_size q
    have hlt : n < its.toArray.size := by
      have := (List.getElem?_eq_some_iff.mp hu).1
      simpa using this
    have Dr := Draws.tuple (prog := X.prog) (w := X.w) (A := X.A.in1) (I.ok.hd hc) it a hai its.toArray
    refine wpAny_pyNext_enum_itemD Dr he ⟨hit, p⟩ hlt hne (by simp [hne, hea]) fun z h' tk hz ho hs' hT hsz hk => ?_
    have ez : z = u := by
      have : its.toArray[n]? = some u := by simpa using hu
      exact Option.some.inj (hz.symm.trans this)
    subst ez
    refine ⟨_, rfl, wpAny_letOwnedTupleGo_enum (s := { s with heap := h', toks := tk + 1 }) ho fun h'' he' sb => ?_⟩
    have hT2 : h''.get? s.heap.objs.size = some { cls := .type "tuple", data := .seq #[.int n tk, z] } := (sb.2 _ (Nat.ne_of_gt hel)).trans hT
    have new : ObjOk X.prog X.w (upd H s.heap.objs.size (.tup [.int (n : Nat), y])) h'' s.heap.objs.size (.tup [.int (n : Nat), y]) :=
      ⟨by show 2 ≤ sizeLine; decide, [.int n tk, z], .cons ⟨_, rfl⟩ (.cons ru .nil), ⟨_, hT2, rfl, _, rfl⟩⟩
    have I1 : Inv X pins σ (upd H s.heap.objs.size (.tup [.int (n : Nat), y])) { s with heap := h'', toks := tk + 1 } :=
      I.turnedNew (ch := [e, it]) (fun c oc hb q => (sb.2 c (fun z => hb (by simp [z]))).trans (hk c oc (fun z => hb (by simp [z])) (fun z => hb (by simp [z])) q)) hf (Nat.le_refl _) new
    refine ⟨.ref s.heap.objs.size, _, I1, rfl, ⟨_, y, rfl, I.hok.fresh (Nat.le_refl _), rfl, fun ys hy => by rw [I.tuple_inj hy hq]; exact hx⟩, ⟨⟨z, ?_⟩, hs'.1.at fun o q => (sb.2 it (Ne.symm hne)).trans q, hne, hea⟩, fun c hb => ?_⟩
    · have e1 : ((n + 1 : Nat) : Int) = (n : Int) + 1 := by omega
      rw [e1]
      exact he'
    · have hb' : c < s.heap.objs.size := by
        have e' : c = e ∨ c = it := by simpa using hb
        rcases e' with q | q
        · rw [q]
          exact hel
        · rw [q]
          exact hil
      rw [upd_ne (Nat.ne_of_lt hb')]
      exact (hf c hb).1
  done := by
    intro X hP hw hK hc n pins s σ H E I hf st hg
    subst hP hw hK
    obtain ⟨⟨old, he⟩, hit, hne, hea⟩ := st
    obtain ⟨l, hq, hx⟩ := hg
    obtain ⟨its, rv, p, _⟩ := I.tuple hq
    obtain ⟨f0, f1, f2, f3, f4, f5⟩ := hf it (by simp)
    have hl := rv.length
    exact enumT_end (I.ok.hd hc) he hit p (by simp; omega) fun h' eb => ⟨rfl, I.turned (t' := s.toks) (fun c o hb q => eb c o hb q) f0 f1 f3 f4 f5⟩
  self := fun A n s Q E st h => by
    obtain ⟨⟨_, he⟩, _⟩ := st
    exact wpAny_pyIter_enum he h
/-- enumerate of a list or of a tuple -/
def iEnumA (K : PySem.W.Frag) (ta : TA) : TI := fun σ H R => ta σ H fun vs H1 => ∃ a l, vs = [.ref a] ∧ ((SqL K H1 a l ∧ R (Ite K a) H1) ∨ (SqT K H1 a l ∧ R (IteT K a) H1))
theorem pi_enumA {X : Cx} {e : Expr} {ta : TA} {p pos tpos : Pos} {elts : List Expr} {kk : Nat} (hg : Gl X "enumerate") (hm : X.mg "enumerate" = none) (ha : PA X [e] ta) (hs : starEach [e] X.env = [(false, eval e X.env)] := by rfl) :
    PI X (.Tuple elts kk tpos) (.Call (.Name "enumerate" p) [e] [] pos) (iEnumA X.K ta) := by
  refine ⟨fun pins s σ H R I h => ?_⟩
  refine Call_ (ld_blt I hg hm boot_enumerate (PyProof.Rows.callWith_type1 (thn (ha.run pos pins s σ H _ I h) fun us s1 ⟨vs, H1, I1, r1, q1⟩ => ?_) hs rfl))
  obtain ⟨a, l, ex, q1⟩ := q1
  subst ex
  cases r1 with
  | cons r rr =>
    cases rr
    cases r
    have ne : s1.heap.objs.size + 1 ≠ s1.heap.objs.size := Nat.succ_ne_self _
    have fp : ∀ c ∈ [s1.heap.objs.size + 1, s1.heap.objs.size], FpOk X pins H1 c := fun c hb => by
      have e' : c = s1.heap.objs.size + 1 ∨ c = s1.heap.objs.size := by simpa using hb
      have hle : s1.heap.objs.size ≤ c := by
        rcases e' with z | z
        · rw [z]
          exact Nat.le_add_right _ _
        · rw [z]
          exact Nat.le_refl _
      exact I1.fpOk hle (I1.hok.fresh hle)
    rcases q1 with ⟨hq, q⟩ | ⟨hq, q⟩
    · obtain ⟨its, rv, p', _⟩ := I1.list hq
      refine call_enumerate_list p'.isList fun h' he hit hsz hk => wpAny_pyIter_enum he ?_
      have I2 : Inv X pins σ H1 { s1 with heap := h' } := I1.kept (t' := s1.toks) hk
      exact ⟨s1.heap.objs.size + 1, [s1.heap.objs.size + 1, s1.heap.objs.size], _, _, H1, rfl, I2, turn_enum a (s1.heap.objs.size + 1) s1.heap.objs.size, ⟨⟨.none, he⟩, hit, ne⟩, fp, q⟩
    · obtain ⟨its, rv, p', _⟩ := I1.tuple hq
      obtain ⟨o, ho, _⟩ := id p'
      have la : a < s1.heap.objs.size := Heap.lt_size ho
      refine call_enumT (show s1.heap.IsTuple a its.toArray from p') fun h' he hit hsz hk => wpAny_pyIter_enum he ?_
      have I2 : Inv X pins σ H1 { s1 with heap := h' } := I1.kept (t' := s1.toks) hk
      exact ⟨s1.heap.objs.size + 1, [s1.heap.objs.size + 1, s1.heap.objs.size], _, _, H1, rfl, I2, turn_enumT a (s1.heap.objs.size + 1) s1.heap.objs.size (Nat.ne_of_lt la), ⟨⟨.none, he⟩, hit, ne, Nat.ne_of_gt (Nat.lt_succ_of_lt la)⟩, fp, q⟩
end Rc

set_option maxRecDepth 100000
set_option maxHeartbeats 1000000
/-! zip of three lists. -/
namespace Rc
open PySem PySem.Spec PyProof.Rows L2
/-- three lists as they stand at each turn, the items in new triples -/
def Itz3 (K : PySem.W.Frag) (a b c : Addr) : L2.It :=
  ⟨fun i H => ∃ (xs ys us : List V) (x y u : V), SqL K H a xs ∧ SqL K H b ys ∧ SqL K H c us ∧ xs[i]? = some x ∧ ys[i]? = some y ∧ us[i]? = some u,
    fun i H v H' => ∃ T x y u, v = .ref T ∧ H T = none ∧ H' = upd H T (.tup [x, y, u]) ∧ (∀ xs, SqL K H a xs → xs[i]? = some x) ∧ (∀ ys, SqL K H b ys → ys[i]? = some y) ∧ ∀ us, SqL K H c us → us[i]? = some u,
    fun i H => ∃ xs ys us : List V, SqL K H a xs ∧ SqL K H b ys ∧ SqL K H c us ∧ i ≤ xs.length ∧ i ≤ ys.length ∧ i ≤ us.length ∧ (i = xs.length ∨ i = ys.length ∨ i = us.length)⟩
theorem six {c z TI TO i1 i2 i3 : Addr} (h : c ∈ [z, TI, TO, i1, i2, i3]) : c = z ∨ c = TI ∨ c = TO ∨ c = i1 ∨ c = i2 ∨ c = i3 := by simpa using h
theorem turn_zip3 {P : Program} {w : World} {K : PySem.W.Frag} {elts : List Expr} {kk : Nat} {tpos : Pos} {a b c z TI TO i1 i2 i3 : Addr} (D : ZipSep3 z TI TO i1 i2 i3 [i1, a] [i2, b] [i3, c]) (na : a ≠ i1) (nb : b ≠ i2) (nc : c ≠ i3) :
    Turn P w K (.Tuple elts kk tpos) (Itz3 K a b c) [z, TI, TO, i1, i2, i3] z (fun i h => IsZip h z TI TO .none ∧ IsTupOf3 h TI (.ref i1) (.ref i2) (.ref i3) ∧ (∃ x y u, IsTupOf3 h TO x y u) ∧ h.IsListIter i1 a i ∧ h.IsListIter i2 b i ∧ h.IsListIter i3 c i) where
  mem := by simp
  obj := fun i h st d hd => by
    obtain ⟨hz, hTI, ⟨x, y, u, hTO⟩, ⟨o1, e1, _, d1⟩, ⟨o2, e2, _, d2⟩, ⟨o3, e3, _, d3⟩⟩ := st
    rcases six hd with q | q | q | q | q | q
    · rw [q]; exact ⟨_, hz, fun v q => nomatch q⟩
    · rw [q]; exact ⟨_, hTI, fun v q => nomatch q⟩
    · rw [q]; exact ⟨_, hTO, fun v q => nomatch q⟩
    · rw [q]; exact ⟨o1, e1, fun v q => by rw [d1] at q; cases q⟩
    · rw [q]; exact ⟨o2, e2, fun v q => by rw [d2] at q; cases q⟩
    · rw [q]; exact ⟨o3, e3, fun v q => by rw [d3] at q; cases q⟩
  keep := fun i h h' st k => by
    obtain ⟨hz, hTI, ⟨x, y, u, hTO⟩, h1, h2, h3⟩ := st
    exact ⟨k z (by simp) _ hz, k TI (by simp) _ hTI, ⟨x, y, u, k TO (by simp) _ hTO⟩, h1.at fun o q => k i1 (by simp) o q, h2.at fun o q => k i2 (by simp) o q, h3.at fun o q => k i3 (by simp) o q⟩
  item := by
    intro X hP hw hK hc i pins s σ H E I hf st hg
    subst hP hw hK
    obtain ⟨hz, hTI, ⟨x0, y0, u0, hTO⟩, h1, h2, h3⟩ := st
    obtain ⟨xs, ys, us, x, y, u, hqx, hqy, hqu, hx, hy, hu⟩ := hg
    obtain ⟨its, rv, p, _⟩ := I.list hqx
    obtain ⟨its2, rv2, p2, _⟩ := I.list hqy
    obtain ⟨its3, rv3, p3, _⟩ := I.list hqu
    obtain ⟨v1, g1, r1⟩ := rv.get hx
    obtain ⟨v2, g2, r2⟩ := rv2.get hy
    obtain ⟨v3, g3, r3⟩ := rv3.get hu
    have hzl : z < s.heap.objs.size := Heap.lt_size hz
    have sz : ∀ {l : List Value} {v : Value}, l[i]? = some v → i < l.toArray.size := fun {l v} g => by
      have := (List.getElem?_eq_some_iff.mp g).1
      simpa using this
    have D1 := Draws.list (prog := X.prog) (w := X.w) (A := X.A.in1) (I.ok.hd hc) i1 a na its.toArray
    have D2 := Draws.list (prog := X.prog) (w := X.w) (A := X.A.in1) (I.ok.hd hc) i2 b nb its2.toArray
    have D3 := Draws.list (prog := X.prog) (w := X.w) (A := X.A.in1) (I.ok.hd hc) i3 c nc its3.toArray
    refine wpAny_pyNext_zipD3_item D D1 D2 D3 hz hTI hTO ⟨h1, p.isList⟩ ⟨h2, p2.isList⟩ ⟨h3, p3.isList⟩ (sz g1) (sz g2) (sz g3) fun w1 w2 w3 h' tk e1 e2 e3 b1 b2 d1 d2 d3 b5 b6 hk => ?_
    have e1 : w1 = v1 := Option.some.inj (e1.symm.trans (by simpa using g1))
    have e2 : w2 = v2 := Option.some.inj (e2.symm.trans (by simpa using g2))
    have e3 : w3 = v3 := Option.some.inj (e3.symm.trans (by simpa using g3))
    subst e1 e2 e3
    refine ⟨_, rfl, wpAny_letOwnedTupleGo_zip (s := { s with heap := h', toks := tk }) b1 fun h'' z'' sb => ?_⟩
    have hT2 : h''.get? s.heap.objs.size = some { cls := .type "tuple", data := .seq #[w1, w2, w3] } := (sb.2 _ (Nat.ne_of_gt hzl)).trans b5
    have new : ObjOk X.prog X.w (upd H s.heap.objs.size (.tup [x, y, u])) h'' s.heap.objs.size (.tup [x, y, u]) :=
      ⟨by show 3 ≤ sizeLine; decide, [w1, w2, w3], .cons r1 (.cons r2 (.cons r3 .nil)), ⟨_, hT2, rfl, _, rfl⟩⟩
    have I1 : Inv X pins σ (upd H s.heap.objs.size (.tup [x, y, u])) { s with heap := h'', toks := tk } :=
      I.turnedNew (t' := tk) (ch := [z, TI, TO, i1, i2, i3]) (fun c o hb q => (sb.2 c (fun q' => hb (by simp [q']))).trans (hk c o (fun q' => hb (by simp [q'])) (fun q' => hb (by simp [q'])) (fun q' => hb (by simp [q'])) (fun q' => hb (by simp [q'])) (fun q' => hb (by simp [q'])) q)) hf (Nat.le_refl _) new
    refine ⟨.ref s.heap.objs.size, _, I1, rfl, ⟨_, x, y, u, rfl, I.hok.fresh (Nat.le_refl _), rfl, fun l hl => by rw [I.list_inj hl hqx]; exact hx, fun l hl => by rw [I.list_inj hl hqy]; exact hy, fun l hl => by rw [I.list_inj hl hqu]; exact hu⟩, ⟨z'', ?_, ⟨w1, w2, w3, ?_⟩, ?_, ?_, ?_⟩, fun d hd => ?_⟩
    · exact (sb.2 _ D.TIz).trans (hk _ _ D.TIz D.TITO D.TIi1 D.TIi2 D.TIi3 hTI)
    · exact (sb.2 _ D.TOz).trans b2
    · exact d1.1.at fun o q => (sb.2 _ (Ne.symm D.zi1)).trans q
    · exact d2.1.at fun o q => (sb.2 _ (Ne.symm D.zi2)).trans q
    · exact d3.1.at fun o q => (sb.2 _ (Ne.symm D.zi3)).trans q
    · have hlt : d < s.heap.objs.size := by
        rcases six hd with q | q | q | q | q | q
        · rw [q]; exact hzl
        · rw [q]; exact Heap.lt_size hTI
        · rw [q]; exact Heap.lt_size hTO
        · rw [q]; obtain ⟨_, e1, _⟩ := h1; exact Heap.lt_size e1
        · rw [q]; obtain ⟨_, e2, _⟩ := h2; exact Heap.lt_size e2
        · rw [q]; obtain ⟨_, e3, _⟩ := h3; exact Heap.lt_size e3
      rw [upd_ne (Nat.ne_of_lt hlt)]
      exact (hf d hd).1
  done := by
    intro X hP hw hK hc i pins s σ H E I hf st hg
    subst hP hw hK
    obtain ⟨hz, hTI, ⟨x0, y0, u0, hTO⟩, h1, h2, h3⟩ := st
    obtain ⟨xs, ys, us, hqx, hqy, hqu, q1, q2, q3, hend⟩ := hg
    obtain ⟨its, rv, p, _⟩ := I.list hqx
    obtain ⟨its2, rv2, p2, _⟩ := I.list hqy
    obtain ⟨its3, rv3, p3, _⟩ := I.list hqu
    have l1 := rv.length
    have l2 := rv2.length
    have l3 := rv3.length
    have D1 := Draws.list (prog := X.prog) (w := X.w) (A := X.A.in1) (I.ok.hd hc) i1 a na its.toArray
    have D2 := Draws.list (prog := X.prog) (w := X.w) (A := X.A.in1) (I.ok.hd hc) i2 b nb its2.toArray
    have D3 := Draws.list (prog := X.prog) (w := X.w) (A := X.A.in1) (I.ok.hd hc) i3 c nc its3.toArray
    exact wpAny_pyNext_zipD3_end D D1 D2 D3 hz hTI hTO ⟨h1, p.isList⟩ ⟨h2, p2.isList⟩ ⟨h3, p3.isList⟩ (by simp; omega) (by simp; omega) (by simp; omega) (by simp; omega) fun h' tk hk => ⟨rfl, I.turnedL (t' := tk) (ch := [z, TI, TO, i1, i2, i3]) (fun c o hb q =>
      hk c o (fun q' => hb (by simp [q'])) (fun q' => hb (by simp [q'])) (fun q' => hb (by simp [q'])) (fun q' => hb (by simp [q'])) (fun q' => hb (by simp [q'])) q) hf⟩
  self := fun A i s Q E st h => wpAny_pyIter_zip st.1 h
def iZip3 (K : PySem.W.Frag) (ta : TA) : TI := fun σ H R => ta σ H fun vs H1 => ∃ a b c xs ys us, vs = [.ref a, .ref b, .ref c] ∧ SqL K H1 a xs ∧ SqL K H1 b ys ∧ SqL K H1 c us ∧ R (Itz3 K a b c) H1
theorem pi_zip3 {X : Cx} {e e2 e3 : Expr} {ta : TA} {p pos tpos : Pos} {elts : List Expr} {kk : Nat} (hg : Gl X "zip") (hm : X.mg "zip" = none) (ha : PA X [e, e2, e3] ta)
    (hs : starEach [e, e2, e3] X.env = (false, eval e X.env) :: starEach [e2, e3] X.env := by rfl) (hpl : (backTo pos (starEach [e2, e3] X.env)).any (·.1) = false := by rfl) :
    PI X (.Tuple elts kk tpos) (.Call (.Name "zip" p) [e, e2, e3] [] pos) (iZip3 X.K ta) := by
  refine ⟨fun pins s σ H R I h => ?_⟩
  refine Call_ (ld_blt I hg hm PyProof.Rows.boot_zip (PyProof.Rows.callWith_type1 (thn (ha.run pos pins s σ H _ I h) fun us s1 ⟨vs, H1, I1, r1, q1⟩ => ?_) hs hpl))
  obtain ⟨a, b, c, xs, ys, zs, ex, hqx, hqy, hqu, q⟩ := q1
  subst ex
  cases r1 with
  | cons r rr =>
    cases rr with
    | cons r' rr =>
      cases rr with
      | cons r'' rr =>
        cases rr
        cases r
        cases r'
        cases r''
        obtain ⟨its, rv, p1, _⟩ := I1.list hqx
        obtain ⟨its2, rv2, p2, _⟩ := I1.list hqy
        obtain ⟨its3, rv3, p3, _⟩ := I1.list hqu
        have fresh6 : ∀ d, d ∈ [s1.heap.objs.size + 5, s1.heap.objs.size + 3, s1.heap.objs.size + 4, s1.heap.objs.size, s1.heap.objs.size + 1, s1.heap.objs.size + 2] → FpOk X pins H1 d := fun d hd => by
          have hle : s1.heap.objs.size ≤ d := by
            rcases six hd with z | z | z | z | z | z <;> rw [z]
            · exact Nat.le_add_right _ _
            · exact Nat.le_add_right _ _
            · exact Nat.le_add_right _ _
            · exact Nat.le_refl _
            · exact Nat.le_add_right _ _
            · exact Nat.le_add_right _ _
          exact I1.fpOk hle (I1.hok.fresh hle)
        have bl : ∀ {d : Addr}, d < s1.heap.objs.size → ∀ x ∈ [d], x < s1.heap.objs.size := fun h x hx => by
          rw [List.mem_singleton] at hx
          rw [hx]
          exact h
        refine zip_begins3 (begins_list a its.toArray) (begins_list b its2.toArray) (begins_list c its3.toArray) p1.isList p2.isList p3.isList fun h' hz hTI hTO g1 g2 g3 hsz hk => wpAny_pyIter_zip hz ?_
        have I2 : Inv X pins σ H1 { s1 with heap := h' } := I1.kept (t' := s1.toks) hk
        exact ⟨s1.heap.objs.size + 5, [s1.heap.objs.size + 5, s1.heap.objs.size + 3, s1.heap.objs.size + 4, s1.heap.objs.size, s1.heap.objs.size + 1, s1.heap.objs.size + 2], _, _, H1, rfl, I2,
          turn_zip3 (zip_sep3 (bl p1.lt) (bl p2.lt) (bl p3.lt)) (Nat.ne_of_lt p1.lt) (Nat.ne_of_lt (Nat.lt_add_right _ p2.lt)) (Nat.ne_of_lt (Nat.lt_add_right _ p3.lt)), ⟨hz, hTI, ⟨_, _, _, hTO⟩, ⟨_, g1, rfl, rfl⟩, ⟨_, g2, rfl, rfl⟩, ⟨_, g3, rfl, rfl⟩⟩, fresh6, q⟩
end Rc

set_option maxRecDepth 100000
set_option maxHeartbeats 1000000
/-! zip of two lists, whatever the target: the pair handed out may live on. -/
namespace Rc
open PySem PySem.Spec PyProof.Rows L2
abbrev ZipF (h : Heap) (z TI TO : Addr) (f0 f1 : Value) : Prop :=
  h.get? z = some { cls := .type "zip", dict := none, data := .fields #[f0, f1, .bool false, .ref TI, .ref TO], slots := #[] }
section
variable {prog : Program} {w : World} {A : Around} {E : Value → Shared → Prop} {s : Shared} {z TI TO i1 i2 : Addr} {fp1 fp2 : List Addr} {n1 n2 i : Nat} {P1 P2 : Nat → Value → Prop} {St1 St2 : Nat → Heap → Prop} {a1 a2 : Value}
theorem alive_t {a : Addr} {Q : Option Obj → Shared → Prop} (h : Q (s.heap.get? a) s) : wpAny (model prog w) A (loadIfAlive a) Q E s := by
  exact fun _ _ _ => h
theorem owned_free {f0 : Value} {b : Bool} {Q : Bool → Shared → Prop} (hz : ZipF s.heap z TI TO f0 (.bool b)) (h0 : f0 = .none ∨ ∃ T, f0 = rawInt T) (ht : Q true s)
    (hf : ∀ h', ZipF h' z TI TO f0 (.bool true) → (∀ c o, c ≠ z → s.heap.get? c = some o → h'.get? c = some o) → h'.objs.size = s.heap.objs.size → Q false { s with heap := h' }) : wpAny (model prog w) A (Builtin.SmallTypes.ownedTupleIsFree (.ref z)) Q E s := by
  unfold Builtin.SmallTypes.ownedTupleIsFree
  refine wpAny_bind (wpAny_field hz rfl (x := f0) rfl ?_)
  rcases h0 with rfl | ⟨T, rfl⟩
  · exact wpAny_pure ht
  · unfold rawInt
    simp only
    refine wpAny_bind (alive_t ?_)
    cases hT : s.heap.get? (T : Int).toNat with
    | none => simp; exact wpAny_pure ht
    | some o =>
      simp only [Option.isNone_some]
      rw [if_neg Bool.false_ne_true]
      refine wpAny_bind (wpAny_field hz rfl (x := .bool b) rfl ?_)
      cases b with
      | true =>
        rw [if_neg (by decide)]
        exact hf s.heap hz (fun _ _ _ e => e) rfl |> wpAny_pure
      | false =>
        rw [if_pos (by decide)]
        refine wpAny_bind (wpAny_setField_rec hz (by simp) fun h' hz' hs' => wpAny_pure ?_)
        exact hf h' hz' (fun c o n e => hs'.extBut _ _ n e) hs'.1
/-- what the iterator keeps of its last pair -/
def Past (f0 : Value) : Prop := f0 = .none ∨ ∃ T, f0 = rawInt T
theorem nextN_item {f0 : Value} {b : Bool} {Q : Value → Shared → Prop} (S : ZipSep2 z TI TO i1 i2 fp1 fp2) (D1 : Draws prog w A i1 fp1 n1 P1 St1) (D2 : Draws prog w A i2 fp2 n2 P2 St2)
    (hz : ZipF s.heap z TI TO f0 (.bool b)) (hp0 : Past f0) (hTI : IsTupOf2 s.heap TI (.ref i1) (.ref i2)) (hTO : IsTupOf2 s.heap TO a1 a2) (st1 : St1 i s.heap) (st2 : St2 i s.heap) (l1 : i < n1) (l2 : i < n2)
    (hQ : ∀ x1 x2 h' tk f0' b' y1 y2, P1 i x1 → P2 i x2 → ZipF h' z TI TO f0' (.bool b') → Past f0' → IsTupOf2 h' TO y1 y2 → St1 (i + 1) h' → St2 (i + 1) h' → IsTupOf2 h' s.heap.objs.size x1 x2 → h'.objs.size = s.heap.objs.size + 1 →
      (∀ c o, c ≠ z → c ≠ TO → c ≠ i1 → c ≠ i2 → s.heap.get? c = some o → h'.get? c = some o) → Q (.ref s.heap.objs.size) { s with heap := h', toks := tk }) :
    wpAny (model prog w) A (Builtin.«zip.__next__» ⟨[.ref z], []⟩) (fun fin s' => ∃ v, fin = .done (.ret v) ∧ Q v s') E s := by
  obtain ⟨hh, gg, dd, tk, os⟩ := s
  show wpAny (model prog w) A (field (.ref z) 2 >>= _) _ E _
  refine wpAny_bind (wpAny_field hz rfl (x := .bool false) rfl ?_)
  show wpAny (model prog w) A (field (.ref z) 3 >>= _) _ E _
  refine wpAny_bind (wpAny_field hz rfl (x := .ref TI) rfl ?_)
  refine wpAny_bind (wpAny_seqItems hTI rfl ?_)
  show wpAny (model prog w) A (Builtin.SmallTypes.ownedTupleIsFree (.ref z) >>= _) _ E _
  refine wpAny_bind (owned_free hz hp0 ?_ fun h' hz' kp sz => ?_)
  · rw [if_pos rfl]
    refine wpAny_bind (wpAny_rule (wpAny_bind (wpAny_field hz rfl (x := .ref TO) rfl ?_)))
    refine wpAny_bind (wpAny_setField_rec hz (by simp) fun k0 hk0 e0 => ?_)
    replace hk0 : ZipF k0 z TI TO .ellipsis (.bool b) := hk0
    replace e0 : Heap.SameBut z hh k0 := e0
    refine wpAny_bind ?_
    simp only [List.zipIdx_cons, List.zipIdx_nil, List.forIn_cons, List.forIn_nil]
    refine wpAny_bind (wpAny_bind (wpAny_onRaise ?_))
    show wpAny (model prog w) A (Builtin.SmallTypes.nextOf (.ref i1) >>= _) _ _ ⟨k0, gg, dd, tk, os⟩
    refine wpAny_bind (D1.item i ⟨k0, gg, dd, tk, os⟩ _ _ l1 (D1.over st1 e0 S.zf1) fun x1 p1 t1 hx1 sn1 e1 => wpAny_pure ?_)
    replace e1 : Heap.SameBut i1 k0 p1 := e1
    have u1 : IsTupOf2 p1 TO a1 a2 := e1.extBut _ _ S.Ti1 (e0.extBut _ _ S.TOz hTO)
    refine wpAny_bind (wpAny_seqItems (s := ⟨p1, gg, dd, t1, os⟩) u1 rfl ?_)
    refine wpAny_bind (updateSeq_IsTupOf2 (s := ⟨p1, gg, dd, t1, os⟩) u1 fun k1 u2 e2 => ?_)
    replace u2 : IsTupOf2 k1 TO x1 a2 := u2
    replace e2 : Heap.SameBut TO p1 k1 := e2
    refine wpAny_bind (wpAny_letGo (wpAny_pure ?_))
    refine wpAny_bind (wpAny_bind (wpAny_onRaise ?_))
    show wpAny (model prog w) A (Builtin.SmallTypes.nextOf (.ref i2) >>= _) _ _ ⟨k1, gg, dd, t1, os⟩
    refine wpAny_bind (D2.item i ⟨k1, gg, dd, t1, os⟩ _ _ l2 (D2.over (D2.over (D2.over st2 e0 S.zf2) e1 S.sep1_2) e2 S.Tf2) fun x2 p2 t2 hx2 sn2 e3 => wpAny_pure ?_)
    replace e3 : Heap.SameBut i2 k1 p2 := e3
    have u3 : IsTupOf2 p2 TO x1 a2 := e3.extBut _ _ S.Ti2 u2
    refine wpAny_bind (wpAny_seqItems (s := ⟨p2, gg, dd, t2, os⟩) u3 rfl ?_)
    refine wpAny_bind (updateSeq_IsTupOf2 (s := ⟨p2, gg, dd, t2, os⟩) u3 fun k2 u4 e4 => ?_)
    replace u4 : IsTupOf2 k2 TO x1 x2 := u4
    replace e4 : Heap.SameBut TO p2 k2 := e4
    refine wpAny_bind (wpAny_letGo (wpAny_pure (wpAny_pure ?_)))
    refine wpAny_bind (wpAny_seqItems (s := ⟨k2, gg, dd, t2, os⟩) u4 rfl ?_)
    refine wpAny_bind (wpAny_newTuple ?_)
    have zz : k2.objs.size = hh.objs.size := by rw [e4.1, e3.1, e2.1, e1.1, e0.1]
    have hk2 : ZipF k2 z TI TO .ellipsis (.bool b) := e4.extBut _ _ S.TOz.symm (e3.extBut _ _ S.zi2 (e2.extBut _ _ S.TOz.symm (e1.extBut _ _ S.zi1 hk0)))
    have far : ∀ c o, c ≠ z → c ≠ TO → c ≠ i1 → c ≠ i2 → hh.get? c = some o → k2.get? c = some o := fun c o c0 cT c1 c2 e => e4.extBut _ _ cT (e3.extBut _ _ c2 (e2.extBut _ _ cT (e1.extBut _ _ c1 (e0.extBut _ _ c0 e))))
    have f1 : St1 (i + 1) k2 := D1.over (D1.over (D1.over sn1 e2 S.Tf1) e3 S.sep2_1) e4 S.Tf1
    have f2 : St2 (i + 1) k2 := D2.over sn2 e4 S.Tf2
    have zl : z < k2.objs.size := Heap.lt_size hk2
    have hk3 : ZipF (k2.push { cls := .type "tuple", data := .seq #[x1, x2] }) z TI TO .ellipsis (.bool b) := Heap.get?_push_of_some _ hk2
    show wpAny (model prog w) A (Builtin.SmallTypes.ownedTupleHandOut (.ref z) (.ref k2.objs.size) >>= _) _ _ _
    refine wpAny_bind ?_
    unfold Builtin.SmallTypes.ownedTupleHandOut
    refine wpAny_bind (wpAny_setField_rec hk3 (by simp) fun k4 hk4 e5 => ?_)
    replace hk4 : ZipF k4 z TI TO (rawInt k2.objs.size) (.bool b) := hk4
    refine wpAny_setField_rec hk4 (by simp) fun k5 hk5 e6 => ?_
    replace hk5 : ZipF k5 z TI TO (rawInt k2.objs.size) (.bool false) := hk5
    replace e5 : Heap.SameBut z (k2.push { cls := .type "tuple", data := .seq #[x1, x2] }) k4 := e5
    replace e6 : Heap.SameBut z k4 k5 := e6
    have up : ∀ c o, c ≠ z → k2.get? c = some o → k5.get? c = some o := fun c o n e => e6.extBut _ _ n (e5.extBut _ _ n (Heap.get?_push_of_some _ e))
    have new : IsTupOf2 k5 k2.objs.size x1 x2 := e6.extBut _ _ (Nat.ne_of_gt zl) (e5.extBut _ _ (Nat.ne_of_gt zl) (Heap.get?_push_size _ rfl))
    have zs : k5.objs.size = k2.objs.size + 1 := by rw [e6.1, e5.1, Heap.size_push]
    refine wpAny_pure ⟨_, rfl, ?_⟩
    show Q (.ref k2.objs.size) ⟨k5, gg, dd, t2, os⟩
    rw [zz] at hk5 new zs ⊢
    exact hQ x1 x2 k5 t2 _ false x1 x2 hx1 hx2 hk5 (.inr ⟨_, rfl⟩) (up _ _ S.TOz u4) (D1.frame _ _ _ f1 fun c hc o e => up c o (fun q => S.zf1 (q ▸ hc)) e) (D2.frame _ _ _ f2 fun c hc o e => up c o (fun q => S.zf2 (q ▸ hc)) e) new zs
      fun c o c0 cT c1 c2 e => up c o c0 (far c o c0 cT c1 c2 e)
  · rw [if_neg Bool.false_ne_true]
    simp only [List.forIn_toArray, List.forIn_cons, List.forIn_nil]
    refine wpAny_bind (wpAny_bind (wpAny_bind (wpAny_holding ?_)))
    show wpAny (model prog w) A (Builtin.SmallTypes.nextOf (.ref i1) >>= _) _ E ⟨h', gg, dd, tk, os⟩
    have fr1 : St1 i h' := D1.frame _ _ _ st1 fun c hc o e => kp c o (fun q => S.zf1 (q ▸ hc)) e
    have fr2 : St2 i h' := D2.frame _ _ _ st2 fun c hc o e => kp c o (fun q => S.zf2 (q ▸ hc)) e
    refine wpAny_bind (D1.item i ⟨h', gg, dd, tk, os⟩ _ _ l1 fr1 fun x1 p1 t1 hx1 sn1 sb1 => wpAny_pure ?_)
    replace sb1 : Heap.SameBut i1 h' p1 := sb1
    refine wpAny_pure ?_
    simp only
    refine wpAny_bind (wpAny_bind (wpAny_holding ?_))
    show wpAny (model prog w) A (Builtin.SmallTypes.nextOf (.ref i2) >>= _) _ E ⟨p1, gg, dd, t1, os⟩
    refine wpAny_bind (D2.item i ⟨p1, gg, dd, t1, os⟩ _ _ l2 (D2.over fr2 sb1 S.sep1_2) fun x2 p2 t2 hx2 sn2 sb2 => wpAny_pure ?_)
    replace sb2 : Heap.SameBut i2 p1 p2 := sb2
    refine wpAny_pure ?_
    simp only
    refine wpAny_pure ?_
    show wpAny (model prog w) A (newTuple [x1, x2] >>= _) _ E ⟨p2, gg, dd, t2, os⟩
    refine wpAny_bind (wpAny_newTuple ?_)
    have zz : p2.objs.size = hh.objs.size := by rw [sb2.1, sb1.1]; exact sz
    have far : ∀ c o, c ≠ z → c ≠ i1 → c ≠ i2 → hh.get? c = some o → p2.get? c = some o := fun c o c0 c1 c2 e => sb2.extBut _ _ c2 (sb1.extBut _ _ c1 (kp c o c0 e))
    have new := Heap.get?_push_size p2 (o := { cls := .type "tuple", data := .seq #[x1, x2] }) rfl
    have zs := Heap.size_push p2 { cls := .type "tuple", data := .seq #[x1, x2] }
    refine wpAny_pure ⟨_, rfl, ?_⟩
    show Q (.ref p2.objs.size) _
    rw [zz] at new zs ⊢
    exact hQ x1 x2 _ t2 f0 true a1 a2 hx1 hx2 (Heap.get?_push_of_some _ (sb2.extBut _ _ S.zi2 (sb1.extBut _ _ S.zi1 hz'))) hp0 (Heap.get?_push_of_some _ (far _ _ S.TOz S.Ti1 S.Ti2 hTO))
      (D1.frame _ _ _ (D1.over sn1 sb2 S.sep2_1) fun c _ o e => Heap.get?_push_of_some _ e) (D2.frame _ _ _ sn2 fun c _ o e => Heap.get?_push_of_some _ e) new zs
      fun c o c0 cT c1 c2 e => Heap.get?_push_of_some _ (far c o c0 c1 c2 e)
theorem nextN_end {f0 : Value} {b : Bool} {Q : PySem.Fin → Shared → Prop} (S : ZipSep2 z TI TO i1 i2 fp1 fp2) (D1 : Draws prog w A i1 fp1 n1 P1 St1) (D2 : Draws prog w A i2 fp2 n2 P2 St2)
    (hz : ZipF s.heap z TI TO f0 (.bool b)) (hp0 : Past f0) (hTI : IsTupOf2 s.heap TI (.ref i1) (.ref i2)) (hTO : IsTupOf2 s.heap TO a1 a2) (st1 : St1 i s.heap) (st2 : St2 i s.heap) (m1 : i ≤ n1) (m2 : i ≤ n2) (me : i = n1 ∨ i = n2)
    (hE : ∀ h' tk e, (∀ c o, c ≠ z → c ≠ TO → c ≠ i1 → c ≠ i2 → s.heap.get? c = some o → h'.get? c = some o) → (∃ o, h'.get? e = some o ∧ o.cls = .type "StopIteration") → E (.ref e) { s with heap := h', toks := tk }) :
    wpAny (model prog w) A (Builtin.«zip.__next__» ⟨[.ref z], []⟩) Q E s := by
  obtain ⟨hh, gg, dd, tk, os⟩ := s
  show wpAny (model prog w) A (field (.ref z) 2 >>= _) _ E _
  refine wpAny_bind (wpAny_field hz rfl (x := .bool false) rfl ?_)
  show wpAny (model prog w) A (field (.ref z) 3 >>= _) _ E _
  refine wpAny_bind (wpAny_field hz rfl (x := .ref TI) rfl ?_)
  refine wpAny_bind (wpAny_seqItems hTI rfl ?_)
  show wpAny (model prog w) A (Builtin.SmallTypes.ownedTupleIsFree (.ref z) >>= _) _ E _
  refine wpAny_bind (owned_free hz hp0 ?_ fun h' hz' kp sz => ?_)
  · rw [if_pos rfl]
    refine wpAny_bind (wpAny_rule (wpAny_bind (wpAny_field hz rfl (x := .ref TO) rfl ?_)))
    refine wpAny_bind (wpAny_setField_rec hz (by simp) fun k0 hk0 e0 => ?_)
    replace hk0 : ZipF k0 z TI TO .ellipsis (.bool b) := hk0
    replace e0 : Heap.SameBut z hh k0 := e0
    refine wpAny_bind ?_
    simp only [List.zipIdx_cons, List.zipIdx_nil, List.forIn_cons, List.forIn_nil]
    refine wpAny_bind (wpAny_bind (wpAny_onRaise ?_))
    show wpAny (model prog w) A (Builtin.SmallTypes.nextOf (.ref i1) >>= _) _ _ ⟨k0, gg, dd, tk, os⟩
    by_cases l1 : i < n1
    · refine wpAny_bind (D1.item i ⟨k0, gg, dd, tk, os⟩ _ _ l1 (D1.over st1 e0 S.zf1) fun x1 p1 t1 hx1 sn1 e1 => wpAny_pure ?_)
      replace e1 : Heap.SameBut i1 k0 p1 := e1
      have u1 : IsTupOf2 p1 TO a1 a2 := e1.extBut _ _ S.Ti1 (e0.extBut _ _ S.TOz hTO)
      refine wpAny_bind (wpAny_seqItems (s := ⟨p1, gg, dd, t1, os⟩) u1 rfl ?_)
      refine wpAny_bind (updateSeq_IsTupOf2 (s := ⟨p1, gg, dd, t1, os⟩) u1 fun k1 u2 e2 => ?_)
      replace e2 : Heap.SameBut TO p1 k1 := e2
      refine wpAny_bind (wpAny_letGo (wpAny_pure ?_))
      have q2 : i = n2 := by omega
      refine wpAny_bind (wpAny_bind (wpAny_onRaise ?_))
      show wpAny (model prog w) A (Builtin.SmallTypes.nextOf (.ref i2) >>= _) _ _ ⟨k1, gg, dd, t1, os⟩
      refine wpAny_bind (D2.done ⟨k1, gg, dd, t1, os⟩ _ _ (by rw [← q2]; exact (D2.over (D2.over (D2.over st2 e0 S.zf2) e1 S.sep1_2) e2 S.Tf2)) fun q e hq ⟨oe, hoe, hce⟩ => ?_)
      replace hq : Heap.ExtBut i2 k1 q := hq
      replace hoe : q.get? e = some oe := hoe
      have hzq : ZipF q z TI TO .ellipsis (.bool b) := hq _ _ S.zi2 (e2.extBut _ _ S.TOz.symm (e1.extBut _ _ S.zi1 hk0))
      have ne : e ≠ z := fun y => by
        subst y
        rw [hzq] at hoe
        cases hoe
        simp at hce
      refine wpAny_setField_rec (s := ⟨q, gg, dd, t1, os⟩) hzq (by simp) fun q' _ hq' => ?_
      replace hq' : Heap.SameBut z q q' := hq'
      exact hE q' t1 e (fun c o c0 cT c1 c2 y => hq'.extBut _ _ c0 (hq _ _ c2 (e2.extBut _ _ cT (e1.extBut _ _ c1 (e0.extBut _ _ c0 y))))) ⟨oe, hq'.extBut _ _ ne hoe, hce⟩
    · have q1 : i = n1 := by omega
      refine wpAny_bind (D1.done ⟨k0, gg, dd, tk, os⟩ _ _ (by rw [← q1]; exact (D1.over st1 e0 S.zf1)) fun q e hq ⟨oe, hoe, hce⟩ => ?_)
      replace hq : Heap.ExtBut i1 k0 q := hq
      replace hoe : q.get? e = some oe := hoe
      have hzq : ZipF q z TI TO .ellipsis (.bool b) := hq _ _ S.zi1 hk0
      have ne : e ≠ z := fun y => by
        subst y
        rw [hzq] at hoe
        cases hoe
        simp at hce
      refine wpAny_setField_rec (s := ⟨q, gg, dd, tk, os⟩) hzq (by simp) fun q' _ hq' => ?_
      replace hq' : Heap.SameBut z q q' := hq'
      exact hE q' tk e (fun c o c0 cT c1 c2 y => hq'.extBut _ _ c0 (hq _ _ c1 (e0.extBut _ _ c0 y))) ⟨oe, hq'.extBut _ _ ne hoe, hce⟩
  · rw [if_neg Bool.false_ne_true]
    simp only [List.forIn_toArray, List.forIn_cons, List.forIn_nil]
    refine wpAny_bind (wpAny_bind (wpAny_bind (wpAny_holding ?_)))
    show wpAny (model prog w) A (Builtin.SmallTypes.nextOf (.ref i1) >>= _) _ E ⟨h', gg, dd, tk, os⟩
    have fr1 : St1 i h' := D1.frame _ _ _ st1 fun c hc o e => kp c o (fun q => S.zf1 (q ▸ hc)) e
    have fr2 : St2 i h' := D2.frame _ _ _ st2 fun c hc o e => kp c o (fun q => S.zf2 (q ▸ hc)) e
    by_cases l1 : i < n1
    · refine wpAny_bind (D1.item i ⟨h', gg, dd, tk, os⟩ _ _ l1 fr1 fun x1 p1 t1 hx1 sn1 sb1 => wpAny_pure ?_)
      replace sb1 : Heap.SameBut i1 h' p1 := sb1
      refine wpAny_pure ?_
      simp only
      refine wpAny_bind (wpAny_bind (wpAny_holding ?_))
      show wpAny (model prog w) A (Builtin.SmallTypes.nextOf (.ref i2) >>= _) _ E ⟨p1, gg, dd, t1, os⟩
      have q2 : i = n2 := by omega
      refine wpAny_bind (D2.done ⟨p1, gg, dd, t1, os⟩ _ _ (by rw [← q2]; exact (D2.over fr2 sb1 S.sep1_2)) fun q e hq he => ?_)
      replace hq : Heap.ExtBut i2 p1 q := hq
      exact hE q t1 e (fun c o c0 cT c1 c2 y => hq _ _ c2 (sb1.extBut _ _ c1 (kp c o c0 y))) he
    · have q1 : i = n1 := by omega
      refine wpAny_bind (D1.done ⟨h', gg, dd, tk, os⟩ _ _ (by rw [← q1]; exact fr1) fun q e hq he => ?_)
      replace hq : Heap.ExtBut i1 h' q := hq
      exact hE q tk e (fun c o c0 cT c1 c2 y => hq _ _ c1 (kp c o c0 y)) he
theorem pyN_item {f0 : Value} {b : Bool} {Q : Option Value → Shared → Prop} (S : ZipSep2 z TI TO i1 i2 fp1 fp2) (D1 : Draws prog w A.in1 i1 fp1 n1 P1 St1) (D2 : Draws prog w A.in1 i2 fp2 n2 P2 St2)
    (hz : ZipF s.heap z TI TO f0 (.bool b)) (hp0 : Past f0) (hTI : IsTupOf2 s.heap TI (.ref i1) (.ref i2)) (hTO : IsTupOf2 s.heap TO a1 a2) (st1 : St1 i s.heap) (st2 : St2 i s.heap) (l1 : i < n1) (l2 : i < n2)
    (hQ : ∀ x1 x2 h' tk f0' b' y1 y2, P1 i x1 → P2 i x2 → ZipF h' z TI TO f0' (.bool b') → Past f0' → IsTupOf2 h' TO y1 y2 → St1 (i + 1) h' → St2 (i + 1) h' → IsTupOf2 h' s.heap.objs.size x1 x2 → h'.objs.size = s.heap.objs.size + 1 →
      (∀ c o, c ≠ z → c ≠ TO → c ≠ i1 → c ≠ i2 → s.heap.get? c = some o → h'.get? c = some o) → Q (some (.ref s.heap.objs.size)) { s with heap := h', toks := tk }) :
    wpAny (model prog w) A (pyNext (.ref z)) Q E s := by
  have ty : s.TypeIs (.ref z) "zip" := ⟨_, hz, rfl⟩
  unfold pyNext
  exact wpAny_bind (wpAny_attempt (wpAny_callSpecial?_slot (name := Str.ofString "__next__") ty F.slot_zip_next (wpAny_call_entry F.slot_zip_next ty F.entry_zip_next
    (nextN_item S D1 D2 hz hp0 hTI hTO st1 st2 l1 l2 fun x1 x2 h' tk f0' b' y1 y2 c1 c2 c3 c4 c5 c6 c7 c8 c9 c10 => wpAny_pure (hQ x1 x2 h' tk f0' b' y1 y2 c1 c2 c3 c4 c5 c6 c7 c8 c9 c10)) (F.args_zip_next_1 _))))
theorem pyN_end {f0 : Value} {b : Bool} {Q : Option Value → Shared → Prop} (S : ZipSep2 z TI TO i1 i2 fp1 fp2) (D1 : Draws prog w A.in1 i1 fp1 n1 P1 St1) (D2 : Draws prog w A.in1 i2 fp2 n2 P2 St2)
    (hz : ZipF s.heap z TI TO f0 (.bool b)) (hp0 : Past f0) (hTI : IsTupOf2 s.heap TI (.ref i1) (.ref i2)) (hTO : IsTupOf2 s.heap TO a1 a2) (st1 : St1 i s.heap) (st2 : St2 i s.heap) (m1 : i ≤ n1) (m2 : i ≤ n2) (me : i = n1 ∨ i = n2)
    (hQ : ∀ h' tk, (∀ c o, c ≠ z → c ≠ TO → c ≠ i1 → c ≠ i2 → s.heap.get? c = some o → h'.get? c = some o) → Q none { s with heap := h', toks := tk }) : wpAny (model prog w) A (pyNext (.ref z)) Q E s := by
  have ty : s.TypeIs (.ref z) "zip" := ⟨_, hz, rfl⟩
  unfold pyNext
  refine wpAny_bind (wpAny_attempt (wpAny_callSpecial?_slot (name := Str.ofString "__next__") ty F.slot_zip_next (wpAny_call_entry F.slot_zip_next ty F.entry_zip_next
    (nextN_end S D1 D2 hz hp0 hTI hTO st1 st2 m1 m2 me fun h' tk e hk ⟨o, ho, hc⟩ => ?_) (F.args_zip_next_1 _))))
  exact wpAny_bind (wpAny_isInstance (T := "StopIteration") (b := true) ⟨o, ho, hc⟩ isSubtype_stop (wpAny_pure (hQ _ _ hk)))
theorem iter_selfN {f0 f1 : Value} {Q : Value → Shared → Prop} (hz : ZipF s.heap z TI TO f0 f1) (h : Q (.ref z) s) : wpAny (model prog w) A (pyIter (.ref z)) Q E s := by
  have ty : s.TypeIs (.ref z) "zip" := ⟨_, hz, rfl⟩
  refine wpAny_pyIter_slot ty F.slot_zip_iter (wpAny_call_entry F.slot_zip_iter ty F.entry_zip_iter ?_ (F.args_zip_iter_1 _))
  show wpAny (model prog w) _ (ret (.ref z)) _ _ s
  exact wpAny_pure ⟨_, rfl, "zip", _, ty, F.slot_zip_next.lookup, h⟩
end
/-- two lists as they stand at each turn, the items in new pairs; told to the very end -/
def Itz2 (K : PySem.W.Frag) (a b : Addr) : L2.It :=
  ⟨(Itz K a b).go, (Itz K a b).yld, fun i H => ∃ xs ys : List V, SqL K H a xs ∧ SqL K H b ys ∧ i ≤ xs.length ∧ i ≤ ys.length ∧ (i = xs.length ∨ i = ys.length)⟩
theorem five {c z TI TO i1 i2 : Addr} (h : c ∈ [z, TI, TO, i1, i2]) : c = z ∨ c = TI ∨ c = TO ∨ c = i1 ∨ c = i2 := by simpa using h
theorem turn_zipN {P : Program} {w : World} {K : PySem.W.Frag} {x : Str} {tpos : Pos} {a b z TI TO i1 i2 : Addr} (D : ZipSep2 z TI TO i1 i2 [i1, a] [i2, b]) (na : a ≠ i1) (nb : b ≠ i2) :
    Turn P w K (.Name x tpos) (Itz2 K a b) [z, TI, TO, i1, i2] z (fun i h => (∃ f0 b, ZipF h z TI TO f0 (.bool b) ∧ Past f0) ∧ IsTupOf2 h TI (.ref i1) (.ref i2) ∧ (∃ x y, IsTupOf2 h TO x y) ∧ h.IsListIter i1 a i ∧ h.IsListIter i2 b i) where
  mem := by simp
  obj := fun i h st d hd => by
    obtain ⟨⟨_, _, hz, _⟩, hTI, ⟨x, y, hTO⟩, ⟨o1, e1, _, d1⟩, ⟨o2, e2, _, d2⟩⟩ := st
    rcases five hd with q | q | q | q | q
    · rw [q]; exact ⟨_, hz, fun v q => nomatch q⟩
    · rw [q]; exact ⟨_, hTI, fun v q => nomatch q⟩
    · rw [q]; exact ⟨_, hTO, fun v q => nomatch q⟩
    · rw [q]; exact ⟨o1, e1, fun v q => by rw [d1] at q; cases q⟩
    · rw [q]; exact ⟨o2, e2, fun v q => by rw [d2] at q; cases q⟩
  keep := fun i h h' st k => by
    obtain ⟨⟨f0, b0, hz, hp⟩, hTI, ⟨x, y, hTO⟩, h1, h2⟩ := st
    exact ⟨⟨f0, b0, k z (by simp) _ hz, hp⟩, k TI (by simp) _ hTI, ⟨x, y, k TO (by simp) _ hTO⟩, h1.at fun o q => k i1 (by simp) o q, h2.at fun o q => k i2 (by simp) o q⟩
  item := by
    intro X hP hw hK hc i pins s σ H E I hf st hg
    subst hP hw hK
    obtain ⟨⟨f0, b0, hz, hp0⟩, hTI, ⟨x0, y0, hTO⟩, h1, h2⟩ := st
    obtain ⟨xs, ys, x, y, hqx, hqy, hx, hy⟩ := hg
    obtain ⟨its, rv, p, _⟩ := I.list hqx
    obtain ⟨its2, rv2, p2, _⟩ := I.list hqy
    obtain ⟨v1, g1, r1⟩ := rv.get hx
    obtain ⟨v2, g2, r2⟩ := rv2.get hy
    have sz : ∀ {l : List Value} {v : Value}, l[i]? = some v → i < l.toArray.size := fun {l v} g => by
      have := (List.getElem?_eq_some_iff.mp g).1
      simpa using this
    have D1 := Draws.list (prog := X.prog) (w := X.w) (A := X.A.in1) (I.ok.hd hc) i1 a na its.toArray
    have D2 := Draws.list (prog := X.prog) (w := X.w) (A := X.A.in1) (I.ok.hd hc) i2 b nb its2.toArray
    refine pyN_item D D1 D2 hz hp0 hTI hTO ⟨h1, p.isList⟩ ⟨h2, p2.isList⟩ (sz g1) (sz g2) fun w1 w2 h' tk f0' b' y1 y2 e1 e2 c1 c2 c3 d1 d2 c5 c6 hk => ?_
    have e1 : w1 = v1 := Option.some.inj (e1.symm.trans (by simpa using g1))
    have e2 : w2 = v2 := Option.some.inj (e2.symm.trans (by simpa using g2))
    subst e1 e2
    refine ⟨_, rfl, wpAny_pure ?_⟩
    have new : ObjOk X.prog X.w (upd H s.heap.objs.size (.tup [x, y])) h' s.heap.objs.size (.tup [x, y]) :=
      ⟨by show 2 ≤ sizeLine; decide, [w1, w2], .cons r1 (.cons r2 .nil), ⟨_, c5, rfl, _, rfl⟩⟩
    have I1 : Inv X pins σ (upd H s.heap.objs.size (.tup [x, y])) { s with heap := h', toks := tk } :=
      I.turnedNew (t' := tk) (ch := [z, TI, TO, i1, i2]) (fun c o hb q => hk c o (fun q' => hb (by simp [q'])) (fun q' => hb (by simp [q'])) (fun q' => hb (by simp [q'])) (fun q' => hb (by simp [q'])) q) hf (Nat.le_refl _) new
    refine ⟨.ref s.heap.objs.size, _, I1, rfl, ⟨_, x, y, rfl, I.hok.fresh (Nat.le_refl _), rfl, fun l hl => by rw [I.list_inj hl hqx]; exact hx, fun l hl => by rw [I.list_inj hl hqy]; exact hy⟩, ⟨⟨f0', b', c1, c2⟩, hk _ _ D.TIz D.TITO D.TIi1 D.TIi2 hTI, ⟨_, _, c3⟩, d1.1, d2.1⟩, fun d hd => ?_⟩
    have hlt : d < s.heap.objs.size := by
      rcases five hd with q | q | q | q | q
      · rw [q]; exact Heap.lt_size hz
      · rw [q]; exact Heap.lt_size hTI
      · rw [q]; exact Heap.lt_size hTO
      · rw [q]; obtain ⟨_, e1, _⟩ := h1; exact Heap.lt_size e1
      · rw [q]; obtain ⟨_, e2, _⟩ := h2; exact Heap.lt_size e2
    rw [upd_ne (Nat.ne_of_lt hlt)]
    exact (hf d hd).1
  done := by
    intro X hP hw hK hc i pins s σ H E I hf st hg
    subst hP hw hK
    obtain ⟨⟨f0, b0, hz, hp0⟩, hTI, ⟨x0, y0, hTO⟩, h1, h2⟩ := st
    obtain ⟨xs, ys, hqx, hqy, q1, q2, hend⟩ := hg
    obtain ⟨its, rv, p, _⟩ := I.list hqx
    obtain ⟨its2, rv2, p2, _⟩ := I.list hqy
    have l1 := rv.length
    have l2 := rv2.length
    have D1 := Draws.list (prog := X.prog) (w := X.w) (A := X.A.in1) (I.ok.hd hc) i1 a na its.toArray
    have D2 := Draws.list (prog := X.prog) (w := X.w) (A := X.A.in1) (I.ok.hd hc) i2 b nb its2.toArray
    exact pyN_end D D1 D2 hz hp0 hTI hTO ⟨h1, p.isList⟩ ⟨h2, p2.isList⟩ (by simp; omega) (by simp; omega) (by simp; omega) fun h' tk hk => ⟨rfl, I.turnedL (t' := tk) (ch := [z, TI, TO, i1, i2]) (fun c o hb q =>
      hk c o (fun q' => hb (by simp [q'])) (fun q' => hb (by simp [q'])) (fun q' => hb (by simp [q'])) (fun q' => hb (by simp [q'])) q) hf⟩
  self := fun A i s Q E st h => by
    obtain ⟨⟨f0, b0, hz, _⟩, _⟩ := st
    exact iter_selfN hz h
def iZipN (K : PySem.W.Frag) (ta : TA) : TI := fun σ H R => ta σ H fun vs H1 => ∃ a b xs ys, vs = [.ref a, .ref b] ∧ SqL K H1 a xs ∧ SqL K H1 b ys ∧ R (Itz2 K a b) H1
theorem pi_zipN {X : Cx} {e e2 : Expr} {ta : TA} {p pos tpos : Pos} {x : Str} (hg : Gl X "zip") (hm : X.mg "zip" = none) (ha : PA X [e, e2] ta)
    (hs : starEach [e, e2] X.env = (false, eval e X.env) :: starEach [e2] X.env := by rfl) (hpl : (backTo pos (starEach [e2] X.env)).any (·.1) = false := by rfl) :
    PI X (.Name x tpos) (.Call (.Name "zip" p) [e, e2] [] pos) (iZipN X.K ta) := by
  refine ⟨fun pins s σ H R I h => ?_⟩
  refine Call_ (ld_blt I hg hm PyProof.Rows.boot_zip (PyProof.Rows.callWith_type1 (thn (ha.run pos pins s σ H _ I h) fun us s1 ⟨vs, H1, I1, r1, q1⟩ => ?_) hs hpl))
  obtain ⟨a, b, xs, ys, ex, hqx, hqy, q⟩ := q1
  subst ex
  cases r1 with
  | cons r rr =>
    cases rr with
    | cons r' rr =>
      cases rr
      cases r
      cases r'
      obtain ⟨its, rv, p1, _⟩ := I1.list hqx
      obtain ⟨its2, rv2, p2, _⟩ := I1.list hqy
      have fresh : ∀ d, d ∈ [s1.heap.objs.size + 4, s1.heap.objs.size + 2, s1.heap.objs.size + 3, s1.heap.objs.size, s1.heap.objs.size + 1] → FpOk X pins H1 d := fun d hd => by
        have hle : s1.heap.objs.size ≤ d := by
          rcases five hd with z | z | z | z | z <;> rw [z]
          · exact Nat.le_add_right _ _
          · exact Nat.le_add_right _ _
          · exact Nat.le_add_right _ _
          · exact Nat.le_refl _
          · exact Nat.le_add_right _ _
        exact I1.fpOk hle (I1.hok.fresh hle)
      have bl : ∀ {d : Addr}, d < s1.heap.objs.size → ∀ y ∈ [d], y < s1.heap.objs.size := fun h y hy => by
        rw [List.mem_singleton] at hy
        rw [hy]
        exact h
      refine call_zip_2 p1.isList p2.isList fun h' hz hTI hTO h1 h2 hsz hk => iter_selfN hz ?_
      have I2 : Inv X pins σ H1 { s1 with heap := h' } := I1.kept (t' := s1.toks) hk
      exact ⟨s1.heap.objs.size + 4, [s1.heap.objs.size + 4, s1.heap.objs.size + 2, s1.heap.objs.size + 3, s1.heap.objs.size, s1.heap.objs.size + 1], _, _, H1, rfl, I2,
        turn_zipN (zip_sep2 (bl p1.lt) (bl p2.lt)) (Nat.ne_of_lt p1.lt) (Nat.ne_of_lt (Nat.lt_add_right _ p2.lt)), ⟨⟨_, _, hz, .inl rfl⟩, hTI, ⟨_, _, hTO⟩, h1, h2⟩, fresh, q⟩
end Rc

set_option maxRecDepth 100000
set_option maxHeartbeats 4000000
namespace Rc
open PySem L2
variable [Tbs]
/-- the walk J tells the items ds, as long as the sources stand -/
def ItOk (K : PySem.W.Frag) (σ : L2.St) (Hs : Hp) (J : L2.It) (ds : List D) (srcs : List (Nat × List D)) : Prop :=
  ∀ i Hs2 H2 σ2 m2, Same Hs Hs2 → REnv K Hs2 H2 σ2 m2 → srcOk m2 srcs → (∀ p ∈ srcs, σ2[p.1]? = σ[p.1]?) →
    (ds.length = i → J.stop i H2) ∧ (∀ d, ds[i]? = some d → J.go i H2 ∧ ∀ x H3, J.yld i H2 x H3 → ∃ Hs3, REnv K Hs3 H3 σ2 m2 ∧ Fram Hs2 H2 (Own σ2 m2) Hs3 H3 (Own σ2 m2) ∧ Rp K Hs3 x d)
def tI (K : PySem.W.Frag) (mg : Str → Option Value) (W : XK) (it : Rc.It) : TI := fun σ H R => ∃ Hs m, REnv K Hs H σ m ∧
  PostR (fun p => ∀ J Hs' H', REnv K Hs' H' σ p.2.2 → Fram Hs H (Own σ m) Hs' H' (Own σ p.2.2) → ItOk K σ Hs' J p.1 p.2.1 → (∀ q ∈ p.2.1, ∃ d, geti p.2.2 q.1 = some (true, d)) → srcOk p.2.2 p.2.1 → R J H') (XcE mg W σ H m) (evI it m)
section
variable {X : Cx} {W : XK} {c : TC}
theorem PI.imp {tg e : Expr} {t t' : TI} (h : PI X tg e t) (i : ∀ σ H R, t' σ H R → t σ H R) : PI X tg e t' := ⟨fun pins s σ H R I q => h.run pins s σ H R I (i σ H R q)⟩
theorem Res.case {α : Type} (r : Res α) : (∃ a, r = .ok a) ∨ (∃ x, r = .exc x) ∨ r = .bad := by
  cases r with
  | ok a => exact .inl ⟨a, rfl⟩
  | exc x => exact .inr (.inl ⟨x, rfl⟩)
  | bad => exact .inr (.inr rfl)
theorem srcsOf_eq (e : E) (d : D) (m : Env) : srcsOf e d m = match e.vr with | some i => (match d with | .list xs => (match geti m i with | some (true, _) => [(i, xs)] | _ => []) | _ => []) | none => [] := by
  cases e <;> cases d <;> rfl
/-- a source stands as it stood: its list is there -/
theorem src_at {K : PySem.W.Frag} {e : E} {d : D} {ds : List D} {m : Env} {σ : L2.St} {Hs H : Hp} {v : V} (R : REnv K Hs H σ m) (b : BR K e σ Hs v d) (hd : rd e d m = some (.list ds)) :
    ∃ a, v = .ref a ∧ ∀ Hs2 H2 σ2 m2, Same Hs Hs2 → REnv K Hs2 H2 σ2 m2 → srcOk m2 (srcsOf e (.list ds) m) → (∀ p ∈ srcsOf e (.list ds) m, σ2[p.1]? = σ[p.1]?) → ∃ vs, H2 a = some (.lst vs) ∧ RpA K Hs2 vs ds := by
  rw [srcsOf_eq]
  rw [rd_eq] at hd
  unfold BR at b
  cases q : e.vr with
  | none =>
    rw [q] at b hd
    have hd := Option.some.inj hd
    subst hd
    cases b with
    | lst h1 h2 => exact ⟨_, rfl, fun Hs2 H2 σ2 m2 s R2 _ _ => ⟨_, R2.sub _ _ (s _ _ h1), RpA.mono s _ _ h2⟩⟩
    | scr _ e => cases e
    | adr e => cases e
  | some i =>
    rw [q] at b hd
    have hd : (geti m i).map (·.2) = some (.list ds) := hd
    cases g : geti m i with
    | none => rw [g] at hd; simp at hd
    | some p =>
      obtain ⟨f, x⟩ := p
      rw [g] at hd
      have hd : x = .list ds := Option.some.inj hd
      subst hd
      cases f with
      | false =>
        obtain ⟨v', e', r⟩ := R.val i _ g
        rw [b] at e'; cases e'
        cases r with
        | lst h1 h2 => exact ⟨_, rfl, fun Hs2 H2 σ2 m2 s R2 _ _ => ⟨_, R2.sub _ _ (s _ _ h1), RpA.mono s _ _ h2⟩⟩
        | scr _ e => cases e
        | adr e => cases e
      | true =>
        obtain ⟨a, o, e', h1, h2, _⟩ := R.own i _ g
        rw [b] at e'; cases e'
        refine ⟨a, rfl, fun Hs2 H2 σ2 m2 s R2 ok same => ?_⟩
        simp only [g] at ok same
        obtain ⟨⟨f2, z⟩, _⟩ := (show (∃ b, geti m2 i = some (b, .list ds)) ∧ _ from ok)
        have e2 : σ2[i]? = some (some (.ref a)) := (same (i, ds) (by simp)).trans b
        have rb := R2.rb z e2
        obtain ⟨a', vs, ea, k1, k2⟩ := rb.seqL R2.sub
        cases ea
        exact ⟨vs, k1, k2⟩
theorem src_atT {K : PySem.W.Frag} {e : E} {d : D} {ds : List D} {m : Env} {σ : L2.St} {Hs H : Hp} {v : V} (R : REnv K Hs H σ m) (b : BR K e σ Hs v d) (hd : rd e d m = some (.tuple ds)) :
    ∃ a, v = .ref a ∧ ∀ Hs2 H2, Same Hs Hs2 → Same Hs2 H2 → ∃ vs, SqT K H2 a vs ∧ RpA K Hs2 vs ds := by
  have rb := R.op b hd
  rcases rb with rb | ⟨a, o, _, _, k⟩
  · cases rb with
    | tup h1 h2 => exact ⟨_, rfl, fun Hs2 H2 s s2 => ⟨_, Same.seqT s2 (Same.seqT s h1), RpA.mono s _ _ h2⟩⟩
    | scr _ e => cases e
    | adr e => cases e
  · cases k
theorem srcs_own {e : E} {d : D} {m : Env} {ds : List D} (hd : rd e d m = some (.list ds)) : (∀ q ∈ srcsOf e (.list ds) m, ∃ d, geti m q.1 = some (true, d)) ∧ srcOk m (srcsOf e (.list ds) m) := by
  rw [srcsOf_eq]
  rw [rd_eq] at hd
  cases q : e.vr with
  | none => exact ⟨fun q h => by simp at h, trivial⟩
  | some i =>
    rw [q] at hd
    have hd : (geti m i).map (·.2) = some (.list ds) := hd
    cases g : geti m i with
    | none => rw [g] at hd; simp at hd
    | some p =>
      obtain ⟨f, x⟩ := p
      rw [g] at hd
      have hd : x = .list ds := Option.some.inj hd
      subst hd
      simp only
      cases f with
      | false => simp [g, srcOk]
      | true =>
        simp only [g]
        refine ⟨fun q h => ?_, ⟨_, g⟩, trivial⟩
        simp at h
        subst h
        exact ⟨_, g⟩
theorem srcs_tup {e : E} {ds : List D} {m : Env} : srcsOf e (.tuple ds) m = [] := by
  rw [srcsOf_eq]; cases e.vr <;> rfl
theorem rd_self {e : E} {m : Env} {d : D} (g : ∀ i, e.vr = some i → ∃ f, geti m i = some (f, d)) : rd e d m = some d := by
  rw [rd_eq]
  cases q : e.vr with
  | none => rfl
  | some i =>
    obtain ⟨f, z⟩ := g i q
    show (geti m i).map (·.2) = _
    rw [z]; rfl
theorem ok_item {K : PySem.W.Frag} {Hs2 H2 : Hp} {σ2 : L2.St} {m2 : Env} {x : V} {d : D} (R2 : REnv K Hs2 H2 σ2 m2) (r : Rp K Hs2 x d) : ∃ Hs3, REnv K Hs3 H2 σ2 m2 ∧ Fram Hs2 H2 (Own σ2 m2) Hs3 H2 (Own σ2 m2) ∧ Rp K Hs3 x d := ⟨Hs2, R2, Fram.refl, r⟩
theorem it_list {K : PySem.W.Frag} {σ : L2.St} {Hs : Hp} {a : Addr} {ds : List D} {srcs : List (Nat × List D)} (h : ∀ Hs2 H2 σ2 m2, Same Hs Hs2 → REnv K Hs2 H2 σ2 m2 → srcOk m2 srcs → (∀ p ∈ srcs, σ2[p.1]? = σ[p.1]?) → ∃ vs, H2 a = some (.lst vs) ∧ RpA K Hs2 vs ds) :
    ItOk K σ Hs (Itl K a) ds srcs := fun i Hs2 H2 σ2 m2 s R2 ok same => by
  obtain ⟨vs, h1, r1⟩ := h Hs2 H2 σ2 m2 s R2 ok same
  refine ⟨fun hi => ⟨vs, SqL.of h1, by rw [r1.length]; exact Nat.le_of_eq hi⟩, fun d hd => ?_⟩
  obtain ⟨v, hv, rv⟩ := r1.get hd
  refine ⟨⟨vs, v, SqL.of h1, hv⟩, fun x H3 ⟨e, q⟩ => ?_⟩
  subst e
  have hx := q vs (SqL.of h1)
  rw [hv] at hx; cases hx
  exact ok_item R2 rv
theorem it_tup {K : PySem.W.Frag} {σ : L2.St} {Hs : Hp} {a : Addr} {ds : List D} {srcs : List (Nat × List D)} (h : ∀ Hs2 H2, Same Hs Hs2 → Same Hs2 H2 → ∃ vs, SqT K H2 a vs ∧ RpA K Hs2 vs ds) :
    ItOk K σ Hs (Itt K a) ds srcs := fun i Hs2 H2 σ2 m2 s R2 ok same => by
  obtain ⟨vs, h1, r1⟩ := h Hs2 H2 s R2.sub
  refine ⟨fun hi => ⟨vs, h1, by rw [r1.length]; exact Nat.le_of_eq hi⟩, fun d hd => ?_⟩
  obtain ⟨v, hv, rv⟩ := r1.get hd
  refine ⟨⟨vs, v, h1, hv⟩, fun x H3 ⟨e, q⟩ => ?_⟩
  subst e
  have hx := q vs h1
  rw [hv] at hx; cases hx
  exact ok_item R2 rv
theorem s_sq {tg e : Expr} {ee : E} (he : PEm X W e ee) : PI X tg e (tI X.K X.mg W (.sq ee)) := by
  refine ⟨fun pins s σ H R I ⟨Hs, m, R0, h⟩ => ?_⟩
  simp only [evI] at h
  by_cases ht : ∃ p ds, ev ee m = .ok p ∧ p.1.2 = .tuple ds
  · obtain ⟨p', ds, hp', hd⟩ := ht
    refine (pi_tup he).run pins s σ H R I (step' R0 h fun p v Hs1 H1 ep hp R1 F1 b g => ?_)
    rw [hp'] at ep; cases ep
    have rs := rd_self g
    obtain ⟨xs, hx, hp⟩ := PostR.ofO hp.bind
    rw [hd] at hx rs b
    simp only [seqD, Option.some.injEq] at hx
    subst hx
    obtain ⟨a, rfl, ha⟩ := src_atT R1 b rs
    obtain ⟨vs, h1, _⟩ := ha Hs1 H1 (Same.refl _) R1.sub
    refine ⟨a, rfl, ⟨vs, h1⟩, ?_⟩
    rw [hd] at hp
    refine hp (Itt X.K a) Hs1 H1 R1 F1 (it_tup ha) ?_ ?_
    · rw [srcs_tup]; intro q hq; simp at hq
    · rw [srcs_tup]; exact trivial
  · refine (pi_list he).run pins s σ H R I (step' R0 h fun p v Hs1 H1 ep hp R1 F1 b g => ?_)
    have rs := rd_self g
    obtain ⟨xs, hx, hp⟩ := PostR.ofO hp.bind
    have hd : p.1.2 = .list xs := by
      revert hx
      cases hd : p.1.2 <;> simp only [seqD, Option.some.injEq, reduceCtorEq, false_implies]
      · rintro rfl; rfl
      · exact absurd ⟨p, _, ep, hd⟩ ht
    rw [hd] at rs hp b
    obtain ⟨a, rfl, ha⟩ := src_at R1 b rs
    obtain ⟨w1, w2⟩ := srcs_own rs
    obtain ⟨vs, h1, _⟩ := ha Hs1 H1 σ p.2 (Same.refl _) R1 w2 (fun _ _ => rfl)
    exact ⟨a, rfl, ⟨vs, SqL.of h1⟩, hp (Itl X.K a) Hs1 H1 R1 F1 (it_list ha) w1 w2⟩
/-! ### range -/
theorem it_rng {K : PySem.W.Frag} {σ : L2.St} {Hs : Hp} {lo : Int} {n : Nat} : ItOk K σ Hs (Itr lo n) ((List.range n).map fun (k : Nat) => PyData.int (lo + k)) [] := fun i Hs2 H2 σ2 m2 s R2 ok same => by
  refine ⟨fun hi => (show n ≤ i from Nat.le_of_eq (by simpa using hi)), fun d hd => ?_⟩
  rw [List.getElem?_map] at hd
  by_cases hi : i < n
  · rw [List.getElem?_range hi] at hd
    simp only [Option.map_some, Option.some.injEq] at hd
    subst hd
    refine ⟨hi, fun x H3 ⟨e1, e2⟩ => ?_⟩
    subst e1 e2
    exact ok_item R2 (.int _)
  · rw [List.getElem?_eq_none (by simpa using hi)] at hd
    simp at hd
theorem s_rg1 (G : Good X W c) {tg a : Expr} {ea : E} {p pos : Pos} (hg : isGl c.sc ("range" : Str) = true) (hp : isPlain a = true) (ha : PEm X W a ea) : PI X tg (.Call (.Name ("range" : Str) p) [a] [] pos) (tI X.K X.mg W (.rg ea)) := by
  refine PI.imp (pi_range1 (gl_at G hg) (G.blt _ (by decide +kernel)) (pa_cons ha pa_nil (plain_star hp _ _)) (by rw [plain_star hp] <;> rfl)) fun σ H R ⟨Hs, m, R0, h⟩ => ?_
  simp only [evI] at h
  refine step R0 h fun q v Hs1 H1 hq R1 F1 b g => ?_
  have rb := now R1 b g
  revert hq
  cases hd : q.1.2 with
  | int j =>
    intro hq
    rw [hd] at rb
    replace hq : PostR _ _ (@ite _ (smallI j) (Classical.propDecidable _) (Res.ok (rngD 0 j, ([] : List (Nat × List D)), q.2)) .bad) := hq
    split at hq
    · rename_i hs
      refine ⟨j, by rw [rb.int], hs.1, hs.2, hq _ Hs1 H1 R1 F1 ?_ (fun q h => by simp at h) trivial⟩
      have := it_rng (K := X.K) (σ := σ) (Hs := Hs1) (lo := 0) (n := j.toNat)
      unfold rngD
      rw [Int.sub_zero]
      exact this
    · exact hq.elim
  | _ => intro hq; exact hq.elim
theorem s_rg2 (G : Good X W c) {tg a b : Expr} {ea eb : E} {p pos : Pos} (hg : isGl c.sc ("range" : Str) = true) (hp : isPlain a = true) (hp2 : isPlain b = true) (ha : PEm X W a ea) (hb : PEm X W b eb) : PI X tg (.Call (.Name ("range" : Str) p) [a, b] [] pos) (tI X.K X.mg W (.rg2 ea eb)) := by
  refine PI.imp (pi_range2 (gl_at G hg) (G.blt _ (by decide +kernel)) (pa_cons ha (pa_cons hb pa_nil (plain_star hp2 _ _)) (plain_star hp _ _)) (by rw [plain_star hp, plain_star hp2] <;> rfl) (by rw [plain_star hp2] <;> rfl)) fun σ H R ⟨Hs, m, R0, h⟩ => ?_
  simp only [evI] at h
  refine step R0 h fun q v Hs1 H1 hq R1 F1 b1 g1 => ?_
  have rb1 := now R1 b1 g1
  refine step R1 hq fun q2 v2 Hs2 H2 hq R2 F2 b2 g2 => ?_
  have rb2 := now R2 b2 g2
  revert hq
  cases hd : q.1.2 with
  | int i =>
    cases hd2 : q2.1.2 with
    | int j =>
      intro hq
      rw [hd] at rb1
      rw [hd2] at rb2
      replace hq : PostR _ _ (@ite _ (smallI i ∧ smallI j) (Classical.propDecidable _) (Res.ok (rngD i j, ([] : List (Nat × List D)), q2.2)) .bad) := hq
      split at hq
      · rename_i hs
        refine ⟨i, j, by rw [rb1.int, rb2.int], ⟨hs.1.1, hs.1.2, hs.2.1, hs.2.2⟩, hq _ Hs2 H2 R2 (F1.trans F2) it_rng (fun q h => by simp at h) trivial⟩
      · exact hq.elim
    | _ => intro hq; exact hq.elim
  | _ => intro hq; exact hq.elim
/-! ### reversed -/
theorem s_rv (G : Good X W c) {tg a : Expr} {ea : E} {p pos : Pos} (hg : isGl c.sc ("reversed" : Str) = true) (hp : isPlain a = true) (ha : PEm X W a ea) : PI X tg (.Call (.Name ("reversed" : Str) p) [a] [] pos) (tI X.K X.mg W (.rv ea)) := by
  refine PI.imp (RT.pi_revA (gl_at G hg) (G.blt _ (by decide +kernel)) ha (plain_star hp _ _)) fun σ H R ⟨Hs, m, R0, h⟩ => ?_
  simp only [evI] at h
  refine step R0 h fun q v Hs1 H1 hq R1 F1 b g => ?_
  have rs := rd_self g
  obtain ⟨xs, hx, hq⟩ := PostR.ofO hq.bind
  have back : ∀ (n i : Nat) (d : D), xs.reverse[i]? = some d → n = xs.length → i < n ∧ xs[n - 1 - i]? = some d := fun n i d h e => by
    subst e
    have hi : i < xs.length := by
      by_cases q : i < xs.length
      · exact q
      · rw [List.getElem?_eq_none (by simpa using q)] at h; cases h
    rw [List.getElem?_reverse hi] at h
    exact ⟨hi, h⟩
  revert hx
  cases hd : q.1.2 <;> simp only [seqD, Option.some.injEq, reduceCtorEq, false_implies]
  · rintro rfl
    rw [hd] at rs hq b
    obtain ⟨a, rfl, ha⟩ := src_at R1 b rs
    obtain ⟨w1, w2⟩ := srcs_own rs
    obtain ⟨vs, h1, r1⟩ := ha Hs1 H1 σ q.2 (Same.refl _) R1 w2 (fun _ _ => rfl)
    refine ⟨a, vs, rfl, .inl ⟨SqL.of h1, hq (Itv X.K a vs.length) Hs1 H1 R1 F1 (fun i Hs2 H2 σ2 m2 s R2 ok same => ?_) w1 w2⟩⟩
    obtain ⟨ws, k1, k2⟩ := ha Hs2 H2 σ2 m2 s R2 ok same
    refine ⟨fun hi => (show vs.length ≤ i from Nat.le_of_eq (by rw [r1.length]; simpa using hi)), fun d hd => ?_⟩
    obtain ⟨hi, hd⟩ := back vs.length i d hd r1.length
    obtain ⟨u, hu, ru⟩ := k2.get hd
    refine ⟨⟨hi, ws, u, SqL.of k1, hu⟩, fun x H3 ⟨e, q⟩ => ?_⟩
    subst e
    have hx := q ws (SqL.of k1)
    rw [hu] at hx; cases hx
    exact ok_item R2 ru
  · rintro rfl
    rw [hd] at rs hq b
    obtain ⟨a, rfl, ha⟩ := src_atT R1 b rs
    obtain ⟨vs, h1, r1⟩ := ha Hs1 H1 (Same.refl _) R1.sub
    refine ⟨a, vs, rfl, .inr ⟨h1, hq (RT.ItvT X.K a vs.length) Hs1 H1 R1 F1 (fun i Hs2 H2 σ2 m2 s R2 ok same => ?_) (by rw [srcs_tup]; intro q hq; simp at hq) (by rw [srcs_tup]; exact trivial)⟩⟩
    obtain ⟨ws, k1, k2⟩ := ha Hs2 H2 s R2.sub
    refine ⟨fun hi => (show vs.length ≤ i from Nat.le_of_eq (by rw [r1.length]; simpa using hi)), fun d hd => ?_⟩
    obtain ⟨hi, hd⟩ := back vs.length i d hd r1.length
    obtain ⟨u, hu, ru⟩ := k2.get hd
    refine ⟨⟨hi, ws, u, k1, hu⟩, fun x H3 ⟨e, q⟩ => ?_⟩
    subst e
    have hx := q ws k1
    rw [hu] at hx; cases hx
    exact ok_item R2 ru
/-! ### pairs -/
theorem ok_pair {K : PySem.W.Frag} {Hs2 H2 : Hp} {σ2 : L2.St} {m2 : Env} {T : Addr} {x y : V} {d e : D} (R2 : REnv K Hs2 H2 σ2 m2) (n : H2 T = none) (rx : Rp K Hs2 x d) (ry : Rp K Hs2 y e) :
    ∃ Hs3, REnv K Hs3 (upd H2 T (.tup [x, y])) σ2 m2 ∧ Fram Hs2 H2 (Own σ2 m2) Hs3 (upd H2 T (.tup [x, y])) (Own σ2 m2) ∧ Rp K Hs3 (.ref T) (.tuple [d, e]) := by
  have h := fin_tup (e := .dct) (m := m2) (m1 := m2) (Hs := Hs2) (H := H2) (Q := fun v H' => ∃ Hs3, REnv K Hs3 H' σ2 m2 ∧ Fram Hs2 H2 (Own σ2 m2) Hs3 H' (Own σ2 m2) ∧ Rp K Hs3 v (.tuple [d, e])) rfl
    (fun v Hs' H' R F r => ⟨Hs', R, by rw [OV_false] at F; exact F, r⟩) R2 Fram.refl (.cons rx (.cons ry .nil)) T n
  exact h
theorem zipWith_at {α β γ : Type} {f : α → β → γ} : ∀ {xs : List α} {ys : List β} {i : Nat} {z : γ}, (List.zipWith f xs ys)[i]? = some z → ∃ x y, xs[i]? = some x ∧ ys[i]? = some y ∧ z = f x y := by
  intro xs ys i z h
  rw [List.getElem?_zipWith] at h
  cases hx : xs[i]? with
  | none => rw [hx] at h; simp at h
  | some x =>
    cases hy : ys[i]? with
    | none => rw [hx, hy] at h; simp at h
    | some y =>
      rw [hx, hy] at h
      simp only [Option.some.injEq] at h
      exact ⟨x, y, rfl, rfl, h.symm⟩
theorem srcOk_app {m : Env} : ∀ {a b : List (Nat × List D)}, srcOk m (a ++ b) ↔ srcOk m a ∧ srcOk m b
  | [], b => by simp [srcOk]
  | (i, xs) :: a, b => by
    show (_ ∧ srcOk m (a ++ b)) ↔ (_ ∧ srcOk m a) ∧ srcOk m b
    rw [srcOk_app (a := a) (b := b), and_assoc]
theorem s_zp (G : Good X W c) {es : List Expr} {kk : Nat} {tpos : Pos} {a b : Expr} {ea eb : E} {p pos : Pos} (hg : isGl c.sc ("zip" : Str) = true) (hp : isPlain a = true) (hp2 : isPlain b = true) (ha : PEm X W a ea) (hb : PEm X W b eb) :
    PI X (.Tuple es kk tpos) (.Call (.Name ("zip" : Str) p) [a, b] [] pos) (tI X.K X.mg W (.zp ea eb)) := by
  refine PI.imp (RZ.pi_zipA (gl_at G hg) (G.blt _ (by decide +kernel)) (pa_cons ha (pa_cons hb pa_nil (plain_star hp2 _ _)) (plain_star hp _ _)) (by rw [plain_star hp]) (plain_back (by simp [hp2]))) fun σ H R ⟨Hs, m, R0, h⟩ => ?_
  simp only [evI] at h
  refine step R0 h fun q v Hs1 H1 hq R1 F1 b1 g1 => ?_
  refine step R1 hq fun q2 v2 Hs2 H2 hq R2 F2 b2 g2 => ?_
  obtain ⟨x, hx, hq⟩ := PostR.ofO hq.bind
  obtain ⟨y, hy, hq⟩ := PostR.ofO hq.bind
  have b1 := b1.mono F2.same
  split at hq
  · rename_i hl
    obtain ⟨xs, hxs, hq⟩ := PostR.ofO hq.bind
    obtain ⟨ys, hys, hq⟩ := PostR.ofO hq.bind
    cases x <;> simp only [seqD, Option.some.injEq, reduceCtorEq] at hxs
    · subst hxs
      cases y <;> simp only [seqD, Option.some.injEq, reduceCtorEq] at hys
      · subst hys
        obtain ⟨a1, rfl, ha⟩ := src_at R2 b1 hx
        obtain ⟨w1, w2⟩ := srcs_own hx
        obtain ⟨a2, rfl, hb⟩ := src_at R2 b2 hy
        obtain ⟨u1, u2⟩ := srcs_own hy
        obtain ⟨vs, k1, _⟩ := ha Hs2 H2 σ q2.2 (Same.refl _) R2 w2 (fun _ _ => rfl)
        obtain ⟨ws, k2, _⟩ := hb Hs2 H2 σ q2.2 (Same.refl _) R2 u2 (fun _ _ => rfl)
        refine ⟨a1, a2, vs, ws, rfl, .inl ⟨SqL.of k1, SqL.of k2, hq _ Hs2 H2 R2 (F1.trans F2) (fun i Hs3 H3 σ3 m3 s R3 ok same => ?_) (fun q h => (List.mem_append.mp h).elim (w1 q) (u1 q)) (srcOk_app.mpr ⟨w2, u2⟩)⟩⟩
        obtain ⟨vs', j1, j2⟩ := ha Hs3 H3 σ3 m3 s R3 (srcOk_app.mp ok).1 (fun p h => same p (List.mem_append_left _ h))
        obtain ⟨ws', l1, l2⟩ := hb Hs3 H3 σ3 m3 s R3 (srcOk_app.mp ok).2 (fun p h => same p (List.mem_append_right _ h))
        refine ⟨fun hi => ⟨vs', ws', SqL.of j1, SqL.of l1, ?_⟩, fun d hd => ?_⟩
        · rw [List.length_zipWith] at hi
          rw [j2.length, l2.length]; omega
        · obtain ⟨x, y, hx, hy, rfl⟩ := zipWith_at hd
          obtain ⟨u, hu, ru⟩ := j2.get hx
          obtain ⟨w, hw, rw'⟩ := l2.get hy
          refine ⟨⟨vs', ws', u, w, SqL.of j1, SqL.of l1, hu, hw⟩, fun z H4 ⟨T, x', y', e1, n, e2, q1, q2⟩ => ?_⟩
          subst e1 e2
          have e1 := q1 vs' (SqL.of j1)
          have e2 := q2 ws' (SqL.of l1)
          rw [hu] at e1; cases e1
          rw [hw] at e2; cases e2
          exact ok_pair R3 n ru rw'
      · simp [isL] at hl
    · subst hxs
      cases y <;> simp only [seqD, Option.some.injEq, reduceCtorEq] at hys
      · simp [isL] at hl
      · subst hys
        obtain ⟨a1, rfl, ha⟩ := src_atT R2 b1 hx
        obtain ⟨a2, rfl, hb⟩ := src_atT R2 b2 hy
        obtain ⟨vs, k1, _⟩ := ha Hs2 H2 (Same.refl _) R2.sub
        obtain ⟨ws, k2, _⟩ := hb Hs2 H2 (Same.refl _) R2.sub
        refine ⟨a1, a2, vs, ws, rfl, .inr ⟨k1, k2, hq _ Hs2 H2 R2 (F1.trans F2) (fun i Hs3 H3 σ3 m3 s R3 ok same => ?_) (by rw [srcs_tup, srcs_tup]; intro q h; simp at h) (by rw [srcs_tup, srcs_tup]; exact trivial)⟩⟩
        obtain ⟨vs', j1, j2⟩ := ha Hs3 H3 s R3.sub
        obtain ⟨ws', l1, l2⟩ := hb Hs3 H3 s R3.sub
        refine ⟨fun hi => ⟨vs', ws', j1, l1, ?_⟩, fun d hd => ?_⟩
        · rw [List.length_zipWith] at hi
          rw [j2.length, l2.length]; omega
        · obtain ⟨x, y, hx, hy, rfl⟩ := zipWith_at hd
          obtain ⟨u, hu, ru⟩ := j2.get hx
          obtain ⟨w, hw, rw'⟩ := l2.get hy
          refine ⟨⟨vs', ws', u, w, j1, l1, hu, hw⟩, fun z H4 ⟨T, x', y', e1, n, e2, q1, q2⟩ => ?_⟩
          subst e1 e2
          have e1 := q1 vs' j1
          have e2 := q2 ws' l1
          rw [hu] at e1; cases e1
          rw [hw] at e2; cases e2
          exact ok_pair R3 n ru rw'
  · exact hq.elim
theorem s_zn (G : Good X W c) {x : Str} {tpos : Pos} {a b : Expr} {ea eb : E} {p pos : Pos} (hg : isGl c.sc ("zip" : Str) = true) (hp : isPlain a = true) (hp2 : isPlain b = true) (ha : PEm X W a ea) (hb : PEm X W b eb) :
    PI X (.Name x tpos) (.Call (.Name ("zip" : Str) p) [a, b] [] pos) (tI X.K X.mg W (.zn ea eb)) := by
  refine PI.imp (pi_zipN (gl_at G hg) (G.blt _ (by decide +kernel)) (pa_cons ha (pa_cons hb pa_nil (plain_star hp2 _ _)) (plain_star hp _ _)) (by rw [plain_star hp]) (plain_back (by simp [hp2]))) fun σ H R ⟨Hs, m, R0, h⟩ => ?_
  simp only [evI] at h
  refine step R0 h fun q v Hs1 H1 hq R1 F1 b1 g1 => ?_
  refine step R1 hq fun q2 v2 Hs2 H2 hq R2 F2 b2 g2 => ?_
  obtain ⟨x, hx, hq⟩ := PostR.ofO hq.bind
  obtain ⟨y, hy, hq⟩ := PostR.ofO hq.bind
  have b1 := b1.mono F2.same
  split at hq
  · rename_i xs ys
    obtain ⟨a1, rfl, ha⟩ := src_at R2 b1 hx
    obtain ⟨w1, w2⟩ := srcs_own hx
    obtain ⟨a2, rfl, hb⟩ := src_at R2 b2 hy
    obtain ⟨u1, u2⟩ := srcs_own hy
    obtain ⟨vs, k1, _⟩ := ha Hs2 H2 σ q2.2 (Same.refl _) R2 w2 (fun _ _ => rfl)
    obtain ⟨ws, k2, _⟩ := hb Hs2 H2 σ q2.2 (Same.refl _) R2 u2 (fun _ _ => rfl)
    refine ⟨a1, a2, vs, ws, rfl, SqL.of k1, SqL.of k2, hq _ Hs2 H2 R2 (F1.trans F2) (fun i Hs3 H3 σ3 m3 s R3 ok same => ?_) (fun q h => (List.mem_append.mp h).elim (w1 q) (u1 q)) (srcOk_app.mpr ⟨w2, u2⟩)⟩
    obtain ⟨vs', j1, j2⟩ := ha Hs3 H3 σ3 m3 s R3 (srcOk_app.mp ok).1 (fun p h => same p (List.mem_append_left _ h))
    obtain ⟨ws', l1, l2⟩ := hb Hs3 H3 σ3 m3 s R3 (srcOk_app.mp ok).2 (fun p h => same p (List.mem_append_right _ h))
    refine ⟨fun hi => ⟨vs', ws', SqL.of j1, SqL.of l1, ?_⟩, fun d hd => ?_⟩
    · have e1 := j2.length
      have e2 := l2.length
      rw [List.length_zipWith] at hi
      omega
    · obtain ⟨x, y, hx, hy, rfl⟩ := zipWith_at hd
      obtain ⟨u, hu, ru⟩ := j2.get hx
      obtain ⟨w, hw, rw'⟩ := l2.get hy
      refine ⟨⟨vs', ws', u, w, SqL.of j1, SqL.of l1, hu, hw⟩, fun z H4 ⟨T, x', y', e1, n, e2, q1, q2⟩ => ?_⟩
      subst e1 e2
      have e1 := q1 vs' (SqL.of j1)
      have e2 := q2 ws' (SqL.of l1)
      rw [hu] at e1; cases e1
      rw [hw] at e2; cases e2
      exact ok_pair R3 n ru rw'
  · exact hq.elim
theorem ok_triple {K : PySem.W.Frag} {Hs2 H2 : Hp} {σ2 : L2.St} {m2 : Env} {T : Addr} {x y z : V} {d e f : D} (R2 : REnv K Hs2 H2 σ2 m2) (n : H2 T = none) (rx : Rp K Hs2 x d) (ry : Rp K Hs2 y e) (rz : Rp K Hs2 z f) :
    ∃ Hs3, REnv K Hs3 (upd H2 T (.tup [x, y, z])) σ2 m2 ∧ Fram Hs2 H2 (Own σ2 m2) Hs3 (upd H2 T (.tup [x, y, z])) (Own σ2 m2) ∧ Rp K Hs3 (.ref T) (.tuple [d, e, f]) := by
  have h := fin_tup (e := .dct) (m := m2) (m1 := m2) (Hs := Hs2) (H := H2) (Q := fun v H' => ∃ Hs3, REnv K Hs3 H' σ2 m2 ∧ Fram Hs2 H2 (Own σ2 m2) Hs3 H' (Own σ2 m2) ∧ Rp K Hs3 v (.tuple [d, e, f])) rfl
    (fun v Hs' H' R F r => ⟨Hs', R, by rw [OV_false] at F; exact F, r⟩) R2 Fram.refl (.cons rx (.cons ry (.cons rz .nil))) T n
  exact h
theorem s_zp3 (G : Good X W c) {es : List Expr} {kk : Nat} {tpos : Pos} {a b d : Expr} {ea eb ed : E} {p pos : Pos} (hg : isGl c.sc ("zip" : Str) = true) (hp : isPlain a = true) (hp2 : isPlain b = true) (hp3 : isPlain d = true) (ha : PEm X W a ea) (hb : PEm X W b eb) (hd : PEm X W d ed) :
    PI X (.Tuple es kk tpos) (.Call (.Name ("zip" : Str) p) [a, b, d] [] pos) (tI X.K X.mg W (.zp3 ea eb ed)) := by
  refine PI.imp (pi_zip3 (gl_at G hg) (G.blt _ (by decide +kernel)) (pa_cons ha (pa_cons hb (pa_cons hd pa_nil (plain_star hp3 _ _)) (plain_star hp2 _ _)) (plain_star hp _ _)) (by rw [plain_star hp]) (plain_back (by simp [hp2, hp3]))) fun σ H R ⟨Hs, m, R0, h⟩ => ?_
  simp only [evI] at h
  refine step R0 h fun q v Hs1 H1 hq R1 F1 b1 g1 => ?_
  refine step R1 hq fun q2 v2 Hs2 H2 hq R2 F2 b2 g2 => ?_
  refine step R2 hq fun q3 v3 Hs3 H3 hq R3 F3 b3 g3 => ?_
  obtain ⟨x, hx, hq⟩ := PostR.ofO hq.bind
  obtain ⟨y, hy, hq⟩ := PostR.ofO hq.bind
  obtain ⟨u, hu, hq⟩ := PostR.ofO hq.bind
  have b1 := (b1.mono F2.same).mono F3.same
  have b2 := b2.mono F3.same
  split at hq
  · rename_i xs ys us
    obtain ⟨a1, rfl, ha⟩ := src_at R3 b1 hx
    obtain ⟨w1, w2⟩ := srcs_own hx
    obtain ⟨a2, rfl, hb⟩ := src_at R3 b2 hy
    obtain ⟨u1, u2⟩ := srcs_own hy
    obtain ⟨a3, rfl, hc⟩ := src_at R3 b3 hu
    obtain ⟨t1, t2⟩ := srcs_own hu
    obtain ⟨vs, k1, _⟩ := ha Hs3 H3 σ q3.2 (Same.refl _) R3 w2 (fun _ _ => rfl)
    obtain ⟨ws, k2, _⟩ := hb Hs3 H3 σ q3.2 (Same.refl _) R3 u2 (fun _ _ => rfl)
    obtain ⟨zs, k3, _⟩ := hc Hs3 H3 σ q3.2 (Same.refl _) R3 t2 (fun _ _ => rfl)
    refine ⟨a1, a2, a3, vs, ws, zs, rfl, SqL.of k1, SqL.of k2, SqL.of k3, hq _ Hs3 H3 R3 ((F1.trans F2).trans F3) (fun i Hs4 H4 σ4 m4 s R4 ok same => ?_) (fun q h => (List.mem_append.mp h).elim (w1 q) fun h => (List.mem_append.mp h).elim (u1 q) (t1 q)) (srcOk_app.mpr ⟨w2, srcOk_app.mpr ⟨u2, t2⟩⟩)⟩
    obtain ⟨o1, o2⟩ := srcOk_app.mp ok
    obtain ⟨o2, o3⟩ := srcOk_app.mp o2
    obtain ⟨vs', j1, j2⟩ := ha Hs4 H4 σ4 m4 s R4 o1 (fun p h => same p (List.mem_append_left _ h))
    obtain ⟨ws', l1, l2⟩ := hb Hs4 H4 σ4 m4 s R4 o2 (fun p h => same p (List.mem_append_right _ (List.mem_append_left _ h)))
    obtain ⟨zs', n1, n2⟩ := hc Hs4 H4 σ4 m4 s R4 o3 (fun p h => same p (List.mem_append_right _ (List.mem_append_right _ h)))
    refine ⟨fun hi => ⟨vs', ws', zs', SqL.of j1, SqL.of l1, SqL.of n1, ?_⟩, fun d hd => ?_⟩
    · have e1 := j2.length
      have e2 := l2.length
      have e3 := n2.length
      unfold z3 at hi
      rw [List.length_zipWith, List.length_zip] at hi
      omega
    · obtain ⟨xy, z, hxy, hz, rfl⟩ := zipWith_at hd
      obtain ⟨x, y, hx, hy, rfl⟩ := zipWith_at (f := Prod.mk) hxy
      obtain ⟨v, hv, rv⟩ := j2.get hx
      obtain ⟨w, hw, rw'⟩ := l2.get hy
      obtain ⟨r, hr, rr⟩ := n2.get hz
      refine ⟨⟨vs', ws', zs', v, w, r, SqL.of j1, SqL.of l1, SqL.of n1, hv, hw, hr⟩, fun t H5 ⟨T, x', y', z', e1, n, e2, f1, f2, f3⟩ => ?_⟩
      subst e1 e2
      have e1 := f1 vs' (SqL.of j1)
      have e2 := f2 ws' (SqL.of l1)
      have e3 := f3 zs' (SqL.of n1)
      rw [hv] at e1; cases e1
      rw [hw] at e2; cases e2
      rw [hr] at e3; cases e3
      exact ok_triple R4 n rv rw' rr
  · exact hq.elim
theorem s_en (G : Good X W c) {es : List Expr} {kk : Nat} {tpos : Pos} {a : Expr} {ea : E} {p pos : Pos} (hg : isGl c.sc ("enumerate" : Str) = true) (hp : isPlain a = true) (ha : PEm X W a ea) :
    PI X (.Tuple es kk tpos) (.Call (.Name ("enumerate" : Str) p) [a] [] pos) (tI X.K X.mg W (.en ea)) := by
  refine PI.imp (pi_enumA (gl_at G hg) (G.blt _ (by decide +kernel)) (pa_cons ha pa_nil (plain_star hp _ _)) (by rw [plain_star hp] <;> rfl)) fun σ H R ⟨Hs, m, R0, h⟩ => ?_
  simp only [evI] at h
  refine step R0 h fun q v Hs1 H1 hq R1 F1 b g => ?_
  have rs := rd_self g
  obtain ⟨xs, hx, hq⟩ := PostR.ofO hq.bind
  have num : ∀ {i k : Nat} {y : D}, (List.range xs.length)[i]? = some k → xs[i]? = some y → k = i := fun {i k y} hk hy => by
    by_cases hi : i < xs.length
    · rw [List.getElem?_range hi] at hk; exact (Option.some.inj hk).symm
    · rw [List.getElem?_eq_none (by simpa using hi)] at hy; cases hy
  cases hd : q.1.2 <;> rw [hd] at hx <;> simp only [seqD, Option.some.injEq, reduceCtorEq] at hx
  · subst hx
    rw [hd] at rs hq b
    obtain ⟨a, rfl, ha⟩ := src_at R1 b rs
    obtain ⟨w1, w2⟩ := srcs_own rs
    obtain ⟨vs, h1, r1⟩ := ha Hs1 H1 σ q.2 (Same.refl _) R1 w2 (fun _ _ => rfl)
    refine ⟨a, vs, rfl, .inl ⟨SqL.of h1, hq (Ite X.K a) Hs1 H1 R1 F1 (fun i Hs2 H2 σ2 m2 s R2 ok same => ?_) w1 w2⟩⟩
    obtain ⟨ws, k1, k2⟩ := ha Hs2 H2 σ2 m2 s R2 ok same
    refine ⟨fun hi => ⟨ws, SqL.of k1, ?_⟩, fun d hd => ?_⟩
    · rw [List.length_zipWith, List.length_range] at hi
      rw [k2.length]; omega
    · obtain ⟨k, y, hk, hy, rfl⟩ := zipWith_at hd
      obtain ⟨u, hu, ru⟩ := k2.get hy
      have hik := num hk hy
      subst hik
      refine ⟨⟨ws, u, SqL.of k1, hu⟩, fun z H4 ⟨T, x', e1, n, e2, q1⟩ => ?_⟩
      subst e1 e2
      have e1 := q1 ws (SqL.of k1)
      rw [hu] at e1; cases e1
      exact ok_pair R2 n (.int _) ru
  · subst hx
    rw [hd] at rs hq b
    obtain ⟨a, rfl, ha⟩ := src_atT R1 b rs
    obtain ⟨vs, h1, r1⟩ := ha Hs1 H1 (Same.refl _) R1.sub
    refine ⟨a, vs, rfl, .inr ⟨h1, hq (IteT X.K a) Hs1 H1 R1 F1 (fun i Hs2 H2 σ2 m2 s R2 ok same => ?_) (by rw [srcs_tup]; intro q h; simp at h) (by rw [srcs_tup]; exact trivial)⟩⟩
    obtain ⟨ws, k1, k2⟩ := ha Hs2 H2 s R2.sub
    refine ⟨fun hi => ⟨ws, k1, ?_⟩, fun d hd => ?_⟩
    · rw [List.length_zipWith, List.length_range] at hi
      rw [k2.length]; omega
    · obtain ⟨k, y, hk, hy, rfl⟩ := zipWith_at hd
      obtain ⟨u, hu, ru⟩ := k2.get hy
      have hik := num hk hy
      subst hik
      refine ⟨⟨ws, u, k1, hu⟩, fun z H4 ⟨T, x', e1, n, e2, q1⟩ => ?_⟩
      subst e1 e2
      have e1 := q1 ws k1
      rw [hu] at e1; cases e1
      exact ok_pair R2 n (.int _) ru
end
end Rc

set_option maxRecDepth 100000
set_option maxHeartbeats 4000000
namespace Rc
open PySem L2
variable [Tbs]
/-! ### targets -/
def gM (K : PySem.W.Frag) (g : List Nat) : TG := fun v σ H Q => ∃ Hs m d m', REnv K Hs H σ m ∧ Rp K Hs v d ∧ bindT g d m = some m' ∧
  ∀ σ', REnv K Hs H σ' m' → (∀ b, Own σ' m' b → Own σ m b) → (∀ i, i ∉ g → σ'[i]? = σ[i]?) → Q σ' H
section
variable {K : PySem.W.Frag} {Hs H Hs' H' : Hp} {σ : L2.St} {m m' m1 : Env}
theorem REnv.setF (R : REnv K Hs H σ m) {i : Nat} {v : V} {d : D} (r : Rp K Hs v d) : REnv K Hs H (σ.set i (some v)) (m.set i (some (false, d))) ∧ ∀ b, Own (σ.set i (some v)) (m.set i (some (false, d))) b → Own σ m b := by
  have own : ∀ j x, geti (m.set i (some (false, d))) j = some (true, x) → j ≠ i ∧ geti m j = some (true, x) := fun j x z => by
    by_cases hj : j = i
    · subst hj
      have lt := geti_lt z
      rw [List.length_set] at lt
      rw [geti_set_same lt] at z
      cases z
    · rw [geti_set_ne (Ne.symm hj)] at z; exact ⟨hj, z⟩
  refine ⟨⟨R.sub, by simp [R.len], fun j x z => ?_, fun j x z => ?_, fun j k x y a z1 z2 z3 z4 => ?_⟩, fun b ⟨j, x, z1, z2⟩ => ?_⟩
  · by_cases hj : j = i
    · subst hj
      have lt := geti_lt z
      rw [List.length_set] at lt
      rw [geti_set_same lt] at z
      cases z
      exact ⟨v, List.getElem?_set_self (by rw [R.len]; exact lt), r⟩
    · rw [geti_set_ne (Ne.symm hj)] at z
      rw [List.getElem?_set_ne (Ne.symm hj)]
      exact R.val j x z
  · obtain ⟨hj, z⟩ := own j x z
    rw [List.getElem?_set_ne (Ne.symm hj)]
    exact R.own j x z
  · obtain ⟨hj, z1⟩ := own j x z1
    obtain ⟨hk, z2⟩ := own k y z2
    rw [List.getElem?_set_ne (Ne.symm hj)] at z3
    rw [List.getElem?_set_ne (Ne.symm hk)] at z4
    exact R.inj j k x y a z1 z2 z3 z4
  · obtain ⟨hj, z2⟩ := own j x z2
    rw [List.getElem?_set_ne (Ne.symm hj)] at z1
    exact ⟨j, x, z1, z2⟩
end
section
variable {X : Cx} {W : XK} {c : TC}
theorem PG.imp {tg : Expr} {t t' : TG} (h : PG X tg t) (i : ∀ v σ H Q, t' v σ H Q → t v σ H Q) : PG X tg t' := ⟨fun pins s σ H v u Q I r q => h.run pins s σ H v u Q I r (i v σ H Q q)⟩
/-- a name that may be stored -/
def StOk (X : Cx) (x : Str) : Prop := Loc X.env.scope x ∧ (X.fn x = true ∨ X.env.scope.names.lookup x = some .local)
theorem bindT_one {i : Nat} {d : D} {m : Env} : bindT [i] d m = some (m.set i (some (false, d))) := by
  cases d <;> rfl
theorem pg_one {N : List Str} (hN : X.N = N) (nd : X.N.Nodup) {x : Str} {i : Nat} {pos : Pos} (hi : ixOf N x = some i) (st : StOk X x) : PG X (.Name x pos) (gM X.K [i]) := by
  refine PG.imp (pg_name (i := i) nd (by rw [hN]; exact ix_of hi) st.1 st.2) fun v σ H Q ⟨Hs, m, d, m', R, r, hb, k⟩ => ?_
  rw [bindT_one] at hb
  cases hb
  obtain ⟨R', o⟩ := R.setF (i := i) r
  exact k _ R' o fun j hj => List.getElem?_set_ne (fun e => hj (by simp [e]))
theorem pgs_names {N : List Str} (hN : X.N = N) (nd : X.N.Nodup) : ∀ {es : List Expr} {xs : List Str} {g : List Nat}, nameList es = some xs → tgtIx N xs = some g → (∀ x ∈ xs, StOk X x) →
    (∃ t, PGs X es t ∧ ∀ vs σ H Q, vs.length = g.length → Q ((g.zip vs).foldl (fun σ p => σ.set p.1 (some p.2)) σ) H → t vs σ H Q) ∧ (assignEach es X.env).length = g.length ∧ (assignEach es X.env).findIdx? (·.1) = none
  | [], xs, g, h1, h2, h3 => by
    simp only [nameList, Option.some.injEq] at h1
    subst h1
    simp only [tgtIx, Option.some.injEq] at h2
    subst h2
    refine ⟨⟨_, pgs_nil, fun vs σ H Q hl q => ?_⟩, rfl, rfl⟩
    cases vs with
    | nil => exact ⟨rfl, q⟩
    | cons _ _ => simp at hl
  | e :: es, xs, g, h1, h2, h3 => by
    cases e <;> simp only [nameList, reduceCtorEq] at h1
    rename_i x pos
    rw [Option.map_eq_some_iff] at h1
    obtain ⟨xs', h1, rfl⟩ := h1
    simp only [tgtIx] at h2
    rw [Option.bind_eq_some_iff] at h2
    obtain ⟨i, hi, h2⟩ := h2
    rw [Option.map_eq_some_iff] at h2
    obtain ⟨g', h2, rfl⟩ := h2
    obtain ⟨⟨t, ht, hq⟩, hl, hf⟩ := pgs_names hN nd h1 h2 fun y hy => h3 y (List.mem_cons_of_mem _ hy)
    have st := h3 x List.mem_cons_self
    refine ⟨⟨_, pgs_cons (pg_name (i := i) nd (by rw [hN]; exact ix_of hi) st.1 st.2) ht, fun vs σ H Q hlv q => ?_⟩, ?_, ?_⟩
    · cases vs with
      | nil => simp at hlv
      | cons v vs =>
        refine ⟨v, vs, rfl, ?_⟩
        exact hq vs _ H Q (by simpa using hlv) q
    · show (assignEach es X.env).length + 1 = _
      rw [hl]; simp
    · show List.findIdx? (·.1) ((false, _) :: assignEach es X.env) = none
      rw [List.findIdx?_cons]
      simp [hf]
theorem fold_set {K : PySem.W.Frag} {Hs H : Hp} : ∀ {g : List Nat} {vs : List V} {ds : List D} {σ : L2.St} {m : Env}, RpA K Hs vs ds → REnv K Hs H σ m →
    REnv K Hs H ((g.zip vs).foldl (fun σ p => σ.set p.1 (some p.2)) σ) ((g.zip ds).foldl (fun m p => m.set p.1 (some (false, p.2))) m) ∧
      (∀ b, Own ((g.zip vs).foldl (fun σ p => σ.set p.1 (some p.2)) σ) ((g.zip ds).foldl (fun m p => m.set p.1 (some (false, p.2))) m) b → Own σ m b) ∧ ∀ i, i ∉ g → ((g.zip vs).foldl (fun σ p => σ.set p.1 (some p.2)) σ)[i]? = σ[i]?
  | [], _, _, σ, m, _, R => ⟨by simpa using R, fun b h => by simpa using h, fun i _ => by simp⟩
  | i :: g, _, _, σ, m, .nil, R => ⟨by simpa using R, fun b h => by simpa using h, fun i _ => by simp⟩
  | i :: g, _, _, σ, m, .cons r t, R => by
    obtain ⟨R1, o1⟩ := R.setF (i := i) r
    obtain ⟨R2, o2, k2⟩ := fold_set (g := g) t R1
    refine ⟨R2, fun b h => o1 b (o2 b h), fun j hj => ?_⟩
    simp only [List.mem_cons, not_or] at hj
    exact (k2 j hj.2).trans (List.getElem?_set_ne (Ne.symm hj.1))
theorem pg_many {N : List Str} (hN : X.N = N) (nd : X.N.Nodup) (hc : X.calm = true) {es : List Expr} {xs : List Str} {g : List Nat} {k : Nat} {pos : Pos} (h1 : nameList es = some xs) (h2 : tgtIx N xs = some g) (h3 : ∀ x ∈ xs, StOk X x) (hg : g.length ≠ 1) : PG X (.Tuple es k pos) (gM X.K g) := by
  obtain ⟨⟨t, ht, hq⟩, hl, hf⟩ := pgs_names hN nd h1 h2 h3
  refine ⟨fun pins s σ H v u Q I r ⟨Hs, m, d, m', R, rp, hb, kk⟩ => ?_⟩
  unfold bindT at hb
  split at hb
  · simp at hg
  · rename_i is ds m _
    split at hb
    · rename_i hds
      cases hb
      refine (pg_tup hc ht hl hf).run pins s σ H v u Q I r ?_
      cases rp with
      | tup q1 r1 =>
        refine ⟨_, _, rfl, Same.seqT R.sub q1, by rw [r1.length]; exact hds, hq _ σ H Q (by rw [r1.length]; exact hds) ?_⟩
        obtain ⟨R', o, k'⟩ := fold_set (g := g) r1 R
        exact kk _ R' o k'
      | scr _ e => cases e
      | adr e => cases e
    · cases hb
  · rename_i is ds m _
    split at hb
    · rename_i hds
      cases hb
      refine (pg_lst hc ht hl hf).run pins s σ H v u Q I r ?_
      cases rp with
      | lst q1 r1 =>
        refine ⟨_, _, rfl, SqL.of (R.sub _ _ q1), by rw [r1.length]; exact hds, hq _ σ H Q (by rw [r1.length]; exact hds) ?_⟩
        obtain ⟨R', o, k'⟩ := fold_set (g := g) r1 R
        exact kk _ R' o k'
      | scr _ e => cases e
      | adr e => cases e
    · cases hb
  · cases hb
/-! ### comprehensions -/
theorem wipe_at {σ : L2.St} {i : Nat} : ∀ {vs : List Nat}, (wipe σ vs)[i]? = if i ∈ vs then (if i < σ.length then some none else none) else σ[i]?
  | [] => by simp [wipe]
  | v :: vs => by
    show ((wipe σ vs).set v none)[i]? = _
    by_cases hi : v = i
    · subst hi
      by_cases hv : v < σ.length
      · rw [List.getElem?_set_self (by rw [wipe_length]; exact hv)]; simp [hv]
      · rw [List.getElem?_eq_none (by simp [wipe_length]; omega)]; simp [hv]
    · rw [List.getElem?_set_ne hi, wipe_at]
      simp [Ne.symm hi]
theorem wipeE_len {m : Env} : ∀ {vs : List Nat}, (wipeE m vs).length = m.length
  | [] => rfl
  | v :: vs => by show ((wipeE m vs).set v none).length = _; rw [List.length_set, wipeE_len]
theorem wipeE_at {m : Env} {i : Nat} : ∀ {vs : List Nat}, geti (wipeE m vs) i = if i ∈ vs then none else geti m i
  | [] => by simp [wipeE]
  | v :: vs => by
    show geti ((wipeE m vs).set v none) i = _
    by_cases hi : v = i
    · subst hi
      by_cases hv : v < m.length
      · rw [geti_set_same (by rw [wipeE_len]; exact hv)]; simp
      · rw [geti_eq, List.getElem?_eq_none (by simp [wipeE_len]; omega)]; simp
    · rw [geti_set_ne hi, wipeE_at]
      simp [Ne.symm hi]
theorem backE_len {m₀ m : Env} : ∀ {vs : List Nat}, (backE m₀ m vs).length = m.length
  | [] => rfl
  | v :: vs => by show ((backE m₀ m vs).set v _).length = _; rw [List.length_set, backE_len]
theorem backE_at {m₀ m : Env} (hl : m₀.length = m.length) {i : Nat} : ∀ {vs : List Nat}, geti (backE m₀ m vs) i = if i ∈ vs then geti m₀ i else geti m i
  | [] => by simp [backE]
  | v :: vs => by
    show geti ((backE m₀ m vs).set v (geti m₀ v)) i = _
    by_cases hi : v = i
    · subst hi
      by_cases hv : v < m.length
      · rw [geti_set_same (by rw [backE_len]; exact hv)]; simp
      · rw [geti_eq, List.getElem?_eq_none (by simp [backE_len]; omega)]
        simp
        rw [geti_eq, List.getElem?_eq_none (by omega)]; rfl
    · rw [geti_set_ne hi, backE_at hl]
      simp [Ne.symm hi]
theorem REnv.wiped {K : PySem.W.Frag} {Hs H : Hp} {σ : L2.St} {m : Env} (R : REnv K Hs H σ m) (vs : List Nat) : REnv K Hs H (wipe σ vs) (wipeE m vs) ∧ ∀ b, Own (wipe σ vs) (wipeE m vs) b → Own σ m b := by
  have at' : ∀ i p, geti (wipeE m vs) i = some p → i ∉ vs ∧ geti m i = some p := fun i p h => by
    rw [wipeE_at] at h
    split at h
    · cases h
    · rename_i hi; exact ⟨hi, h⟩
  have σat : ∀ i, i ∉ vs → (wipe σ vs)[i]? = σ[i]? := fun i hi => by rw [wipe_at, if_neg hi]
  refine ⟨⟨R.sub, by rw [wipe_length, wipeE_len]; exact R.len, fun i d h => ?_, fun i d h => ?_, fun i j d e a h1 h2 h3 h4 => ?_⟩, fun b ⟨i, d, h1, h2⟩ => ?_⟩
  · obtain ⟨hi, h⟩ := at' i _ h
    rw [σat i hi]; exact R.val i d h
  · obtain ⟨hi, h⟩ := at' i _ h
    rw [σat i hi]; exact R.own i d h
  · obtain ⟨hi, h1⟩ := at' i _ h1
    obtain ⟨hj, h2⟩ := at' j _ h2
    rw [σat i hi] at h3
    rw [σat j hj] at h4
    exact R.inj i j d e a h1 h2 h3 h4
  · obtain ⟨hi, h2⟩ := at' i _ h2
    rw [σat i hi] at h1
    exact ⟨i, d, h1, h2⟩
/-- the block's end: the def's own names as they were -/
theorem REnv.backed {K : PySem.W.Frag} {Hs1 H1 Hs H : Hp} {σ : L2.St} {m1 m : Env} {vs : List Nat} (R1 : REnv K Hs1 H1 σ m1) (R : REnv K Hs H (wipe σ vs) m) (s : Same Hs1 Hs) (hs : ∀ i ∈ vs, shO (geti m1 i) = true) :
    REnv K Hs H σ (backE m1 m vs) ∧ ∀ b, Own σ (backE m1 m vs) b → Own (wipe σ vs) m b := by
  have hl : m1.length = m.length := by rw [← R1.len, ← R.len, wipe_length]
  have at' : ∀ i p, geti (backE m1 m vs) i = some p → (i ∈ vs ∧ geti m1 i = some p ∧ p.1 = false) ∨ (i ∉ vs ∧ geti m i = some p) := fun i p h => by
    rw [backE_at hl] at h
    split at h
    · rename_i hi
      have := hs i hi
      rw [h] at this
      obtain ⟨f, d⟩ := p
      cases f with
      | false => exact .inl ⟨hi, h, rfl⟩
      | true => simp [shO] at this
    · rename_i hi; exact .inr ⟨hi, h⟩
  have σat : ∀ i, i ∉ vs → (wipe σ vs)[i]? = σ[i]? := fun i hi => by rw [wipe_at, if_neg hi]
  have ownAt : ∀ i d, geti (backE m1 m vs) i = some (true, d) → i ∉ vs ∧ geti m i = some (true, d) := fun i d h => by
    rcases at' i _ h with ⟨_, _, z⟩ | z
    · cases z
    · exact z
  refine ⟨⟨R.sub, by rw [backE_len, ← R.len, wipe_length], fun i d h => ?_, fun i d h => ?_, fun i j d e a h1 h2 h3 h4 => ?_⟩, fun b ⟨i, d, h1, h2⟩ => ?_⟩
  · rcases at' i _ h with ⟨hi, z, _⟩ | ⟨hi, z⟩
    · obtain ⟨v, e, r⟩ := R1.val i d z
      exact ⟨v, e, Rp.mono s _ _ r⟩
    · rw [← σat i hi]; exact R.val i d z
  · obtain ⟨hi, z⟩ := ownAt i d h
    rw [← σat i hi]; exact R.own i d z
  · obtain ⟨hi, h1⟩ := ownAt i _ h1
    obtain ⟨hj, h2⟩ := ownAt j _ h2
    rw [← σat i hi] at h3
    rw [← σat j hj] at h4
    exact R.inj i j d e a h1 h2 h3 h4
  · obtain ⟨hi, h2⟩ := ownAt i _ h2
    rw [← σat i hi] at h1
    exact ⟨i, d, h1, h2⟩
theorem wipe_wipe {σ σ2 : L2.St} {vs : List Nat} (hl : σ2.length = σ.length) (h : ∀ i, i ∉ vs → σ2[i]? = (wipe σ vs)[i]?) : wipe σ2 vs = wipe σ vs := by
  apply List.ext_getElem?
  intro i
  rw [wipe_at, wipe_at]
  by_cases hi : i ∈ vs
  · simp [hi, hl]
  · simp only [hi, if_false]
    rw [h i hi, wipe_at, if_neg hi]
/-- an object that nothing tells of -/
theorem hid {Hs H Hs' H' : Hp} {O O' : Addr → Prop} {p : Addr} {u : HO} (F : Fram Hs H O Hs' H' O') (h1 : H p = some u) (h2 : Hs p = none) (h3 : ¬ O p) (nt : ∀ ps, u ≠ .tbl ps) : H' p = some u ∧ Hs' p = none ∧ ¬ O' p := by
  have dd : ¬ Dead H p := fun z => by
    obtain ⟨ps, e⟩ := z u h1
    exact nt ps e
  refine ⟨F.keepN h1 h3 nt, ?_, fun z => (F.owns p z).elim h3 dd⟩
  cases q : Hs' p with
  | none => rfl
  | some w =>
    rcases F.news p (by rw [q]; simp) with z | z | z
    · exact absurd h2 z
    · exact (dd z).elim
    · exact absurd z h3
theorem REnv.at_hid {K : PySem.W.Frag} {Hs H : Hp} {σ : L2.St} {m : Env} (R : REnv K Hs H σ m) {p : Addr} {o : HO} (h2 : Hs p = none) (h3 : ¬ Own σ m p) (nt : ∀ ps, H p ≠ some (.tbl ps)) (nc : ∀ q, H p ≠ some (LamX.CodeO p q)) : REnv K Hs (upd H p o) σ m := by
  refine ⟨R.sub.put nt nc h2, R.len, R.val, fun i d h => ?_, R.inj⟩
  · obtain ⟨a, u, e, q1, q2⟩ := R.own i d h
    have : a ≠ p := fun z => h3 ⟨i, d, by rw [← z]; exact e, h⟩
    exact ⟨a, u, e, by rw [upd_ne this]; exact q1, q2⟩
theorem noX_bad {α : Type} {P : α → Prop} {Xc : Str → Prop} {r : Res α} (h : PostR P Xc r.noX) : PostR P (fun _ => False) r := by
  cases r with
  | ok a => exact h
  | exc x => exact h.elim
  | bad => exact h
theorem PostR.ex {α : Type} {P : α → Prop} {r : Res α} (h : PostR P (fun _ => False) r) : ∃ a, r = .ok a ∧ P a := by
  cases r with
  | ok a => exact ⟨a, rfl, h⟩
  | exc x => exact h.elim
  | bad => exact h.elim
theorem PostR.never {α : Type} {P : α → Prop} {Xc : Str → Prop} {r : Res α} (h : PostR P (fun _ => False) r) : PostR P Xc r := h.imp (fun _ z => z) fun _ z => z.elim

theorem tT0 {K : PySem.W.Frag} {mg : Str → Option Value} {W : XK} {Hs H : Hp} {σ : L2.St} {m : Env} {e : E} {β : Type} {P : β → Prop} {f : Bool × Env → Res β} {Q : Bool → Hp → Prop} (R : REnv K Hs H σ m) (h : PostR P (fun _ => False) ((evC e m).bind f))
    (k : ∀ p Hs1 H1, PostR P (fun _ => False) (f p) → REnv K Hs1 H1 σ p.2 → Fram Hs H (Own σ m) Hs1 H1 (Own σ p.2) → Q p.1 H1) : tT K mg W e σ H Q :=
  ⟨Hs, m, R, h.bind.imp (fun p hp Hs' H' R' F => k p Hs' H' hp R' F) fun x hx => hx.elim⟩
theorem fold_len (l : List (Nat × D)) : ∀ m : Env, (l.foldl (fun m p => m.set p.1 (some (false, p.2))) m).length = m.length := by
  induction l with
  | nil => intro m; rfl
  | cons p l ih => intro m; rw [List.foldl_cons, ih, List.length_set]
theorem bindT_len {g : List Nat} {d : D} {m m' : Env} (h : bindT g d m = some m') : m'.length = m.length := by
  unfold bindT at h
  split at h
  · cases h; simp
  · split at h
    · cases h; exact fold_len _ _
    · cases h
  · split at h
    · cases h; exact fold_len _ _
    · cases h
  · cases h
/-- the turns of a comprehension -/
theorem lc_turns {K : PySem.W.Frag} {mg : Str → Option Value} {g vs : List Nat} {srcs : List (Nat × List D)} {ee ec : E} {σ : L2.St} {Hs1 H1 : Hp} {m1 : Env} {ds : List D} {J : L2.It} {Dd : Addr} {Q : VK}
    (hg : ∀ i ∈ g, i ∈ vs) (hJ : ItOk K σ Hs1 J ds srcs) (hsrc : ∀ p ∈ srcs, p.1 ∉ vs) (nD : H1 Dd = none) (R1 : REnv K Hs1 H1 σ m1)
    (hev : PostR (fun r : List D × Env => lenOk r.1.length ∧ ∀ Hs H acc, REnv K Hs H (wipe σ vs) r.2 → Fram Hs1 H1 (Own σ m1) Hs H (Own (wipe σ vs) r.2) → H Dd = some (.lst acc) → Hs Dd = none → ¬ Own (wipe σ vs) r.2 Dd → RpA K Hs acc r.1 → Q (.ref Dd) H) (fun _ => False)
      (lcL srcs vs g (fun m => evC ec m) (fun m => (ev ee m).bind fun q => .ok (q.1.2, tkm ee q.2)) ds (wipeE m1 vs))) :
    ∃ Wd : Nat → Nat → Hp → Prop, (∃ m, Wd 0 m (upd H1 Dd (.lst []))) ∧ ∀ i m H, Wd i m H → (J.stop i H ∧ Q (.ref Dd) H) ∨ (J.go i H ∧ ∃ Nx : Hp → Prop, (∀ H', Nx H' → ∃ m', m' < m ∧ Wd (i + 1) m' H') ∧ ∀ x H', J.yld i H x H' →
      gM K g x (wipe σ vs) H' fun σ2 H2 => wipe σ2 vs = wipe σ vs ∧ tT K mg E0 ec σ2 H2 fun b H3 => if b = true then tE K mg E0 ee σ2 H3 fun y H4 => ∃ acc, H4 Dd = some (.lst acc) ∧ acc.length < sizeLine ∧ Nx (upd H4 Dd (.lst (acc ++ [y]))) else Nx H3) := by
  have hsame : ∀ p ∈ srcs, (wipe σ vs)[p.1]? = σ[p.1]? := fun p hp => by rw [wipe_at, if_neg (hsrc p hp)]
  have nT : ∀ (acc : List V) ps, HO.lst acc ≠ .tbl ps := fun acc ps z => by cases z
  -- what stands between two turns
  let St := fun (i : Nat) (H : Hp) => ∃ Hs m acc accD, REnv K Hs H (wipe σ vs) m ∧ Fram Hs1 H1 (Own σ m1) Hs H (Own (wipe σ vs) m) ∧ H Dd = some (.lst acc) ∧ Hs Dd = none ∧ ¬ Own (wipe σ vs) m Dd ∧ RpA K Hs acc accD ∧
    PostR (fun r : List D × Env => lenOk (accD.length + r.1.length) ∧ ∀ Hs H acc, REnv K Hs H (wipe σ vs) r.2 → Fram Hs1 H1 (Own σ m1) Hs H (Own (wipe σ vs) r.2) → H Dd = some (.lst acc) → Hs Dd = none → ¬ Own (wipe σ vs) r.2 Dd → RpA K Hs acc (accD ++ r.1) → Q (.ref Dd) H) (fun _ => False)
      (lcL srcs vs g (fun m => evC ec m) (fun m => (ev ee m).bind fun q => .ok (q.1.2, tkm ee q.2)) (ds.drop i) m)
  refine ⟨fun i k H => k = ds.length - i ∧ i ≤ ds.length ∧ St i H, ⟨ds.length, by simp, Nat.zero_le _, ?_⟩, ?_⟩
  · obtain ⟨Rw, ow⟩ := R1.wiped vs
    have nS : Hs1 Dd = none := by
      cases q : Hs1 Dd with
      | none => rfl
      | some u => rw [R1.sub Dd u q] at nD; cases nD
    have nO : ¬ Own (wipe σ vs) (wipeE m1 vs) Dd := fun z => by
      obtain ⟨i, d, h1, h2⟩ := z
      obtain ⟨a, o, e1, e2, _⟩ := Rw.own i d h2
      rw [h1] at e1; cases e1
      rw [nD] at e2; cases e2
    refine ⟨Hs1, wipeE m1 vs, [], [], Rw.at_hid nS nO (fun q z => by rw [nD] at z; cases z) (fun q z => by rw [nD] at z; cases z), ⟨Same.refl _, fun b u q k => (Fram.refl (Hs := Hs1)).keepU nD q k, fun b q => .inl q, fun b q => .inl (ow b q)⟩, upd_same, nS, nO, .nil, ?_⟩
    simpa using hev
  · rintro i k H ⟨rfl, hi, Hs, m, acc, accD, R, F, hD, hDs, hDo, ra, hl⟩
    by_cases hlt : i < ds.length
    · have hd : ds[i]? = some ds[i] := List.getElem?_eq_getElem hlt
      have hdrop : ds.drop i = ds[i] :: ds.drop (i + 1) := List.drop_eq_getElem_cons hlt
      rw [hdrop] at hl
      simp only [lcL] at hl
      split at hl
      · rename_i hok
        obtain ⟨_, hitem⟩ := hJ i Hs H (wipe σ vs) m F.same R hok hsame
        obtain ⟨hgo, hy⟩ := hitem _ hd
        refine .inr ⟨hgo, fun H' => i + 1 ≤ ds.length ∧ St (i + 1) H', fun H' ⟨h1, h2⟩ => ⟨ds.length - (i + 1), by omega, rfl, h1, h2⟩, fun x H' yl => ?_⟩
        obtain ⟨Hs3, R3, F3, rx⟩ := hy x H' yl
        obtain ⟨d3, d3s, d3o⟩ := hid F3 hD hDs hDo (nT _)
        obtain ⟨m2, hb, hl⟩ := PostR.ofO hl.bind
        refine ⟨Hs3, m, ds[i], m2, R3, rx, hb, fun σ2 R4 o4 k4 => ?_⟩
        have F4 : Fram Hs3 H' (Own (wipe σ vs) m) Hs3 H' (Own σ2 m2) := ⟨Same.refl _, fun _ _ q _ => .inl q, fun _ q => .inl q, fun b q => .inl (o4 b q)⟩
        have hw : wipe σ2 vs = wipe σ vs := wipe_wipe (by
          have h1 := R4.len
          have h2 := R3.len
          rw [wipe_length] at h2
          have h3 := bindT_len hb
          omega) fun j hj => k4 j fun z => hj (hg j z)
        refine ⟨hw, ?_⟩
        obtain ⟨d4, d4s, d4o⟩ := hid F4 d3 d3s d3o (nT _)
        have Fa := (F.trans F3).trans F4
        -- the turn's end
        have fin : ∀ {Hs6 H6 : Hp} {m6 : Env} {acc6 : List V} {accD6 : List D}, REnv K Hs6 H6 σ2 m6 → Fram Hs1 H1 (Own σ m1) Hs6 H6 (Own σ2 m6) → H6 Dd = some (.lst acc) → Hs6 Dd = none → ¬ Own σ2 m6 Dd → RpA K Hs6 acc6 accD6 →
            PostR (fun r : List D × Env => lenOk (accD6.length + r.1.length) ∧ ∀ Hs H acc, REnv K Hs H (wipe σ vs) r.2 → Fram Hs1 H1 (Own σ m1) Hs H (Own (wipe σ vs) r.2) → H Dd = some (.lst acc) → Hs Dd = none → ¬ Own (wipe σ vs) r.2 Dd → RpA K Hs acc (accD6 ++ r.1) → Q (.ref Dd) H) (fun _ => False)
              (lcL srcs vs g (fun m => evC ec m) (fun m => (ev ee m).bind fun q => .ok (q.1.2, tkm ee q.2)) (ds.drop (i + 1)) (wipeE m6 vs)) → St (i + 1) (upd H6 Dd (.lst acc6)) := by
          intro Hs6 H6 m6 acc6 accD6 R6 F6 d6 d6s d6o ra6 hl6
          obtain ⟨Rw, ow⟩ := R6.wiped vs
          rw [hw] at Rw ow
          have nO : ¬ Own (wipe σ vs) (wipeE m6 vs) Dd := fun z => d6o (ow _ z)
          refine ⟨Hs6, wipeE m6 vs, acc6, accD6, Rw.at_hid d6s nO (fun q z => by rw [d6] at z; cases z) (fun q z => by rw [d6] at z; cases z), ⟨F6.same, fun b u q n => ?_, F6.news, fun b q => F6.owns b (ow b q)⟩, upd_same, d6s, nO, ra6, hl6⟩
          have ne : b ≠ Dd := fun z => by rw [z, nD] at q; cases q
          rw [upd_ne ne]
          exact F6.keep b u q n
        refine tT0 R4 hl fun p Hs5 H5 hp R5 F5 => ?_
        obtain ⟨d5, d5s, d5o⟩ := hid F5 d4 d4s d4o (nT _)
        have Fb := Fa.trans F5
        by_cases hk : p.1 = true
        · rw [if_pos hk] at hp ⊢
          rw [Res.bind_assoc] at hp
          refine stepT0 R5 hp fun q y Hs6 H6 hq R6 F6 ry => ?_
          obtain ⟨d6, d6s, d6o⟩ := hid F6 d5 d5s d5o (nT _)
          have Fc := Fb.trans F6
          have ra6 : RpA K Hs6 (acc ++ [y]) (accD ++ [q.1.2]) := (RpA.mono (((F3.same.trans F4.same).trans F5.same).trans F6.same) _ _ ra).append (.cons ry .nil)
          have hq := (PostR.okD hq.bind).bind
          have hlen : acc.length < sizeLine := by
            rw [ra.length]
            obtain ⟨r, _, hr⟩ := PostR.ex hq
            have h : accD.length + (q.1.2 :: r.1).length ≤ sizeLine := (PostR.okD hr).1
            simp only [List.length_cons] at h
            omega
          refine ⟨acc, d6, hlen, by omega, fin R6 Fc d6 d6s d6o ra6 ?_⟩
          refine hq.imp (fun r hr => ?_) fun _ z => z
          have hr := PostR.okD hr
          refine ⟨?_, fun Hs H acc a b c d e f => hr.2 Hs H acc a b c d e (by simpa using f)⟩
          have h : accD.length + (q.1.2 :: r.1).length ≤ sizeLine := hr.1
          show (accD ++ [q.1.2]).length + r.1.length ≤ sizeLine
          simp only [List.length_cons, List.length_append, List.length_nil] at h ⊢
          omega
        · rw [if_neg hk] at hp ⊢
          refine ⟨by omega, ?_⟩
          have := fin (acc6 := acc) (accD6 := accD) R5 Fb d5 d5s d5o (RpA.mono ((F3.same.trans F4.same).trans F5.same) _ _ ra) hp
          have e : upd H5 Dd (.lst acc) = H5 := by
            funext b
            by_cases hb : b = Dd
            · subst hb; rw [upd_same, d5]
            · rw [upd_ne hb]
          rw [e] at this
          exact this
      · exact hl.elim
    · have e : i = ds.length := by omega
      subst e
      rw [List.drop_length] at hl
      simp only [lcL] at hl
      split at hl
      · rename_i hok
        obtain ⟨hstop, _⟩ := hJ ds.length Hs H (wipe σ vs) m F.same R hok hsame
        exact .inl ⟨hstop rfl, hl.2 Hs H acc R F hD hDs hDo (by simpa using ra)⟩
      · exact hl.elim
end
end Rc

set_option maxRecDepth 100000
set_option maxHeartbeats 4000000
/-! isinstance of a known value; a lambda handed to the def that tells of refusals. -/
namespace Rc
open PySem L2
variable [Tbs]
section
variable {K : PySem.W.Frag} {Hs H Hs' H' : Hp} {σ : L2.St} {m : Env}
theorem REnv.drop (R : REnv K Hs H σ m) (i : Nat) : REnv K Hs H σ (m.set i none) ∧ ∀ b, Own σ (m.set i none) b → Own σ m b := by
  have at' : ∀ j p, geti (m.set i none) j = some p → j ≠ i ∧ geti m j = some p := fun j p z => by
    by_cases hj : j = i
    · subst hj
      have lt := geti_lt z
      rw [List.length_set] at lt
      rw [geti_set_same lt] at z
      cases z
    · rw [geti_set_ne (Ne.symm hj)] at z; exact ⟨hj, z⟩
  exact ⟨⟨R.sub, by simp [R.len], fun j d h => R.val j d (at' j _ h).2, fun j d h => R.own j d (at' j _ h).2, fun j k d e a h1 h2 h3 h4 => R.inj j k d e a (at' j _ h1).2 (at' k _ h2).2 h3 h4⟩, fun b ⟨j, d, h1, h2⟩ => ⟨j, d, h1, (at' j _ h2).2⟩⟩
theorem REnv.dropAll (R : REnv K Hs H σ m) : ∀ vs : List Nat, REnv K Hs H σ (wipeE m vs) ∧ ∀ b, Own σ (wipeE m vs) b → Own σ m b
  | [] => ⟨R, fun _ h => h⟩
  | v :: vs => by
    obtain ⟨R1, o1⟩ := R.dropAll vs
    obtain ⟨R2, o2⟩ := R1.drop v
    exact ⟨R2, fun b h => o1 b (o2 b h)⟩
theorem wipeE_len' : ∀ (vs : List Nat) (m : Env), (wipeE m vs).length = m.length
  | [], _ => rfl
  | v :: vs, m => by simp [wipeE, wipeE_len' vs m]
theorem wipeE_get : ∀ (vs : List Nat) (m : Env) (i : Nat), geti (wipeE m vs) i = if i ∈ vs then none else geti m i
  | [], m, i => by simp [wipeE]
  | v :: vs, m, i => by
    show geti ((wipeE m vs).set v none) i = _
    by_cases h : v = i
    · subst h
      by_cases hl : v < (wipeE m vs).length
      · rw [geti_set_same hl]; simp
      · rw [set_over hl, wipeE_get]
        have : geti m v = none := by
          cases q : geti m v with
          | none => rfl
          | some p => exact absurd (geti_lt q) (by rw [wipeE_len'] at hl; exact hl)
        simp [this]
    · rw [geti_set_ne h, wipeE_get]
      simp [List.mem_cons, Ne.symm h]
theorem backE_get : ∀ (vs : List Nat) (m₀ m : Env) (i : Nat), m₀.length = m.length → geti (backE m₀ m vs) i = if i ∈ vs then geti m₀ i else geti m i
  | [], m₀, m, i, _ => by simp [backE]
  | v :: vs, m₀, m, i, hl => by
    have len : ∀ ws : List Nat, (backE m₀ m ws).length = m.length := fun ws => by
      induction ws with
      | nil => rfl
      | cons w ws ih => simp [backE, ih]
    show geti ((backE m₀ m vs).set v (geti m₀ v)) i = _
    by_cases h : v = i
    · subst h
      by_cases hlt : v < (backE m₀ m vs).length
      · rw [geti_set_same hlt]; simp
      · rw [set_over hlt, backE_get vs m₀ m v hl]
        have h0 : geti m₀ v = none := by
          cases q : geti m₀ v with
          | none => rfl
          | some p => exact absurd (geti_lt q) (by rw [len] at hlt; omega)
        have h1 : geti m v = none := by
          cases q : geti m v with
          | none => rfl
          | some p => exact absurd (geti_lt q) (by rw [len] at hlt; omega)
        simp [h0, h1]
    · rw [geti_set_ne h, backE_get vs m₀ m i hl]
      simp [List.mem_cons, Ne.symm h]
theorem keepX_get (os : List Nat) : ∀ (m : Env) (k i : Nat), geti (keepX os k m) i = if (k + i) ∈ os then geti m i else match geti m i with | some (true, _) => none | p => p
  | [], k, i => by
    show geti [] i = _
    have : geti ([] : Env) i = none := by cases i <;> rfl
    simp [this]
  | p :: m, k, 0 => by
    show (if os.contains k = true then p else _) = _
    simp only [List.contains_iff_mem]
    rfl
  | p :: m, k, i + 1 => by
    show geti (keepX os (k + 1) m) i = _
    rw [keepX_get os m (k + 1) i, show k + 1 + i = k + (i + 1) by omega]
    rfl
theorem keepX_len (os : List Nat) : ∀ (m : Env) (k : Nat), (keepX os k m).length = m.length
  | [], _ => rfl
  | p :: m, k => by simp [keepX, keepX_len os m (k + 1)]
theorem REnv.extN (R : REnv K Hs H σ m) {H1 : Hp} (e : LamX.ExtN H H1) (t : LamX.Tabs Tbs.T H1) : REnv K Hs H1 σ m where
  sub := ⟨fun b o h => e b o (R.sub b o h) fun ps z => R.sub.ntb b ps (by rw [h, z]), t, R.sub.ntb⟩
  len := R.len
  val := R.val
  own := fun i d h => by
    obtain ⟨a, o, h1, h2, h3, h4⟩ := R.own i d h
    exact ⟨a, o, h1, e a o h2 h3.notT, h3, h4⟩
  inj := R.inj
theorem Fram.extN {H1 : Hp} {O : Addr → Prop} (e : LamX.ExtN H H1) : Fram Hs H O Hs H1 O :=
  ⟨Same.refl _, fun b o h _ => by
    by_cases t : ∃ ps, o = .tbl ps
    · exact .inr t
    · exact .inl (e b o h fun ps z => t ⟨ps, z⟩), fun _ h => .inl h, fun _ h => .inl h⟩
/-- behind the lambda's end: the names but its own stand as they stood -/
theorem after_ok {os : List Nat} {m2 : Env} (R : REnv K Hs H σ m) (R2 : REnv K Hs' H' σ m2) (F : Fram Hs H (Own σ (wipeE m os)) Hs' H' (Own σ m2)) :
    REnv K Hs' H' σ (backE m m2 os) ∧ Fram Hs H (Own σ m) Hs' H' (Own σ (backE m m2 os)) := by
  have hl : m.length = m2.length := by rw [← R.len, ← R2.len]
  have at' : ∀ i p, geti (backE m m2 os) i = some p → (i ∈ os ∧ geti m i = some p) ∨ (i ∉ os ∧ geti m2 i = some p) := fun i p h => by
    rw [backE_get os m m2 i hl] at h
    split at h
    · rename_i hi; exact .inl ⟨hi, h⟩
    · rename_i hi; exact .inr ⟨hi, h⟩
  have notOwn : ∀ i d a, i ∈ os → geti m i = some (true, d) → σ[i]? = some (some (.ref a)) → ¬ Own σ (wipeE m os) a := fun i d a hi h e ⟨j, x, e1, e2⟩ => by
    rw [wipeE_get] at e2
    split at e2
    · cases e2
    · rename_i hj
      exact hj (R.inj i j d x a h e2 e e1 ▸ hi)
  have kept : ∀ i d, i ∈ os → geti m i = some (true, d) → ∃ a o, σ[i]? = some (some (.ref a)) ∧ H a = some o ∧ H' a = some o ∧ Cont K Hs o d ∧ Hs a = none ∧ Hs' a = none ∧ ¬ Own σ m2 a := fun i d hi h => by
    obtain ⟨a, o, e1, h1, c, n⟩ := R.own i d h
    have no := notOwn i d a hi h e1
    refine ⟨a, o, e1, h1, F.keepN h1 no c.notT, c, n, ?_, fun z => (F.owns a z).elim no fun q => q.no h1 c⟩
    cases q : Hs' a with
    | none => rfl
    | some u =>
      rcases F.news a (by rw [q]; simp) with z | z | z
      · exact absurd n z
      · exact (z.no h1 c).elim
      · exact absurd z no
  have own2 : ∀ b, Own σ (backE m m2 os) b → (∃ i d, i ∈ os ∧ geti m i = some (true, d) ∧ σ[i]? = some (some (.ref b))) ∨ Own σ m2 b := fun b ⟨i, d, h1, h2⟩ => by
    rcases at' i _ h2 with ⟨hi, z⟩ | ⟨hi, z⟩
    · exact .inl ⟨i, d, hi, z, h1⟩
    · exact .inr ⟨i, d, h1, z⟩
  refine ⟨⟨R2.sub, by rw [R2.len]; exact (by
      have : ∀ ws : List Nat, (backE m m2 ws).length = m2.length := fun ws => by
        induction ws with
        | nil => rfl
        | cons w ws ih => simp [backE, ih]
      exact (this os).symm), fun i d h => ?_, fun i d h => ?_, fun i j d e a h1 h2 h3 h4 => ?_⟩, ⟨F.same, fun b o h n => F.keep b o h fun z => n ((R.dropAll os).2 b z), fun b h => (F.news b h).imp id fun z => z.imp id ((R.dropAll os).2 b), fun b h => ?_⟩⟩
  · rcases at' i _ h with ⟨hi, z⟩ | ⟨hi, z⟩
    · obtain ⟨v, e, r⟩ := R.val i d z
      exact ⟨v, e, Rp.mono F.same _ _ r⟩
    · exact R2.val i d z
  · rcases at' i _ h with ⟨hi, z⟩ | ⟨hi, z⟩
    · obtain ⟨a, o, e1, _, k1, c, _, n, _⟩ := kept i d hi z
      exact ⟨a, o, e1, k1, c.mono F.same, n⟩
    · exact R2.own i d z
  · rcases at' i _ h1 with ⟨hi, z1⟩ | ⟨hi, z1⟩ <;> rcases at' j _ h2 with ⟨hj, z2⟩ | ⟨hj, z2⟩
    · exact R.inj i j d e a z1 z2 h3 h4
    · obtain ⟨a', o, e1, _, _, _, _, _, no⟩ := kept i d hi z1
      rw [h3] at e1; cases e1
      exact absurd ⟨j, e, h4, z2⟩ no
    · obtain ⟨a', o, e1, _, _, _, _, _, no⟩ := kept j e hj z2
      rw [h4] at e1; cases e1
      exact absurd ⟨i, d, h3, z1⟩ no
    · exact R2.inj i j d e a z1 z2 h3 h4
  · rcases own2 b h with ⟨i, d, hi, z, e⟩ | z
    · exact .inl ⟨i, d, e, z⟩
    · exact (F.owns b z).imp ((R.dropAll os).2 b) id
/-- behind a refusal -/
theorem after_exc {os : List Nat} (R : REnv K Hs H σ m) (x : ExF H (Own σ (wipeE m os)) H') : REnv K Hs H' σ (keepX os 0 m) ∧ Fram Hs H (Own σ m) Hs H' (Own σ (keepX os 0 m)) := by
  have at' : ∀ i p, geti (keepX os 0 m) i = some p → geti m i = some p ∧ (i ∈ os ∨ p.1 = false) := fun i p h => by
    rw [keepX_get, Nat.zero_add] at h
    split at h
    · rename_i hi; exact ⟨h, .inl hi⟩
    · split at h
      · cases h
      · rename_i hn
        refine ⟨h, .inr ?_⟩
        obtain ⟨f, d⟩ := p
        cases f with
        | false => rfl
        | true => exact absurd h (hn d)
  have notOwn : ∀ i d a, i ∈ os → geti m i = some (true, d) → σ[i]? = some (some (.ref a)) → ¬ Own σ (wipeE m os) a := fun i d a hi h e ⟨j, y, e1, e2⟩ => by
    rw [wipeE_get] at e2
    split at e2
    · cases e2
    · rename_i hj
      exact hj (R.inj i j d y a h e2 e e1 ▸ hi)
  have sub : Sub Hs H' := by
    refine ⟨fun b o h => ?_, x.2, R.sub.ntb⟩
    by_cases q : Own σ (wipeE m os) b
    · obtain ⟨i, d, e1, e2⟩ := (R.dropAll os).2 b q
      obtain ⟨a, u, z1, z2, z3, z4⟩ := R.own i d e2
      rw [e1] at z1; cases z1
      rw [z4] at h; cases h
    · exact (x.1 b o (R.sub b o h) q).resolve_right fun ⟨ps, z⟩ => R.sub.ntb b ps (by rw [h, z])
  have ow : ∀ b, Own σ (keepX os 0 m) b → Own σ m b := fun b ⟨i, d, h1, h2⟩ => ⟨i, d, h1, (at' i _ h2).1⟩
  refine ⟨⟨sub, by rw [keepX_len]; exact R.len, fun i d h => R.val i d (at' i _ h).1, fun i d h => ?_, fun i j d e a h1 h2 h3 h4 => R.inj i j d e a (at' i _ h1).1 (at' j _ h2).1 h3 h4⟩, ⟨Same.refl _, fun b o h n => x.1 b o h fun z => n ((R.dropAll os).2 b z), fun b h => .inl h, fun b h => .inl (ow b h)⟩⟩
  obtain ⟨h1, h2⟩ := at' i _ h
  have hi : i ∈ os := h2.resolve_right (fun z => by cases z)
  obtain ⟨a, o, e1, k1, c, n⟩ := R.own i d h1
  exact ⟨a, o, e1, (x.1 a o k1 (notOwn i d a hi h1 e1)).resolve_right fun ⟨ps, z⟩ => c.notT ps z, c, n⟩
end
section
variable {X : Cx} {W : XK} {c : TC}
theorem s_isx (G : Good X W c) {v x : Str} {d : D} {l : List (Str × Bool)} {b : Bool} {i : Nat} {p p1 p2 p3 : Pos} (h1 : c.isx = some (v, d, l)) (h2 : l.lookup x = some b) (h3 : ixOf c.N v = some i) (g1 : isGl c.sc "isinstance" = true) (g2 : okName v = true) (g3 : isVis c.sc v = true) (g4 : okName x = true) (g5 : isGl c.sc x = true) :
    PEm X W (.Call (.Name ("isinstance" : Str) p) [.Name v p1, .Name x p2] [] p3) (.isx i d b) := by
  refine PE.imp (G.isx v d l x b i h1 h2 h3 g1 g2 g3 g4 g5 p p1 p2 p3) fun σ H Q ⟨Hs, m, R, h⟩ => ?_
  simp only [ev] at h
  cases hg : geti m i with
  | none => rw [hg] at h; exact h.elim
  | some q =>
    obtain ⟨f, d'⟩ := q
    rw [hg] at h
    cases f with
    | true => exact h.elim
    | false =>
      obtain ⟨u, e, r⟩ := R.val i d' hg
      simp only at h
      unfold isxF at h
      split at h
      · rename_i hd
        subst hd
        exact ⟨⟨Hs, u, e, r⟩, fin_sh (mg := X.mg) (W := W) (e := .isx i d' b) rfl h R Fram.refl (.bl b)⟩
      · exact h.elim
theorem s_rfd (G : Good X W c) {r : Str} {ks : List (Str × Nat)} {body : Expr} {sc : Scope} {e : E} {os : List Nat} {p lpos pos : Pos} (hr : c.ref = some (r, ks)) (hx : okName r = true) (hg : isGl c.sc r = true) (hs : LamX.lamSB c.sc sc = true)
    (hb : ∀ (X' : Cx) (W' : XK), Good X' W' { c with sc := sc, isx := none, ref := none } → PEm X' W' body e) :
    PEm X W (.Call (.Name r p) [.Lambda ⟨[], [], none, [], [], none, []⟩ body sc lpos] [] pos) (.rfd e os ks) := by
  obtain ⟨g, cd, P, a, Ng, k, pg, bg, sg, dV, kV, doc, pm, cdv, ct, oc, an, od, osl, hm, hk, lk, hcg, hbd, Sg, hNg, hva, hoa, hG, TB, hcode, hmT, hu, hroom, hgood⟩ := (G.ref r ks hr).ex
  have L : LamX.LamS X.env.scope sc := LamX.lamS_by (by rw [G.sc]; exact hs)
  refine PE.imp (LamX.pe_lamcall (T := Tbs.T) (TT := TTr X.mg ks) (t := fun E => tE X.K X.mg E e) (by show X.env.scope.names.lookup r = _; rw [G.sc]; exact gl_of hg) hm hk lk hcg hbd Sg hNg hva hG TB hcode hmT hu hroom L rfl (fun _ _ _ _ _ => rfl)
    (fun A outer s H E f c' hr2 => hb _ E ⟨hgood sc A outer s H E f c' L hr2, fun _ _ h => by cases h⟩) (okName_of hx).1 (okName_of hoa).1 (okName_of hoa).2) fun σ H Q ⟨Hs, m, R, h⟩ => ?_
  refine ⟨R.sub.tab, fun H1 eN T1 => ?_⟩
  have R1 := R.extN eN T1
  have F1 : Fram Hs H (Own σ m) Hs H1 (Own σ m) := Fram.extN eN
  obtain ⟨Rw, ow⟩ := R1.dropAll os
  simp only [ev] at h
  refine ⟨T1, fun E' Q' hE' hQ' => ?_⟩
  show tE X.K X.mg E' e σ H1 Q'
  refine ⟨Hs, wipeE m os, Rw, ?_⟩
  cases hq : ev e (wipeE m os) with
  | bad => rw [hq] at h; exact h.elim
  | exc x =>
    rw [hq] at h
    obtain ⟨i, hi, h⟩ := PostR.ofO h.bind
    have h : ∀ v Hs' H', REnv X.K Hs' H' σ (keepX os 0 m) → Fram Hs H (Own σ m) Hs' H' (OV (Own σ (keepX os 0 m)) true v) → RR X.K (.rfd e os ks) σ (keepX os 0 m) Hs' H' true v (.list [.int (i : Int)]) → Q v H' := h
    intro C H2 hC hE
    refine hE' _ _ _ ⟨hE.2, x, i, C, hi, hC, rfl, rfl, fun H3 e23 T3 q n => ?_⟩
    obtain ⟨R2, F2⟩ := after_exc R1 hE
    have R3 := R2.extN e23 T3
    have F3 : Fram Hs H (Own σ m) Hs H3 (Own σ (keepX os 0 m)) := (F1.trans F2).trans (Fram.extN e23)
    exact fin_new (e := .rfd e os ks) rfl h R3 F3 (.lst (.cons (.int _) .nil)) q n
  | ok p =>
    rw [hq] at h
    have h : ∀ v Hs' H', REnv X.K Hs' H' σ (backE m p.2 os) → Fram Hs H (Own σ m) Hs' H' (OV (Own σ (backE m p.2 os)) false v) → RR X.K (.rfd e os ks) σ (backE m p.2 os) Hs' H' false v .none → Q v H' := h
    intro v Hs' H' R' F' _
    refine hQ' _ _ ⟨R'.sub.tab, fun H3 e23 T3 => ?_⟩
    obtain ⟨R2, F2⟩ := after_ok R1 R' (F'.weak fun b z => .inl z)
    have R3 := R2.extN e23 T3
    have F3 : Fram Hs H (Own σ m) Hs' H3 (Own σ (backE m p.2 os)) := (F1.trans F2).trans (Fram.extN e23)
    exact fin_sh (mg := X.mg) (W := W) (e := .rfd e os ks) rfl h R3 F3 .non
end
section
variable {K : PySem.W.Frag} {Hs H : Hp} {σ : L2.St} {m : Env}
theorem geti_sh : ∀ {m : Env} {i : Nat} {f : Bool} {d : D}, geti (shAll m) i = some (f, d) → f = false ∧ ∃ f', geti m i = some (f', d)
  | [], _, _, _, h => by cases h
  | p :: m, 0, f, d, h => by
    have h : p.map (fun q => (false, q.2)) = some (f, d) := h
    cases p with
    | none => cases h
    | some q => cases h; exact ⟨rfl, q.1, rfl⟩
  | p :: m, i + 1, f, d, h => geti_sh (m := m) (i := i) h
theorem own_sh {b : Addr} : ¬ Own σ (shAll m) b := fun ⟨_, _, _, h⟩ => by
  have := (geti_sh h).1
  cases this
open Classical in
/-- all that is owned told of -/
noncomputable def hpAll (σ : L2.St) (m : Env) (Hs H : Hp) : Hp := fun b => match Hs b with
  | some o => some o
  | none => if Own σ m b then H b else none
theorem hpAll_old {b : Addr} {o : HO} (h : Hs b = some o) : hpAll σ m Hs H b = some o := by unfold hpAll; rw [h]
theorem hpAll_new {b : Addr} (h : Hs b = none) (o : Own σ m b) : hpAll σ m Hs H b = H b := by unfold hpAll; rw [h]; exact if_pos o
theorem hpAll_none {b : Addr} (h : Hs b = none) (o : ¬ Own σ m b) : hpAll σ m Hs H b = none := by unfold hpAll; rw [h]; exact if_neg o
theorem sh_all (R : REnv K Hs H σ m) : REnv K (hpAll σ m Hs H) H σ (shAll m) := by
  have s : Same Hs (hpAll σ m Hs H) := fun b o h => hpAll_old h
  have cn : ∀ b, Own σ m b → ∃ o d, H b = some o ∧ Cont K Hs o d ∧ Hs b = none := fun b ⟨i, d, e, g⟩ => by
    obtain ⟨a, o, e', h1, h2, h3⟩ := R.own i d g
    rw [e] at e'
    cases e'
    exact ⟨o, d, h1, h2, h3⟩
  refine ⟨⟨fun b o h => ?_, R.sub.tab, fun b ps h => ?_⟩, by simp [shAll, R.len], fun i d h => ?_, fun i d h => ?_, fun i j d e a h => ?_⟩
  · by_cases z : Hs b = none
    · by_cases w : Own σ m b
      · rw [hpAll_new z w] at h; exact h
      · rw [hpAll_none z w] at h; cases h
    · obtain ⟨u, hu⟩ := Option.ne_none_iff_exists'.mp z
      rw [hpAll_old hu] at h
      cases h
      exact R.sub b _ hu
  · by_cases z : Hs b = none
    · by_cases w : Own σ m b
      · obtain ⟨o, d, h1, h2, _⟩ := cn b w
        rw [hpAll_new z w, h1] at h
        exact h2.notT ps (Option.some.inj h)
      · rw [hpAll_none z w] at h; cases h
    · obtain ⟨u, hu⟩ := Option.ne_none_iff_exists'.mp z
      rw [hpAll_old hu] at h
      exact R.sub.ntb b ps (by rw [hu]; exact h)
  · obtain ⟨_, f', g⟩ := geti_sh h
    cases f' with
    | false =>
      obtain ⟨v, e, r⟩ := R.val i d g
      exact ⟨v, e, Rp.mono s _ _ r⟩
    | true =>
      obtain ⟨a, o, e, h1, h2, h3⟩ := R.own i d g
      have w : hpAll σ m Hs H a = some o := by rw [hpAll_new h3 ⟨i, d, e, g⟩]; exact h1
      refine ⟨.ref a, e, ?_⟩
      cases h2 with
      | lst q => exact .lst w (RpA.mono s _ _ q)
      | dT q q2 => exact .dct w (RpA.mono s _ _ q) rfl rfl q2
  · have := (geti_sh h).1
    cases this
  · have := (geti_sh h).1
    cases this
theorem s_pk {X : Cx} {W : XK} {a : Expr} {ea : E} (ha : PEm X W a ea) (hv : ea.vr = none) : PEm X W a (.pk ea) := by
  refine PE.imp ha fun σ H Q ⟨Hs, m, R, h⟩ => ?_
  have R1 := sh_all R
  refine ⟨_, shAll m, R1, ?_⟩
  simp only [ev] at h
  cases hq : ev ea (shAll m) with
  | bad => rw [hq] at h; exact h.elim
  | exc x => rw [hq] at h; exact h.elim
  | ok p =>
    rw [hq] at h
    obtain ⟨⟨f, d⟩, m'⟩ := p
    cases d with
    | bool b =>
      have h : ∀ v Hs' H', REnv X.K Hs' H' σ m → Fram Hs H (Own σ m) Hs' H' (OV (Own σ m) false v) → RR X.K (.pk ea) σ m Hs' H' false v (.bool b) → Q v H' := h
      intro v Hs' H' R' F' r'
      have up : ∀ c o, hpAll σ m Hs H c = some o → H' c = some o := fun c o z => R'.sub c o (F'.same c o z)
      have hb : v = .bl b := by
        unfold RR at r'
        rw [hv] at r'
        cases f with
        | true =>
          obtain ⟨_, _, _, _, c, _⟩ := r'
          cases c
        | false => exact RB.bl (H := H') (Or.inl (show Rp X.K Hs' v (.bool b) from r'))
      subst hb
      refine fin_sh (mg := X.mg) (W := W) (e := .pk ea) rfl h ⟨⟨fun c o z => up c o (hpAll_old z), R'.sub.tab, R.sub.ntb⟩, R.len, R.val, fun i d g => ?_, R.inj⟩ ⟨Same.refl _, fun c o z _ => F'.keep c o z own_sh, fun c z => .inl z, fun c z => .inl z⟩ (.bl b)
      obtain ⟨a, o, e, h1, h2, h3⟩ := R.own i d g
      exact ⟨a, o, e, up a o (by rw [hpAll_new h3 ⟨i, d, e, g⟩]; exact h1), h2, h3⟩
    | _ => exact h.elim
end
end Rc

set_option maxRecDepth 100000
set_option maxHeartbeats 4000000
namespace Rc
open PySem L2
variable [Tbs]
section
variable {X : Cx} {W : XK} {c : TC}
theorem Good.blk (G : Good X W c) (scope : Scope) (s : Shared) (H : Hp) (C : Addr) (cl : List (Str × Addr)) (fp : List Addr) : Good (X.blk s H scope (compEnvC scope cl C X.env) fp) E0 { c with sc := relS scope c.sc, isx := none, ref := none } where
  calm := G.calm
  N := G.N
  nd := G.nd
  sc := by
    show relS scope X.env.scope = relS scope c.sc
    rw [G.sc]
  hu := G.hu
  fns := fun x e h => by
    obtain ⟨f, fd, ps, k, F, hr, hm, hk, hb, _⟩ := (G.fns x e h).ex
    exact ⟨⟨f, fd, ps, k, F, hr, hm, hk, hb, passL⟩⟩
  cns := G.cns
  blt := G.blt
  isx := fun _ _ _ _ _ _ h => by cases h
  ref := fun _ _ h => by cases h
theorem ownOf_ix {N : List Str} {sc : Scope} {p : Str × Nat} (h : p ∈ ownOf N sc) : ixOf N p.1 = some p.2 := by
  unfold ownOf at h
  rw [List.mem_filterMap] at h
  obtain ⟨⟨x, k⟩, _, h⟩ := h
  cases k <;> simp only [reduceCtorEq, Option.map_eq_some_iff] at h
  all_goals
    obtain ⟨i, hi, e⟩ := h
    subst e
    exact hi
theorem tgtIx_names {N : List Str} : ∀ {xs : List Str} {g : List Nat}, tgtIx N xs = some g → xs.length = g.length
  | [], g, h => by simp only [tgtIx, Option.some.injEq] at h; subst h; rfl
  | x :: xs, g, h => by
    simp only [tgtIx] at h
    rw [Option.bind_eq_some_iff] at h
    obtain ⟨i, hi, h⟩ := h
    rw [Option.map_eq_some_iff] at h
    obtain ⟨g', h, rfl⟩ := h
    simp [tgtIx_names h]
/-- a target, by its names -/
theorem pg_tgt {N : List Str} (hN : X.N = N) (nd : X.N.Nodup) (hc : X.calm = true) {tg : Expr} {xs : List Str} {g : List Nat} (h1 : tgtNames tg = some xs) (h2 : tgtIx N xs = some g) (h3 : ∀ x ∈ xs, StOk X x) (hg : isTup tg = true → g.length ≠ 1) : PG X tg (gM X.K g) := by
  cases tg <;> simp only [tgtNames, reduceCtorEq] at h1
  · rename_i x pos
    simp only [Option.some.injEq] at h1
    subst h1
    simp only [tgtIx] at h2
    rw [Option.bind_eq_some_iff] at h2
    obtain ⟨i, hi, h2⟩ := h2
    simp only [tgtIx, Option.map_some, Option.some.injEq] at h2
    subst h2
    exact pg_one hN nd hi (h3 x List.mem_cons_self)
  · exact pg_many hN nd hc h1 h2 h3 (hg rfl)
theorem loc_of {sc : Scope} {x : Str} (h : isLoc sc x = true) : Loc sc x := by
  unfold isLoc at h
  split at h
  · rename_i e; exact .inl e
  · rename_i e; exact .inr e
  · cases h
/-- what a comprehension is made of -/
structure LcOk (c : TC) (sc : Scope) (tg : Expr) (xs : List Str) (g : List Nat) : Prop where
  blk : blkC c.N c.sc sc (ownOf c.N sc) = true
  nm : tgtNames tg = some xs
  ix : tgtIx c.N xs = some g
  st : ∀ x ∈ xs, isLoc (relS sc c.sc) x = true ∧ isLoc sc x = true
  own : ∀ i ∈ g, i ∈ (ownOf c.N sc).map (·.2)
  tup : isTup tg = true → g.length ≠ 1
theorem LcOk.pg (G : Good X W c) {sc : Scope} {tg : Expr} {xs : List Str} {g : List Nat} (L : LcOk c sc tg xs g) (s : Shared) (H : Hp) (C : Addr) (cl : List (Str × Addr)) (fp : List Addr) : PG (X.blk s H sc (compEnvC sc cl C X.env) fp) tg (gM X.K g) := by
  refine pg_tgt (X := X.blk s H sc (compEnvC sc cl C X.env) fp) G.N G.nd G.calm L.nm L.ix (fun x hx => ?_) L.tup
  obtain ⟨h1, h2⟩ := L.st x hx
  have l1 := loc_of h1
  have e : (compEnvC sc cl C X.env).scope = relS sc c.sc := by
    show relS sc X.env.scope = _
    rw [G.sc]
  refine ⟨by show Loc (compEnvC sc cl C X.env).scope x; rw [e]; exact l1, ?_⟩
  rcases loc_of h2 with k | k
  · right
    show (compEnvC sc cl C X.env).scope.names.lookup x = _
    rw [e]
    exact lookup_relS_keep (by decide) k
  · left
    show (sc.names.lookup x == some NameKind.cell) = true
    rw [k]; rfl
theorem lc_core' (G : Good X W c) {sc : Scope} {tg : Expr} {xs : List Str} {g : List Nat} (L : LcOk c sc tg xs g) {it : Rc.It} {ee ec : E} {σ : L2.St} {H Hs : Hp} {m : Env} {Q : VK} (R : REnv X.K Hs H σ m)
    (h : PostR (fun (p : (Bool × D) × Env) => ∀ v Hs' H', REnv X.K Hs' H' σ p.2 → Fram Hs H (Own σ m) Hs' H' (OV (Own σ p.2) p.1.1 v) → RR X.K (.lc ee g it ec ((ownOf c.N sc).map (·.2))) σ p.2 Hs' H' p.1.1 v p.1.2 → Q v H') (XcE X.mg W σ H m) (ev (.lc ee g it ec ((ownOf c.N sc).map (·.2))) m)) :
    tLc (tI X.K X.mg W it) (gM X.K g) (tT X.K X.mg E0 ec) (tE X.K X.mg E0 ee) ((ownOf c.N sc).map (·.2)) σ H Q := by
  generalize hvs : (ownOf c.N sc).map (·.2) = vs at h ⊢
  simp only [ev] at h
  refine ⟨Hs, m, R, h.bind.imp (fun p hp J Hs1 H1 R1 F1 hJ hown hok Dd nD => ?_) fun _ z => z⟩
  obtain ⟨ds, srcs, m1⟩ := p
  simp only at hp R1 F1 hJ hown hok ⊢
  split at hp
  · rename_i hsh
    have hsh : ∀ i ∈ vs, shO (geti m1 i) = true := fun i hi => List.all_eq_true.mp hsh i hi
    have hev := noX_bad hp.bind
    refine lc_turns (fun i hi => by rw [← hvs]; exact L.own i hi) hJ (fun q hq hm => ?_) nD R1 (hev.imp (fun r hr => ?_) fun _ z => z)
    · obtain ⟨d, hd⟩ := hown q hq
      have := hsh q.1 hm
      rw [hd] at this
      cases this
    · split at hr
      · rename_i hl
        refine ⟨hl, fun Hs2 H2 acc R2 F2 hD hDs hDo ra => ?_⟩
        obtain ⟨Rb, ob⟩ := R1.backed R2 F2.same hsh
        have Fb : Fram Hs1 H1 (Own σ m1) Hs2 H2 (Own σ (backE m1 r.2 vs)) := F2.weak ob
        have Ft := F1.trans Fb
        refine hr (.ref Dd) Hs2 H2 Rb ⟨Ft.same, Ft.keep, Ft.news, fun b z => ?_⟩ ?_
        · rcases z with z | ⟨_, z⟩
          · exact Ft.owns b z
          · cases z
            by_cases q : Own σ m Dd
            · exact .inl q
            · exact .inr (F1.none nD q)
        · exact ⟨Dd, .lst acc, rfl, hD, .lst ra, hDs, fun z => hDo (ob _ z)⟩
      · exact hr.elim
  · exact hp.elim
theorem plain_fold {e : Expr} (h : isPlain e = true) (env : PySem.Env) (x : Value) : foldedSetIterable e env x = pure x := by
  cases e <;> simp [isPlain] at h <;> rfl
theorem s_lc (G : Good X W c) {sc : Scope} {tg iter elt : Expr} {ifs : List Expr} {xs : List Str} {g : List Nat} (L : LcOk c sc tg xs g) {it : Rc.It} {ee ec : E} {pos : Pos} (hpl : isPlain iter = true)
    (hi : PI X tg iter (tI X.K X.mg W it)) (he : ∀ (s : Shared) (H : Hp) (C : Addr) (cl : List (Str × Addr)) (fp : List Addr), PEm (X.blk s H sc (compEnvC sc cl C X.env) fp) E0 elt ee)
    (ht : ∀ (s : Shared) (H : Hp) (C : Addr) (cl : List (Str × Addr)) (fp : List Addr), PTs (X.blk s H sc (compEnvC sc cl C X.env) fp) ifs (tT X.K X.mg E0 ec)) :
    PEm X W (.ListComp elt [⟨tg, iter, ifs, 0⟩] sc pos) (.lc ee g it ec ((ownOf c.N sc).map (·.2))) := by
  have ok : BlkOk X.N X.env.scope sc (ownOf c.N sc) := by
    rw [G.N, G.sc]
    exact blkOk_by L.blk
  refine PE.imp (pe_lc (te := tE X.K X.mg E0 ee) G.calm G.nd hi ok (L.pg G) ht he (plain_fold hpl _)) fun σ H Q ⟨Hs, m, R, h⟩ => ?_
  exact lc_core' G L R h
theorem s_setlc (G : Good X W c) {i : Nat} {y : Str} {py : Pos} {sc : Scope} {tg iter elt : Expr} {ifs : List Expr} {xs : List Str} {g : List Nat} (L : LcOk c sc tg xs g) {it : Rc.It} {ee ec : E} {pos spos : Pos} (hpl : isPlain iter = true)
    (hy : ixOf c.N y = some i) (hyl : c.sc.names.lookup y = some .local) (hsw : swapsWith (.ListComp elt [⟨tg, iter, ifs, 0⟩] sc pos) (some (.Name y py)) spos.line X.env = pure true)
    (hi : PI X tg iter (tI X.K X.mg W it)) (he : ∀ (s : Shared) (H : Hp) (C : Addr) (cl : List (Str × Addr)) (fp : List Addr), PEm (X.blk s H sc (compEnvC sc cl C X.env) fp) E0 elt ee)
    (ht : ∀ (s : Shared) (H : Hp) (C : Addr) (cl : List (Str × Addr)) (fp : List Addr), PTs (X.blk s H sc (compEnvC sc cl C X.env) fp) ifs (tT X.K X.mg E0 ec)) :
    PS X (.Assign [.Name y py] (.ListComp elt [⟨tg, iter, ifs, 0⟩] sc pos) spos) (tAsg (tE X.K X.mg W (.lc ee g it ec ((ownOf c.N sc).map (·.2)))) (gName i)) := by
  have ok : BlkOk X.N X.env.scope sc (ownOf c.N sc) := by
    rw [G.N, G.sc]
    exact blkOk_by L.blk
  refine ⟨fun pins s σ H Dn I hq => (ps_setLc (te := tE X.K X.mg E0 ee) G.calm G.nd (by rw [G.N]; exact ix_of hy) (by rw [G.sc]; exact hyl) hsw hi ok (L.pg G) ht he (plain_fold hpl _)).run pins s σ H Dn I ?_⟩
  obtain ⟨Hs, m, R, h⟩ := hq
  exact lc_core' G L R h

/-! ### the translation is right -/
def OpOk (X : Cx) (W : XK) (x : Option Expr) (e : E) : Prop := match x with | none => e = .con .none | some x => PEm X W x e ∧ e ≠ .con .none
structure Snd (n : Nat) : Prop where
  e : ∀ (c : TC) (x : Expr) (e : E), trE n c x = some e → ∀ (X : Cx) (W : XK), Good X W c → PEm X W x e ∧ PTm X W x e ∧ isPlain x = true
  b : ∀ (c : TC) (o : BoolOp) (xs : List Expr) (e : E), trB n c o xs = some e → ∀ (X : Cx) (W : XK), Good X W c → ∀ pos, PEm X W (.BoolOp o xs pos) e ∧ PWm X W (.BoolOp o xs pos) e
  es : ∀ (c : TC) (xs : List Expr) (es : Es), trEs n c xs = some es → ∀ (X : Cx) (W : XK), Good X W c → PA X xs (tS X.K X.mg W es) ∧ PA X xs (tO X.K X.mg W es) ∧ (∀ ms, PA X xs (tAr X.K X.mg W ms es)) ∧ xs.all isPlain = true ∧ es.len = xs.length
  o : ∀ (c : TC) (x : Option Expr) (e : E), trO n c x = some e → ∀ (X : Cx) (W : XK), Good X W c → OpOk X W x e
  t : ∀ (c : TC) (xs : List Expr) (e : E), trT n c xs = some e → ∀ (X : Cx) (W : XK), Good X W c → PTs X xs (tT X.K X.mg W e)
  i : ∀ (c : TC) (tg x : Expr) (it : Rc.It), trI n c tg x = some it → ∀ (X : Cx) (W : XK), Good X W c → PI X tg x (tI X.K X.mg W it) ∧ isPlain x = true
theorem tysIn_len {sc : Scope} {fns : List (Str × FnE)} : ∀ {es : List Expr} {ts : List String}, tysIn sc fns es = some ts → ts.length = es.length
  | [], ts, h => by simp only [tysIn, Option.some.injEq] at h; subst h; rfl
  | e :: es, ts, h => by
    simp only [tysIn] at h
    rw [Option.bind_eq_some_iff] at h
    obtain ⟨t, h1, h⟩ := h
    rw [Option.map_eq_some_iff] at h
    obtain ⟨ts', h2, rfl⟩ := h
    simp [tysIn_len h2]
theorem snd_zero : Snd 0 := ⟨fun c x e h => by simp [trE] at h, fun c o xs e h => by simp [trB] at h, fun c xs es h => by simp [trEs] at h, fun c x e h => by simp [trO] at h, fun c xs e h => by simp [trT] at h, fun c tg x it h => by simp [trI] at h⟩
theorem bnd {α β : Type} {o : Option α} {f : α → Option β} {b : β} (h : o.bind f = some b) : ∃ a, o = some a ∧ f a = some b := Option.bind_eq_some_iff.mp h
/-- a plain expression's truth -/
theorem t_val {x : Expr} {e : E} (h : PEm X W x e) (he : ∀ whole, isTrue x X.env whole = (do let v ← whole; standAt x.pos; holding [v] (truthy v))) (hp : isPlain x = true) : PEm X W x e ∧ PTm X W x e ∧ isPlain x = true := ⟨h, pt_of h he, hp⟩
theorem s_nodup_tgt {tg : Expr} {g : List Nat} (h : (!isTup tg || decide (g.length ≠ 1)) = true) : isTup tg = true → g.length ≠ 1 := fun e => by
  rw [e] at h
  simpa using h
theorem snd_e {n : Nat} (ih : Snd n) (c : TC) (x : Expr) (e : E) (h : trE (n + 1) c x = some e) (X : Cx) (W : XK) (G : Good X W c) : PEm X W x e ∧ PTm X W x e ∧ isPlain x = true := by
  unfold trE at h
  split at h
  · rename_i q; cases q
  · rename_i n' x' pos q
    cases q
    split at h
    · rename_i hx
      split at h
      · rename_i hv
        rw [Option.map_eq_some_iff] at h
        obtain ⟨i, hi, rfl⟩ := h
        exact t_val (s_var G hx hv hi) (fun _ => rfl) rfl
      · split at h
        · rename_i hg
          rw [Option.map_eq_some_iff] at h
          obtain ⟨d, hd, rfl⟩ := h
          exact t_val (s_glob G hx hg hd) (fun _ => rfl) rfl
        · cases h
    · cases h
  · cases h; exact t_val (s_con pe_int fun _ => .int _) (fun _ => rfl) rfl
  · cases h; exact t_val (s_con pe_bl fun _ => .bl _) (fun _ => rfl) rfl
  · cases h; exact t_val (s_con pe_non fun _ => .non) (fun _ => rfl) rfl
  · cases h; exact t_val (s_con pe_str fun _ => .str _) (fun _ => rfl) rfl
  · rename_i n' a o b pos q
    cases q
    obtain ⟨o', ho, h⟩ := bnd h
    obtain ⟨ea, h1, h⟩ := bnd h
    obtain ⟨eb, h2, h⟩ := bnd h
    cases h
    exact t_val (s_bin ho (ih.e _ _ _ h1 X W G).1 (ih.e _ _ _ h2 X W G).1) (fun _ => rfl) rfl
  · rename_i n' a pos q
    cases q
    obtain ⟨ea, h1, h⟩ := bnd h
    cases h
    exact t_val (s_neg (ih.e _ _ _ h1 X W G).1) (fun _ => rfl) rfl
  · rename_i n' a pos q
    cases q
    obtain ⟨ea, h1, h⟩ := bnd h
    cases h
    obtain ⟨i1, i2, _⟩ := ih.e _ _ _ h1 X W G
    by_cases hl : (isLook a && ea.vr.isNone) = true
    · rw [if_pos hl]
      simp only [Bool.and_eq_true] at hl
      have k := s_pk i1 (Option.isNone_iff_eq_none.mp hl.2)
      have t : PTm X W a (.pk ea) := by
        have hk := hl.1
        unfold isLook at hk
        split at hk
        · exact (t_val k (fun _ => rfl) rfl).2.1
        · cases hk
      exact ⟨s_nt k, t_nt t, rfl⟩
    · rw [if_neg hl]
      exact ⟨s_nt i1, t_nt i2, rfl⟩
  · rename_i n' o es pos q
    cases q
    obtain ⟨h1, h2⟩ := ih.b _ _ _ _ h X W G pos
    exact ⟨h1, h2.pt, rfl⟩
  · rename_i n' a o b pos q
    cases q
    obtain ⟨ea, h1, h⟩ := bnd h
    obtain ⟨eb, h2, h⟩ := bnd h
    cases h
    obtain ⟨a1, _, _⟩ := ih.e _ _ _ h1 X W G
    obtain ⟨b1, _, b3⟩ := ih.e _ _ _ h2 X W G
    exact ⟨s_cmp G b3 a1 b1, t_cmp G b3 a1 b1, rfl⟩
  · rename_i n' a o o' b d pos q
    cases q
    obtain ⟨ea, h1, h⟩ := bnd h
    obtain ⟨eb, h2, h⟩ := bnd h
    obtain ⟨ed, h3, h⟩ := bnd h
    cases h
    obtain ⟨a1, _, _⟩ := ih.e _ _ _ h1 X W G
    obtain ⟨b1, _, b3⟩ := ih.e _ _ _ h2 X W G
    obtain ⟨d1, _, d3⟩ := ih.e _ _ _ h3 X W G
    exact ⟨s_chn G b3 d3 a1 b1 d1, t_chn G b3 d3 a1 b1 d1, rfl⟩
  · rename_i n' t a b pos q
    cases q
    obtain ⟨et, h1, h⟩ := bnd h
    obtain ⟨ea, h2, h⟩ := bnd h
    obtain ⟨eb, h3, h⟩ := bnd h
    cases h
    obtain ⟨t1, t2, _⟩ := ih.e _ _ _ h1 X W G
    obtain ⟨a1, a2, _⟩ := ih.e _ _ _ h2 X W G
    obtain ⟨b1, b2, _⟩ := ih.e _ _ _ h3 X W G
    exact ⟨s_ite t2 a1 b1, t_ite t2 a2 b2, rfl⟩
  · rename_i n' es k pos q
    cases q
    obtain ⟨ees, h1, h⟩ := bnd h
    cases h
    exact t_val (s_tup (ih.es _ _ _ h1 X W G).1) (fun _ => rfl) rfl
  · rename_i n' es pos q
    cases q
    obtain ⟨ees, h1, h⟩ := bnd h
    cases h
    exact t_val (s_lst (ih.es _ _ _ h1 X W G).1) (fun _ => rfl) rfl
  · cases h; exact t_val s_dct (fun _ => rfl) rfl
  · rename_i n' a k p1 p2 p3 p4 q
    cases q
    obtain ⟨ea, h1, h⟩ := bnd h
    cases h
    exact t_val (s_rvs (ih.e _ _ _ h1 X W G).1) (fun _ => rfl) rfl
  · rename_i n' a lo hi p1 p2 q
    cases q
    obtain ⟨ea, h1, h⟩ := bnd h
    obtain ⟨el, h2, h⟩ := bnd h
    obtain ⟨eh, h3, h⟩ := bnd h
    cases h
    exact t_val (s_slc (ih.e _ _ _ h1 X W G).1 (ih.o _ _ _ h2 X W G) (ih.o _ _ _ h3 X W G)) (fun _ => rfl) rfl
  · rename_i n' a b pos _ _ q
    cases q
    split at h
    · cases h
    · rename_i hs
      obtain ⟨ea, h1, h⟩ := bnd h
      obtain ⟨eb, h2, h⟩ := bnd h
      cases h
      exact t_val (s_idx (by simpa using hs) (ih.e _ _ _ h1 X W G).1 (ih.e _ _ _ h2 X W G).1) (fun _ => rfl) rfl
  · rename_i n' x' p body sc lpos pos q
    cases q
    refine t_val ?_ (fun _ => rfl) rfl
    split at h
    · rename_i r ks hr
      split at h
      · rename_i hc
        simp only [Bool.and_eq_true] at hc
        obtain ⟨e', he, h⟩ := bnd h
        cases h
        have hxr := eq_of_beq hc.1.1.1
        subst hxr
        exact s_rfd G hr hc.1.1.2 hc.1.2 hc.2 fun X' W' G' => (ih.e _ _ _ he X' W' G').1
      · cases h
    · cases h
  · rename_i n' x' p e₀ es₀ pos _ q
    cases q
    refine t_val ?_ (fun _ => rfl) rfl
    simp only at h
    split at h
    · rename_i hc
      rw [Bool.and_eq_true] at hc
      split at h
      · rename_i f hf
        split at h
        · rename_i hl
          obtain ⟨ees, h1, h⟩ := bnd h
          cases h
          obtain ⟨_, _, q3, q4, q5⟩ := ih.es _ _ _ h1 X W G
          exact s_call G hc.1 hc.2 hf (by rw [q5]; exact hl) q4 (q3 f.ms)
        · cases h
      · rename_i hf
        split at h
        · rename_i a ts k tp hi hes
          have hx : x' = ("isinstance" : Str) := by simpa using hi
          subst hx
          injection hes with e1 e2
          subst e1 e2
          split at h
          · rename_i hp
            rw [Bool.and_eq_true] at hp
            obtain ⟨ea, h1, h⟩ := bnd h
            obtain ⟨tys, h2, h⟩ := bnd h
            cases h
            refine s_isiT G hc.2 hp.1 (ih.e _ _ _ h1 X W G).1 h2 ?_
            have hl := tysIn_len h2
            have : ts.length ≤ 100 := by simpa using hp.2
            exact Nat.le_of_lt (small1000 (by omega))
          · cases h
        · rename_i a t _ hi hes
          have hx : x' = ("isinstance" : Str) := by simpa using hi
          subst hx
          injection hes with e1 e2
          subst e1 e2
          split at h
          · rename_i q hq
            cases h
            unfold isxOf at hq
            split at hq
            · split at hq
              · rename_i v' d l hv
                split at hq
                · rename_i hc'
                  simp only [Bool.and_eq_true] at hc'
                  obtain ⟨b, hb, hq⟩ := bnd hq
                  rw [Option.map_eq_some_iff] at hq
                  obtain ⟨i, hix, rfl⟩ := hq
                  have hvv := eq_of_beq hc'.1.1.1.1.1
                  subst hvv
                  exact s_isx G hv hb hix hc.2 hc'.1.1.1.1.2 hc'.1.1.1.2 hc'.1.1.2 hc'.1.2
                · cases hq
              · cases hq
            · cases hq
          split at h
          · rename_i hp
            obtain ⟨ea, h1, h⟩ := bnd h
            obtain ⟨ty, h2, h⟩ := bnd h
            cases h
            exact s_isi1 G hc.2 hp (ih.e _ _ _ h1 X W G).1 h2
          · cases h
        · cases h
        · split at h
          · rename_i a hl
            split at h
            · rename_i hr
              rw [Bool.and_eq_true] at hr
              obtain ⟨ea, h1, h⟩ := bnd h
              cases h
              unfold lrOf at hl
              split at hl
              · rename_i y p1 a' p3 hes
                split at hl
                · rename_i hxy
                  obtain ⟨rfl, rfl⟩ := hxy
                  cases hl
                  injection hes with e1 e2
                  subst e1 e2
                  exact s_lrv G hc.2 hr.1 hr.2 (ih.e _ _ _ h1 X W G).1
                · cases hl
              · cases hl
            · cases h
          obtain ⟨b, hb, h⟩ := bnd h
          obtain ⟨ees, h1, h⟩ := bnd h
          cases h
          obtain ⟨_, q2, _, q4, _⟩ := ih.es _ _ _ h1 X W G
          exact s_blt G hc.1 hc.2 hb q4 q2
    · cases h
  · rename_i n' elt tg iter ifs sc pos q
    cases q
    refine t_val ?_ (fun _ => rfl) rfl
    split at h
    · rename_i hb
      obtain ⟨xs, h1, h⟩ := bnd h
      obtain ⟨g, h2, h⟩ := bnd h
      obtain ⟨it, h3, h⟩ := bnd h
      simp only at h
      split at h
      · rename_i hc
        simp only [Bool.and_eq_true] at hc
        obtain ⟨ee, h4, h⟩ := bnd h
        obtain ⟨ec, h5, h⟩ := bnd h
        cases h
        have L : LcOk _ sc tg xs g := ⟨hb, h1, h2, fun x hx => by
          have := List.all_eq_true.mp hc.1.1.1 x hx
          simpa using this, fun i hi => by
          have := List.all_eq_true.mp hc.1.1.2 i hi
          rw [List.any_eq_true] at this
          obtain ⟨p, hp, e⟩ := this
          exact List.mem_map.mpr ⟨p, hp, by simpa using e⟩, s_nodup_tgt hc.2⟩
        obtain ⟨i1, i2⟩ := ih.i _ _ _ _ h3 X W G
        exact s_lc G L i2 i1 (fun s H C cl fp => (ih.e _ _ _ h4 _ E0 (G.blk sc s H C cl fp)).1) (fun s H C cl fp => ih.t _ _ _ h5 _ E0 (G.blk sc s H C cl fp))
      · cases h
    · cases h
  · cases h
theorem snd_b {n : Nat} (ih : Snd n) (c : TC) (o : BoolOp) (xs : List Expr) (e : E) (h : trB (n + 1) c o xs = some e) (X : Cx) (W : XK) (G : Good X W c) (pos : Pos) : PEm X W (.BoolOp o xs pos) e ∧ PWm X W (.BoolOp o xs pos) e := by
  unfold trB at h
  split at h
  · rename_i q; cases q
  · rename_i n' a q
    cases q
    obtain ⟨h1, h2, _⟩ := ih.e _ _ _ h X W G
    exact ⟨pe_one h1, t_one h2⟩
  · rename_i n' a b r q
    cases q
    obtain ⟨ea, h1, h⟩ := bnd h
    obtain ⟨eb, h2, h⟩ := bnd h
    cases h
    obtain ⟨a1, a2, _⟩ := ih.e _ _ _ h1 X W G
    obtain ⟨b1, b2⟩ := ih.b _ _ _ _ h2 X W G pos
    exact ⟨s_and a1 b1, t_and a2 b2⟩
  · rename_i n' a b q
    cases q
    split at h
    · obtain ⟨ea, h1, h⟩ := bnd h
      obtain ⟨eb, h2, h⟩ := bnd h
      cases h
      obtain ⟨a1, a2, _⟩ := ih.e _ _ _ h1 X W G
      obtain ⟨b1, b2, _⟩ := ih.e _ _ _ h2 X W G
      exact ⟨s_vor a1 b1, t_vor a2 b2⟩
    · obtain ⟨ea, h1, h⟩ := bnd h
      obtain ⟨eb, h2, h⟩ := bnd h
      cases h
      obtain ⟨a1, a2, _⟩ := ih.e _ _ _ h1 X W G
      obtain ⟨b1, b2⟩ := ih.b _ _ _ _ h2 X W G pos
      exact ⟨s_or a1 b1, t_or a2 b2⟩
  · rename_i n' a b r q
    cases q
    obtain ⟨ea, h1, h⟩ := bnd h
    obtain ⟨eb, h2, h⟩ := bnd h
    cases h
    obtain ⟨a1, a2, _⟩ := ih.e _ _ _ h1 X W G
    obtain ⟨b1, b2⟩ := ih.b _ _ _ _ h2 X W G pos
    exact ⟨s_or a1 b1, t_or a2 b2⟩
  · cases h
theorem snd_es {n : Nat} (ih : Snd n) (c : TC) (xs : List Expr) (es : Es) (h : trEs (n + 1) c xs = some es) (X : Cx) (W : XK) (G : Good X W c) : PA X xs (tS X.K X.mg W es) ∧ PA X xs (tO X.K X.mg W es) ∧ (∀ ms, PA X xs (tAr X.K X.mg W ms es)) ∧ xs.all isPlain = true ∧ es.len = xs.length := by
  unfold trEs at h
  split at h
  · rename_i q; cases q
  · cases h
    exact ⟨sS_nil, sO_nil, fun _ => sA_nil, rfl, rfl⟩
  · rename_i n' e es' q
    cases q
    split at h
    · rename_i hp
      obtain ⟨ee, h1, h⟩ := bnd h
      obtain ⟨ees, h2, h⟩ := bnd h
      cases h
      have he := (ih.e _ _ _ h1 X W G).1
      obtain ⟨q1, q2, q3, q4, q5⟩ := ih.es _ _ _ h2 X W G
      exact ⟨sS_cons hp he q1, sO_cons hp he q2, fun ms => sA_cons hp he q3, by rw [List.all_cons, hp, q4]; rfl, by simp [Es.len, q5]⟩
    · cases h
theorem snd_o {n : Nat} (ih : Snd n) (c : TC) (x : Option Expr) (e : E) (h : trO (n + 1) c x = some e) (X : Cx) (W : XK) (G : Good X W c) : OpOk X W x e := by
  cases x with
  | none =>
    simp only [trO, Option.some.injEq] at h
    exact h.symm
  | some x' =>
    simp only [trO] at h
    split at h
    · cases h
    · rename_i hr
      exact ⟨(ih.e _ _ _ h X W G).1, fun e' => hr (by rw [h, e'])⟩
theorem snd_t {n : Nat} (ih : Snd n) (c : TC) (xs : List Expr) (e : E) (h : trT (n + 1) c xs = some e) (X : Cx) (W : XK) (G : Good X W c) : PTs X xs (tT X.K X.mg W e) := by
  unfold trT at h
  split at h
  · rename_i q; cases q
  · cases h
    refine ⟨fun pins s σ H Q I ⟨Hs, m, R, hq⟩ => pts_nil.run pins s σ H Q I ?_⟩
    exact hq Hs H R Fram.refl
  · rename_i n' x q
    cases q
    exact pts_one (ih.e _ _ _ h X W G).2.1
  · cases h
theorem snd_i {n : Nat} (ih : Snd n) (c : TC) (tg x : Expr) (it : Rc.It) (h : trI (n + 1) c tg x = some it) (X : Cx) (W : XK) (G : Good X W c) : PI X tg x (tI X.K X.mg W it) ∧ isPlain x = true := by
  simp only [trI] at h
  split at h
  · rename_i x' p es pos
    have plain : (trE n c (.Call (.Name x' p) es [] pos)).bind (fun e => some (Rc.It.sq e)) = some it → PI X tg (.Call (.Name x' p) es [] pos) (tI X.K X.mg W it) ∧ isPlain (.Call (.Name x' p) es [] pos) = true := fun h' => by
      obtain ⟨e, h1, h'⟩ := bnd h'
      cases h'
      exact ⟨s_sq (ih.e _ _ _ h1 X W G).1, rfl⟩
    split at h
    · rename_i hc
      simp only [Bool.and_eq_true] at hc
      split at h
      · rename_i hx
        subst hx
        refine ⟨?_, rfl⟩
        split at h
        · obtain ⟨ea, h1, h⟩ := bnd h
          cases h
          obtain ⟨a1, _, a3⟩ := ih.e _ _ _ h1 X W G
          exact s_rg1 G hc.1.1.2 a3 a1
        · obtain ⟨ea, h1, h⟩ := bnd h
          obtain ⟨eb, h2, h⟩ := bnd h
          cases h
          obtain ⟨a1, _, a3⟩ := ih.e _ _ _ h1 X W G
          obtain ⟨b1, _, b3⟩ := ih.e _ _ _ h2 X W G
          exact s_rg2 G hc.1.1.2 a3 b3 a1 b1
        · cases h
      split at h
      · rename_i hx
        subst hx
        refine ⟨?_, rfl⟩
        split at h
        · split at h
          · rename_i ht
            obtain ⟨ea, h1, h⟩ := bnd h
            obtain ⟨eb, h2, h⟩ := bnd h
            cases h
            obtain ⟨a1, _, a3⟩ := ih.e _ _ _ h1 X W G
            obtain ⟨b1, _, b3⟩ := ih.e _ _ _ h2 X W G
            cases tg <;> simp [isTup] at ht
            exact s_zp G hc.1.1.2 a3 b3 a1 b1
          · split at h
            · obtain ⟨ea, h1, h⟩ := bnd h
              obtain ⟨eb, h2, h⟩ := bnd h
              cases h
              obtain ⟨a1, _, a3⟩ := ih.e _ _ _ h1 X W G
              obtain ⟨b1, _, b3⟩ := ih.e _ _ _ h2 X W G
              exact s_zn G hc.1.1.2 a3 b3 a1 b1
            · cases h
        · split at h
          · rename_i ht
            obtain ⟨ea, h1, h⟩ := bnd h
            obtain ⟨eb, h2, h⟩ := bnd h
            obtain ⟨ed, h3, h⟩ := bnd h
            cases h
            obtain ⟨a1, _, a3⟩ := ih.e _ _ _ h1 X W G
            obtain ⟨b1, _, b3⟩ := ih.e _ _ _ h2 X W G
            obtain ⟨d1, _, d3⟩ := ih.e _ _ _ h3 X W G
            cases tg <;> simp [isTup] at ht
            exact s_zp3 G hc.1.1.2 a3 b3 d3 a1 b1 d1
          · cases h
        · cases h
      split at h
      · rename_i hx
        subst hx
        refine ⟨?_, rfl⟩
        split at h
        · split at h
          · rename_i ht
            obtain ⟨ea, h1, h⟩ := bnd h
            cases h
            obtain ⟨a1, _, a3⟩ := ih.e _ _ _ h1 X W G
            cases tg <;> simp [isTup] at ht
            exact s_en G hc.1.1.2 a3 a1
          · cases h
        · cases h
      split at h
      · rename_i hx
        subst hx
        refine ⟨?_, rfl⟩
        split at h
        · obtain ⟨ea, h1, h⟩ := bnd h
          cases h
          obtain ⟨a1, _, a3⟩ := ih.e _ _ _ h1 X W G
          exact s_rv G hc.1.1.2 a3 a1
        · cases h
      · exact plain h
    · exact plain h
  · split at h
    · rename_i hp
      obtain ⟨e, h1, h⟩ := bnd h
      cases h
      exact ⟨s_sq (ih.e _ _ _ h1 X W G).1, hp⟩
    · cases h
theorem snd : ∀ n, Snd n
  | 0 => snd_zero
  | n + 1 => ⟨snd_e (snd n), snd_b (snd n), snd_es (snd n), snd_o (snd n), snd_t (snd n), snd_i (snd n)⟩
end
end Rc

set_option maxRecDepth 100000
set_option maxHeartbeats 4000000
namespace Rc
open PySem L2
def isLC : Expr → Bool
  | .ListComp .. => true
  | _ => false
def isDisp : Expr → Bool
  | .Tuple .. => true
  | .List .. => true
  | _ => false
/-- may name = [..] swap its stores? -/
def swapB (sc : Scope) (e : Expr) (y : Str) (py : Pos) : Bool := match e with
  | .ListComp _ _ s pos => (match sc.names.lookup y with | some .local => true | _ => false) && py.line == pos.line && !(s.names.any fun (n, k) => n == y && (k == .local || k == .cell))
  | _ => false
def itVars : Rc.It → List Nat
  | .sq e => e.vr.toList
  | .rg _ => []
  | .rg2 _ _ => []
  | .zp a b => a.vr.toList ++ b.vr.toList
  | .zn a b => a.vr.toList ++ b.vr.toList
  | .zp3 a b c => a.vr.toList ++ (b.vr.toList ++ c.vr.toList)
  | .en a => a.vr.toList
  | .rv a => a.vr.toList
/-- the names whose stores are swapped, or none -/
def swp (sc : Scope) (ts vs : List Expr) : Option (Option (List Str)) :=
  if !(ts.length == 2 || ts.length == 3) || vs.length != ts.length then some none
  else if vs.any (fun | .Starred .. => true | _ => false) then some none
  else
    let line := (ts.head?.map (·.pos.line)).getD 0
    let names := ts.filterMap fun
      | .Name id pos => if sc.names.lookup id == some .local && pos.line == line then some id else none
      | _ => none
    if names.length != ts.length || names.eraseDups.length != names.length then some none
    else if vs.all (foldedForSure 8) then some none
    else if vs.all (constantsAlone 8) then none
    else some (some names)
def mthOf (x : Str) (n : Nat) : Option Mth :=
  if x = "append" ∧ n = 1 then some .append else if x = "insert" ∧ n = 2 then some .insert else if x = "pop" ∧ n = 0 then some .pop else if x = "pop" ∧ n = 1 then some .popAt
  else if x = "extend" ∧ n = 1 then some .extend else if x = "clear" ∧ n = 0 then some .clear else none
def inK (c : TC) (p : Pos) (b : Ss) : Ss := match c.kl.lookup p.line with
  | some (k :: ks, _) => .cons (.blk [] b (k :: ks)) .nil
  | _ => b
def outK (c : TC) (p : Pos) (s : S) : S := match c.kl.lookup p.line with
  | some ([], []) => s
  | some (ks, r) => .blk ks (.cons s .nil) r
  | none => s
def stPos : Stmt → Option Pos
  | .For _ _ _ _ p => some p
  | .While _ _ _ p => some p
  | .If _ _ _ p => some p
  | .Return _ p => some p
  | _ => none
def klS (c : TC) (x : Stmt) (s : S) : S := match stPos x with
  | some p => outK c p s
  | none => s
mutual
def trS : Nat → TC → List Nat → List Str → Stmt → Option S
  | 0, _, _, _, _ => none
  | n + 1, c, pm, xc, st => match st with
    | .Assign [.Name y py] e _ => if isLoc c.sc y = true then (ixOf c.N y).bind fun i => if i ∈ pm then none else (trE n c e).bind fun e' => some (.asg i e') else none
    | .Assign [.Tuple ts k tp] (.Tuple vs k2 vp) _ => (nameList ts).bind fun xs => (tgtIx c.N xs).bind fun g => if xs.all (isLoc c.sc) && g.all (fun i => !(pm.contains i)) && decide (g.length ≠ 1) && decide g.Nodup && decide (g.length ≤ 100) then
        (trEs n c vs).bind fun es => (match swp c.sc ts vs with
          | some none => some (.par g es)
          | some (some names) => if names = xs then some (.par g es) else none
          | none => none) else none
    | .Assign [.Tuple ts k tp] e _ => if isDisp e then none else (nameList ts).bind fun xs => (tgtIx c.N xs).bind fun g => if xs.all (isLoc c.sc) && g.all (fun i => !(pm.contains i)) && decide (g.length ≠ 1) then
        (trE n c e).bind fun e' => some (.unp g e') else none
    | .Assign [.Subscript (.Name x _) i _] e _ => if okName x && isVis c.sc x && !(isSlice i) && !(isLC e) then (ixOf c.N x).bind fun k => (trE n c i).bind fun i' => (trE n c e).bind fun e' => some (.sti k i' e') else none
    | .Expr (.Call (.Attribute (.Name x p) mn ap) es [] q) sp => if okName x && isVis c.sc x && (ap.endLine == q.line) && decide (es.length < 20) then (ixOf c.N x).bind fun i => (mthOf mn es.length).bind fun k => (trEs n c es).bind fun es' => some (.mth i k es') else none
    | .Expr e _ => if isLC e then none else (trE n c e).bind fun e' => some (.exp e')
    | .Return (some e) _ => (trE n c e).bind fun e' => (match e' with
        | .var i => if i ∈ pm then some (.ret (.var i)) else some (.retv i)
        | e' => some (.ret e'))
    | .Return none _ => some .retn
    | .If t a b _ => (trE n c t).bind fun t' => (trSs n c pm xc a).bind fun a' => (trSs n c pm xc b).bind fun b' => some (.sif t' a' b')
    | .For tg it b [] pos => (tgtNames tg).bind fun xs => (tgtIx c.N xs).bind fun g => (trI n c tg it).bind fun it' => if xs.all (isLoc c.sc) && g.all (fun i => !((itVars it' ++ pm).contains i)) && (!(isTup tg) || decide (g.length ≠ 1)) then
        (trSs n c (itVars it' ++ pm) xc b).bind fun b' => some (.sfor g it' (inK c pos b')) else none
    | .While t b [] pos => (trE n c t).bind fun t' => (trSs n c pm xc b).bind fun b' => some (.whl t' (inK c pos b'))
    | .Raise (some (.Call (.Name x _) [.Constant (.str _) _ _] [] _)) none _ => if okName x && isGl c.sc x && xc.contains x then some (.rais x) else none
    | .Break _ => some .brk
    | .Continue _ => some .cnt
    | .Pass _ => some .pass
    | _ => none
def trSs : Nat → TC → List Nat → List Str → List Stmt → Option Ss
  | 0, _, _, _, _ => none
  | n + 1, _, _, _, [] => some .nil
  | n + 1, c, pm, xc, s :: ss => (trS n c pm xc s).bind fun s' => (trSs n c pm xc ss).bind fun ss' => some (.cons (klS c s s') ss')
end
end Rc

set_option maxRecDepth 100000
set_option maxHeartbeats 4000000
namespace Rc
open PySem L2
variable [Tbs]
structure FGood (X : Cx) (W : XK) (c : TC) (xc : List Str) : Prop where
  g : Good X W c
  kind : c.sc.kind = .function
  fn : ∀ x, X.fn x = true
  pass : PassesOwn (model X.prog X.w) X.A X.env X.xe
  xc : ∀ x ∈ xc, ∃ C, X.mg x = some (.ref C) ∧ PySem.W.excIn X.K C [.type "ValueError", .type "Exception", .type "BaseException", .type "object"] "ValueError.__new__" = true ∧ PySem.W.keepIn X.K (.ref C) = true ∧ Raises X (.ref C)
  tk : Takes X fun cls d _ H => W cls d H

def KeepP (pm : List Nat) (σ σ' : L2.St) : Prop := ∀ i ∈ pm, σ'[i]? = σ[i]?
def FwP (K : PySem.W.Frag) (pm : List Nat) (σ : L2.St) (Hs H : Hp) (m : Env) (Dn : Ends) : Fw → Prop
  | .nx m' => ∀ σ' Hs' H', REnv K Hs' H' σ' m' → Fram Hs H (Own σ m) Hs' H' (Own σ' m') → KeepP pm σ σ' → Dn.nx σ' H'
  | .bk m' => ∀ σ' Hs' H', REnv K Hs' H' σ' m' → Fram Hs H (Own σ m) Hs' H' (Own σ' m') → KeepP pm σ σ' → Dn.bk σ' H'
  | .ct m' => ∀ σ' Hs' H', REnv K Hs' H' σ' m' → Fram Hs H (Own σ m) Hs' H' (Own σ' m') → KeepP pm σ σ' → Dn.ct σ' H'
  | .rt fr d m' => ∀ v σ' Hs' H', REnv K Hs' H' σ' m' → Fram Hs H (Own σ m) Hs' H' (OV (Own σ' m') fr v) → KeepP pm σ σ' → RV K Hs' H' (Own σ' m') fr v d → Dn.rt v H'
def tSt (K : PySem.W.Frag) (mg : Str → Option Value) (W : XK) (pm : List Nat) (s : S) : TS := fun Dn σ H => ∃ Hs m, REnv K Hs H σ m ∧ PostR (FwP K pm σ Hs H m Dn) (XcE mg W σ H m) (exS s m)
def tSts (K : PySem.W.Frag) (mg : Str → Option Value) (W : XK) (pm : List Nat) (s : Ss) : TS := fun Dn σ H => ∃ Hs m, REnv K Hs H σ m ∧ PostR (FwP K pm σ Hs H m Dn) (XcE mg W σ H m) (exSs s m)
theorem PS.imp {X : Cx} {e : Stmt} {t t' : TS} (h : PS X e t) (i : ∀ Dn σ H, t' Dn σ H → t Dn σ H) : PS X e t' := ⟨fun pins s σ H Dn I q => h.run pins s σ H Dn I (i Dn σ H q)⟩
theorem PSs.imp {X : Cx} {e : List Stmt} {t t' : TS} (h : PSs X e t) (i : ∀ Dn σ H, t' Dn σ H → t Dn σ H) : PSs X e t' := ⟨fun pins s σ H Dn I q => h.run pins s σ H Dn I (i Dn σ H q)⟩
section
variable {K : PySem.W.Frag} {mg : Str → Option Value} {W : XK} {Hs H Hs' H' Hs1 H1 : Hp} {σ σ1 : L2.St} {m m' m1 : Env} {pm : List Nat}
theorem KeepP.refl : KeepP pm σ σ := fun _ _ => rfl
theorem KeepP.trans {σ2 : L2.St} (a : KeepP pm σ σ1) (b : KeepP pm σ1 σ2) : KeepP pm σ σ2 := fun i h => (b i h).trans (a i h)
theorem KeepP.set {i : Nat} {v : Option V} (h : i ∉ pm) : KeepP pm σ (σ.set i v) := fun j hj => List.getElem?_set_ne (fun e => h (by rw [e]; exact hj))
theorem FwP.next {Dn : Ends} {f : Fw} (F : Fram Hs H (Own σ m) Hs1 H1 (Own σ1 m1)) (k : KeepP pm σ σ1) (h : FwP K pm σ Hs H m Dn f) : FwP K pm σ1 Hs1 H1 m1 Dn f := by
  cases f with
  | nx m' => exact fun σ' Hs' H' a b c => h σ' Hs' H' a (F.trans b) (k.trans c)
  | bk m' => exact fun σ' Hs' H' a b c => h σ' Hs' H' a (F.trans b) (k.trans c)
  | ct m' => exact fun σ' Hs' H' a b c => h σ' Hs' H' a (F.trans b) (k.trans c)
  | rt fr d m' => exact fun v σ' Hs' H' a b c e => h v σ' Hs' H' a (F.trans b) (k.trans c) e
theorem XcE.next' {x : Str} (F : Fram Hs H (Own σ m) Hs1 H1 (Own σ1 m1)) (h : XcE mg W σ H m x) : XcE mg W σ1 H1 m1 x := fun C H' hm e => h C H' hm (ExF.trans F e)
/-- a new object to a name -/
theorem REnv.setT (R : REnv K Hs H σ m) {i : Nat} {a : Addr} {o : HO} {d : D} (h1 : H a = some o) (h2 : Cont K Hs o d) (h3 : Hs a = none) (h4 : ¬ Own σ m a) :
    REnv K Hs H (σ.set i (some (.ref a))) (m.set i (some (true, d))) ∧ ∀ b, Own (σ.set i (some (.ref a))) (m.set i (some (true, d))) b → Own σ m b ∨ b = a := by
  have cs : ∀ j p, geti (m.set i (some (true, d))) j = some p → (j = i ∧ p = (true, d) ∧ j < m.length) ∨ (j ≠ i ∧ geti m j = some p) := fun j p z => by
    by_cases hj : j = i
    · subst hj
      have lt := geti_lt z
      rw [List.length_set] at lt
      rw [geti_set_same lt] at z
      cases z
      exact .inl ⟨rfl, rfl, lt⟩
    · rw [geti_set_ne (Ne.symm hj)] at z; exact .inr ⟨hj, z⟩
  have at' : ∀ j, j ≠ i → (σ.set i (some (.ref a)))[j]? = σ[j]? := fun j hj => List.getElem?_set_ne (Ne.symm hj)
  have self : i < m.length → (σ.set i (some (.ref a)))[i]? = some (some (.ref a)) := fun h => List.getElem?_set_self (by rw [R.len]; exact h)
  refine ⟨⟨R.sub, by simp [R.len], fun j x z => ?_, fun j x z => ?_, fun j k x y b z1 z2 z3 z4 => ?_⟩, fun b ⟨j, x, z1, z2⟩ => ?_⟩
  · rcases cs j _ z with ⟨_, e, _⟩ | ⟨hj, z⟩
    · cases e
    · rw [at' j hj]; exact R.val j x z
  · rcases cs j _ z with ⟨rfl, e, lt⟩ | ⟨hj, z⟩
    · cases e
      exact ⟨a, o, self lt, h1, h2, h3⟩
    · rw [at' j hj]; exact R.own j x z
  · rcases cs j _ z1 with ⟨rfl, e1, lt⟩ | ⟨hj, q1⟩
    · rcases cs k _ z2 with ⟨rfl, e2, _⟩ | ⟨hk, q2⟩
      · rfl
      · rw [self lt] at z3; cases z3
        rw [at' k hk] at z4
        exact absurd ⟨k, y, z4, q2⟩ h4
    · rcases cs k _ z2 with ⟨rfl, e2, lt⟩ | ⟨hk, q2⟩
      · rw [self lt] at z4; cases z4
        rw [at' j hj] at z3
        exact absurd ⟨j, x, z3, q1⟩ h4
      · rw [at' j hj] at z3
        rw [at' k hk] at z4
        exact R.inj j k x y b q1 q2 z3 z4
  · rcases cs j _ z2 with ⟨rfl, e, lt⟩ | ⟨hj, q⟩
    · rw [self lt] at z1; cases z1
      exact .inr rfl
    · rw [at' j hj] at z1
      exact .inl ⟨j, x, z1, q⟩
/-- a result to a name -/
theorem set_res (R : REnv K Hs1 H1 σ m1) (F : Fram Hs H (Own σ m) Hs1 H1 (OV (Own σ m1) fr v)) (r : RV K Hs1 H1 (Own σ m1) fr v d) {i : Nat} :
    REnv K Hs1 H1 (σ.set i (some v)) (m1.set i (some (fr, d))) ∧ Fram Hs H (Own σ m) Hs1 H1 (Own (σ.set i (some v)) (m1.set i (some (fr, d)))) := by
  cases fr with
  | false =>
    obtain ⟨R', o⟩ := R.setF (i := i) r
    rw [OV_false] at F
    exact ⟨R', F.weak o⟩
  | true =>
    obtain ⟨a, o, rfl, h1, h2, h3, h4⟩ := r
    obtain ⟨R', ow⟩ := R.setT (i := i) h1 h2 h3 h4
    exact ⟨R', F.weak fun b hb => (ow b hb).elim .inl fun e => .inr ⟨rfl, by rw [e]⟩⟩
/-- the object of a name is changed -/
theorem REnv.updO (R : REnv K Hs H σ m) {i : Nat} {a : Addr} {o' : HO} {d d' : D} (h : geti m i = some (true, d)) (e : σ[i]? = some (some (.ref a))) (c : Cont K Hs o' d') :
    REnv K Hs (upd H a o') σ (m.set i (some (true, d'))) ∧ Fram Hs H (Own σ m) Hs (upd H a o') (Own σ (m.set i (some (true, d')))) := by
  have lt := geti_lt h
  obtain ⟨a', o, e', h1, h2, h3⟩ := R.own i d h
  rw [e] at e'; cases e'
  have cs : ∀ j p, geti (m.set i (some (true, d'))) j = some p → (j = i ∧ p = (true, d')) ∨ (j ≠ i ∧ geti m j = some p) := fun j p z => by
    by_cases hj : j = i
    · subst hj
      rw [geti_set_same lt] at z
      cases z
      exact .inl ⟨rfl, rfl⟩
    · rw [geti_set_ne (Ne.symm hj)] at z; exact .inr ⟨hj, z⟩
  have own : ∀ j x, geti (m.set i (some (true, d'))) j = some (true, x) → ∃ y, geti m j = some (true, y) := fun j x z => by
    rcases cs j _ z with ⟨rfl, _⟩ | ⟨_, q⟩
    · exact ⟨d, h⟩
    · exact ⟨x, q⟩
  refine ⟨⟨R.sub.chg h1 h2 h3, by simp [R.len], fun j x z => ?_, fun j x z => ?_, fun j k x y b z1 z2 z3 z4 => ?_⟩, ⟨Same.refl _, fun b u q n => ?_, fun b q => .inl q, fun b ⟨j, x, z1, z2⟩ => ?_⟩⟩
  · rcases cs j _ z with ⟨_, q⟩ | ⟨_, q⟩
    · cases q
    · exact R.val j x q
  · rcases cs j _ z with ⟨rfl, q⟩ | ⟨hj, q⟩
    · cases q
      exact ⟨a, o', e, upd_same, c, h3⟩
    · obtain ⟨b, u, q1, q2, q3⟩ := R.own j x q
      refine ⟨b, u, q1, ?_, q3⟩
      rw [upd_ne]
      · exact q2
      · rintro rfl
        exact hj (R.inj j i x d b q h q1 e)
  · obtain ⟨x', q1⟩ := own j x z1
    obtain ⟨y', q2⟩ := own k y z2
    exact R.inj j k x' y' b q1 q2 z3 z4
  · rw [upd_ne (fun z => n ⟨i, d, by rw [z]; exact e, h⟩)]; exact .inl q
  · obtain ⟨y, q⟩ := own j x z2
    exact .inl ⟨j, y, z1, q⟩
end
section
variable {X : Cx} {W : XK} {c : TC} {xc : List Str} {pm : List Nat}
abbrev PSm (X : Cx) (W : XK) (pm : List Nat) (x : Stmt) (s : S) : Prop := PS X x (tSt X.K X.mg W pm s)
abbrev PSsm (X : Cx) (W : XK) (pm : List Nat) (x : List Stmt) (s : Ss) : Prop := PSs X x (tSts X.K X.mg W pm s)
theorem plain_noswap {e : Expr} (h : isPlain e = true) (h2 : isLC e = false) (t : Option Expr) (l : Nat) (env : PySem.Env) : swapsWith e t l env = pure false := by
  cases e <;> simp [isPlain] at h <;> first | rfl | (simp [isLC] at h2)
/-- name = e, whatever the rule is -/
theorem asg_core {e' : E} {i : Nat} {Dn : Ends} {σ : L2.St} {H : Hp} (hi : i ∉ pm) (h : tSt X.K X.mg W pm (.asg i e') Dn σ H) : tAsg (tE X.K X.mg W e') (gName i) Dn σ H := by
  obtain ⟨Hs, m, R, h⟩ := h
  simp only [exS] at h
  show tE X.K X.mg W e' σ H fun x H1 => Dn.nx (σ.set i (some x)) H1
  refine ⟨Hs, m, R, h.bind.imp (fun p hp v Hs1 H1 R1 F1 r => ?_) fun _ z => z⟩
  have hp : ∀ σ' Hs' H', REnv X.K Hs' H' σ' ((tkm e' p.2).set i (some (takeV e' p.1))) → Fram Hs H (Own σ m) Hs' H' (Own σ' ((tkm e' p.2).set i (some (takeV e' p.1)))) → KeepP pm σ σ' → Dn.nx σ' H' := hp
  rw [tkm_eq, takeV_eq] at hp
  unfold RR at r
  cases q : e'.vr with
  | none =>
    rw [q] at hp r
    obtain ⟨R2, F2⟩ := set_res (i := i) R1 F1 r
    exact hp _ _ _ R2 F2 (KeepP.set hi)
  | some j =>
    rw [q] at hp r
    obtain ⟨e1, f, e2⟩ := r
    obtain ⟨Hs2, R2, F2, r2, _⟩ := leak_ok R1 e1 e2
    obtain ⟨R3, o3⟩ := R2.setF (i := i) r2
    exact hp _ _ _ R3 (((F1.weak fun b h => .inl h).trans F2).weak o3) (KeepP.set hi)
theorem st_asg (G : FGood X W c xc) {y : Str} {i : Nat} {e : Expr} {e' : E} {py pos : Pos} (hl : isLoc c.sc y = true) (hy : ixOf c.N y = some i) (hi : i ∉ pm) (he : PEm X W e e') (hs : swapsWith e (some (.Name y py)) pos.line X.env = pure false) : PSm X W pm (.Assign [.Name y py] e pos) (.asg i e') :=
  PS.imp (ps_set G.g.nd (by rw [G.g.N]; exact ix_of hy) (by rw [G.g.sc]; exact loc_of hl) he hs (.inl (G.fn y))) fun Dn σ H h => asg_core hi h
end
end Rc

set_option maxRecDepth 100000
set_option maxHeartbeats 4000000
namespace Rc
open PySem L2
variable [Tbs]
theorem swapped_eq {env : PySem.Env} (hk : env.blockKind = .function) (ts vs : List Expr) (k k2 : Nat) (tp vp : Pos) (r : Option (List Str)) (h : swp env.scope ts vs = some r) : swappedStores [.Tuple ts k tp] (.Tuple vs k2 vp) env = pure r := by
  unfold swp at h
  unfold swappedStores
  simp only [hk]
  have e0 : (ScopeKind.function != ScopeKind.function) = false := by decide
  have ek : ∀ id, env.kindOf id = env.scope.names.lookup id := fun _ => rfl
  simp only [e0, Bool.or_false, ek]
  simp only at h
  split at h
  · rename_i hc
    refine Eq.trans (if_pos hc) ?_
    cases h; rfl
  rename_i hc
  refine Eq.trans (if_neg hc) ?_
  split at h
  · rename_i hc
    refine Eq.trans (if_pos hc) ?_
    cases h; rfl
  rename_i hc
  refine Eq.trans (if_neg hc) ?_
  split at h
  · rename_i hc
    refine Eq.trans (if_pos hc) ?_
    cases h; rfl
  rename_i hc
  refine Eq.trans (if_neg hc) ?_
  split at h
  · rename_i hc
    refine Eq.trans (if_pos hc) ?_
    cases h; rfl
  rename_i hc
  refine Eq.trans (if_neg hc) ?_
  split at h
  · cases h
  rename_i hc
  refine Eq.trans (if_neg hc) ?_
  cases h
  rfl
theorem swp_local {sc : Scope} {ts vs : List Expr} {names : List Str} (h : swp sc ts vs = some (some names)) : (ts.length = 2 ∨ ts.length = 3) ∧ vs.length = ts.length ∧ ∀ x ∈ names, sc.names.lookup x = some .local := by
  unfold swp at h
  simp only at h
  split at h
  · cases h
  rename_i hc
  split at h
  · cases h
  split at h
  · cases h
  split at h
  · cases h
  split at h
  · cases h
  simp only [Option.some.injEq] at h
  subst h
  refine ⟨?_, ?_, fun x hx => ?_⟩
  · by_cases q : ts.length = 2
    · exact .inl q
    · right
      simp [q] at hc
      exact hc.1
  · simp at hc
    exact hc.2
  · rw [List.mem_filterMap] at hx
    obtain ⟨e, _, hx⟩ := hx
    cases e <;> simp only [reduceCtorEq] at hx
    split at hx
    · rename_i q
      simp only [Option.some.injEq] at hx
      subst hx
      rw [Bool.and_eq_true] at q
      simpa using q.1
    · cases hx
section
variable {X : Cx} {W : XK} {c : TC} {xc : List Str} {pm : List Nat}
theorem tup_noswap {e : Expr} (h : isPlain e = true) {ts : List Expr} {k : Nat} {tp : Pos} (l : Nat) (env : PySem.Env) : swapsWithSole [.Tuple ts k tp] e l env = pure false := by
  cases e <;> simp [isPlain] at h <;> rfl
theorem tup_nostores {e : Expr} (h : isDisp e = false) {ts : List Expr} {k : Nat} {tp : Pos} (env : PySem.Env) : swappedStores [.Tuple ts k tp] e env = pure none := by
  cases e <;> simp [isDisp] at h <;> rfl
theorem st_unp (G : FGood X W c xc) {ts : List Expr} {k : Nat} {tp pos : Pos} {xs : List Str} {g : List Nat} {e : Expr} {e' : E} (h1 : nameList ts = some xs) (h2 : tgtIx c.N xs = some g) (h3 : ∀ x ∈ xs, isLoc c.sc x = true) (hg : ∀ i ∈ g, i ∉ pm) (hl : g.length ≠ 1)
    (hd : isDisp e = false) (hp : isPlain e = true) (he : PEm X W e e') : PSm X W pm (.Assign [.Tuple ts k tp] e pos) (.unp g e') := by
  have st : ∀ x ∈ xs, StOk X x := fun x hx => ⟨by show Loc X.env.scope x; rw [G.g.sc]; exact loc_of (h3 x hx), .inl (G.fn x)⟩
  refine PS.imp (ps_asg he (pg_many (k := k) (pos := tp) G.g.N G.g.nd G.g.calm h1 h2 st hl) (tup_noswap hp _ _) (tup_nostores hd _)) fun Dn σ H ⟨Hs, m, R, h⟩ => ?_
  simp only [exS] at h
  refine stepT R h fun p v Hs1 H1 hp R1 F1 r => ?_
  obtain ⟨m2, hb, hp⟩ := PostR.ofO hp.bind
  refine ⟨Hs1, _, p.1.2, m2, R1, r, hb, fun σ' R' o k' => ?_⟩
  have hp : ∀ σ' Hs' H', REnv X.K Hs' H' σ' m2 → Fram Hs H (Own σ m) Hs' H' (Own σ' m2) → KeepP pm σ σ' → Dn.nx σ' H' := hp
  exact hp σ' Hs1 H1 R' (F1.weak o) fun i hi => k' i fun z => hg i z hi
theorem fin_par {g : List Nat} {p : List D × Env} {Dn : Ends} {σ : L2.St} {Hs H Hs1 H1 : Hp} {m : Env} {vs : List V} (hg : ∀ i ∈ g, i ∉ pm) (hp : PostR (FwP X.K pm σ Hs H m Dn) (XcE X.mg W σ H m) (if p.1.length = g.length then Res.ok (Fw.nx ((g.zip p.1).foldl (fun m q => m.set q.1 (some (false, q.2))) p.2)) else .bad))
    (R1 : REnv X.K Hs1 H1 σ p.2) (F1 : Fram Hs H (Own σ m) Hs1 H1 (Own σ p.2)) (r : RpA X.K Hs1 vs p.1) : vs.length = g.length ∧ Dn.nx ((g.zip vs).foldl (fun σ p => σ.set p.1 (some p.2)) σ) H1 := by
  split at hp
  · rename_i hl
    obtain ⟨R2, o2, k2⟩ := fold_set (g := g) r R1
    refine ⟨by rw [r.length]; exact hl, ?_⟩
    have hp : ∀ σ' Hs' H', REnv X.K Hs' H' σ' ((g.zip p.1).foldl (fun m q => m.set q.1 (some (false, q.2))) p.2) → Fram Hs H (Own σ m) Hs' H' (Own σ' ((g.zip p.1).foldl (fun m q => m.set q.1 (some (false, q.2))) p.2)) → KeepP pm σ σ' → Dn.nx σ' H' := hp
    exact hp _ Hs1 H1 R2 (F1.weak o2) fun i hi => k2 i fun z => hg i z hi
  · exact hp.elim
theorem blk_fn (G : FGood X W c xc) : X.env.blockKind = .function := by
  unfold PySem.Env.blockKind
  rw [G.g.sc, G.kind]; rfl
theorem st_par (G : FGood X W c xc) {ts vs : List Expr} {k k2 : Nat} {tp vp pos : Pos} {xs : List Str} {g : List Nat} {es : Es} {r : Option (List Str)} (h1 : nameList ts = some xs) (h2 : tgtIx c.N xs = some g) (h3 : ∀ x ∈ xs, isLoc c.sc x = true) (hg : ∀ i ∈ g, i ∉ pm) (hl : g.length ≠ 1) (hnd : g.Nodup)
    (hs : swp c.sc ts vs = some r) (hr : ∀ names, r = some names → names = xs) (he : PA X vs (tS X.K X.mg W es)) (hlen : g.length ≤ 100) : PSm X W pm (.Assign [.Tuple ts k tp] (.Tuple vs k2 vp) pos) (.par g es) := by
  have st : ∀ x ∈ xs, StOk X x := fun x hx => ⟨by show Loc X.env.scope x; rw [G.g.sc]; exact loc_of (h3 x hx), .inl (G.fn x)⟩
  have hsw := swapped_eq (blk_fn G) ts vs k k2 tp vp r (by rw [G.g.sc]; exact hs)
  have hgl : xs.length = g.length := tgtIx_names h2
  cases r with
  | none =>
    refine PS.imp (ps_asg (pe_tup he) (pg_many (k := k) (pos := tp) G.g.N G.g.nd G.g.calm h1 h2 st hl) (tup_noswap rfl _ _) hsw) fun Dn σ H ⟨Hs, m, R, h⟩ => ?_
    simp only [exS] at h
    show tS X.K X.mg W es σ H fun vs H1 => vs.length ≤ sizeLine ∧ ∀ p, H1 p = none → gM X.K g (.ref p) σ (upd H1 p (.tup vs)) Dn.nx
    refine ⟨Hs, m, R, h.bind.imp (fun p hp vs Hs1 H1 R1 F1 r => ?_) fun _ z => z⟩
    split at hp
    · rename_i hln
      refine ⟨by rw [r.length, hln]; exact Nat.le_of_lt (small1000 (by omega)), fun q n => ?_⟩
      have key := fin_tup (e := .dct) (m := m) (m1 := p.2) (Hs := Hs) (H := H) (Q := fun v H' => gM X.K g v σ H' Dn.nx) rfl (fun v Hs' H' R' F' r' => ?_) R1 F1 r q n
      · exact key
      · rw [OV_false] at F'
        have hb : bindT g (.tuple p.1) p.2 = some ((g.zip p.1).foldl (fun m q => m.set q.1 (some (false, q.2))) p.2) := by
          cases g with
          | nil => simp only [bindT]; rw [if_pos hln]
          | cons i g =>
            cases g with
            | nil => exact absurd rfl hl
            | cons j g => simp only [bindT]; rw [if_pos hln]
        refine ⟨Hs', p.2, .tuple p.1, _, R', r', hb, fun σ' R'' o k' => ?_⟩
        have hp : ∀ σ' Hs' H', REnv X.K Hs' H' σ' ((g.zip p.1).foldl (fun m q => m.set q.1 (some (false, q.2))) p.2) → Fram Hs H (Own σ m) Hs' H' (Own σ' ((g.zip p.1).foldl (fun m q => m.set q.1 (some (false, q.2))) p.2)) → KeepP pm σ σ' → Dn.nx σ' H' := hp
        exact hp σ' Hs' H' R'' (F'.weak o) fun i hi => k' i fun z => hg i z hi
    · exact hp.elim
  | some names =>
    have en := hr names rfl
    subst en
    obtain ⟨l1, l2, l3⟩ := swp_local hs
    have loc : ∀ x ∈ names, X.env.scope.names.lookup x = some .local := fun x hx => by rw [G.g.sc]; exact l3 x hx
    rcases l1 with l1 | l1
    · match ts, l1, h1 with
      | [t1, t2], _, h1 =>
        match vs, l2 with
        | [a, b], _ =>
          cases t1 <;> simp only [nameList, reduceCtorEq] at h1
          cases t2 <;> simp only [nameList, reduceCtorEq, Option.map_none, Option.map_some, Option.some.injEq] at h1
          rename_i x1 p1 x2 p2
          subst h1
          simp only [tgtIx] at h2
          obtain ⟨i1, hi1, hA⟩ := bnd h2
          rw [Option.map_eq_some_iff] at hA
          obtain ⟨g', hB, eg⟩ := hA
          obtain ⟨i2, hi2, hC⟩ := bnd hB
          simp only [Option.map_some, Option.some.injEq] at hC
          subst hC
          subst eg
          have hne : i1 ≠ i2 := by simp at hnd; exact hnd
          refine PS.imp (ps_par G.g.calm G.g.nd (by rw [G.g.N]; exact ix_of hi1) (by rw [G.g.N]; exact ix_of hi2) hne (loc _ (by simp)) (loc _ (by simp)) he hsw (tup_noswap rfl _ _)) fun Dn σ H ⟨Hs, m, R, h⟩ => ?_
          simp only [exS] at h
          refine ⟨Hs, m, R, h.bind.imp (fun p hp vs Hs1 H1 R1 F1 r => ?_) fun _ z => z⟩
          obtain ⟨hl, q⟩ := fin_par (W := W) hg hp R1 F1 r
          match vs, hl, q with
          | [v1, v2], _, q => exact ⟨v1, v2, rfl, q⟩
    · match ts, l1, h1 with
      | [t1, t2, t3], _, h1 =>
        match vs, l2 with
        | [a, b, d], _ =>
          cases t1 <;> simp only [nameList, reduceCtorEq] at h1
          cases t2 <;> simp only [nameList, reduceCtorEq, Option.map_none, Option.map_some, Option.some.injEq] at h1
          cases t3 <;> simp only [nameList, reduceCtorEq, Option.map_none, Option.map_some, Option.some.injEq] at h1
          rename_i x1 p1 x2 p2 x3 p3
          subst h1
          simp only [tgtIx] at h2
          obtain ⟨i1, hi1, hA⟩ := bnd h2
          rw [Option.map_eq_some_iff] at hA
          obtain ⟨g', hB, eg⟩ := hA
          obtain ⟨i2, hi2, hC⟩ := bnd hB
          rw [Option.map_eq_some_iff] at hC
          obtain ⟨g2, hD, eg2⟩ := hC
          obtain ⟨i3, hi3, hE⟩ := bnd hD
          simp only [Option.map_some, Option.some.injEq] at hE
          subst hE
          subst eg2
          subst eg
          have hne : (i1 ≠ i2 ∧ i1 ≠ i3) ∧ i2 ≠ i3 := by simp at hnd; exact hnd
          refine PS.imp (ps_par3 G.g.calm G.g.nd (by rw [G.g.N]; exact ix_of hi1) (by rw [G.g.N]; exact ix_of hi2) (by rw [G.g.N]; exact ix_of hi3) hne.1.1 hne.1.2 hne.2 (loc _ (by simp)) (loc _ (by simp)) (loc _ (by simp)) he hsw (tup_noswap rfl _ _)) fun Dn σ H ⟨Hs, m, R, h⟩ => ?_
          simp only [exS] at h
          refine ⟨Hs, m, R, h.bind.imp (fun p hp vs Hs1 H1 R1 F1 r => ?_) fun _ z => z⟩
          obtain ⟨hl, q⟩ := fin_par (W := W) hg hp R1 F1 r
          match vs, hl, q with
          | [v1, v2, v3], _, q => exact ⟨v1, v2, v3, rfl, q⟩

/-! ### name[i] = e, name.method(..) -/
theorem st_sti (G : FGood X W c xc) {x : Str} {k : Nat} {i e : Expr} {i' e' : E} {px p2 pos : Pos} (hx : okName x = true) (hv : isVis c.sc x = true) (hk : ixOf c.N x = some k) (hs : isSlice i = false) (hi : PEm X W i i') (he : PEm X W e e') (hp : isPlain e = true) (hlc : isLC e = false) :
    PSm X W pm (.Assign [.Subscript (.Name x px) i p2] e pos) (.sti k i' e') := by
  obtain ⟨n1, n2⟩ := okName_of hx
  have pn : PE X (.Name x px) (tVar k) := pe_var (i := k) (by rw [G.g.N]; exact ix_of hk) (by rw [G.g.sc]; exact vis_of hv) n1 n2
  have hw : swapsWithSole [.Subscript (.Name x px) i p2] e pos.line X.env = pure false := by cases e <;> simp [isPlain] at hp <;> first | rfl | (simp [isLC] at hlc)
  have hst : swappedStores [.Subscript (.Name x px) i p2] e X.env = pure none := by cases e <;> simp [isPlain] at hp <;> rfl
  have ha : ∀ v, assign (.Subscript (.Name x px) i p2) X.env v = (do
      let ov ← holding [v] (eval (.Name x px) X.env)
      let iv ← holding [v, ov] (eval i X.env)
      standAt p2
      holding [v, ov, iv] (setItem ov iv v)
      release [v, ov, iv] []) := by
    intro v
    cases i <;> simp [isSlice] at hs <;> rfl
  refine PS.imp (ps_asg he (pg_sub pn hi set_list ha) hw hst) fun Dn σ H ⟨Hs, m, R, h⟩ => ?_
  simp only [exS] at h
  refine stepT R h fun p v Hs1 H1 hp R1 F1 r => ?_
  cases hg : geti (tkm e' p.2) k with
  | none => simp only [hg] at hp; exact hp.elim
  | some q0 =>
    obtain ⟨f0, d0⟩ := q0
    cases f0 with
    | false => simp only [hg] at hp; exact hp.elim
    | true =>
      simp only [hg] at hp
      obtain ⟨a, o, ea, h1, h2, h3⟩ := R1.own k d0 hg
      refine ⟨.ref a, ea, ?_⟩
      have hp2 : PostR (FwP X.K pm σ Hs H m Dn) (XcE X.mg W σ H1 (tkm e' p.2)) _ := hp
      refine step R1 hp2 fun q iv Hs2 H2 hq R2 F2 b g => ?_
      cases hg2 : geti q.2 k with
      | none => simp only [hg2] at hq; exact hq.elim
      | some q1 =>
        obtain ⟨f1, d1⟩ := q1
        cases f1 with
        | false => simp only [hg2] at hq; exact hq.elim
        | true =>
          simp only [hg2] at hq
          obtain ⟨d', hd, hq⟩ := PostR.ofO hq.bind
          rw [Option.bind_eq_some_iff] at hd
          obtain ⟨kk, hkk, hd⟩ := hd
          have rb := R2.op b hkk
          have r2 : Rp X.K Hs2 v p.1.2 := Rp.mono F2.same _ _ r
          revert r2 hd
          generalize p.1.2 = pv
          intro hd r2
          unfold stiF at hd
          split at hd
          · rename_i xs j
            rw [Option.map_eq_some_iff] at hd
            obtain ⟨n, hn, rfl⟩ := hd
            obtain ⟨a', o', ea', k1, k2, k3⟩ := R2.own k _ hg2
            rw [ea] at ea'; cases ea'
            cases k2 with
            | lst rl =>
              rename_i ws
              refine ⟨a, ws, j, n, rfl, rb.int, k1, by rw [rl.length]; exact hn, ?_⟩
              obtain ⟨R3, F3⟩ := R2.updO hg2 ea (.lst (rl.set n r2))
              have hq : ∀ σ' Hs' H', REnv X.K Hs' H' σ' (q.2.set k (some (true, .list (xs.set n pv)))) → Fram Hs H (Own σ m) Hs' H' (Own σ' (q.2.set k (some (true, .list (xs.set n pv))))) → KeepP pm σ σ' → Dn.nx σ' H' := hq
              exact hq σ _ _ R3 ((F1.trans F2).trans F3) KeepP.refl
          · cases hd
theorem mthF_list {k : Mth} {d : D} {xs : List D} {d' : D} (h : mthF k d xs = some d') : ∃ ys, d = .list ys := by
  unfold mthF at h
  split at h <;> first | exact ⟨_, rfl⟩ | (cases h; done)
def mthN : Mth → Str
  | .append => "append" | .insert => "insert" | .pop => "pop" | .popAt => "pop" | .extend => "extend" | .clear => "clear"
theorem mthOf_name {x : Str} {n : Nat} {k : Mth} (h : mthOf x n = some k) : x = mthN k ∧ n = (match k with | .append => 1 | .insert => 2 | .pop => 0 | .popAt => 1 | .extend => 1 | .clear => 0) := by
  unfold mthOf at h
  repeat' split at h
  all_goals first | (cases h; done) | (simp only [Option.some.injEq] at h; subst h; rename_i hx; exact hx)
def rMth (K : PySem.W.Frag) (k : Mth) : V → List V → Hp → VK → Prop := fun x vs H Q => ∃ Hs a ws xs ds d', Same Hs H ∧ x = .ref a ∧ H a = some (.lst ws) ∧ RpA K Hs ws xs ∧ RpA K Hs vs ds ∧ mthF k (.list xs) ds = some d' ∧ ∀ u o, Cont K Hs o d' → Q u (upd H a o)
theorem rpa1 {K : PySem.W.Frag} {H : Hp} {vs : List V} {d : D} (h : RpA K H vs [d]) : ∃ v, vs = [v] ∧ Rp K H v d := by
  cases h with
  | cons r t => cases t; exact ⟨_, rfl, r⟩
theorem rpa2 {K : PySem.W.Frag} {H : Hp} {vs : List V} {d e : D} (h : RpA K H vs [d, e]) : ∃ v w, vs = [v, w] ∧ Rp K H v d ∧ Rp K H w e := by
  cases h with
  | cons r t =>
    cases t with
    | cons r2 t => cases t; exact ⟨_, _, rfl, r, r2⟩
theorem rpa0 {K : PySem.W.Frag} {H : Hp} {vs : List V} (h : RpA K H vs []) : vs = [] := by cases h; rfl
theorem rp_int {K : PySem.W.Frag} {H : Hp} {v : V} {i : Int} (h : Rp K H v (.int i)) : v = .int i := by
  cases h with
  | int => rfl
  | scr _ e => cases e
  | adr e => cases e
def Mth.id : Mth → String
  | .append => "list.append" | .insert => "list.insert" | .pop => "list.pop" | .popAt => "list.pop" | .extend => "list.extend" | .clear => "list.clear"
theorem mth_ok (k : Mth) : MtR X k.id (rMth X.K k) := by
  intro pins s σ H x vs v us Q I rx rv h
  obtain ⟨Hs, a, ws, xs, ds, d', sm, rfl, hH, rw', rd', hd, q⟩ := h
  unfold mthF at hd
  split at hd
  · rename_i y ea
    cases ea
    split at hd
    · rename_i hl
      cases hd
      obtain ⟨w, rfl, r1⟩ := rpa1 rd'
      exact mt_append pins s σ H _ _ v us Q I rx rv ⟨a, ws, w, rfl, rfl, hH, by rw [rw'.length]; exact hl, q _ _ (.lst (rw'.append (.cons r1 .nil)))⟩
    · cases hd
  · rename_i i y ea
    cases ea
    split at hd
    · rename_i hl
      cases hd
      obtain ⟨w, w2, rfl, r1, r2⟩ := rpa2 rd'
      refine mt_insert pins s σ H _ _ v us Q I rx rv ⟨a, ws, i, w2, rfl, by rw [rp_int r1], hH, by rw [rw'.length]; exact hl.2.2, hl.1, hl.2.1, ?_⟩
      rw [List.append_assoc]
      exact q _ _ (.lst ((rw'.take _).append ((RpA.cons r2 .nil).append (rw'.drop _))))
    · cases hd
  · rename_i ea
    cases ea
    split at hd
    · rename_i hl
      cases hd
      have e0 := rpa0 rd'
      subst e0
      have hlen : 0 < ws.length := by
        rw [rw'.length]
        cases xs with
        | nil => exact absurd rfl hl
        | cons _ _ => simp
      exact mt_pop pins s σ H _ _ v us Q I rx rv ⟨a, ws, ws[ws.length - 1], rfl, rfl, hH, List.getElem?_eq_getElem (by omega), q _ _ (.lst rw'.dropLast)⟩
    · cases hd
  · rename_i i ea
    cases ea
    split at hd
    · rename_i hl
      rw [Option.map_eq_some_iff] at hd
      obtain ⟨n, hn, rfl⟩ := hd
      obtain ⟨w, rfl, r1⟩ := rpa1 rd'
      rw [← rw'.length] at hn
      obtain ⟨h1, h2, _⟩ := ixN_seq hn
      exact mt_popAt pins s σ H _ _ v us Q I rx rv ⟨a, ws, i, n, ws[n], rfl, by rw [rp_int r1], hH, hl.1, hl.2, h1, List.getElem?_eq_getElem h2, q _ _ (.lst (rw'.erase n))⟩
    · cases hd
  · rename_i ys ea
    cases ea
    split at hd
    · rename_i hl
      cases hd
      obtain ⟨w, rfl, r1⟩ := rpa1 rd'
      cases r1 with
      | lst h1 h2 =>
        exact mt_extend pins s σ H _ _ v us Q I rx rv ⟨a, _, ws, _, rfl, rfl, hH, sm _ _ h1, by rw [rw'.length, h2.length]; exact hl, q _ _ (.lst (rw'.append h2))⟩
      | scr _ e => cases e
      | adr e => cases e
    · cases hd
  · rename_i ea
    cases ea
    cases hd
    have e0 := rpa0 rd'
    subst e0
    exact mt_clear pins s σ H _ _ v us Q I rx rv ⟨a, ws, rfl, rfl, hH, q _ _ (.lst .nil)⟩
  · cases hd
theorem few_plain {e : Expr} {es : List Expr} {cpos : Pos} {env : PySem.Env} (hp : (e :: es).all isPlain = true) (hl : (e :: es).length < 20) : ((backTo cpos (starEach (e :: es) env)).all (fun x => !x.1) && (backToKw cpos (keywordEach [] env)).all (fun x => x.1.isSome)
      && decide ((e :: es).length + ([] : List Keyword).length + (if ([] : List Keyword).isEmpty then 0 else 1) < 30)) = true := by
  have h1 : ∀ {es : List Expr}, es.all isPlain = true → (backTo cpos (starEach es env)).all (fun x => !x.1) = true := by
    intro es
    induction es with
    | nil => intro _; rfl
    | cons a es ih =>
      intro h
      rw [List.all_cons, Bool.and_eq_true] at h
      rw [plain_star h.1]
      show (true && (backTo cpos (starEach es env)).all (fun x => !x.1)) = true
      rw [ih h.2]; rfl
  rw [h1 hp]
  have h2 : (backToKw cpos (keywordEach [] env)).all (fun x => x.1.isSome) = true := rfl
  rw [h2]
  simp only [Bool.true_and, decide_eq_true_eq]
  have h3 : ([] : List Keyword).length = 0 := rfl
  have h4 : (if ([] : List Keyword).isEmpty then 0 else 1) = 0 := rfl
  omega
theorem st_mth (G : FGood X W c xc) {x mn : Str} {i : Nat} {k : Mth} {es : List Expr} {ees : Es} {px ap q sp : Pos} (hx : okName x = true) (hv : isVis c.sc x = true) (hi : ixOf c.N x = some i) (hk : mthOf mn es.length = some k) (hln : (ap.endLine == q.line) = true) (hl : es.length < 20)
    (hes : PA X es (tS X.K X.mg W ees)) (hp : es.all isPlain = true) (hle : ees.len = es.length) : PSm X W pm (.Expr (.Call (.Attribute (.Name x px) mn ap) es [] q) sp) (.mth i k ees) := by
  obtain ⟨n1, n2⟩ := okName_of hx
  have pn : PE X (.Name x px) (tVar i) := pe_var (i := i) (by rw [G.g.N]; exact ix_of hi) (by rw [G.g.sc]; exact vis_of hv) n1 n2
  obtain ⟨e1, e2⟩ := mthOf_name hk
  -- the call, by its values
  have call : PE X (.Call (.Attribute (.Name x px) mn ap) es [] q) (fun σ H Q => ∃ a ws, σ[i]? = some (some (.ref a)) ∧ H a = some (.lst ws) ∧ tS X.K X.mg W ees σ H fun vs H1 => rMth X.K k (.ref a) vs H1 Q) := by
    have pre : ∀ (H : Hp) (a : Addr) (ws : List V), H a = some (.lst ws) → tyV X.K "list" (.ref a) H := fun H a ws h => Or.inl ⟨rfl, _, SqL.of h⟩
    cases es with
    | nil =>
      have hn : k = .pop ∨ k = .clear := by cases k <;> simp at e2 <;> simp
      have nl : ∀ {σ H} {Q : List V → Hp → Prop}, tS X.K X.mg W ees σ H Q → Q [] H := fun {σ H Q} h => by
        cases ees with
        | cons _ _ => simp [Es.len] at hle
        | nil =>
          obtain ⟨Hs, m, R, h⟩ := h
          simp only [evs] at h
          exact h [] Hs H R Fram.refl .nil
      rcases hn with rfl | rfl
      · subst e1
        exact PE.imp (pe_bm0 PySem.F.plainAttrs_list PySem.F.slot_list_pop PySem.F.type_list_pop (mth_ok .pop) pn rfl hln) fun σ H Q ⟨a, ws, h1, h2, h3⟩ => ⟨.ref a, h1, pre H a ws h2, nl h3⟩
      · subst e1
        exact PE.imp (pe_bm0 PySem.F.plainAttrs_list PySem.F.slot_list_clear PySem.F.type_list_clear (mth_ok .clear) pn rfl hln) fun σ H Q ⟨a, ws, h1, h2, h3⟩ => ⟨.ref a, h1, pre H a ws h2, nl h3⟩
    | cons e es =>
      have hp1 : isPlain e = true ∧ es.all isPlain = true := by rw [List.all_cons, Bool.and_eq_true] at hp; exact hp
      have fin : ∀ {σ : L2.St} {H : Hp} {Q : VK}, (∃ a ws, σ[i]? = some (some (V.ref a)) ∧ H a = some (.lst ws) ∧ tS X.K X.mg W ees σ H fun vs H1 => rMth X.K k (.ref a) vs H1 Q) → tBM X.K "list" (rMth X.K k) (tVar i) (tS X.K X.mg W ees) σ H Q := fun {σ H Q} ⟨a, ws, h1, h2, h3⟩ => ⟨.ref a, h1, pre H a ws h2, h3⟩
      cases k
      · subst e1
        exact PE.imp (pe_bm PySem.F.plainAttrs_list PySem.F.slot_list_append PySem.F.type_list_append (mth_ok .append) pn hes rfl (few_plain hp hl) hln (plain_star hp1.1 es _) (plain_back hp1.2)) fun σ H Q h => fin h
      · subst e1
        exact PE.imp (pe_bm PySem.F.plainAttrs_list PySem.F.slot_list_insert PySem.F.type_list_insert (mth_ok .insert) pn hes rfl (few_plain hp hl) hln (plain_star hp1.1 es _) (plain_back hp1.2)) fun σ H Q h => fin h
      · simp at e2
      · subst e1
        exact PE.imp (pe_bm PySem.F.plainAttrs_list PySem.F.slot_list_pop PySem.F.type_list_pop (mth_ok .popAt) pn hes rfl (few_plain hp hl) hln (plain_star hp1.1 es _) (plain_back hp1.2)) fun σ H Q h => fin h
      · subst e1
        exact PE.imp (pe_bm PySem.F.plainAttrs_list PySem.F.slot_list_extend PySem.F.type_list_extend (mth_ok .extend) pn hes rfl (few_plain hp hl) hln (plain_star hp1.1 es _) (plain_back hp1.2)) fun σ H Q h => fin h
      · simp at e2
  refine PS.imp (ps_expr call rfl) fun Dn σ H ⟨Hs, m, R, h⟩ => ?_
  simp only [exS] at h
  cases hg : geti m i with
  | none => simp only [hg] at h; exact h.elim
  | some q0 =>
    obtain ⟨f0, d0⟩ := q0
    cases f0 with
    | false => simp only [hg] at h; exact h.elim
    | true =>
      obtain ⟨a, o, ea, h1, h2, h3⟩ := R.own i d0 hg
      cases h2 with
      | dT _ _ => simp only [hg] at h; exact h.elim
      | lst rl =>
        rename_i ws ds0
        simp only [hg] at h
        refine ⟨a, ws, ea, h1, Hs, m, R, h.bind.imp (fun p hp vs Hs1 H1 R1 F1 r => ?_) fun _ z => z⟩
        cases hg1 : geti p.2 i with
        | none => simp only [hg1] at hp; exact hp.elim
        | some q1 =>
          obtain ⟨f1, d1⟩ := q1
          cases f1 with
          | false => simp only [hg1] at hp; exact hp.elim
          | true =>
            simp only [hg1] at hp
            obtain ⟨d', hd, hfin⟩ := PostR.ofO hp.bind
            obtain ⟨a', o', ea', k1, k2, k3⟩ := R1.own i d1 hg1
            rw [ea] at ea'; cases ea'
            cases k2 with
            | dT _ _ =>
              obtain ⟨ys, z⟩ := mthF_list hd
              cases z
            | lst rl2 =>
              rename_i ws2 ds2
              refine ⟨Hs1, a, ws2, ds2, p.1, d', R1.sub, rfl, k1, rl2, r, hd, fun u o co => ?_⟩
              obtain ⟨R3, F3⟩ := R1.updO hg1 ea co
              have hp : ∀ σ' Hs' H', REnv X.K Hs' H' σ' (p.2.set i (some (true, d'))) → Fram Hs H (Own σ m) Hs' H' (Own σ' (p.2.set i (some (true, d')))) → KeepP pm σ σ' → Dn.nx σ' H' := hfin
              exact hp σ _ _ R3 (F1.trans F3) KeepP.refl
end
end Rc

set_option maxRecDepth 100000
set_option maxHeartbeats 4000000
namespace Rc
open PySem L2
variable [Tbs]
section
variable {X : Cx} {W : XK} {c : TC} {xc : List Str} {pm : List Nat}
theorem st_exp {e : Expr} {e' : E} {pos : Pos} (hp : isPlain e = true) (hlc : isLC e = false) (he : PEm X W e e') : PSm X W pm (.Expr e pos) (.exp e') := by
  refine PS.imp (ps_expr he (plain_noswap hp hlc _ _ _)) fun Dn σ H ⟨Hs, m, R, h⟩ => ?_
  simp only [exS] at h
  refine ⟨Hs, m, R, h.bind.imp (fun p hp v Hs1 H1 R1 F1 r => ?_) fun _ z => z⟩
  have hp : ∀ σ' Hs' H', REnv X.K Hs' H' σ' p.2 → Fram Hs H (Own σ m) Hs' H' (Own σ' p.2) → KeepP pm σ σ' → Dn.nx σ' H' := hp
  exact hp σ Hs1 H1 R1 (F1.weak fun b z => .inl z) KeepP.refl
theorem st_ret {e : Expr} {e' : E} {pos : Pos} (he : PEm X W e e') : PSm X W pm (.Return (some e) pos) (.ret e') := by
  refine PS.imp (ps_ret he) fun Dn σ H ⟨Hs, m, R, h⟩ => ?_
  simp only [exS] at h
  refine ⟨Hs, m, R, h.bind.imp (fun p hp v Hs1 H1 R1 F1 r => ?_) fun _ z => z⟩
  have hp : ∀ v σ' Hs' H', REnv X.K Hs' H' σ' (tkm e' p.2) → Fram Hs H (Own σ m) Hs' H' (OV (Own σ' (tkm e' p.2)) (takeV e' p.1).1 v) → KeepP pm σ σ' → RV X.K Hs' H' (Own σ' (tkm e' p.2)) (takeV e' p.1).1 v p.1.2 → Dn.rt v H' := hp
  rw [tkm_eq, takeV_eq] at hp
  unfold RR at r
  cases q : e'.vr with
  | none =>
    rw [q] at hp r
    exact hp v σ Hs1 H1 R1 F1 KeepP.refl r
  | some j =>
    rw [q] at hp r
    obtain ⟨e1, f, e2⟩ := r
    obtain ⟨Hs2, R2, F2, r2, _⟩ := leak_ok R1 e1 e2
    exact hp v σ Hs2 H1 R2 (by rw [OV_false]; exact (F1.weak fun b h => .inl h).trans F2) KeepP.refl r2
theorem st_retv {e : Expr} {i : Nat} {pos : Pos} (he : PEm X W e (.var i)) : PSm X W pm (.Return (some e) pos) (.retv i) := by
  refine PS.imp (ps_ret he) fun Dn σ H ⟨Hs, m, R, h⟩ => ?_
  simp only [exS] at h
  refine ⟨Hs, m, R, ?_⟩
  simp only [ev]
  cases hg : geti m i with
  | none => rw [hg] at h; exact h.elim
  | some p =>
    obtain ⟨f, d⟩ := p
    rw [hg] at h
    intro v Hs1 H1 R1 F1 r
    obtain ⟨e1, _⟩ := (show σ[i]? = some (some v) ∧ _ from r)
    have h : ∀ v σ' Hs' H', REnv X.K Hs' H' σ' (m.set i none) → Fram Hs H (Own σ m) Hs' H' (OV (Own σ' (m.set i none)) f v) → KeepP pm σ σ' → RV X.K Hs' H' (Own σ' (m.set i none)) f v d → Dn.rt v H' := h
    obtain ⟨Rd, od⟩ := R1.drop i
    have lt := geti_lt hg
    have F1' : Fram Hs H (Own σ m) Hs1 H1 (Own σ m) := F1.weak fun b z => .inl z
    cases f with
    | false =>
      obtain ⟨v', e', rp⟩ := R1.val i d hg
      rw [e1] at e'; cases e'
      exact h v σ Hs1 H1 Rd (by rw [OV_false]; exact F1'.weak od) KeepP.refl rp
    | true =>
      obtain ⟨a, o, e', k1, k2, k3⟩ := R1.own i d hg
      rw [e1] at e'; cases e'
      refine h (.ref a) σ Hs1 H1 Rd (F1'.weak fun b z => ?_) KeepP.refl ⟨a, o, rfl, k1, k2, k3, fun ⟨j, x, z1, z2⟩ => ?_⟩
      · rcases z with z | ⟨_, z⟩
        · exact od b z
        · cases z; exact ⟨i, d, e1, hg⟩
      · by_cases hj : j = i
        · subst hj
          rw [geti_set_same lt] at z2; cases z2
        · rw [geti_set_ne (Ne.symm hj)] at z2
          exact hj (R1.inj j i x d a z2 hg z1 e1)
theorem st_retn {pos : Pos} : PSm X W pm (.Return none pos) .retn := by
  refine PS.imp ps_retN fun Dn σ H ⟨Hs, m, R, h⟩ => ?_
  simp only [exS] at h
  have h : ∀ v σ' Hs' H', REnv X.K Hs' H' σ' m → Fram Hs H (Own σ m) Hs' H' (OV (Own σ' m) false v) → KeepP pm σ σ' → RV X.K Hs' H' (Own σ' m) false v .none → Dn.rt v H' := h
  exact h .non σ Hs H R (by rw [OV_false]; exact Fram.refl) KeepP.refl .non
theorem st_if {t : Expr} {t' : E} {a b : List Stmt} {a' b' : Ss} {pos : Pos} (ht : PTm X W t t') (ha : PSsm X W pm a a') (hb : PSsm X W pm b b') : PSm X W pm (.If t a b pos) (.sif t' a' b') := by
  refine PS.imp (ps_if ht ha hb) fun Dn σ H ⟨Hs, m, R, h⟩ => ?_
  simp only [exS] at h
  refine tT_of R h fun p Hs1 H1 hp R1 F1 => ?_
  by_cases hk : p.1 = true
  · rw [if_pos hk] at hp ⊢
    exact ⟨Hs1, p.2, R1, hp.imp (fun f hf => hf.next F1 KeepP.refl) fun _ z => z⟩
  · rw [if_neg hk] at hp ⊢
    exact ⟨Hs1, p.2, R1, hp.imp (fun f hf => hf.next F1 KeepP.refl) fun _ z => z⟩
theorem srcsOf_vars {e : E} {d : D} {m : Env} : ∀ q ∈ srcsOf e d m, q.1 ∈ e.vr.toList := fun q h => by
  rw [srcsOf_eq] at h
  cases hv : e.vr with
  | none => rw [hv] at h; simp at h
  | some i =>
    rw [hv] at h
    cases d <;> simp at h
    split at h
    · simp at h; subst h; simp
    · simp at h
theorem evI_vars {it : Rc.It} {m : Env} {p : List D × List (Nat × List D) × Env} (h : evI it m = .ok p) : ∀ q ∈ p.2.1, q.1 ∈ itVars it := by
  cases it with
  | sq e =>
    simp only [evI] at h
    cases he : ev e m with
    | bad => rw [he] at h; cases h
    | exc x => rw [he] at h; cases h
    | ok r =>
      rw [he] at h
      simp only [bind_ok] at h
      cases hs : seqD r.1.2 with
      | none => rw [hs] at h; cases h
      | some xs =>
        rw [hs] at h
        simp only [ofO_some, bind_ok, Res.ok.injEq] at h
        subst h
        exact fun q hq => srcsOf_vars q hq
  | rg a =>
    simp only [evI] at h
    cases he : ev a m with
    | bad => rw [he] at h; cases h
    | exc x => rw [he] at h; cases h
    | ok r =>
      rw [he] at h
      simp only [bind_ok] at h
      split at h
      · split at h
        · cases h; intro q hq; simp at hq
        · cases h
      · cases h
  | rg2 a b =>
    simp only [evI] at h
    cases he : ev a m with
    | bad => rw [he] at h; cases h
    | exc x => rw [he] at h; cases h
    | ok r =>
      rw [he] at h
      simp only [bind_ok] at h
      cases he2 : ev b r.2 with
      | bad => rw [he2] at h; cases h
      | exc x => rw [he2] at h; cases h
      | ok r2 =>
        rw [he2] at h
        simp only [bind_ok] at h
        split at h
        · split at h
          · cases h; intro q hq; simp at hq
          · cases h
        · cases h
  | zp a b =>
    simp only [evI] at h
    cases he : ev a m with
    | bad => rw [he] at h; cases h
    | exc x => rw [he] at h; cases h
    | ok r =>
      rw [he] at h
      simp only [bind_ok] at h
      cases he2 : ev b r.2 with
      | bad => rw [he2] at h; cases h
      | exc x => rw [he2] at h; cases h
      | ok r2 =>
        rw [he2] at h
        simp only [bind_ok] at h
        cases h1 : rd a r.1.2 r2.2 with
        | none => rw [h1] at h; cases h
        | some x =>
          rw [h1] at h
          simp only [ofO_some, bind_ok] at h
          cases h2 : rd b r2.1.2 r2.2 with
          | none => rw [h2] at h; cases h
          | some y =>
            rw [h2] at h
            simp only [ofO_some, bind_ok] at h
            split at h
            · cases hs : seqD x with
              | none => rw [hs] at h; cases h
              | some xs =>
                rw [hs] at h
                simp only [ofO_some, bind_ok] at h
                cases hs2 : seqD y with
                | none => rw [hs2] at h; cases h
                | some ys =>
                  rw [hs2] at h
                  simp only [ofO_some, bind_ok, Res.ok.injEq] at h
                  subst h
                  intro q hq
                  rcases List.mem_append.mp hq with hq | hq
                  · exact List.mem_append_left _ (srcsOf_vars q hq)
                  · exact List.mem_append_right _ (srcsOf_vars q hq)
            · cases h
  | zn a b =>
    simp only [evI] at h
    cases he : ev a m with
    | bad => rw [he] at h; cases h
    | exc x => rw [he] at h; cases h
    | ok r =>
      rw [he] at h
      simp only [bind_ok] at h
      cases he2 : ev b r.2 with
      | bad => rw [he2] at h; cases h
      | exc x => rw [he2] at h; cases h
      | ok r2 =>
        rw [he2] at h
        simp only [bind_ok] at h
        cases h1 : rd a r.1.2 r2.2 with
        | none => rw [h1] at h; cases h
        | some x =>
          rw [h1] at h
          simp only [ofO_some, bind_ok] at h
          cases h2 : rd b r2.1.2 r2.2 with
          | none => rw [h2] at h; cases h
          | some y =>
            rw [h2] at h
            simp only [ofO_some, bind_ok] at h
            split at h
            · simp only [Res.ok.injEq] at h
              subst h
              intro q hq
              rcases List.mem_append.mp hq with hq | hq
              · exact List.mem_append_left _ (srcsOf_vars q hq)
              · exact List.mem_append_right _ (srcsOf_vars q hq)
            · cases h
  | zp3 a b c =>
    simp only [evI] at h
    cases he : ev a m with
    | bad => rw [he] at h; cases h
    | exc x => rw [he] at h; cases h
    | ok r =>
      rw [he] at h
      simp only [bind_ok] at h
      cases he2 : ev b r.2 with
      | bad => rw [he2] at h; cases h
      | exc x => rw [he2] at h; cases h
      | ok r2 =>
        rw [he2] at h
        simp only [bind_ok] at h
        cases he3 : ev c r2.2 with
        | bad => rw [he3] at h; cases h
        | exc x => rw [he3] at h; cases h
        | ok r3 =>
          rw [he3] at h
          simp only [bind_ok] at h
          cases h1 : rd a r.1.2 r3.2 with
          | none => rw [h1] at h; cases h
          | some x =>
            rw [h1] at h
            simp only [ofO_some, bind_ok] at h
            cases h2 : rd b r2.1.2 r3.2 with
            | none => rw [h2] at h; cases h
            | some y =>
              rw [h2] at h
              simp only [ofO_some, bind_ok] at h
              cases h3 : rd c r3.1.2 r3.2 with
              | none => rw [h3] at h; cases h
              | some u =>
                rw [h3] at h
                simp only [ofO_some, bind_ok] at h
                split at h
                · simp only [Res.ok.injEq] at h
                  subst h
                  intro q hq
                  rcases List.mem_append.mp hq with hq | hq
                  · exact List.mem_append_left _ (srcsOf_vars q hq)
                  · rcases List.mem_append.mp hq with hq | hq
                    · exact List.mem_append_right _ (List.mem_append_left _ (srcsOf_vars q hq))
                    · exact List.mem_append_right _ (List.mem_append_right _ (srcsOf_vars q hq))
                · cases h
  | en a =>
    simp only [evI] at h
    cases he : ev a m with
    | bad => rw [he] at h; cases h
    | exc x => rw [he] at h; cases h
    | ok r =>
      rw [he] at h
      simp only [bind_ok] at h
      cases hs : seqD r.1.2 with
      | none => rw [hs] at h; cases h
      | some xs =>
        rw [hs] at h
        simp only [ofO_some, bind_ok, Res.ok.injEq] at h
        subst h
        exact fun q hq => srcsOf_vars q hq
  | rv a =>
    simp only [evI] at h
    cases he : ev a m with
    | bad => rw [he] at h; cases h
    | exc x => rw [he] at h; cases h
    | ok r =>
      rw [he] at h
      simp only [bind_ok] at h
      cases hs : seqD r.1.2 with
      | none => rw [hs] at h; cases h
      | some xs =>
        rw [hs] at h
        simp only [ofO_some, bind_ok, Res.ok.injEq] at h
        subst h
        exact fun q hq => srcsOf_vars q hq
theorem st_for (G : FGood X W c xc) {tg it : Expr} {body : List Stmt} {pos : Pos} {xs : List Str} {g : List Nat} {it' : Rc.It} {b' : Ss} (h1 : tgtNames tg = some xs) (h2 : tgtIx c.N xs = some g) (h3 : ∀ x ∈ xs, isLoc c.sc x = true) (hg : ∀ i ∈ g, i ∉ itVars it' ++ pm) (hl : isTup tg = true → g.length ≠ 1)
    (hi : PI X tg it (tI X.K X.mg W it')) (hip : isPlain it = true) (hb : PSsm X W (itVars it' ++ pm) body b') : PSm X W pm (.For tg it body [] pos) (.sfor g it' b') := by
  have st : ∀ x ∈ xs, StOk X x := fun x hx => ⟨by show Loc X.env.scope x; rw [G.g.sc]; exact loc_of (h3 x hx), .inl (G.fn x)⟩
  refine PS.imp (ps_for G.pass G.g.calm hi (pg_tgt G.g.N G.g.nd G.g.calm h1 h2 st hl) hb (plain_fold hip _)) fun Dn σ H ⟨Hs, m, R, h⟩ => ?_
  simp only [exS] at h
  refine ⟨Hs, m, R, ?_⟩
  have hh := h.bind
  cases hev : evI it' m with
  | bad => rw [hev] at hh; exact hh.elim
  | exc x => rw [hev] at hh; exact hh
  | ok p =>
    rw [hev] at hh
    have hp : PostR (FwP X.K pm σ Hs H m Dn) (XcE X.mg W σ H m) (forL p.2.1 g (fun m => exSs b' m) p.1 p.2.2) := hh
    have hsv := evI_vars hev
    obtain ⟨ds, srcs, m1⟩ := p
    intro J Hs1 H1 R1 F1 hJ hown hok
    simp only at hp R1 F1 hJ hown hok hsv ⊢
    have hp : PostR (FwP X.K pm σ Hs1 H1 m1 Dn) (XcE X.mg W σ H1 m1) (forL srcs g (fun m => exSs b' m) ds m1) := hp.imp (fun f hf => hf.next F1 KeepP.refl) fun _ z => z.next F1
    let Stt := fun (i : Nat) (σ' : L2.St) (H' : Hp) => i ≤ ds.length ∧ ∃ Hs' m', REnv X.K Hs' H' σ' m' ∧ Fram Hs1 H1 (Own σ m1) Hs' H' (Own σ' m') ∧ KeepP (itVars it' ++ pm) σ σ' ∧
      PostR (FwP X.K pm σ Hs1 H1 m1 Dn) (XcE X.mg W σ H1 m1) (forL srcs g (fun m => exSs b' m) (ds.drop i) m')
    refine ⟨fun i k σ' H' => k = ds.length - i ∧ Stt i σ' H', ⟨ds.length, by simp, Nat.zero_le _, Hs1, m1, R1, Fram.refl, KeepP.refl, by simpa using hp⟩, ?_⟩
    rintro i k σ' H' ⟨rfl, hil, Hs', m', R', F', k', hp'⟩
    have hsame : ∀ p ∈ srcs, σ'[p.1]? = σ[p.1]? := fun p hp => k' p.1 (List.mem_append_left _ (hsv p hp))
    by_cases hlt : i < ds.length
    · have hd : ds[i]? = some ds[i] := List.getElem?_eq_getElem hlt
      rw [List.drop_eq_getElem_cons hlt] at hp'
      simp only [forL] at hp'
      split at hp'
      · rename_i hok'
        obtain ⟨_, hitem⟩ := hJ i Hs' H' σ' m' F'.same R' hok' hsame
        obtain ⟨hgo, hy⟩ := hitem _ hd
        refine .inr ⟨hgo, Stt (i + 1), fun σ2 H2 z => ⟨ds.length - (i + 1), by omega, rfl, z⟩, fun x H3 yl => ?_⟩
        obtain ⟨Hs3, R3, F3, rx⟩ := hy x H3 yl
        obtain ⟨m2, hb2, hp'⟩ := PostR.ofO hp'.bind
        refine ⟨Hs3, m', ds[i], m2, R3, rx, hb2, fun σ2 R4 o4 k4 => ?_⟩
        have F4 : Fram Hs1 H1 (Own σ m1) Hs3 H3 (Own σ2 m2) := (F'.trans F3).weak o4
        have k4' : KeepP (itVars it' ++ pm) σ σ2 := k'.trans fun j hj => k4 j fun z => hg j z hj
        refine ⟨Hs3, m2, R4, hp'.bind.imp (fun f hf => ?_) fun _ z => z.next' F4⟩
        cases f with
        | nx m3 => exact fun σ5 Hs5 H5 R5 F5 k5 => ⟨by omega, Hs5, m3, R5, F4.trans F5, k4'.trans k5, hf⟩
        | ct m3 => exact fun σ5 Hs5 H5 R5 F5 k5 => ⟨by omega, Hs5, m3, R5, F4.trans F5, k4'.trans k5, hf⟩
        | bk m3 =>
          have hf : ∀ σ' Hs' H', REnv X.K Hs' H' σ' m3 → Fram Hs1 H1 (Own σ m1) Hs' H' (Own σ' m3) → KeepP pm σ σ' → Dn.nx σ' H' := hf
          exact fun σ5 Hs5 H5 R5 F5 k5 => hf σ5 Hs5 H5 R5 (F4.trans F5) fun j hj => (k4'.trans k5) j (List.mem_append_right _ hj)
        | rt fr d m3 =>
          have hf : ∀ v σ' Hs' H', REnv X.K Hs' H' σ' m3 → Fram Hs1 H1 (Own σ m1) Hs' H' (OV (Own σ' m3) fr v) → KeepP pm σ σ' → RV X.K Hs' H' (Own σ' m3) fr v d → Dn.rt v H' := hf
          exact fun v σ5 Hs5 H5 R5 F5 k5 r5 => hf v σ5 Hs5 H5 R5 (F4.trans F5) (fun j hj => (k4'.trans k5) j (List.mem_append_right _ hj)) r5
      · exact hp'.elim
    · have e : i = ds.length := by omega
      subst e
      rw [List.drop_length] at hp'
      simp only [forL] at hp'
      split at hp'
      · rename_i hok'
        obtain ⟨hstop, _⟩ := hJ ds.length Hs' H' σ' m' F'.same R' hok' hsame
        have hp' : ∀ σ' Hs' H', REnv X.K Hs' H' σ' m' → Fram Hs1 H1 (Own σ m1) Hs' H' (Own σ' m') → KeepP pm σ σ' → Dn.nx σ' H' := hp'
        exact .inl ⟨hstop rfl, hp' σ' Hs' H' R' F' fun j hj => k' j (List.mem_append_right _ hj)⟩
      · exact hp'.elim
theorem st_whl (G : FGood X W c xc) {t : Expr} {t' : E} {body : List Stmt} {b' : Ss} {pos : Pos} (ht : PTm X W t t') (hb : PSsm X W pm body b') : PSm X W pm (.While t body [] pos) (.whl t' b') := by
  refine PS.imp (ps_while G.pass ht hb) fun Dn σ H ⟨Hs, m, R, h⟩ => ?_
  simp only [exS] at h
  have ex : ∃ n r, whN (evC t') (fun m => exSs b' m) n m = some r := by
    apply Classical.byContradiction
    intro hn
    have : ¬ ∃ p : Nat × Res Fw, whN (evC t') (fun m => exSs b' m) p.1 m = some p.2 := fun ⟨⟨n, r⟩, q⟩ => hn ⟨n, r, q⟩
    unfold wh at h
    rw [dif_neg this] at h
    exact h.elim
  obtain ⟨n, r, hn⟩ := ex
  rw [wh_of hn] at h
  refine ⟨fun k σ' H' => ∃ Hs' m', REnv X.K Hs' H' σ' m' ∧ Fram Hs H (Own σ m) Hs' H' (Own σ' m') ∧ KeepP pm σ σ' ∧ whN (evC t') (fun m => exSs b' m) k m' = some r, ⟨n, Hs, m, R, Fram.refl, KeepP.refl, hn⟩, ?_⟩
  rintro k σ1 H1 ⟨Hs1, m1, R1, F1, k1, hk⟩
  cases k with
  | zero => simp [whN] at hk
  | succ k =>
    simp only [whN, wturn] at hk
    refine ⟨Hs1, m1, R1, ?_⟩
    cases hc : evC t' m1 with
    | bad =>
      rw [hc] at hk
      simp only [Option.some.injEq] at hk
      subst hk
      exact h.elim
    | exc x =>
      rw [hc] at hk
      simp only [Option.some.injEq] at hk
      subst hk
      exact (show XcE X.mg W σ H m x from h).next' F1
    | ok p =>
      obtain ⟨kb, m2⟩ := p
      rw [hc] at hk
      intro Hs2 H2 R2 F2
      have F2' := F1.trans F2
      cases kb with
      | false =>
        simp only [Option.some.injEq] at hk
        subst hk
        have h : ∀ σ' Hs' H', REnv X.K Hs' H' σ' m2 → Fram Hs H (Own σ m) Hs' H' (Own σ' m2) → KeepP pm σ σ' → Dn.nx σ' H' := h
        rw [if_neg (by simp)]
        exact h σ1 Hs2 H2 R2 F2' k1
      | true =>
        rw [if_pos rfl]
        simp only at hk
        refine ⟨fun σ' H' => ∃ Hs' m', REnv X.K Hs' H' σ' m' ∧ Fram Hs H (Own σ m) Hs' H' (Own σ' m') ∧ KeepP pm σ σ' ∧ whN (evC t') (fun m => exSs b' m) k m' = some r, fun σ' H' z => ⟨k, by omega, z⟩, Hs2, m2, R2, ?_⟩
        cases hbd : exSs b' m2 with
        | bad =>
          rw [hbd] at hk
          simp only [Option.some.injEq] at hk
          subst hk
          exact h.elim
        | exc x =>
          rw [hbd] at hk
          simp only [Option.some.injEq] at hk
          subst hk
          exact (show XcE X.mg W σ H m x from h).next' F2'
        | ok f =>
          rw [hbd] at hk
          cases f with
          | nx m3 => exact fun σ5 Hs5 H5 R5 F5 k5 => ⟨Hs5, m3, R5, F2'.trans F5, k1.trans k5, hk⟩
          | ct m3 => exact fun σ5 Hs5 H5 R5 F5 k5 => ⟨Hs5, m3, R5, F2'.trans F5, k1.trans k5, hk⟩
          | bk m3 =>
            simp only [Option.some.injEq] at hk
            subst hk
            have h : ∀ σ' Hs' H', REnv X.K Hs' H' σ' m3 → Fram Hs H (Own σ m) Hs' H' (Own σ' m3) → KeepP pm σ σ' → Dn.nx σ' H' := h
            exact fun σ5 Hs5 H5 R5 F5 k5 => h σ5 Hs5 H5 R5 (F2'.trans F5) (k1.trans k5)
          | rt fr d m3 =>
            simp only [Option.some.injEq] at hk
            subst hk
            have h : ∀ v σ' Hs' H', REnv X.K Hs' H' σ' m3 → Fram Hs H (Own σ m) Hs' H' (OV (Own σ' m3) fr v) → KeepP pm σ σ' → RV X.K Hs' H' (Own σ' m3) fr v d → Dn.rt v H' := h
            exact fun v σ5 Hs5 H5 R5 F5 k5 r5 => h v σ5 Hs5 H5 R5 (F2'.trans F5) (k1.trans k5) r5
theorem st_rais (G : FGood X W c xc) {x msg : Str} {k : Nat} {p p2 p3 pos : Pos} (hx : okName x = true) (hg : isGl c.sc x = true) (hc : x ∈ xc) : PSm X W pm (.Raise (some (.Call (.Name x p) [.Constant (.str msg) k p2] [] p3)) none pos) (.rais x) := by
  obtain ⟨C, gC, q, kC, r⟩ := G.xc x hc
  refine PS.imp (ps_raise G.g.calm G.tk (pmk_own PySem.F.excBase_ValueError q gC kC r (gl_at G.g hg) (okName_of hx).1)) fun Dn σ H ⟨Hs, m, R, h⟩ => ?_
  simp only [exS] at h
  exact (show XcE X.mg W σ H m x from h) C H gC (ExF.refl R.sub)
theorem st_brk {pos : Pos} : PSm X W pm (.Break pos) .brk := by
  refine PS.imp ps_break fun Dn σ H ⟨Hs, m, R, h⟩ => ?_
  simp only [exS] at h
  exact (show ∀ σ' Hs' H', REnv X.K Hs' H' σ' m → Fram Hs H (Own σ m) Hs' H' (Own σ' m) → KeepP pm σ σ' → Dn.bk σ' H' from h) σ Hs H R Fram.refl KeepP.refl
theorem st_cnt {pos : Pos} : PSm X W pm (.Continue pos) .cnt := by
  refine PS.imp ps_continue fun Dn σ H ⟨Hs, m, R, h⟩ => ?_
  simp only [exS] at h
  exact (show ∀ σ' Hs' H', REnv X.K Hs' H' σ' m → Fram Hs H (Own σ m) Hs' H' (Own σ' m) → KeepP pm σ σ' → Dn.ct σ' H' from h) σ Hs H R Fram.refl KeepP.refl
theorem st_pass {pos : Pos} : PSm X W pm (.Pass pos) .pass := by
  refine PS.imp ps_pass fun Dn σ H ⟨Hs, m, R, h⟩ => ?_
  simp only [exS] at h
  exact (show ∀ σ' Hs' H', REnv X.K Hs' H' σ' m → Fram Hs H (Own σ m) Hs' H' (Own σ' m) → KeepP pm σ σ' → Dn.nx σ' H' from h) σ Hs H R Fram.refl KeepP.refl
theorem sts_nil : PSsm X W pm [] .nil := by
  refine PSs.imp pss_nil fun Dn σ H ⟨Hs, m, R, h⟩ => ?_
  simp only [exSs] at h
  exact (show ∀ σ' Hs' H', REnv X.K Hs' H' σ' m → Fram Hs H (Own σ m) Hs' H' (Own σ' m) → KeepP pm σ σ' → Dn.nx σ' H' from h) σ Hs H R Fram.refl KeepP.refl
theorem sts_cons {s : Stmt} {ss : List Stmt} {s' : S} {ss' : Ss} (hs : PSm X W pm s s') (hss : PSsm X W pm ss ss') : PSsm X W pm (s :: ss) (.cons s' ss') := by
  refine PSs.imp (pss_cons hs hss) fun Dn σ H ⟨Hs, m, R, h⟩ => ?_
  simp only [exSs] at h
  refine ⟨Hs, m, R, h.bind.imp (fun f hf => ?_) fun _ z => z⟩
  cases f with
  | nx m1 => exact fun σ1 Hs1 H1 R1 F1 k1 => ⟨Hs1, m1, R1, hf.imp (fun f hf => hf.next F1 k1) fun _ z => z.next' F1⟩
  | rt fr d m1 => exact hf
  | bk m1 => exact hf
  | ct m1 => exact hf
/-! ### names that are not asked for any more -/
theorem FwP.wiped {K : PySem.W.Frag} {Hs H : Hp} {σ : L2.St} {m m1 : Env} {Dn : Ends} (ow : ∀ b, Own σ m1 b → Own σ m b) (vs : List Nat) : ∀ {f : Fw}, FwP K pm σ Hs H m Dn (f.wipe vs) → FwP K pm σ Hs H m1 Dn f
  | .nx m2, h => fun σ' Hs' H' R F k => by
    obtain ⟨R2, o2⟩ := R.dropAll vs
    exact h σ' Hs' H' R2 ((F.big ow).weak o2) k
  | .bk m2, h => fun σ' Hs' H' R F k => by
    obtain ⟨R2, o2⟩ := R.dropAll vs
    exact h σ' Hs' H' R2 ((F.big ow).weak o2) k
  | .ct m2, h => fun σ' Hs' H' R F k => by
    obtain ⟨R2, o2⟩ := R.dropAll vs
    exact h σ' Hs' H' R2 ((F.big ow).weak o2) k
  | .rt fr d m2, h => fun v σ' Hs' H' R F k r => by
    obtain ⟨R2, o2⟩ := R.dropAll vs
    refine h v σ' Hs' H' R2 ((F.big ow).weak fun b z => z.imp (o2 b) id) k ?_
    cases fr with
    | false => exact r
    | true =>
      obtain ⟨a, o, q1, q2, q3, q4, q5⟩ := r
      exact ⟨a, o, q1, q2, q3, q4, fun z => q5 (o2 a z)⟩
theorem sts_blk {xs : List Stmt} {b : Ss} (pre post : List Nat) (h : PSsm X W pm xs b) : PSsm X W pm xs (.cons (.blk pre b post) .nil) := by
  refine PSs.imp h fun Dn σ H ⟨Hs, m, R, hq⟩ => ?_
  have e : exSs (.cons (.blk pre b post) .nil) m = (exSs b (wipeE m pre)).bind fun f => .ok (f.wipe post) := by
    rw [exSs, exS]
    cases exSs b (wipeE m pre) with
    | ok f => cases f <;> simp [Fw.wipe, exSs]
    | exc x => rfl
    | bad => rfl
  rw [e] at hq
  obtain ⟨R1, o1⟩ := R.dropAll pre
  exact ⟨Hs, _, R1, hq.bind.imp (fun f hf => FwP.wiped o1 post hf) fun x hx C H' hC hE => hx C H' hC (hE.big o1)⟩
theorem st_blk {x : Stmt} {s : S} (pre post : List Nat) (h : PSm X W pm x s) : PSm X W pm x (.blk pre (.cons s .nil) post) := by
  refine PS.imp h fun Dn σ H ⟨Hs, m, R, hq⟩ => ?_
  have e : exS (.blk pre (.cons s .nil) post) m = (exS s (wipeE m pre)).bind fun f => .ok (f.wipe post) := by
    rw [exS, exSs]
    cases exS s (wipeE m pre) with
    | ok f => cases f <;> simp [exSs]
    | exc x => rfl
    | bad => rfl
  rw [e] at hq
  obtain ⟨R1, o1⟩ := R.dropAll pre
  exact ⟨Hs, _, R1, hq.bind.imp (fun f hf => FwP.wiped o1 post hf) fun x hx C H' hC hE => hx C H' hC (hE.big o1)⟩
theorem sts_inK {xs : List Stmt} {b : Ss} {p : Pos} (h : PSsm X W pm xs b) : PSsm X W pm xs (inK c p b) := by
  unfold inK
  split
  · exact sts_blk _ _ h
  · exact h
theorem st_klS {x : Stmt} {s : S} (h : PSm X W pm x s) : PSm X W pm x (klS c x s) := by
  unfold klS outK
  split
  · split
    · exact h
    · exact st_blk _ _ h
    · exact h
  · exact h
end
end Rc

set_option maxRecDepth 100000
set_option maxHeartbeats 4000000
namespace Rc
open PySem L2
variable [Tbs]
section
variable {X : Cx} {W : XK} {c : TC} {xc : List Str} {pm : List Nat}
theorem swap_false {e : Expr} {y : Str} {py : Pos} {l : Nat} {env : PySem.Env} (hk : env.scope.kind = .function) (hp : isPlain e = true) (h : swapB env.scope e y py = false) : swapsWith e (some (.Name y py)) l env = pure false := by
  cases e <;> simp [isPlain] at hp <;> try rfl
  rename_i elt gs s pos
  have hb : env.blockKind = .function := by unfold PySem.Env.blockKind; rw [hk]; rfl
  unfold swapsWith
  simp only [hb]
  unfold swapB at h
  simp only at h
  have ek : env.kindOf y = env.scope.names.lookup y := rfl
  rw [ek]
  have e1 : (ScopeKind.function == ScopeKind.function) = true := rfl
  have e2 : (env.scope.names.lookup y == some NameKind.local) = (match env.scope.names.lookup y with | some .local => true | _ => false) := by
    cases env.scope.names.lookup y with
    | none => rfl
    | some k => cases k <;> rfl
  rw [e1, e2]
  simp only [Expr.pos, Bool.true_and]
  exact congrArg pure h
theorem swap_true {e : Expr} {y : Str} {py : Pos} {l : Nat} {env : PySem.Env} (hk : env.scope.kind = .function) (h : swapB env.scope e y py = true) : swapsWith e (some (.Name y py)) l env = pure true ∧ env.scope.names.lookup y = some .local ∧ isLC e = true := by
  cases e <;> simp only [swapB, Bool.false_eq_true] at h
  rename_i elt gs s pos
  simp only [Bool.and_eq_true] at h
  have hl : env.scope.names.lookup y = some .local := by
    have := h.1.1
    split at this
    · rename_i q; exact q
    · cases this
  refine ⟨sw_true hk hl h.1.2 ?_, hl, rfl⟩
  simpa using h.2
/-- name = [..] that swaps its stores -/
theorem snd_lc {n : Nat} {e : Expr} {e' : E} (h : trE n c e = some e') (hlc : isLC e = true) (G : Good X W c) {i : Nat} {y : Str} {py pos : Pos} (hy : ixOf c.N y = some i) (hl : c.sc.names.lookup y = some .local) (hs : swapsWith e (some (.Name y py)) pos.line X.env = pure true) :
    PS X (.Assign [.Name y py] e pos) (tAsg (tE X.K X.mg W e') (gName i)) := by
  cases n with
  | zero => simp [trE] at h
  | succ n =>
    have ih := snd n
    cases e <;> simp [isLC] at hlc
    rename_i elt gs sc lpos
    unfold trE at h
    split at h <;> first | (rename_i q; cases q; done) | skip
    all_goals first
      | (rename_i q _; cases q; done)
      | skip
    · rename_i elt' tg iter ifs sc' pos' q1 q2
      cases q2
      cases q1
      split at h
      · rename_i hb
        obtain ⟨xs, h1, h⟩ := bnd h
        obtain ⟨g, h2, h⟩ := bnd h
        obtain ⟨it, h3, h⟩ := bnd h
        simp only at h
        split at h
        · rename_i hc
          simp only [Bool.and_eq_true] at hc
          obtain ⟨ee, h4, h⟩ := bnd h
          obtain ⟨ec, h5, h⟩ := bnd h
          cases h
          have L : LcOk _ sc tg xs g := ⟨hb, h1, h2, fun x hx => by
            have := List.all_eq_true.mp hc.1.1.1 x hx
            simpa using this, fun i hi => by
            have := List.all_eq_true.mp hc.1.1.2 i hi
            rw [List.any_eq_true] at this
            obtain ⟨p, hp, e⟩ := this
            exact List.mem_map.mpr ⟨p, hp, by simpa using e⟩, s_nodup_tgt hc.2⟩
          obtain ⟨i1, i2⟩ := ih.i _ _ _ _ h3 X W G
          exact s_setlc G L i2 hy hl hs i1 (fun s H C cl fp => (ih.e _ _ _ h4 _ E0 (G.blk sc s H C cl fp)).1) (fun s H C cl fp => ih.t _ _ _ h5 _ E0 (G.blk sc s H C cl fp))
        · cases h
      · cases h
    · cases h
structure SndS (n : Nat) : Prop where
  s : ∀ (c : TC) (pm : List Nat) (xc : List Str) (x : Stmt) (s : S), trS n c pm xc x = some s → ∀ (X : Cx) (W : XK), FGood X W c xc → PSm X W pm x s
  ss : ∀ (c : TC) (pm : List Nat) (xc : List Str) (x : List Stmt) (s : Ss), trSs n c pm xc x = some s → ∀ (X : Cx) (W : XK), FGood X W c xc → PSsm X W pm x s
theorem noElem {g pm : List Nat} (h : (g.all fun i => !(pm.contains i)) = true) : ∀ i ∈ g, i ∉ pm := fun i hi hm => by
  have := List.all_eq_true.mp h i hi
  simp [hm] at this
theorem snd_s {n : Nat} (ih : SndS n) (c : TC) (pm : List Nat) (xc : List Str) (x : Stmt) (s : S) (h : trS (n + 1) c pm xc x = some s) (X : Cx) (W : XK) (G : FGood X W c xc) : PSm X W pm x s := by
  have se := snd n
  have kx : X.env.scope.kind = .function := by rw [G.g.sc]; exact G.kind
  simp only [trS] at h
  split at h
  · -- name = e
    rename_i y py e pos
    split at h
    · rename_i hl
      obtain ⟨i, hi, h⟩ := bnd h
      split at h
      · cases h
      · rename_i hpm
        obtain ⟨e', he, h⟩ := bnd h
        cases h
        obtain ⟨h1, _, h3⟩ := se.e _ _ _ he X W G.g
        cases hsw : swapB c.sc e y py with
        | false => exact st_asg G hl hi hpm h1 (swap_false kx h3 (by rw [G.g.sc]; exact hsw))
        | true =>
          obtain ⟨w1, w2, w3⟩ := swap_true (l := pos.line) kx (by rw [G.g.sc]; exact hsw)
          exact PS.imp (snd_lc he w3 G.g hi (by rw [← G.g.sc]; exact w2) w1) fun Dn σ H hh => asg_core hpm hh
    · cases h
  · -- a, b = x, y
    rename_i ts k tp vs k2 vp pos
    obtain ⟨xs, h1, h⟩ := bnd h
    obtain ⟨g, h2, h⟩ := bnd h
    split at h
    · rename_i hc
      simp only [Bool.and_eq_true, decide_eq_true_eq] at hc
      obtain ⟨es, h3, h⟩ := bnd h
      obtain ⟨q1, _, _, _, _⟩ := se.es _ _ _ h3 X W G.g
      have hlc : ∀ x ∈ xs, isLoc c.sc x = true := fun x hx => List.all_eq_true.mp hc.1.1.1.1 x hx
      split at h
      · rename_i hs
        cases h
        exact st_par G h1 h2 hlc (noElem hc.1.1.1.2) hc.1.1.2 hc.1.2 hs (fun _ z => by cases z) q1 hc.2
      · rename_i names hs
        split at h
        · rename_i en
          cases h
          exact st_par G h1 h2 hlc (noElem hc.1.1.1.2) hc.1.1.2 hc.1.2 hs (fun _ z => by cases z; exact en) q1 hc.2
        · cases h
      · cases h
    · cases h
  · -- a, b = e
    rename_i ts k tp e pos _
    split at h
    · cases h
    · rename_i hd
      obtain ⟨xs, h1, h⟩ := bnd h
      obtain ⟨g, h2, h⟩ := bnd h
      split at h
      · rename_i hc
        simp only [Bool.and_eq_true, decide_eq_true_eq] at hc
        obtain ⟨e', he, h⟩ := bnd h
        cases h
        obtain ⟨q1, _, q3⟩ := se.e _ _ _ he X W G.g
        exact st_unp G h1 h2 (fun x hx => List.all_eq_true.mp hc.1.1 x hx) (noElem hc.1.2) hc.2 (by simpa using hd) q3 q1
      · cases h
  · -- name[i] = e
    rename_i x px i p2 e pos
    split at h
    · rename_i hc
      simp only [Bool.and_eq_true, Bool.not_eq_true'] at hc
      obtain ⟨k, hk, h⟩ := bnd h
      obtain ⟨i', hi, h⟩ := bnd h
      obtain ⟨e', he, h⟩ := bnd h
      cases h
      obtain ⟨a1, _, _⟩ := se.e _ _ _ hi X W G.g
      obtain ⟨b1, _, b3⟩ := se.e _ _ _ he X W G.g
      exact st_sti G hc.1.1.1 hc.1.1.2 hk hc.1.2 a1 b1 b3 hc.2
    · cases h
  · -- name.method(..)
    rename_i x px mn ap es q sp
    split at h
    · rename_i hc
      simp only [Bool.and_eq_true, decide_eq_true_eq] at hc
      obtain ⟨i, hi, h⟩ := bnd h
      obtain ⟨k, hk, h⟩ := bnd h
      obtain ⟨es', hes, h⟩ := bnd h
      cases h
      obtain ⟨q1, _, _, q4, q5⟩ := se.es _ _ _ hes X W G.g
      exact st_mth G hc.1.1.1 hc.1.1.2 hi hk hc.1.2 hc.2 q1 q4 q5
    · cases h
  · -- e
    rename_i e pos _
    split at h
    · cases h
    · rename_i hlc
      obtain ⟨e', he, h⟩ := bnd h
      cases h
      obtain ⟨q1, _, q3⟩ := se.e _ _ _ he X W G.g
      exact st_exp q3 (by simpa using hlc) q1
  · -- return e
    rename_i e pos
    obtain ⟨e', he, h⟩ := bnd h
    obtain ⟨q1, _, _⟩ := se.e _ _ _ he X W G.g
    split at h
    · split at h
      · cases h; exact st_ret q1
      · cases h; exact st_retv q1
    · cases h; exact st_ret q1
  · cases h; exact st_retn
  · -- if
    rename_i t a b pos
    obtain ⟨t', ht, h⟩ := bnd h
    obtain ⟨a', ha, h⟩ := bnd h
    obtain ⟨b', hb, h⟩ := bnd h
    cases h
    exact st_if (se.e _ _ _ ht X W G.g).2.1 (ih.ss _ _ _ _ _ ha X W G) (ih.ss _ _ _ _ _ hb X W G)
  · -- for
    rename_i tg it b pos
    obtain ⟨xs, h1, h⟩ := bnd h
    obtain ⟨g, h2, h⟩ := bnd h
    obtain ⟨it', h3, h⟩ := bnd h
    split at h
    · rename_i hc
      simp only [Bool.and_eq_true] at hc
      obtain ⟨b', hb, h⟩ := bnd h
      cases h
      obtain ⟨i1, i2⟩ := se.i _ _ _ _ h3 X W G.g
      exact st_for G h1 h2 (fun x hx => List.all_eq_true.mp hc.1.1 x hx) (noElem hc.1.2) (s_nodup_tgt hc.2) i1 i2 (sts_inK (ih.ss _ _ _ _ _ hb X W G))
    · cases h
  · -- while
    rename_i t b pos
    obtain ⟨t', ht, h⟩ := bnd h
    obtain ⟨b', hb, h⟩ := bnd h
    cases h
    exact st_whl G (se.e _ _ _ ht X W G.g).2.1 (sts_inK (ih.ss _ _ _ _ _ hb X W G))
  · -- raise
    split at h
    · rename_i hc
      simp only [Bool.and_eq_true] at hc
      cases h
      exact st_rais G hc.1.1 hc.1.2 (by simpa using hc.2)
    · cases h
  · cases h; exact st_brk
  · cases h; exact st_cnt
  · cases h; exact st_pass
  · cases h
theorem snd_ss {n : Nat} (ih : SndS n) (c : TC) (pm : List Nat) (xc : List Str) (x : List Stmt) (s : Ss) (h : trSs (n + 1) c pm xc x = some s) (X : Cx) (W : XK) (G : FGood X W c xc) : PSsm X W pm x s := by
  cases x with
  | nil =>
    simp only [trSs, Option.some.injEq] at h
    subst h
    exact sts_nil
  | cons a as =>
    simp only [trSs] at h
    obtain ⟨s', h1, h⟩ := bnd h
    obtain ⟨ss', h2, h⟩ := bnd h
    cases h
    exact sts_cons (st_klS (ih.s _ _ _ _ _ h1 X W G)) (ih.ss _ _ _ _ _ h2 X W G)
theorem sndS : ∀ n, SndS n
  | 0 => ⟨fun c pm xc x s h => by simp [trS] at h, fun c pm xc x s h => by simp [trSs] at h⟩
  | n + 1 => ⟨snd_s (sndS n), snd_ss (sndS n)⟩

/-! ### a def -/
theorem finsOf_len : ∀ {as : List (Bool × D)} {k : Nat} {m : Env} {fs : List (Bool × D)}, finsOf k as m = some fs → fs.length = as.length
  | [], _, _, fs, h => by simp only [finsOf, Option.some.injEq] at h; subst h; rfl
  | (false, d) :: r, k, m, fs, h => by
    simp only [finsOf, Option.map_eq_some_iff] at h
    obtain ⟨fs', h1, rfl⟩ := h
    simp [finsOf_len h1]
  | (true, d) :: r, k, m, fs, h => by
    simp only [finsOf] at h
    obtain ⟨p, hp, h⟩ := bnd h
    rw [Option.map_eq_some_iff] at h
    obtain ⟨fs', h1, rfl⟩ := h
    simp [finsOf_len h1]
theorem finsOf_at : ∀ {as : List (Bool × D)} {k : Nat} {m : Env} {fs : List (Bool × D)}, finsOf k as m = some fs → ∀ (j : Nat) (p : Bool × D), fs[j]? = some p → (∃ d, as[j]? = some (false, d) ∧ p = (false, d)) ∨ (∃ d, as[j]? = some (true, d) ∧ geti m (k + j) = some p)
  | [], _, _, fs, h, j, p, hj => by simp only [finsOf, Option.some.injEq] at h; subst h; simp at hj
  | (false, d) :: r, k, m, fs, h, j, p, hj => by
    simp only [finsOf, Option.map_eq_some_iff] at h
    obtain ⟨fs', h1, rfl⟩ := h
    cases j with
    | zero => simp at hj; subst hj; exact .inl ⟨d, rfl, rfl⟩
    | succ j =>
      have := finsOf_at h1 j p (by simpa using hj)
      rw [show k + 1 + j = k + (j + 1) by omega] at this
      simpa using this
  | (true, d) :: r, k, m, fs, h, j, p, hj => by
    simp only [finsOf] at h
    obtain ⟨q, hq, h⟩ := bnd h
    rw [Option.map_eq_some_iff] at h
    obtain ⟨fs', h1, rfl⟩ := h
    cases j with
    | zero => simp at hj; subst hj; exact .inr ⟨d, rfl, hq⟩
    | succ j =>
      have := finsOf_at h1 j p (by simpa using hj)
      rw [show k + 1 + j = k + (j + 1) by omega] at this
      simpa using this
end
end Rc

set_option maxRecDepth 100000
set_option maxHeartbeats 4000000
/-! A def's promise from its translation. -/
namespace Rc
open PySem L2
variable [Tbs]
section
variable {K : PySem.W.Frag} {mg : Str → Option Value} {Hs H Hs' H' : Hp} {σ σ' : L2.St} {m m' : Env}
theorem geti_mapS {as : List (Bool × D)} {i : Nat} {p : Bool × D} : geti (as.map some) i = some p ↔ as[i]? = some p := by
  rw [geti_eq, List.getElem?_map]
  cases as[i]? <;> simp
theorem geti_app {as : List (Bool × D)} {n i : Nat} {p : Bool × D} : geti (as.map some ++ List.replicate n none) i = some p ↔ as[i]? = some p := by
  rw [geti_eq]
  by_cases h : i < as.length
  · rw [List.getElem?_append_left (by simpa using h), List.getElem?_map, List.getElem?_eq_getElem h]
    simp
  · have e : as[i]? = none := List.getElem?_eq_none (by omega)
    rw [List.getElem?_append_right (by simpa using h), List.getElem?_replicate, e]
    split <;> simp
theorem st_app {vs : List V} {n i : Nat} (h : i < vs.length) : (vs.map some ++ List.replicate n none)[i]? = (vs.map some)[i]? := List.getElem?_append_left (by simpa using h)
theorem env_start {vs : List V} {as : List (Bool × D)} {n : Nat} (R : REnv K Hs H (vs.map some) (as.map some)) : REnv K Hs H (vs.map some ++ List.replicate n none) (as.map some ++ List.replicate n none) ∧
    ∀ b, Own (vs.map some ++ List.replicate n none) (as.map some ++ List.replicate n none) b ↔ Own (vs.map some) (as.map some) b := by
  have hl : vs.length = as.length := by have := R.len; simpa using this
  have lt : ∀ {i : Nat} {p : Bool × D}, as[i]? = some p → i < vs.length := fun e => by
    rw [hl]
    exact (List.getElem?_eq_some_iff.mp e).1
  refine ⟨⟨R.sub, by simp [hl], fun i d h => ?_, fun i d h => ?_, fun i j d e a h1 h2 h3 h4 => ?_⟩, fun b => ⟨fun ⟨i, d, h1, h2⟩ => ?_, fun ⟨i, d, h1, h2⟩ => ?_⟩⟩
  · rw [geti_app] at h
    rw [st_app (lt h)]
    exact R.val i d (geti_mapS.mpr h)
  · rw [geti_app] at h
    rw [st_app (lt h)]
    exact R.own i d (geti_mapS.mpr h)
  · rw [geti_app] at h1 h2
    rw [st_app (lt h1)] at h3
    rw [st_app (lt h2)] at h4
    exact R.inj i j d e a (geti_mapS.mpr h1) (geti_mapS.mpr h2) h3 h4
  · rw [geti_app] at h2
    rw [st_app (lt h2)] at h1
    exact ⟨i, d, h1, geti_mapS.mpr h2⟩
  · rw [geti_mapS] at h2
    exact ⟨i, d, by rw [st_app (lt h2)]; exact h1, geti_app.mpr h2⟩
theorem env_end {vs : List V} {as fs : List (Bool × D)} {n : Nat} {pm : List Nat} (R : REnv K Hs H (vs.map some) (as.map some)) (hp : ∀ i d, as[i]? = some (true, d) → i ∈ pm) (R' : REnv K Hs' H' σ' m') (s : Same Hs Hs') (kp : KeepP pm (vs.map some ++ List.replicate n none) σ') (hf : finsOf 0 as m' = some fs) :
    REnv K Hs' H' (vs.map some) (fs.map some) ∧ ∀ b, Own (vs.map some) (fs.map some) b → Own σ' m' b := by
  have hl : vs.length = as.length := by have := R.len; simpa using this
  have lt : ∀ {i : Nat} {p : Bool × D}, as[i]? = some p → i < vs.length := fun e => by
    rw [hl]
    exact (List.getElem?_eq_some_iff.mp e).1
  have at' : ∀ {i : Nat} {d : D}, as[i]? = some (true, d) → σ'[i]? = (vs.map some)[i]? := fun {i d} e => by rw [kp i (hp i d e), st_app (lt e)]
  have own : ∀ {i : Nat} {d : D}, fs[i]? = some (true, d) → σ'[i]? = (vs.map some)[i]? ∧ geti m' i = some (true, d) := fun {i d} e => by
    rcases finsOf_at hf i _ e with ⟨d', h1, h2⟩ | ⟨d', h1, h2⟩
    · cases h2
    · rw [Nat.zero_add] at h2
      exact ⟨at' h1, h2⟩
  refine ⟨⟨R'.sub, by simp [hl, finsOf_len hf], fun i d h => ?_, fun i d h => ?_, fun i j d e a h1 h2 h3 h4 => ?_⟩, fun b ⟨i, d, h1, h2⟩ => ?_⟩
  · rw [geti_mapS] at h
    rcases finsOf_at hf i _ h with ⟨d', h1, h2⟩ | ⟨d', h1, h2⟩
    · cases h2
      obtain ⟨v, e, r⟩ := R.val i _ (geti_mapS.mpr h1)
      exact ⟨v, e, Rp.mono s _ _ r⟩
    · rw [Nat.zero_add] at h2
      rw [← at' h1]
      exact R'.val i d h2
  · rw [geti_mapS] at h
    obtain ⟨e1, e2⟩ := own h
    rw [← e1]
    exact R'.own i d e2
  · rw [geti_mapS] at h1 h2
    obtain ⟨e1, e2⟩ := own h1
    obtain ⟨q1, q2⟩ := own h2
    rw [← e1] at h3
    rw [← q1] at h4
    exact R'.inj i j d e a e2 q2 h3 h4
  · rw [geti_mapS] at h2
    obtain ⟨e1, e2⟩ := own h2
    rw [← e1] at h1
    exact ⟨i, d, h1, e2⟩
end
section
variable {P : Program} {w : World} {K : PySem.W.Frag} {mg : Str → Option Value} {base : Heap}
/-- a def that may be called by its name -/
structure Ent (P : Program) (w : World) (K : PySem.W.Frag) (mg : Str → Option Value) (base : Heap) (k : Nat) (x : Str) (e : FnE) : Prop where
  ex : ∃ (f : Addr) (fd : FuncData) (ps : List Str) (j : Nat), j ≤ k ∧ FnOk P w K mg base (L2.CX P w) j f fd ps (spM K mg e.n e.f) ∧ mg x = some (.ref f) ∧ PySem.W.keepIn K (.ref f) = true ∧ Binds K fd ps []
theorem Ent.mono {j k : Nat} {x : Str} {e : FnE} (h : Ent P w K mg base j x e) (l : j ≤ k) : Ent P w K mg base k x e := by
  obtain ⟨f, fd, ps, i, a, b⟩ := h.ex
  exact ⟨f, fd, ps, i, Nat.le_trans a l, b⟩
/-- the constants, the builtin names, the exceptions -/
structure Glob (K : PySem.W.Frag) (mg : Str → Option Value) (cns : List (Str × D)) (xc : List Str) : Prop where
  cns : ∀ x d, cns.lookup x = some d → ∃ v u, mg x = some u ∧ RelV v u ∧ ∀ H, Rp K H v d
  blt : ∀ x ∈ blts, mg x = none
  xc : ∀ x ∈ xc, ∃ C, mg x = some (.ref C) ∧ PySem.W.excIn K C [.type "ValueError", .type "Exception", .type "BaseException", .type "object"] "ValueError.__new__" = true ∧ PySem.W.keepIn K (.ref C) = true ∧
    PySem.W.subIn K (.ref C) (.type "BaseException") = some true ∧ PySem.W.typeIn K (.ref C) = some (.type "type")
/-- what a mirror must be -/
def Mir (n np : Nat) (pm : List Nat) (body : Ss) (mf : MF) : Prop :=
  ∀ as : List (Bool × D), as.length = np → mf as = .bad ∨ ((∀ i d, as[i]? = some (true, d) → i ∈ pm) ∧ runFn ⟨n, body⟩ as = mf as)
/-- a def that makes lambdas for the def r that tells of refusals -/
structure RefS (K : PySem.W.Frag) (mg : Str → Option Value) (base : Heap) (qual : Str) (fd : FuncData) (k : Nat) (r : Str) (ks : List (Str × Nat)) : Prop where
  ex : ∃ (g cd P : Addr) (a : Str) (Ng : List Str) (pg : Arguments) (bg : List Stmt) (sg : Scope) (dV kV doc pm cdv ct oc : Value) (an od : Option Addr) (osl : Array (Option Value)),
    mg r = some (.ref g) ∧ PySem.W.keepIn K (.ref g) = true ∧ K.lookup g = some ⟨oc, od, .func (PySem.W.fnOf r r pg bg sg dV kV doc pm an cdv ct), osl⟩ ∧ PySem.W.codeIn K cdv r = true ∧ L2.Binds K (PySem.W.fnOf r r pg bg sg dV kV doc pm an cdv ct) [a] [] ∧
    FnScope Ng [a] sg ∧ Ng[0]? = some a ∧ Vis sg a ∧ okName a = true ∧ (∀ (X : Cx) (q : Str), X.K = K → X.mg = mg → Room (k + 2) X.A → LamX.GivesTo X Ng r sg g cdv bg a q (TTr mg ks)) ∧ LamX.TabB base mg cd P ∧ fd.code = .ref cd ∧
    (P, (qual ++ ".<locals>." : Str) ++ "<lambda>") ∈ Tbs.T ∧ (∀ p ∈ Tbs.T, p.1 = P → p.2 = (qual ++ ".<locals>." : Str) ++ "<lambda>")
theorem fn_ok {x qual : Str} {st : Stmt} {f : Addr} {fd : FuncData} {N ps : List Str} {k fuel : Nat} {pm : List Nat} {xc : List Str} {fns : List (Str × FnE)} {cns : List (Str × D)} {kl : List (Nat × List Nat × List Nat)} {rf : Option (Str × List (Str × Nat))} {body : Ss} {mf : MF}
    (F : Fun K x qual st f fd) (S : FnScope N ps (defScope st)) (ht : trSs fuel ⟨N, defScope st, fns, cns, kl, none, rf⟩ pm xc (defBody st) = some body)
    (hf : ∀ y e, fns.lookup y = some e → Ent P w K mg base k y e) (hg : Glob K mg cns xc) (hm : Mir N.length ps.length pm body mf)
    (href : ∀ r ks, rf = some (r, ks) → ∃ k', k = k' + 2 ∧ RefS K mg base qual fd k' r ks ∧ ∀ y e, fns.lookup y = some e → Ent P w K mg base k' y e) :
    FnOk P w K mg base (L2.CX P w) (k + 1) f fd ps (spM K mg ps.length mf) := by
  obtain ⟨oc, od, kV, doc, pmv, an, cdv, ct, osl, hfd, lk, hcd⟩ := F.ex
  subst hfd
  refine fn_of lk hcd S (fun vs H Q E h => h.1) fun A outer s H vs Q E hr hsp => ?_
  have tk : Takes (cxOf (L2.CX P w) P w K mg base N qual (defScope st) f cdv A outer s H E) (fun cls d _ H => E cls d H) := takes_of rfl rfl rfl rfl
  have G : FGood (cxOf (L2.CX P w) P w K mg base N qual (defScope st) f cdv A outer s H E) E ⟨N, defScope st, fns, cns, kl, none, rf⟩ xc := by
    refine ⟨⟨⟨rfl, rfl, S.nd, rfl, ?_, fun y e h => ?_, hg.cns, hg.blt, fun _ _ _ _ _ _ h => by cases h⟩, fun r ks h => ?_⟩, S.kind, fun _ => rfl, passes_of rfl, fun y hy => ?_, tk⟩
    · have := hr.un
      show (A.deeper _).units + 65 < _
      omega
    · obtain ⟨f', fd', ps', j, hj, q1, q2, q3, q4⟩ := (hf y e h).ex
      exact ⟨f', fd', ps', j, q1, hr.mono hj, q2, q3, q4, passes_call tk fun _ _ _ _ h => h⟩
    · obtain ⟨k', hk, rs, hf'⟩ := href r ks h
      obtain ⟨g, cd, Pt, a, Ng, pg, bg, sg, dV, kV2, doc2, pm2, cdv2, ct2, oc2, an2, od2, osl2, a1, a2, a3, a4, a5, a6, a7, a8, a9, a10, a11, a12, a13, a14⟩ := rs.ex
      subst hk
      refine ⟨g, cd, Pt, a, Ng, k', pg, bg, sg, dV, kV2, doc2, pm2, cdv2, ct2, oc2, an2, od2, osl2, a1, a2, a3, a4, a5, a6, a7, a8, a9, a10 _ _ rfl rfl hr, a11, a12, a13, a14, hr, fun scope A' outer' s' H' E' f' c' L hr' => ?_⟩
      refine ⟨rfl, rfl, S.nd, rfl, ?_, fun y e h => ?_, hg.cns, hg.blt, fun _ _ _ _ _ _ h => by cases h⟩
      · have := hr'.un
        show (A'.deeper _).units + 65 < _
        omega
      · obtain ⟨f3, fd3, ps3, j, hj, q1, q2, q3, q4⟩ := (hf' y e h).ex
        refine ⟨f3, fd3, ps3, j, q1, hr'.mono hj, q2, q3, q4, ?_⟩
        exact passes_call (W := fun cls d _ H => E' cls d H) (takes_of rfl rfl rfl rfl) fun _ _ _ _ h => h
    · obtain ⟨C, q1, q2, q3, q4, q5⟩ := hg.xc y hy
      exact ⟨C, q1, q2, q3, raises_own q4 q5⟩
  refine ⟨_, (sndS fuel).ss _ _ _ _ _ ht _ _ G, ?_⟩
  obtain ⟨hl, Hs, as, R, hp⟩ := hsp
  have hal : as.length = vs.length := by have := R.len; simp at this; omega
  rcases hm as (by omega) with e | ⟨hpm, e⟩
  · rw [e] at hp
    exact hp.elim
  rw [← e] at hp
  obtain ⟨R0, ow⟩ := env_start (n := N.length - vs.length) R
  refine ⟨Hs, as.map some ++ List.replicate (N.length - vs.length) none, R0, ?_⟩
  have F0 : ∀ {Hs' H' : Hp} {O : Addr → Prop}, Fram Hs H (Own (start N vs) (as.map some ++ List.replicate (N.length - vs.length) none)) Hs' H' O → Fram Hs H (Own (vs.map some) (as.map some)) Hs' H' O := fun {Hs' H' O} F => by
    have : Own (start N vs) (as.map some ++ List.replicate (N.length - vs.length) none) = Own (vs.map some) (as.map some) := funext fun b => propext (ow b)
    rw [this] at F
    exact F
  unfold runFn at hp
  simp only [hal] at hp
  cases hq : exSs body (as.map some ++ List.replicate (N.length - vs.length) none) with
  | bad => rw [hq] at hp; exact hp.elim
  | exc y =>
    rw [hq] at hp
    exact fun C H' hC hx => hp C H' hC (hx.big fun b z => (ow b).mp z)
  | ok fw =>
    rw [hq] at hp
    cases fw with
    | bk m' => exact hp.elim
    | ct m' => exact hp.elim
    | nx m' =>
      cases hfs : finsOf 0 as m' with
      | none => simp only [bind_ok, hfs, ofO_none, bind_bad] at hp; exact hp.elim
      | some fs =>
        simp only [bind_ok, hfs, ofO_some] at hp
        intro σ' Hs' H' R' F' kp
        obtain ⟨Re, oe⟩ := env_end (n := N.length - vs.length) R hpm R' F'.same kp hfs
        exact hp .non Hs' H' Re (by rw [OV_false]; exact F0 (F'.weak oe)) .non
    | rt fr d m' =>
      cases hfs : finsOf 0 as m' with
      | none => simp only [bind_ok, hfs, ofO_none, bind_bad] at hp; exact hp.elim
      | some fs =>
        simp only [bind_ok, hfs, ofO_some] at hp
        intro v σ' Hs' H' R' F' kp r
        obtain ⟨Re, oe⟩ := env_end (n := N.length - vs.length) R hpm R' F'.same kp hfs
        refine hp v Hs' H' Re (F0 (F'.weak fun b hb => hb.imp (oe b) id)) ?_
        cases fr with
        | false => exact r
        | true =>
          obtain ⟨a, o, q1, q2, q3, q4, q5⟩ := r
          exact ⟨a, o, q1, q2, q3, q4, fun z => q5 (oe a z)⟩
end
end Rc

set_option maxRecDepth 100000
set_option maxHeartbeats 4000000
/-! try: .. except C as n: .., and what follows it: the refusal is known there. -/
namespace Rc
open PySem PySem.Spec PyProof.Rows L2
/-- a context in which an object more is known -/
abbrev Cx.more (X : Cx) (q : Addr × Obj) (pins : List (Addr × Obj)) : Cx := X.tr (q :: (X.pn ++ pins)) X.xe
theorem Inv.toMore {X : Cx} {pins : List (Addr × Obj)} {σ : L2.St} {H : Hp} {s : Shared} {a : Addr} {q : Addr × Obj} (J : Inv (X.suite a (q :: (X.pn ++ pins))) [] σ H s) (ok : X.Ok) : Inv (X.tr (q :: (X.pn ++ pins)) X.xe) [] σ H s where
  ok := ok.toTry _ _
  os := J.os
  bare := J.bare
  base := J.base
  loc := J.loc
  cell := J.cell
  free := J.free
  freeC := J.freeC
  pin := fun p hp => J.pin p hp
  hok := J.hok
  len := J.len
theorem Inv.lessMore {X : Cx} {pins : List (Addr × Obj)} {σ : L2.St} {H : Hp} {s : Shared} {q : Addr × Obj} (J : Inv (X.tr (q :: (X.pn ++ pins)) X.xe) [] σ H s) (ok : X.Ok) : Inv X pins σ H s where
  ok := ok
  os := J.os
  bare := J.bare
  base := J.base
  loc := J.loc
  cell := J.cell
  free := J.free
  freeC := J.freeC
  pin := fun p hp => J.pin p (by rw [List.append_nil]; exact List.mem_cons_of_mem _ hp)
  hok := J.hok
  len := J.len
/-- how the statement ends: as the body, or behind the suite -/
def CatP (X : Cx) (pins : List (Addr × Obj)) (nx : L2.St → Hp → Prop) (nx1 : Addr → Value → L2.St → Hp → Prop) (f : Flow) (s' : Shared) : Prop := match f with
  | .next => (∃ σ' H', Inv X pins σ' H' s' ∧ nx σ' H') ∨ ∃ a oe cls σ' H', Inv (X.tr ((a, oe) :: (X.pn ++ pins)) X.xe) [] σ' H' s' ∧ Zc cls none oe ∧ (∃ vs, oe.data = .fields vs) ∧ nx1 a cls σ' H'
  | _ => False
/-- what is asked of a refusal of the body -/
def wCat (K : PySem.W.Frag) (c : Value) (i N : Nat) (ts : Addr → TS) (nx1 : Addr → Value → L2.St → Hp → Prop) : WX := fun cls d σ H =>
  PySem.W.exmOne K cls c = some true ∧ d = none ∧ (σ.length = N → ∀ a, H a = none → ts a { nx := fun σ' H' => nx1 a cls (σ'.set i none) H', rt := fun _ _ => False, bk := fun _ _ => False, ct := fun _ _ => False } (σ.set i (some (.ref a))) H)
theorem run_catch {X : Cx} {x n : Str} {c : Value} {i : Nat} {body suite : List Stmt} {b₀ : Stmt} {np pos pos' : Pos} {tb : WX → TS} {ts : Addr → TS} {nx : L2.St → Hp → Prop} {nx1 : Addr → Value → L2.St → Hp → Prop}
    (hst : X.stack = X.env :: X.outer) (hfl : X.env.frame = some X.env.locals) (hnd : X.N.Nodup) (hin : X.N[i]? = some n) (hkn : X.env.kindOf n = some .local) (hcl : Names X x c)
    (hbd : ∀ (W : WX) (pn : List (Addr × Obj)) (xe : Value → Shared → Prop), Takes (X.tr pn xe) W → PassesOwn (model X.prog X.w) X.A X.env xe → PSs (X.tr pn xe) body (tb W))
    (hsu : ∀ (a : Addr) (oe : Obj) (cls : Value) (pn : List (Addr × Obj)), Zc cls none oe → (∃ vs, oe.data = .fields vs) → PSs (X.suite a ((a, oe) :: pn)) (b₀ :: suite) (ts a))
    {pins : List (Addr × Obj)} {s : Shared} {σ : L2.St} {H : Hp} (I : Inv X pins σ H s) (h : tb (wCat X.K c i X.N.length ts nx1) { nx := nx, rt := fun _ _ => False, bk := fun _ _ => False, ct := fun _ _ => False } σ H) :
    wpAny (model X.prog X.w) X.A (exec (.Try body [.ExceptHandler (some (.Name x np)) (some n) (b₀ :: suite) pos'] [] [] pos) X.env) (CatP X pins nx nx1) X.xe s := by
  have xok := I.ok
  have frm : X.A.frames = some (X.env :: X.outer) := by rw [xok.frames, hst]
  refine wpAny_Try_except (wpAny_mono ((hbd (wCat X.K c i X.N.length ts nx1) (X.pn ++ pins)
    (fun e sa => wpAny (model X.prog X.w) X.A (noteFrame e X.env) (fun _ sb => wpAny (model X.prog X.w) X.A (setFlight e none) (fun _ sc => wpAny (model X.prog X.w) X.A (handleBy e X.env [.ExceptHandler (some (.Name x np)) (some n) (b₀ :: suite) pos']) (CatP X pins nx nx1) X.xe sc) X.xe sb) X.xe sa)
    (fun u s' xx => ?_) PassesOwn.looking).run [] s σ H _ (I.toTry _) h) (fun f s1 q => ?_) fun e s1 he => he)
  · obtain ⟨a, B, sI, pins', σ', H', cls, d, rfl, J', nb, up, sky, na, os, ag, hb1, rfl, hyes⟩ := xx
    have J : Inv X pins σ' H' sI := J'.ofTry xok
    show wpAny (model X.prog X.w) X.A (noteFrame (.ref a) X.env) _ _ _
    refine Sky.land Zc.steady frm hfl (by rw [← hst]; exact sky) fun h3 fl3 up3 => ?_
    have J3 : Inv X pins σ' H' { s' with heap := h3 } := J.landed nb fl3.1 (up.trans up3) os ag
    obtain ⟨oe3, vs3, he3, hz3, hd3⟩ := fl3.there
    have far : a ∉ frs (X.env :: X.outer) := fun hm => by
      obtain ⟨_, o', e', hnf⟩ := fl3.2.2.1.mem hm
      rw [he3] at e'; cases e'
      exact hnf _ hd3
    have nL : a ≠ X.env.locals := fun z => far (List.mem_filterMap.mpr ⟨X.env, List.mem_cons_self, by rw [hfl, z]⟩)
    have nF : a ∉ X.fs := fun hm => by
      obtain ⟨e, he, q⟩ := List.mem_filterMap.mp hm
      exact far (List.mem_filterMap.mpr ⟨e, List.mem_cons_of_mem _ he, q⟩)
    have S3 := J3.suite he3 hd3 na nL nF
    refine wpAny_handleBy_cons (codeAny_handlers_test ?_) (by intro q; cases q)
    have looks : PySem.W.Looks (model X.prog X.w) h3 (typeOf (.ref a)) cls := fun A Q E s k q => wpAny_typeOf_ref (k _ _ he3) (by
      rw [hz3.1]
      exact q)
    have LM := PySem.W.exm_one (M := model X.prog X.w) J3.kIn looks hb1
    have test : ∀ {Q : Value → Shared → Prop} {E : Value → Shared → Prop}, Q c { s' with heap := h3 } → wpAny (model X.prog X.w) (X.A.mark (some (.ref a))) (eval (.Name x np) X.env) Q E { s' with heap := h3 } := fun {Q E} q => by
      obtain ⟨g1, g2, g3 | ⟨g3, g4, g5⟩⟩ := hcl
      · exact ld_glob (X := X.suite a ((a, oe3) :: (X.pn ++ pins))) S3 g1 g3 q g2
      · exact ld_blt (X := X.suite a ((a, oe3) :: (X.pn ++ pins))) S3 g1 g3 g4 q g5 g2
    refine test (LM.here (codeAny_handlers_suite_as (HandSPX.lands_againZ fl3 fun h4 fl4 up4 => ?_)))
    have J4 : Inv X pins σ' H' { s' with heap := h4 } := J.landed nb fl4.1 ((up.trans up3).trans up4) os ag
    obtain ⟨oe4, vs4, he4, hz4, hd4⟩ := fl4.there
    have S4 := J4.suite he4 hd4 na nL nF
    refine store_ok (X := X.suite a ((a, oe4) :: (X.pn ++ pins))) (v := .ref a) S4 hnd hin (.inl hkn) rfl (fun s5 S5 => ?_) (.inr hkn)
    refine wpAny_mono ((hsu a oe4 cls (X.pn ++ pins) hz4 ⟨_, hd4⟩).run [] s5 _ H' _ S5 (hyes J.len a na)) (fun f s6 hsp => ?_) (fun _ _ z => False.elim z)
    cases f with
    | next =>
      obtain ⟨σ6, H6, S6, q6⟩ := hsp
      have M6 : Inv (X.tr ((a, oe4) :: (X.pn ++ pins)) X.xe) [] σ6 H6 s6 := Inv.toMore S6 xok
      exact gone_ok (X := X.tr ((a, oe4) :: (X.pn ++ pins)) X.xe) M6 hnd hin hkn fun s7 M7 => .inr ⟨a, oe4, cls, _, _, M7, hz4, ⟨_, hd4⟩, q6⟩
    | brk => obtain ⟨_, _, _, z⟩ := hsp; exact z.elim
    | cont => obtain ⟨_, _, _, z⟩ := hsp; exact z.elim
    | ret u => obtain ⟨_, _, _, _, _, z⟩ := hsp; exact z.elim
  · cases f with
    | next =>
      obtain ⟨σ', H', J', q⟩ := q
      exact wpAny_execs_nil (.inl ⟨σ', H', J'.ofTry xok, q⟩)
    | brk => obtain ⟨_, _, _, z⟩ := q; exact z.elim
    | cont => obtain ⟨_, _, _, z⟩ := q; exact z.elim
    | ret u => obtain ⟨_, _, _, _, _, z⟩ := q; exact z.elim
/-- .. and what follows -/
theorem pss_catch {X : Cx} {x n : Str} {c : Value} {i : Nat} {body suite rest : List Stmt} {b₀ : Stmt} {np pos pos' : Pos} {tb : WX → TS} {ts : Addr → TS} {u0 : TS} {u1 : Addr → Value → TS}
    (hst : X.stack = X.env :: X.outer) (hfl : X.env.frame = some X.env.locals) (hnd : X.N.Nodup) (hin : X.N[i]? = some n) (hkn : X.env.kindOf n = some .local) (hcl : Names X x c)
    (hbd : ∀ (W : WX) (pn : List (Addr × Obj)) (xe : Value → Shared → Prop), Takes (X.tr pn xe) W → PassesOwn (model X.prog X.w) X.A X.env xe → PSs (X.tr pn xe) body (tb W))
    (hsu : ∀ (a : Addr) (oe : Obj) (cls : Value) (pn : List (Addr × Obj)), Zc cls none oe → (∃ vs, oe.data = .fields vs) → PSs (X.suite a ((a, oe) :: pn)) (b₀ :: suite) (ts a))
    (h0 : PSs X rest u0) (h1 : ∀ (a : Addr) (oe : Obj) (cls : Value) (pn : List (Addr × Obj)), Zc cls none oe → (∃ vs, oe.data = .fields vs) → PSs (X.tr ((a, oe) :: pn) X.xe) rest (u1 a cls)) :
    PSs X (.Try body [.ExceptHandler (some (.Name x np)) (some n) (b₀ :: suite) pos'] [] [] pos :: rest) (fun D σ H => tb (wCat X.K c i X.N.length ts fun a cls σ' H' => u1 a cls D σ' H') { nx := fun σ' H' => u0 D σ' H', rt := fun _ _ => False, bk := fun _ _ => False, ct := fun _ _ => False } σ H) := by
  refine ⟨fun pins s σ H D I h => wpAny_execs_cons (thn (run_catch hst hfl hnd hin hkn hcl hbd hsu I h) fun f s1 q => ?_)⟩
  have xok := I.ok
  cases f with
  | next =>
    rcases q with ⟨σ', H', J, q⟩ | ⟨a, oe, cls, σ', H', J, hz, hf, q⟩
    · exact h0.run pins s1 σ' H' D J q
    · refine thn ((h1 a oe cls (X.pn ++ pins) hz hf).run [] s1 σ' H' D J q) fun f s2 z => ?_
      cases f with
      | next =>
        obtain ⟨σ2, H2, J2, z⟩ := z
        exact ⟨σ2, H2, Inv.lessMore J2 xok, z⟩
      | brk =>
        obtain ⟨σ2, H2, J2, z⟩ := z
        exact ⟨σ2, H2, Inv.lessMore J2 xok, z⟩
      | cont =>
        obtain ⟨σ2, H2, J2, z⟩ := z
        exact ⟨σ2, H2, Inv.lessMore J2 xok, z⟩
      | ret u =>
        obtain ⟨v, σ2, H2, J2, r, z⟩ := z
        exact ⟨v, σ2, H2, Inv.lessMore J2 xok, r, z⟩
  | ret v => exact q.elim
  | brk => exact q.elim
  | cont => exact q.elim
end Rc

set_option maxRecDepth 100000
set_option maxHeartbeats 4000000
/-! From the head's facts to the law as a statement about the language. -/
namespace Rc
open PySem L2
theorem cut {a b : Prop} (h : a) (k : a → b) : b := k h
/-- which arguments may be handed over to be changed -/
def flg : List Bool → List (Bool × D) → Bool
  | [], [] => true
  | b :: bs, a :: as => (b || !a.1) && flg bs as
  | _, _ => false
def pmOf : Nat → List Bool → List Nat
  | _, [] => []
  | k, true :: r => k :: pmOf (k + 1) r
  | k, false :: r => pmOf (k + 1) r
theorem flg_len : ∀ {ms : List Bool} {as : List (Bool × D)}, flg ms as = true → as.length = ms.length
  | [], [], _ => rfl
  | _ :: _, _ :: _, h => by
    simp only [flg, Bool.and_eq_true] at h
    simp [flg_len h.2]
  | [], _ :: _, h => by simp [flg] at h
  | _ :: _, [], h => by simp [flg] at h
theorem flg_pm : ∀ {ms : List Bool} {as : List (Bool × D)} (k : Nat), flg ms as = true → ∀ i d, as[i]? = some (true, d) → k + i ∈ pmOf k ms
  | [], [], _, _, i, d, h => by simp at h
  | b :: ms, a :: as, k, h, 0, d, e => by
    simp only [flg, Bool.and_eq_true] at h
    simp at e
    subst e
    have : b = true := by simpa using h.1
    subst this
    simp [pmOf]
  | b :: ms, a :: as, k, h, i + 1, d, e => by
    simp only [flg, Bool.and_eq_true] at h
    have q := flg_pm (k + 1) h.2 i d (by simpa using e)
    rw [show k + 1 + i = k + (i + 1) by omega] at q
    cases b
    · exact q
    · exact List.mem_cons_of_mem _ q
  | [], _ :: _, _, h, _, _, _ => by simp [flg] at h
  | _ :: _, [], _, h, _, _, _ => by simp [flg] at h
/-- a def's mirror: its body -/
noncomputable def mkM (ms : List Bool) (n : Nat) (b : Ss) : MF := fun as => if flg ms as = true then runFn ⟨n, b⟩ as else .bad
def noM : MF := fun _ => .bad
section
variable {P : Program} {w : World} {K : PySem.W.Frag} {mg : Str → Option Value} {base : Heap}
/-- a def of the text, as the top left it -/
structure Dfd (K : PySem.W.Frag) (mg : Str → Option Value) (x : Str) (st : Stmt) (ps : List Str) : Prop where
  ex : ∃ (f : Addr) (fd : FuncData), Fun K x x st f fd ∧ mg x = some (.ref f) ∧ Binds K fd ps []
theorem dfd_mk {h : Heap} (X : K.In h) (G : h.Ns mainGlobals mg) {x : Str} {st : Stmt} {ps : List Str} {f : Addr} {oc : Value} {od an : Option Addr} {osl : Array (Option Value)} {kV doc pm cdv ct : Value}
    (b : ∀ (kV doc pm : Value) (an : Option Addr) (cdv ct : Value) (us : List Value), us.length = ps.length → bindArgs (PySem.W.fnOf x x (defArgs st) (defBody st) (defScope st) .none kV doc pm an cdv ct) ⟨us, []⟩ = pure (ps.zip us))
    (a : PySem.W.nsIn K mainGlobals x = some (some (.ref f))) (l : K.lookup f = some ⟨oc, od, .func (PySem.W.fnOf x x (defArgs st) (defBody st) (defScope st) .none kV doc pm an cdv ct), osl⟩) (c : PySem.W.codeIn K cdv x = true) (k : PySem.W.keepIn K (.ref f) = true) : Dfd K mg x st ps :=
  ⟨f, _, fun_mk l c k, PySem.W.mg_of X G a, .all (b kV doc pm an cdv ct)⟩
variable [Tbs]
theorem mir_mk {ms : List Bool} {n np : Nat} {b : Ss} : Mir n np (pmOf 0 ms) b (mkM ms n b) := fun as _ => by
  unfold mkM
  by_cases h : flg ms as = true
  · rw [if_pos h]
    refine .inr ⟨fun i d e => ?_, rfl⟩
    have := flg_pm 0 h i d e
    rwa [Nat.zero_add] at this
  · rw [if_neg h]
    exact .inl rfl
theorem ents_nil {k : Nat} : ∀ y e, ([] : List (Str × FnE)).lookup y = some e → Ent P w K mg base k y e := fun _ _ h => by cases h
theorem ents_cons {k j : Nat} {x : Str} {e : FnE} {r : List (Str × FnE)} (h : Ent P w K mg base j x e) (l : j ≤ k) (t : ∀ y e, r.lookup y = some e → Ent P w K mg base k y e) : ∀ y e', ((x, e) :: r).lookup y = some e' → Ent P w K mg base k y e' := fun y e' q => by
  rw [List.lookup_cons] at q
  split at q
  · rename_i z
    cases q
    have := eq_of_beq z
    subst this
    exact h.mono l
  · exact t y e' q
theorem ent_ok {x : Str} {st : Stmt} {N ps : List Str} {k fuel : Nat} {ms : List Bool} {xc : List Str} {fns : List (Str × FnE)} {cns : List (Str × D)} {kl : List (Nat × List Nat × List Nat)} {body : Ss}
    (Df : Dfd K mg x st ps) (S : FnScope N ps (defScope st)) (ht : trSs fuel ⟨N, defScope st, fns, cns, kl, none, none⟩ (pmOf 0 ms) xc (defBody st) = some body)
    (hf : ∀ y e, fns.lookup y = some e → Ent P w K mg base k y e) (hg : Glob K mg cns xc) : Ent P w K mg base (k + 1) x ⟨ps.length, mkM ms N.length body, ms⟩ := by
  obtain ⟨f, fd, F, m, b⟩ := Df.ex
  exact ⟨f, fd, ps, k + 1, Nat.le_refl _, fn_ok F S ht hf hg mir_mk (fun _ _ h => by cases h), m, F.kp, b⟩
/-- .. that makes lambdas -/
theorem ent_okR {x : Str} {st : Stmt} {N ps : List Str} {k fuel : Nat} {ms : List Bool} {xc : List Str} {fns : List (Str × FnE)} {cns : List (Str × D)} {kl : List (Nat × List Nat × List Nat)} {r : Str} {ks : List (Str × Nat)} {body : Ss} {f : Addr} {fd : FuncData}
    (F : Fun K x x st f fd) (m : mg x = some (.ref f)) (b : Binds K fd ps []) (S : FnScope N ps (defScope st)) (ht : trSs fuel ⟨N, defScope st, fns, cns, kl, none, some (r, ks)⟩ (pmOf 0 ms) xc (defBody st) = some body)
    (hf : ∀ y e, fns.lookup y = some e → Ent P w K mg base k y e) (hg : Glob K mg cns xc) (hr : RefS K mg base x fd k r ks) : Ent P w K mg base (k + 3) x ⟨ps.length, mkM ms N.length body, ms⟩ :=
  ⟨f, fd, ps, k + 3, Nat.le_refl _, fn_ok F S ht (fun y e h => (hf y e h).mono (by omega)) hg mir_mk (fun r' ks' h => by cases h; exact ⟨k, rfl, hr, hf⟩), m, F.kp, b⟩
/-- a def of which nothing is promised -/
theorem ent_no {x : Str} {st : Stmt} {ps : List Str} {ms : List Bool} (Df : Dfd K mg x st ps) : Ent P w K mg base 0 x ⟨ps.length, noM, ms⟩ := by
  obtain ⟨f, fd, F, m, b⟩ := Df.ex
  exact ⟨f, fd, ps, 0, Nat.le_refl _, ⟨fun vs H Q E h => h.1, fun A outer s H args us vs Q E _ _ _ _ h => by
    obtain ⟨_, _, _, _, q⟩ := h
    exact q.elim⟩, m, F.kp, b⟩
theorem glob_nil (b : ∀ x ∈ blts, mg x = none) : Glob K mg [] [] := ⟨fun _ _ h => (by cases h), b, fun _ h => (by cases h)⟩
def spLaw (K : PySem.W.Frag) : Sp := fun vs H Q _ => LamX.Tabs Tbs.T H ∧ ∃ (a : Addr) (ns : List Int), vs = [.ref a] ∧ SqL K H a (ns.map V.int) ∧ ns.length ≤ 63 ∧ (∀ z ∈ ns, Builtin.Int.intBits z ≤ 1048576) ∧ ∀ H', Q (.bl true) H'
/-- the law, as a statement about the language -/
def Says (f : MF) : Prop := ∀ ns : List Int, ns.length ≤ 63 → (∀ z ∈ ns, Builtin.Int.intBits z ≤ 1048576) → ∃ r, f [(false, scrD ns)] = .ok (false, .bool true, r)
/-- all but the tables is shared at the law's start -/
theorem open_law {H : Hp} {a : Addr} {xs : List V} (ht : LamX.Tabs Tbs.T H) (h : SqL K H a xs) : ∃ Hs, Sub Hs H ∧ SqL K Hs a xs := by
  refine ⟨fun b => match H b with | some (.tbl _) => none | o => o, ⟨fun b o e => ?_, ht, fun b ps e => ?_⟩, ?_⟩
  · split at e
    · cases e
    · exact e
  · split at e
    · cases e
    · rename_i n
      exact n ps e
  · rcases h with (h | ⟨o, h⟩) | h
    · exact .inl (.inl (by show (match H a with | some (.tbl _) => none | o => o) = _; rw [h]))
    · exact .inl (.inr ⟨o, by show (match H a with | some (.tbl _) => none | o => o) = _; rw [h]⟩)
    · exact .inr h
/-- the law's own def -/
theorem law_at {x : Str} {st : Stmt} {N : List Str} {p : Str} {k fuel : Nat} {ms : List Bool} {xc : List Str} {fns : List (Str × FnE)} {cns : List (Str × D)} {kl : List (Nat × List Nat × List Nat)} {rf : Option (Str × List (Str × Nat))} {body : Ss} {f fa : Addr} {fd : FuncData}
    (F : Fun K x x st f fd) (hfa : mg x = some (.ref fa)) (hf' : mg x = some (.ref f)) (S : FnScope N [p] (defScope st)) (ht : trSs fuel ⟨N, defScope st, fns, cns, kl, none, rf⟩ (pmOf 0 ms) xc (defBody st) = some body)
    (hf : ∀ y e, fns.lookup y = some e → Ent P w K mg base k y e) (hg : Glob K mg cns xc) (s : Says (mkM ms N.length body))
    (href : ∀ r ks, rf = some (r, ks) → ∃ k', k = k' + 2 ∧ RefS K mg base x fd k' r ks ∧ ∀ y e, fns.lookup y = some e → Ent P w K mg base k' y e) : FnOk P w K mg base (L2.CX P w) (k + 1) fa fd [p] (spLaw K) := by
  rw [hfa] at hf'
  cases hf'
  have q := fn_ok (P := P) (w := w) (base := base) F S ht hf hg mir_mk href
  refine q.imp fun vs H Q E h => ?_
  obtain ⟨ht, a, ns, rfl, h1, h2, h3, h4⟩ := h
  obtain ⟨r, hr⟩ := s ns h2 h3
  obtain ⟨Hs, hS, hsc⟩ := open_law ht h1
  have sc : Rp K Hs (.ref a) (scrD ns) := .scr hsc rfl
  refine ⟨rfl, Hs, [(false, scrD ns)], ⟨hS, rfl, fun i d g => ?_, fun i d g => ?_, fun i j d e b g => ?_⟩, ?_⟩
  · match i, g with
    | 0, g => cases g; exact ⟨_, rfl, sc⟩
  · match i, g with
    | 0, g => cases g
  · match i, g with
    | 0, g => cases g
  · rw [hr]
    intro v Hs' H' _ _ rv
    have rv : Rp K Hs' v (.bool true) := rv
    cases rv with
    | bl => exact h4 _
    | scr _ e => cases e
    | adr e => cases e
end
end Rc

set_option maxRecDepth 100000
set_option maxHeartbeats 4000000
/-! Reading the language: equations for simp, rules for loops. -/
namespace Rc
open PySem
/-- what follows, held as an instance, so that simp does not look into it ahead of time -/
class Kt (α β : Type) where
  r : α → Res β
def lb {α β : Type} (a : Res α) [f : Kt α β] : Res β := a.bind f.r
@[simp] theorem lb_ok {α β : Type} (a : α) (f : α → Res β) : @lb α β (.ok a) ⟨f⟩ = f a := rfl
@[simp] theorem lb_exc {α β : Type} (x : Str) (f : α → Res β) : @lb α β (.exc x) ⟨f⟩ = .exc x := rfl
@[simp] theorem lb_bad {α β : Type} (f : α → Res β) : @lb α β .bad ⟨f⟩ = .bad := rfl
theorem lb_eq {α β : Type} (a : Res α) (f : α → Res β) : @lb α β a ⟨f⟩ = a.bind f := rfl
section
variable {m : Env} {i : Nat}
@[simp] theorem geti_z (x : Option (Bool × D)) : geti (x :: m) 0 = x := rfl
@[simp] theorem geti_s (x : Option (Bool × D)) : geti (x :: m) (i + 1) = geti m i := rfl
@[simp] theorem geti_n : geti [] i = none := by cases i <;> rfl
@[simp] theorem x_var : ev (.var i) m = (match geti m i with | some (_, d) => .ok ((false, d), m) | none => .bad) := by first | (rw [ev]; rfl) | rw [ev]
@[simp] theorem x_con (d : D) : ev (.con d) m = .ok ((false, d), m) := by rw [ev]
@[simp] theorem x_bin (o : Bop) (a b : E) : ev (.bin o a b) m = @lb _ _ (ev a m) ⟨fun p => @lb _ _ (ev b p.2) ⟨fun q => @lb _ _ (Res.ofO ((rd a p.1.2 q.2).bind fun x => (rd b q.1.2 q.2).bind fun y => bop o x y)) ⟨fun r => .ok (r, q.2)⟩⟩⟩:= by first | (rw [ev]; rfl) | rw [ev]
@[simp] theorem x_neg (a : E) : ev (.neg a) m = @lb _ _ (ev a m) ⟨fun p => match p.1.2 with | .int i => .ok ((false, .int (-i)), p.2) | _ => .bad⟩:= by first | (rw [ev]; rfl) | rw [ev]
@[simp] theorem x_nt (a : E) : ev (.nt a) m = @lb _ _ (ev a m) ⟨fun p => match p.1.2 with | .bool b => .ok ((false, .bool (!b)), p.2) | _ => .bad⟩:= by first | (rw [ev]; rfl) | rw [ev]
@[simp] theorem x_and (a b : E) : ev (.and a b) m = @lb _ _ (ev a m) ⟨fun p => match p.1.2 with | .bool true => (@lb _ _ (ev b p.2) ⟨fun q => match q.1.2 with | .bool c => .ok ((false, .bool c), q.2) | _ => .bad⟩) | .bool false => .ok ((false, .bool false), p.2) | _ => .bad⟩:= by first | (rw [ev]; rfl) | rw [ev]
@[simp] theorem x_or (a b : E) : ev (.or a b) m = @lb _ _ (ev a m) ⟨fun p => match p.1.2 with | .bool false => (@lb _ _ (ev b p.2) ⟨fun q => match q.1.2 with | .bool c => .ok ((false, .bool c), q.2) | _ => .bad⟩) | .bool true => .ok ((false, .bool true), p.2) | _ => .bad⟩:= by first | (rw [ev]; rfl) | rw [ev]
@[simp] theorem x_cmp (o : Cop) (a b : E) : ev (.cmp o a b) m = @lb _ _ (ev a m) ⟨fun p => @lb _ _ (ev b p.2) ⟨fun q => @lb _ _ (Res.ofO ((rd a p.1.2 q.2).bind fun x => (rd b q.1.2 q.2).bind fun y => cop o x y)) ⟨fun r => .ok ((false, .bool r), q.2)⟩⟩⟩:= by first | (rw [ev]; rfl) | rw [ev]
@[simp] theorem x_chn (o o' : Cop) (a b c : E) : ev (.chn o o' a b c) m = @lb _ _ (ev a m) ⟨fun p => @lb _ _ (ev b p.2) ⟨fun q => @lb _ _ (Res.ofO ((rd a p.1.2 q.2).bind fun x => (rd b q.1.2 q.2).bind fun y => cop o x y)) ⟨fun r =>
      if r = true then @lb _ _ (ev c q.2) ⟨fun t => @lb _ _ (Res.ofO ((rd b q.1.2 t.2).bind fun x => (rd c t.1.2 t.2).bind fun y => cop o' x y)) ⟨fun r' => .ok ((false, .bool r'), t.2)⟩⟩ else .ok ((false, .bool false), q.2)⟩⟩⟩:= by first | (rw [ev]; rfl) | rw [ev]
@[simp] theorem x_ite (c a b : E) : ev (.ite c a b) m = @lb _ _ (ev c m) ⟨fun p => match p.1.2 with
      | .bool true => (@lb _ _ (ev a p.2) ⟨fun q => .ok ((false, q.1.2), tkm a q.2)⟩)
      | .bool false => (@lb _ _ (ev b p.2) ⟨fun q => .ok ((false, q.1.2), tkm b q.2)⟩)
      | _ => .bad⟩:= by first | (rw [ev]; rfl) | rw [ev]
@[simp] theorem x_tup (es : Es) : ev (.tup es) m = @lb _ _ (evs es m) ⟨fun p => if lenOk p.1.length then .ok ((false, .tuple p.1), p.2) else .bad⟩:= by first | (rw [ev]; rfl) | rw [ev]
@[simp] theorem x_lst (es : Es) : ev (.lst es) m = @lb _ _ (evs es m) ⟨fun p => if lenOk p.1.length then .ok ((true, .list p.1), p.2) else .bad⟩:= by first | (rw [ev]; rfl) | rw [ev]
@[simp] theorem x_dct : ev .dct m = .ok ((true, .dict []), m) := by rw [ev]
@[simp] theorem x_idx (a b : E) : ev (.idx a b) m = @lb _ _ (ev a m) ⟨fun p => @lb _ _ (ev b p.2) ⟨fun q => @lb _ _ (Res.ofO ((rd a p.1.2 q.2).bind fun x => (rd b q.1.2 q.2).bind fun y => idxF x y)) ⟨fun r => .ok ((false, r), q.2)⟩⟩⟩:= by first | (rw [ev]; rfl) | rw [ev]
@[simp] theorem x_slc (a l h : E) : ev (.slc a l h) m = @lb _ _ (ev a m) ⟨fun p => @lb _ _ (ev l p.2) ⟨fun q => @lb _ _ (Res.ofO (partI l q.1.2)) ⟨fun lo => @lb _ _ (ev h q.2) ⟨fun t => @lb _ _ (Res.ofO (partI h t.1.2)) ⟨fun hi =>
      @lb _ _ (Res.ofO ((rd a p.1.2 t.2).bind fun x => slcF x lo hi)) ⟨fun r => .ok (r, t.2)⟩⟩⟩⟩⟩⟩:= by first | (rw [ev]; rfl) | rw [ev]
@[simp] theorem x_rvs (a : E) : ev (.rvs a) m = @lb _ _ (ev a m) ⟨fun p => @lb _ _ (Res.ofO (rvsF p.1.2)) ⟨fun r => .ok (r, p.2)⟩⟩:= by first | (rw [ev]; rfl) | rw [ev]
@[simp] theorem x_call (f : MF) (ms : List Bool) (es : Es) : ev (.call f ms es) m = @lb _ _ (evA ms es m) ⟨fun p => match fetch p.1 p.2 with
      | some (as, m1) => @lb _ _ (f as) ⟨fun r => if r.2.2.length = as.length then .ok ((r.1, r.2.1), back p.1 as r.2.2 m1) else .bad⟩
      | none => .bad⟩:= by first | (rw [ev]; rfl) | rw [ev]
@[simp] theorem x_blt (b : Blt) (es : Es) : ev (.blt b es) m = @lb _ _ (evO es m) ⟨fun p => @lb _ _ (Res.ofO ((rds p.1 p.2).bind fun xs => bltF b xs)) ⟨fun r => .ok (r, p.2)⟩⟩:= by first | (rw [ev]; rfl) | rw [ev]
@[simp] theorem x_isi (a : E) (ts : List String) : ev (.isi a ts) m = @lb _ _ (ev a m) ⟨fun p => @lb _ _ (Res.ofO ((rd a p.1.2 p.2).bind fun x => isiD x ts)) ⟨fun b => .ok ((false, .bool b), p.2)⟩⟩:= by first | (rw [ev]; rfl) | rw [ev]
@[simp] theorem x_evs0 : evs .nil m = .ok ([], m) := by rw [evs]
@[simp] theorem x_evs1 (e : E) (es : Es) : evs (.cons e es) m = @lb _ _ (ev e m) ⟨fun p => @lb _ _ (evs es (tkm e p.2)) ⟨fun q => .ok (p.1.2 :: q.1, q.2)⟩⟩:= by first | (rw [evs]; rfl) | rw [evs]
@[simp] theorem x_evO0 : evO .nil m = .ok ([], m) := by rw [evO]
@[simp] theorem x_evO1 (e : E) (es : Es) : evO (.cons e es) m = @lb _ _ (ev e m) ⟨fun p => @lb _ _ (evO es p.2) ⟨fun q => .ok ((e, p.1.2) :: q.1, q.2)⟩⟩:= by first | (rw [evO]; rfl) | rw [evO]
@[simp] theorem x_evA0 (ms : List Bool) : evA ms .nil m = .ok ([], m) := by rw [evA]
@[simp] theorem x_evA1 (ms : List Bool) (e : E) (es : Es) : evA ms (.cons e es) m = @lb _ _ (ev e m) ⟨fun p => match e, ms with
      | .var i, true :: ms' => @lb _ _ (evA ms' es p.2) ⟨fun q => .ok (.inl i :: q.1, q.2)⟩
      | _, _ => @lb _ _ (evA ms.tail es (tkm e p.2)) ⟨fun q => .ok (.inr p.1.2 :: q.1, q.2)⟩⟩:= by first | (rw [evA]; rfl) | rw [evA]
@[simp] theorem x_sq (e : E) : evI (.sq e) m = @lb _ _ (ev e m) ⟨fun p => @lb _ _ (Res.ofO (seqD p.1.2)) ⟨fun xs => .ok (xs, srcsOf e p.1.2 p.2, p.2)⟩⟩:= by first | (rw [evI]; rfl) | rw [evI]
@[simp] theorem x_rg (a : E) : evI (.rg a) m = @lb _ _ (ev a m) ⟨fun p => match p.1.2 with
      | .int j => @ite _ (smallI j) (Classical.propDecidable _) (.ok (rngD 0 j, [], p.2)) .bad
      | _ => .bad⟩:= by first | (rw [evI]; rfl) | rw [evI]
@[simp] theorem x_rg2 (a b : E) : evI (.rg2 a b) m = @lb _ _ (ev a m) ⟨fun p => @lb _ _ (ev b p.2) ⟨fun q => match p.1.2, q.1.2 with
      | .int i, .int j => @ite _ (smallI i ∧ smallI j) (Classical.propDecidable _) (.ok (rngD i j, [], q.2)) .bad
      | _, _ => .bad⟩⟩:= by first | (rw [evI]; rfl) | rw [evI]
@[simp] theorem x_zp (a b : E) : evI (.zp a b) m = @lb _ _ (ev a m) ⟨fun p => @lb _ _ (ev b p.2) ⟨fun q =>
    @lb _ _ (Res.ofO (rd a p.1.2 q.2)) ⟨fun x => @lb _ _ (Res.ofO (rd b q.1.2 q.2)) ⟨fun y =>
      if isL x = isL y then @lb _ _ (Res.ofO (seqD x)) ⟨fun xs => @lb _ _ (Res.ofO (seqD y)) ⟨fun ys => .ok (List.zipWith (fun u v => .tuple [u, v]) xs ys, srcsOf a x q.2 ++ srcsOf b y q.2, q.2)⟩⟩ else .bad⟩⟩⟩⟩:= by first | (rw [evI]; rfl) | rw [evI]
@[simp] theorem x_zn (a b : E) : evI (.zn a b) m = @lb _ _ (ev a m) ⟨fun p => @lb _ _ (ev b p.2) ⟨fun q =>
    @lb _ _ (Res.ofO (rd a p.1.2 q.2)) ⟨fun x => @lb _ _ (Res.ofO (rd b q.1.2 q.2)) ⟨fun y =>
      (match x, y with
      | .list xs, .list ys => .ok (List.zipWith (fun u v => .tuple [u, v]) xs ys, srcsOf a x q.2 ++ srcsOf b y q.2, q.2)
      | _, _ => .bad)⟩⟩⟩⟩ := by first | (rw [evI]; rfl) | rw [evI]
@[simp] theorem x_zp3 (a b c : E) : evI (.zp3 a b c) m = @lb _ _ (ev a m) ⟨fun p => @lb _ _ (ev b p.2) ⟨fun q => @lb _ _ (ev c q.2) ⟨fun r =>
    @lb _ _ (Res.ofO (rd a p.1.2 r.2)) ⟨fun x => @lb _ _ (Res.ofO (rd b q.1.2 r.2)) ⟨fun y => @lb _ _ (Res.ofO (rd c r.1.2 r.2)) ⟨fun u =>
      (match x, y, u with
      | .list xs, .list ys, .list us => .ok (z3 xs ys us, srcsOf a x r.2 ++ (srcsOf b y r.2 ++ srcsOf c u r.2), r.2)
      | _, _, _ => .bad)⟩⟩⟩⟩⟩⟩ := by first | (rw [evI]; rfl) | rw [evI]
@[simp] theorem x_en (a : E) : evI (.en a) m = @lb _ _ (ev a m) ⟨fun p => @lb _ _ (Res.ofO (seqD p.1.2)) ⟨fun xs => .ok ((List.range xs.length).zipWith (fun (k : Nat) v => .tuple [.int k, v]) xs, srcsOf a p.1.2 p.2, p.2)⟩⟩:= by first | (rw [evI]; rfl) | rw [evI]
@[simp] theorem x_rv (a : E) : evI (.rv a) m = @lb _ _ (ev a m) ⟨fun p => @lb _ _ (Res.ofO (seqD p.1.2)) ⟨fun xs => .ok (xs.reverse, srcsOf a p.1.2 p.2, p.2)⟩⟩:= by first | (rw [evI]; rfl) | rw [evI]
@[simp] theorem x_asg (i : Nat) (e : E) : exS (.asg i e) m = @lb _ _ (ev e m) ⟨fun p => .ok (.nx ((tkm e p.2).set i (some (takeV e p.1))))⟩:= by first | (rw [exS]; rfl) | rw [exS]
@[simp] theorem x_unp (g : List Nat) (e : E) : exS (.unp g e) m = @lb _ _ (ev e m) ⟨fun p => @lb _ _ (Res.ofO (bindT g p.1.2 (tkm e p.2))) ⟨fun m1 => .ok (.nx m1)⟩⟩:= by first | (rw [exS]; rfl) | rw [exS]
@[simp] theorem x_par (g : List Nat) (es : Es) : exS (.par g es) m = @lb _ _ (evs es m) ⟨fun p => if p.1.length = g.length then .ok (.nx ((g.zip p.1).foldl (fun m q => m.set q.1 (some (false, q.2))) p.2)) else .bad⟩:= by first | (rw [exS]; rfl) | rw [exS]
@[simp] theorem x_sti (i : Nat) (x e : E) : exS (.sti i x e) m = @lb _ _ (ev e m) ⟨fun p => (match geti (tkm e p.2) i with
      | some (true, _) => @lb _ _ (ev x (tkm e p.2)) ⟨fun q => (match geti q.2 i with
        | some (true, d) => @lb _ _ (Res.ofO ((rd x q.1.2 q.2).bind fun k => stiF d k p.1.2)) ⟨fun d' => .ok (.nx (q.2.set i (some (true, d'))))⟩
        | _ => .bad)⟩
      | _ => .bad)⟩:= by first | (rw [exS]; rfl) | rw [exS]
@[simp] theorem x_mth (i : Nat) (k : Mth) (es : Es) : exS (.mth i k es) m = (match geti m i with
      | some (true, .list _) => @lb _ _ (evs es m) ⟨fun p => (match geti p.2 i with
        | some (true, d) => @lb _ _ (Res.ofO (mthF k d p.1)) ⟨fun d' => .ok (.nx (p.2.set i (some (true, d'))))⟩
        | _ => .bad)⟩
      | _ => .bad) := by first | (rw [exS]; rfl) | rw [exS]
@[simp] theorem x_exp (e : E) : exS (.exp e) m = @lb _ _ (ev e m) ⟨fun p => .ok (.nx p.2)⟩:= by first | (rw [exS]; rfl) | rw [exS]
@[simp] theorem x_ret (e : E) : exS (.ret e) m = @lb _ _ (ev e m) ⟨fun p => .ok (.rt (takeV e p.1).1 p.1.2 (tkm e p.2))⟩:= by first | (rw [exS]; rfl) | rw [exS]
@[simp] theorem x_retv (i : Nat) : exS (.retv i) m = (match geti m i with
      | some (f, d) => .ok (.rt f d (m.set i none))
      | none => .bad) := by first | (rw [exS]; rfl) | rw [exS]
@[simp] theorem x_retn : exS .retn m = .ok (.rt false .none m) := by rw [exS]
@[simp] theorem x_sif (c : E) (a b : Ss) : exS (.sif c a b) m = @lb _ _ (evC c m) ⟨fun p => if p.1 = true then exSs a p.2 else exSs b p.2⟩:= by first | (rw [exS]; rfl) | rw [exS]
theorem x_sfor (g : List Nat) (it : It) (b : Ss) : exS (.sfor g it b) m = @lb _ _ (evI it m) ⟨fun p => forL p.2.1 g (exSs b) p.1 p.2.2⟩:= by first | (rw [exS]; rfl) | rw [exS]
theorem x_whl (c : E) (b : Ss) : exS (.whl c b) m = wh (evC c) (exSs b) m := by rw [exS]
@[simp] theorem x_rais (x : Str) : exS (.rais x) m = .exc x := by rw [exS]
@[simp] theorem x_brk : exS .brk m = .ok (.bk m) := by rw [exS]
@[simp] theorem x_cnt : exS .cnt m = .ok (.ct m) := by rw [exS]
@[simp] theorem x_pass : exS .pass m = .ok (.nx m) := by rw [exS]
@[simp] theorem x_ss0 : exSs .nil m = .ok (.nx m) := by rw [exSs]
theorem x_ss1 (s : S) (ss : Ss) : exSs (.cons s ss) m = @lb _ _ (exS s m) ⟨fun f => match f with
      | .nx m1 => exSs ss m1
      | .rt fr d m1 => .ok (.rt fr d m1)
      | .bk m1 => .ok (.bk m1)
      | .ct m1 => .ok (.ct m1)⟩:= by first | (rw [exSs]; rfl) | rw [exSs]
@[simp] theorem x_isx (d : D) (b : Bool) : ev (.isx i d b) m = (match geti m i with | some (false, d') => isxF d' d b m | _ => .bad) := by first | (rw [ev]; rfl) | rw [ev]
@[simp] theorem isxF_self (d : D) (b : Bool) (m : Env) : isxF d d b m = .ok ((false, .bool b), m) := by unfold isxF; rw [if_pos rfl]
@[simp] theorem x_vor (a b : E) : ev (.vor a b) m = @lb _ _ (ev a m) ⟨fun p => match p.1.2 with
      | .tuple (x :: xs) => .ok ((false, .tuple (x :: xs)), tkm a p.2)
      | .none => @lb _ _ ((ev b (tkm a p.2)).noX) ⟨fun q => match q.1.2 with
        | .tuple ys => .ok ((false, .tuple ys), tkm b q.2)
        | _ => .bad⟩
      | _ => .bad⟩ := by first | (rw [ev]; rfl) | rw [ev]
/-- a call that may be refused -/
def rfdF (os : List Nat) (ks : List (Str × Nat)) (m : Env) : Res ((Bool × D) × Env) → Res ((Bool × D) × Env)
  | .ok p => .ok ((false, .none), backE m p.2 os)
  | .exc x => (Res.ofO (ks.lookup x)).bind fun i => .ok ((true, .list [.int i]), keepX os 0 m)
  | .bad => .bad
@[simp] theorem x_rfd (e : E) (os : List Nat) (ks : List (Str × Nat)) : ev (.rfd e os ks) m = rfdF os ks m (ev e (wipeE m os)) := by
  rw [ev]
  cases ev e (wipeE m os) <;> rfl
def pkF (m : Env) : Res ((Bool × D) × Env) → Res ((Bool × D) × Env)
  | .ok ((_, .bool b), _) => .ok ((false, .bool b), m)
  | _ => .bad
@[simp] theorem x_pk (e : E) : ev (.pk e) m = pkF m (ev e (shAll m)) := by
  rw [ev]
  rfl
@[simp] theorem sh_nil : shAll [] = [] := rfl
@[simp] theorem sh_cons (p : Option (Bool × D)) : shAll (p :: m) = p.map (fun q => (false, q.2)) :: shAll m := rfl
@[simp] theorem x_blk (pre post : List Nat) (b : Ss) : exS (.blk pre b post) m = @lb _ _ (exSs b (wipeE m pre)) ⟨fun f => .ok (f.wipe post)⟩ := by rw [exS]; rfl
@[simp] theorem wipe_nil : wipeE m [] = m := rfl
@[simp] theorem wipe_cons (v : Nat) (vs : List Nat) : wipeE m (v :: vs) = (wipeE m vs).set v none := rfl
@[simp] theorem fw_nx (vs : List Nat) : (Fw.nx m).wipe vs = .nx (wipeE m vs) := rfl
@[simp] theorem fw_bk (vs : List Nat) : (Fw.bk m).wipe vs = .bk (wipeE m vs) := rfl
@[simp] theorem fw_ct (vs : List Nat) : (Fw.ct m).wipe vs = .ct (wipeE m vs) := rfl
@[simp] theorem fw_rt (vs : List Nat) (fr : Bool) (d : D) : (Fw.rt fr d m).wipe vs = .rt fr d (wipeE m vs) := rfl
@[simp] theorem x_evC (c : E) : evC c m = @lb _ _ (ev c m) ⟨fun q => match q.1.2 with | .bool b => .ok (b, q.2) | _ => .bad⟩ := rfl
@[simp] theorem vr_var : E.vr (.var i) = some i := rfl
@[simp] theorem tkm_var : tkm (.var i) m = leak m i := rfl
@[simp] theorem takeV_var (p : Bool × D) : takeV (.var i) p = (false, p.2) := rfl
end
/-! ### operations -/
section
variable (i j : Int) (xs ys : List D) (x y : D) (a b : Bool) (s t : Str)
@[simp] theorem b_add : bop .add (.int i) (.int j) = some (false, .int (i + j)) := rfl
@[simp] theorem b_addL : bop .add (.list xs) (.list ys) = if lenOk (xs.length + ys.length) then some (true, .list (xs ++ ys)) else none := rfl
@[simp] theorem b_mulT : bop .mul (.tuple xs) (.int i) = if xs ≠ [] ∧ 2 ≤ i ∧ i ≤ 1000 ∧ xs.length ≤ 1000 then some (false, .tuple (List.replicate i.toNat xs).flatten) else none := rfl
@[simp] theorem b_addT : bop .add (.tuple xs) (.tuple ys) = if lenOk (xs.length + ys.length) then some (false, .tuple (xs ++ ys)) else none := rfl
@[simp] theorem b_sub : bop .sub (.int i) (.int j) = some (false, .int (i - j)) := rfl
@[simp] theorem b_mul : bop .mul (.int i) (.int j) = if mulOk i j then some (false, .int (i * j)) else none := rfl
@[simp] theorem b_mulL : bop .mul (.list xs) (.int i) = if repOk xs.length i then some (true, .list (List.replicate i.toNat xs).flatten) else none := rfl
@[simp] theorem b_fdiv : bop .fdiv (.int i) (.int j) = if divOk j then some (false, .int (i.fdiv j)) else none := rfl
@[simp] theorem b_mod : bop .mod (.int i) (.int j) = if j ≠ 0 then some (false, .int (i.fmod j)) else none := rfl
@[simp] theorem b_pow : bop .pow (.int i) (.int j) = if 0 ≤ j ∧ j ≤ 1000000 ∧ i.natAbs < 2 ^ 64 then some (false, .int (i ^ j.toNat)) else none := rfl
@[simp] theorem c_lt : cop .lt (.int i) (.int j) = some (decide (i < j)) := rfl
@[simp] theorem c_le : cop .le (.int i) (.int j) = some (decide (i ≤ j)) := rfl
@[simp] theorem c_gt : cop .gt (.int i) (.int j) = some (decide (j < i)) := rfl
@[simp] theorem c_ge : cop .ge (.int i) (.int j) = some (decide (j ≤ i)) := rfl
@[simp] theorem sh_int : SeqAt.shaped (.int i) = true := by simp [SeqAt.shaped, PyData.canLay0, PyData.depth]
@[simp] theorem c_eqI : cop .eq (.int i) (.int j) = some (decide (i = j)) := by
  show (if SeqAt.shaped (.int i) = true ∧ SeqAt.shaped (.int j) = true then some (PyData.eqv (.int i) (.int j)) else none) = _
  rw [if_pos ⟨sh_int i, sh_int j⟩]
  simp [PyData.eqv]
  rfl
@[simp] theorem c_neI : cop .ne (.int i) (.int j) = some (decide (i ≠ j)) := by
  show (if SeqAt.shaped (.int i) = true ∧ SeqAt.shaped (.int j) = true then some (!PyData.eqv (.int i) (.int j)) else none) = _
  rw [if_pos ⟨sh_int i, sh_int j⟩]
  simp [PyData.eqv]
  rfl
@[simp] theorem c_isB : cop .is (.bool a) (.bool b) = some (a == b) := rfl
@[simp] theorem c_isnotB : cop .isnot (.bool a) (.bool b) = some (!(a == b)) := rfl
@[simp] theorem i_list : idxF (.list xs) (.int i) = L2.atI xs i := rfl
@[simp] theorem i_tup : idxF (.tuple xs) (.int i) = L2.atI xs i := rfl
@[simp] theorem l_list : bltF .len [.list xs] = some (false, .int xs.length) := rfl
@[simp] theorem l_tup : bltF .len [.tuple xs] = some (false, .int xs.length) := rfl
@[simp] theorem l_scr (ns : List Int) : bltF .len [scrD ns] = some (false, .int ns.length) := by
  show some (false, PyData.int ((ns.map PyData.int).length : Int)) = _
  rw [List.length_map]
@[simp] theorem l_abs : bltF .abs [.int i] = some (false, .int (if i < 0 then -i else i)) := rfl
@[simp] theorem l_all : bltF .all [.list xs] = (allB xs).map fun b => (false, .bool b) := rfl
@[simp] theorem l_any : bltF .any [.list xs] = (anyB xs).map fun b => (false, .bool b) := rfl
@[simp] theorem l_max2 : bltF .max2 [.int i, .int j] = some (false, .int (if j > i then j else i)) := rfl
@[simp] theorem l_min2 : bltF .min2 [.int i, .int j] = some (false, .int (if j < i then j else i)) := rfl
@[simp] theorem l_max1 : bltF .max1 [.list xs] = (intsOf xs).bind fun ns => (maxL ns).map fun i => (false, .int i) := rfl
@[simp] theorem l_min1 : bltF .min1 [.list xs] = (intsOf xs).bind fun ns => (minL ns).map fun i => (false, .int i) := rfl
@[simp] theorem l_tupL : bltF .tuple [.list xs] = some (false, .tuple xs) := rfl
@[simp] theorem l_tupT : bltF .tuple [.tuple xs] = some (false, .tuple xs) := rfl
@[simp] theorem l_listL : bltF .list [.list xs] = some (true, .list xs) := rfl
@[simp] theorem l_listT : bltF .list [.tuple xs] = some (true, .list xs) := rfl
@[simp] theorem a_zero : L2.atI (x :: xs) 0 = some x := by simp [L2.atI, L2.ixN]
@[simp] theorem a_one : L2.atI (x :: y :: xs) 1 = some y := by
  have : (1 : Int) < (xs.length : Int) + 1 + 1 := by omega
  simp [L2.atI, L2.ixN, this]
@[simp] theorem a_two (z : D) : L2.atI (x :: y :: z :: xs) 2 = some z := by
  have : (2 : Int) < (xs.length : Int) + 1 + 1 + 1 := by omega
  simp [L2.atI, L2.ixN, this]
@[simp] theorem r_con (d d' : D) (m : Env) : rd (.con d) d' m = some d' := rfl
@[simp] theorem r_bin (o : Bop) (p q : E) (d : D) (m : Env) : rd (.bin o p q) d m = some d := rfl
@[simp] theorem r_neg (p : E) (d : D) (m : Env) : rd (.neg p) d m = some d := rfl
@[simp] theorem r_nt (p : E) (d : D) (m : Env) : rd (.nt p) d m = some d := rfl
@[simp] theorem r_and (p q : E) (d : D) (m : Env) : rd (.and p q) d m = some d := rfl
@[simp] theorem r_or (p q : E) (d : D) (m : Env) : rd (.or p q) d m = some d := rfl
@[simp] theorem r_cmp (o : Cop) (p q : E) (d : D) (m : Env) : rd (.cmp o p q) d m = some d := rfl
@[simp] theorem r_chn (o o' : Cop) (p q u : E) (d : D) (m : Env) : rd (.chn o o' p q u) d m = some d := rfl
@[simp] theorem r_ite (p q u : E) (d : D) (m : Env) : rd (.ite p q u) d m = some d := rfl
@[simp] theorem r_tup (es : Es) (d : D) (m : Env) : rd (.tup es) d m = some d := rfl
@[simp] theorem r_lst (es : Es) (d : D) (m : Env) : rd (.lst es) d m = some d := rfl
@[simp] theorem r_dct (d : D) (m : Env) : rd .dct d m = some d := rfl
@[simp] theorem r_idx (p q : E) (d : D) (m : Env) : rd (.idx p q) d m = some d := rfl
@[simp] theorem r_slc (p q u : E) (d : D) (m : Env) : rd (.slc p q u) d m = some d := rfl
@[simp] theorem r_rvs (p : E) (d : D) (m : Env) : rd (.rvs p) d m = some d := rfl
@[simp] theorem r_call (f : MF) (ms : List Bool) (es : Es) (d : D) (m : Env) : rd (.call f ms es) d m = some d := rfl
@[simp] theorem r_blt (o : Blt) (es : Es) (d : D) (m : Env) : rd (.blt o es) d m = some d := rfl
@[simp] theorem r_isi (p : E) (ts : List String) (d : D) (m : Env) : rd (.isi p ts) d m = some d := rfl
@[simp] theorem r_lc (p c : E) (g own : List Nat) (it : It) (d : D) (m : Env) : rd (.lc p g it c own) d m = some d := rfl
@[simp] theorem r_isx (k : Nat) (z : D) (o : Bool) (d : D) (m : Env) : rd (.isx k z o) d m = some d := rfl
@[simp] theorem r_vor (p q : E) (d : D) (m : Env) : rd (.vor p q) d m = some d := rfl
@[simp] theorem tkt_vor (p q : E) (m : Env) : tkm (.vor p q) m = m := rfl
@[simp] theorem v_vor (u q : E) (p : Bool × D) : takeV (.vor u q) p = p := rfl
@[simp] theorem r_pk (p : E) (d : D) (m : Env) : rd (.pk p) d m = some d := rfl
@[simp] theorem r_rfd (p : E) (os : List Nat) (ks : List (Str × Nat)) (d : D) (m : Env) : rd (.rfd p os ks) d m = some d := rfl
@[simp] theorem r_s0 (m : Env) : rds [] m = some [] := rfl
@[simp] theorem r_s1 (e : E) (d : D) (r : List (E × D)) (m : Env) : rds ((e, d) :: r) m = (rd e d m).bind fun x => (rds r m).map (x :: ·) := rfl
@[simp] theorem tkt_con (d : D) (m : Env) : tkm (.con d) m = m := rfl
@[simp] theorem tkt_bin (o : Bop) (p q : E) (m : Env) : tkm (.bin o p q) m = m := rfl
@[simp] theorem tkt_neg (p : E) (m : Env) : tkm (.neg p) m = m := rfl
@[simp] theorem tkt_nt (p : E) (m : Env) : tkm (.nt p) m = m := rfl
@[simp] theorem tkt_and (p q : E) (m : Env) : tkm (.and p q) m = m := rfl
@[simp] theorem tkt_or (p q : E) (m : Env) : tkm (.or p q) m = m := rfl
@[simp] theorem tkt_cmp (o : Cop) (p q : E) (m : Env) : tkm (.cmp o p q) m = m := rfl
@[simp] theorem tkt_chn (o o' : Cop) (p q u : E) (m : Env) : tkm (.chn o o' p q u) m = m := rfl
@[simp] theorem tkt_ite (p q u : E) (m : Env) : tkm (.ite p q u) m = m := rfl
@[simp] theorem tkt_tup (es : Es) (m : Env) : tkm (.tup es) m = m := rfl
@[simp] theorem tkt_lst (es : Es) (m : Env) : tkm (.lst es) m = m := rfl
@[simp] theorem tkt_dct (m : Env) : tkm .dct m = m := rfl
@[simp] theorem tkt_idx (p q : E) (m : Env) : tkm (.idx p q) m = m := rfl
@[simp] theorem tkt_slc (p q u : E) (m : Env) : tkm (.slc p q u) m = m := rfl
@[simp] theorem tkt_rvs (p : E) (m : Env) : tkm (.rvs p) m = m := rfl
@[simp] theorem tkt_call (f : MF) (ms : List Bool) (es : Es) (m : Env) : tkm (.call f ms es) m = m := rfl
@[simp] theorem tkt_blt (o : Blt) (es : Es) (m : Env) : tkm (.blt o es) m = m := rfl
@[simp] theorem tkt_isi (p : E) (ts : List String) (m : Env) : tkm (.isi p ts) m = m := rfl
@[simp] theorem tkt_lc (p c : E) (g own : List Nat) (it : It) (m : Env) : tkm (.lc p g it c own) m = m := rfl
@[simp] theorem tkt_isx (k : Nat) (z : D) (o : Bool) (m : Env) : tkm (.isx k z o) m = m := rfl
@[simp] theorem tkt_pk (p : E) (m : Env) : tkm (.pk p) m = m := rfl
@[simp] theorem tkt_rfd (p : E) (os : List Nat) (ks : List (Str × Nat)) (m : Env) : tkm (.rfd p os ks) m = m := rfl
@[simp] theorem v_isx (k : Nat) (z : D) (o : Bool) (p : Bool × D) : takeV (.isx k z o) p = p := rfl
@[simp] theorem v_pk (u : E) (p : Bool × D) : takeV (.pk u) p = p := rfl
@[simp] theorem v_rfd (u : E) (os : List Nat) (ks : List (Str × Nat)) (p : Bool × D) : takeV (.rfd u os ks) p = p := rfl
@[simp] theorem v_con (d : D) (p : Bool × D) : takeV (.con d) p = p := rfl
@[simp] theorem v_bin (o : Bop) (u q : E) (p : Bool × D) : takeV (.bin o u q) p = p := rfl
@[simp] theorem v_neg (u : E) (p : Bool × D) : takeV (.neg u) p = p := rfl
@[simp] theorem v_nt (u : E) (p : Bool × D) : takeV (.nt u) p = p := rfl
@[simp] theorem v_and (u q : E) (p : Bool × D) : takeV (.and u q) p = p := rfl
@[simp] theorem v_or (u q : E) (p : Bool × D) : takeV (.or u q) p = p := rfl
@[simp] theorem v_cmp (o : Cop) (u q : E) (p : Bool × D) : takeV (.cmp o u q) p = p := rfl
@[simp] theorem v_chn (o o' : Cop) (u q r : E) (p : Bool × D) : takeV (.chn o o' u q r) p = p := rfl
@[simp] theorem v_ite (u q r : E) (p : Bool × D) : takeV (.ite u q r) p = p := rfl
@[simp] theorem v_tup (es : Es) (p : Bool × D) : takeV (.tup es) p = p := rfl
@[simp] theorem v_lst (es : Es) (p : Bool × D) : takeV (.lst es) p = p := rfl
@[simp] theorem v_dct (p : Bool × D) : takeV .dct p = p := rfl
@[simp] theorem v_idx (u q : E) (p : Bool × D) : takeV (.idx u q) p = p := rfl
@[simp] theorem v_slc (u q r : E) (p : Bool × D) : takeV (.slc u q r) p = p := rfl
@[simp] theorem v_rvs (u : E) (p : Bool × D) : takeV (.rvs u) p = p := rfl
@[simp] theorem v_call (f : MF) (ms : List Bool) (es : Es) (p : Bool × D) : takeV (.call f ms es) p = p := rfl
@[simp] theorem v_blt (o : Blt) (es : Es) (p : Bool × D) : takeV (.blt o es) p = p := rfl
@[simp] theorem v_isi (u : E) (ts : List String) (p : Bool × D) : takeV (.isi u ts) p = p := rfl
@[simp] theorem v_lc (u c : E) (g own : List Nat) (it : It) (p : Bool × D) : takeV (.lc u g it c own) p = p := rfl
theorem lk_none {m : Env} {k : Nat} (h : geti m k = none) : leak m k = m := by unfold leak; rw [h]
theorem lk_f {m : Env} {k : Nat} {d : D} (h : geti m k = some (false, d)) : leak m k = m := by unfold leak; rw [h]
@[simp] theorem lk_n (k : Nat) : leak [] k = [] := by simp [leak]
@[simp] theorem lk_zT (d : D) (m : Env) : leak (some (true, d) :: m) 0 = some (false, d) :: m := rfl
@[simp] theorem lk_zF (d : D) (m : Env) : leak (some (false, d) :: m) 0 = some (false, d) :: m := rfl
@[simp] theorem lk_zN (m : Env) : leak (none :: m) 0 = none :: m := rfl
@[simp] theorem lk_s (p : Option (Bool × D)) (m : Env) (k : Nat) : leak (p :: m) (k + 1) = p :: leak m k := by
  unfold leak
  rw [geti_s]
  split <;> rfl
@[simp] theorem f_none (m : Env) : fetch [] m = some ([], m) := rfl
@[simp] theorem f_inr (d : D) (r : List Arg) (m : Env) : fetch (.inr d :: r) m = (fetch r m).map fun (as, m') => ((false, d) :: as, m') := rfl
@[simp] theorem f_inl (k : Nat) (r : List Arg) (m : Env) : fetch (.inl k :: r) m = (match geti m k with
    | some (true, d) => (fetch r (m.set k none)).map fun (as, m') => ((true, d) :: as, m')
    | some (false, d) => (fetch r m).map fun (as, m') => ((false, d) :: as, m')
    | none => none) := by first | (rw [fetch]; rfl) | rw [fetch]
@[simp] theorem k_none (as fs : List (Bool × D)) (m : Env) : back [] as fs m = m := by
  unfold back
  rfl
@[simp] theorem k_inlT (k : Nat) (d : D) (f : Bool × D) (r : List Arg) (as fs : List (Bool × D)) (m : Env) : back (.inl k :: r) ((true, d) :: as) (f :: fs) m = (back r as fs m).set k (some f) := rfl
@[simp] theorem k_inlF (k : Nat) (d : D) (f : Bool × D) (r : List Arg) (as fs : List (Bool × D)) (m : Env) : back (.inl k :: r) ((false, d) :: as) (f :: fs) m = back r as fs m := rfl
@[simp] theorem k_inr (d : D) (p f : Bool × D) (r : List Arg) (as fs : List (Bool × D)) (m : Env) : back (.inr d :: r) (p :: as) (f :: fs) m = back r as fs m := by
  obtain ⟨b, x⟩ := p
  cases b <;> rfl
@[simp] theorem fi_n (k : Nat) (m : Env) : finsOf k [] m = some [] := rfl
@[simp] theorem fi_f (k : Nat) (d : D) (r : List (Bool × D)) (m : Env) : finsOf k ((false, d) :: r) m = (finsOf (k + 1) r m).map ((false, d) :: ·) := rfl
@[simp] theorem fi_t (k : Nat) (d : D) (r : List (Bool × D)) (m : Env) : finsOf k ((true, d) :: r) m = (geti m k).bind fun p => (finsOf (k + 1) r m).map (p :: ·) := rfl
end
/-- a call, read: its arguments are as its mode asks -/
theorem run_of {ms : List Bool} {n : Nat} {b : Ss} {as : List (Bool × D)} (h : flg ms as = true) : mkM ms n b as = runFn ⟨n, b⟩ as := if_pos h
theorem run_rt {n : Nat} {b : Ss} {as fs : List (Bool × D)} {fr : Bool} {d : D} {m : Env} (h : exSs b (as.map some ++ List.replicate (n - as.length) none) = .ok (.rt fr d m)) (hf : finsOf 0 as m = some fs) : runFn ⟨n, b⟩ as = .ok (fr, d, fs) := by
  unfold runFn
  rw [h]
  show (Res.ofO (finsOf 0 as m)).bind _ = _
  rw [hf]
  rfl
/-! ### rules -/
def Wp {α : Type} (r : Res α) (Q : α → Prop) : Prop := ∃ a, r = .ok a ∧ Q a
theorem Wp.ok {α : Type} {a : α} {Q : α → Prop} (h : Q a) : Wp (.ok a) Q := ⟨a, rfl, h⟩
theorem Wp.imp {α : Type} {r : Res α} {Q Q' : α → Prop} (h : Wp r Q) (i : ∀ a, Q a → Q' a) : Wp r Q' := by
  obtain ⟨a, e, q⟩ := h
  exact ⟨a, e, i a q⟩
theorem Wp.bind {α β : Type} {r : Res α} {f : α → Res β} {Q : β → Prop} (h : Wp r fun a => Wp (f a) Q) : Wp (r.bind f) Q := by
  obtain ⟨a, e, b, e2, q⟩ := h
  exact ⟨b, by rw [e, bind_ok, e2], q⟩
/-- behind a statement -/
theorem Wp.seq {s : S} {ss : Ss} {m : Env} {Q : Fw → Prop} (h : Wp (exS s m) fun f => match f with
      | .nx m1 => Wp (exSs ss m1) Q
      | .rt fr d m1 => Q (.rt fr d m1)
      | .bk m1 => Q (.bk m1)
      | .ct m1 => Q (.ct m1)) : Wp (exSs (.cons s ss) m) Q := by
  obtain ⟨f, e, q⟩ := h
  unfold Wp
  rw [x_ss1, e, lb_ok]
  cases f with
  | nx m1 => exact q
  | rt fr d m1 => exact ⟨_, rfl, q⟩
  | bk m1 => exact ⟨_, rfl, q⟩
  | ct m1 => exact ⟨_, rfl, q⟩
theorem for_rule {srcs : List (Nat × List D)} {g : List Nat} {body : Env → Res Fw} {Q : Fw → Prop} (I : List D → Env → Prop) (hs : ∀ r m, I r m → srcOk m srcs)
    (step : ∀ d r m, I (d :: r) m → ∃ m1, bindT g d m = some m1 ∧ Wp (body m1) fun f => match f with
      | .nx m2 => I r m2
      | .ct m2 => I r m2
      | .bk m2 => Q (.nx m2)
      | .rt fr d m2 => Q (.rt fr d m2)) (fin : ∀ m, I [] m → Q (.nx m)) : ∀ (ds : List D) (m : Env), I ds m → Wp (forL srcs g body ds m) Q
  | [], m, h => by
    unfold forL
    rw [if_pos (hs _ _ h)]
    exact .ok (fin m h)
  | d :: ds, m, h => by
    unfold forL
    rw [if_pos (hs _ _ h)]
    obtain ⟨m1, e, f, e2, q⟩ := step d ds m h
    rw [e, ofO_some, bind_ok, e2, bind_ok]
    cases f with
    | nx m2 => exact for_rule I hs step fin ds m2 q
    | ct m2 => exact for_rule I hs step fin ds m2 q
    | bk m2 => exact .ok q
    | rt fr d m2 => exact .ok q
theorem forL_nil {g : List Nat} {body : Env → Res Fw} {m : Env} : forL [] g body [] m = .ok (.nx m) := by
  unfold forL
  exact if_pos trivial
theorem forL_nx {g : List Nat} {body : Env → Res Fw} {d : D} {ds : List D} {m m1 m2 : Env} (h1 : bindT g d m = some m1) (h2 : body m1 = .ok (.nx m2)) : forL [] g body (d :: ds) m = forL [] g body ds m2 := by
  rw [forL, if_pos (by trivial), h1, ofO_some, bind_ok, h2, bind_ok]
theorem forL_rt {g : List Nat} {body : Env → Res Fw} {d v : D} {ds : List D} {m m1 m2 : Env} {fr : Bool} (h1 : bindT g d m = some m1) (h2 : body m1 = .ok (.rt fr v m2)) : forL [] g body (d :: ds) m = .ok (.rt fr v m2) := by
  rw [forL, if_pos (by trivial), h1, ofO_some, bind_ok, h2, bind_ok]
theorem lc_rule {srcs : List (Nat × List D)} {own g : List Nat} {cnd : Env → Res (Bool × Env)} {elt : Env → Res (D × Env)} {Q : List D × Env → Prop} (I : List D → List D → Env → Prop) (hs : ∀ r acc m, I r acc m → srcOk m srcs)
    (step : ∀ d r acc m, I (d :: r) acc m → ∃ m1, bindT g d m = some m1 ∧ Wp (cnd m1) fun p => if p.1 = true then Wp (elt p.2) fun q => I r (acc ++ [q.1]) (wipeE q.2 own) else I r acc (wipeE p.2 own))
    (fin : ∀ acc m, I [] acc m → Q (acc, m)) : ∀ (ds acc : List D) (m : Env), I ds acc m → Wp (lcL srcs own g cnd elt ds m) fun r => Q (acc ++ r.1, r.2)
  | [], acc, m, h => by
    unfold lcL
    rw [if_pos (hs _ _ _ h)]
    exact .ok (by simpa using fin acc m h)
  | d :: ds, acc, m, h => by
    unfold lcL
    rw [if_pos (hs _ _ _ h)]
    obtain ⟨m1, e, p, e2, q⟩ := step d ds acc m h
    rw [e, ofO_some, bind_ok, e2, bind_ok]
    by_cases hp : p.1 = true
    · rw [if_pos hp] at q
      rw [if_pos hp]
      obtain ⟨t, e3, q⟩ := q
      rw [e3, bind_ok]
      obtain ⟨r, e4, q4⟩ := lc_rule I hs step fin ds _ _ q
      rw [e4, bind_ok]
      exact .ok (by simpa using q4)
    · rw [if_neg hp] at q
      rw [if_neg hp]
      exact lc_rule I hs step fin ds _ _ q
/-- a comprehension that changes nothing -/
theorem lc_map {α : Type} {srcs : List (Nat × List D)} {own g : List Nat} {cnd : Env → Res (Bool × Env)} {elt : Env → Res (D × Env)} {m : Env} (e : α → D) (f : α → D) (xs : List α) (hs : srcOk m srcs)
    (h : ∀ x ∈ xs, ∃ m1 m3, bindT g (e x) m = some m1 ∧ cnd m1 = .ok (true, m1) ∧ elt m1 = .ok (f x, m3) ∧ wipeE m3 own = m) : lcL srcs own g cnd elt (xs.map e) m = .ok (xs.map f, m) := by
  induction xs with
  | nil => simp [lcL, hs]
  | cons x xs ih =>
    obtain ⟨m1, m3, h1, h2, h3, h4⟩ := h x List.mem_cons_self
    rw [List.map_cons]
    unfold lcL
    rw [if_pos hs, h1, ofO_some, bind_ok, h2, bind_ok, if_pos rfl, h3, bind_ok, h4, ih fun y hy => h y (List.mem_cons_of_mem _ hy)]
    rfl
theorem lc_filter {α : Type} {srcs : List (Nat × List D)} {own g : List Nat} {cnd : Env → Res (Bool × Env)} {elt : Env → Res (D × Env)} {m : Env} (e : α → D) (p : α → Bool) (f : α → D) (xs : List α) (hs : srcOk m srcs)
    (h : ∀ x ∈ xs, ∃ m1 m2 m3, bindT g (e x) m = some m1 ∧ cnd m1 = .ok (p x, m2) ∧ wipeE m2 own = m ∧ (p x = true → elt m2 = .ok (f x, m3) ∧ wipeE m3 own = m)) : lcL srcs own g cnd elt (xs.map e) m = .ok ((xs.filter p).map f, m) := by
  induction xs with
  | nil => simp [lcL, hs]
  | cons x xs ih =>
    obtain ⟨m1, m2, m3, h1, h2, h3, h4⟩ := h x List.mem_cons_self
    have ih := ih fun y hy => h y (List.mem_cons_of_mem _ hy)
    rw [List.map_cons]
    unfold lcL
    rw [if_pos hs, h1, ofO_some, bind_ok, h2, bind_ok]
    by_cases hp : p x = true
    · obtain ⟨h5, h6⟩ := h4 hp
      rw [if_pos hp, h5, bind_ok, h6, ih, List.filter_cons_of_pos hp]
      rfl
    · rw [if_neg hp, h3, ih, List.filter_cons_of_neg hp]
/-- an element -/
noncomputable def evT (e : E) (m : Env) : Res (D × Env) := (ev e m).bind fun q => .ok (q.1.2, tkm e q.2)
theorem x_lcE (e c : E) (g own : List Nat) (it : It) (m : Env) : ev (.lc e g it c own) m = @lb _ _ (evI it m) ⟨fun p => if (own.all fun i => shO (geti p.2.2 i)) = true then
    @lb _ _ ((lcL p.2.1 own g (evC c) (evT e) p.1 (wipeE p.2.2 own)).noX) ⟨fun r => if lenOk r.1.length then .ok ((true, .list r.1), backE p.2.2 r.2 own) else .bad⟩ else .bad⟩:= by first | (rw [ev]; rfl) | rw [ev]
theorem x_lc {e c : E} {g own : List Nat} {it : It} {m : Env} {p : List D × List (Nat × List D) × Env} {r : List D} {m' : Env} (h1 : evI it m = .ok p) (h2 : (own.all fun i => shO (geti p.2.2 i)) = true)
    (h3 : lcL p.2.1 own g (evC c) (evT e) p.1 (wipeE p.2.2 own) = .ok (r, m')) (h4 : lenOk r.length) :
    ev (.lc e g it c own) m = .ok ((true, .list r), backE p.2.2 m' own) := by
  rw [x_lcE, h1, lb_ok, if_pos h2, h3, noX_ok, lb_ok, if_pos h4]
end Rc

set_option maxRecDepth 100000
set_option maxHeartbeats 4000000
/-! The def that tells of refusals. -/
namespace Rc
open PySem L2
def tens : List Str := ["NoField", "NoWeights", "NoCut", "Nothing", "NoTurn", "NoCorner", "NoNumber", "NoText", "NoLine", "NoDeed"]
def isXs (f : Nat → Bool) (ve : Bool) : List (Str × Bool) := [("NoField", f 0), ("NoWeights", f 1), ("NoCut", f 2), ("Nothing", f 3), ("NoTurn", f 4), ("NoCorner", f 5), ("NoNumber", f 6), ("NoText", f 7), ("NoLine", f 8), ("NoDeed", f 9), ("ValueError", ve)]
/-- what follows the try -/
noncomputable def B_rest (d : D) (f : Nat → Bool) (ve : Bool) : Ss :=
  (.cons (.asg 3 (.lst (.cons (.isx 1 d (f 0)) (.cons (.isx 1 d (f 1)) (.cons (.isx 1 d (f 2)) .nil)))))
  (.cons (.asg 3 (.bin .add (.var 3) (.lst (.cons (.isx 1 d (f 3)) (.cons (.isx 1 d (f 4)) (.cons (.isx 1 d (f 5)) .nil))))))
  (.cons (.asg 3 (.bin .add (.var 3) (.lst (.cons (.isx 1 d (f 6)) (.cons (.isx 1 d (f 7)) (.cons (.isx 1 d (f 8)) .nil))))))
  (.cons (.mth 3 .append (.cons (.isx 1 d (f 9)) .nil))
  (.cons (.sif (.nt (.isx 1 d ve)) (.cons (.ret (.con .none)) .nil) .nil)
  (.cons (.ret (.lc (.var 4) [4] (.rg (.con (.int 10))) (.idx (.var 3) (.var 4)) [4])) .nil))))))
def refN : List Str := ["_law_call", "_law_error", "e", "_law_kinds", "_law_k"]
theorem rest_none (x0 x2 : Option (Bool × D)) : ∃ m', exSs (B_rest .none (fun _ => false) false) [x0, some (false, .none), x2, none, none] = .ok (.rt false .none m') := by
  have l3 : lenOk 3 := by decide
  have l6 : lenOk 6 := by decide
  have l9 : lenOk 9 := by decide
  have l10 : lenOk 10 := by decide
  simp [B_rest, x_ss1, l3, l6, l9, l10, mthF]
theorem rest_exc (d : D) (i : Nat) (hi : i < 10) (x0 x2 : Option (Bool × D)) : ∃ m', exSs (B_rest d (fun j => decide (i = j)) true) [x0, some (false, d), x2, none, none] = .ok (.rt true (.list [.int (i : Int)]) m') := by
  have l1 : lenOk 1 := by decide
  have l3 : lenOk 3 := by decide
  have l6 : lenOk 6 := by decide
  have l9 : lenOk 9 := by decide
  have l10 : lenOk 10 := by decide
  have s10 : smallI 10 := by decide
  have c : ∀ bs : List Bool, bs.length = 10 → lcL [] [4] [4] (evC (.idx (.var 3) (.var 4))) (evT (.var 4)) (rngD 0 10) [x0, some (false, d), x2, some (true, .list (bs.map PyData.bool)), none] = .ok (((List.range 10).filter fun j => bs.getD j false).map fun (j : Nat) => PyData.int (j : Int), [x0, some (false, d), x2, some (true, .list (bs.map PyData.bool)), none]) := by
    intro bs hb
    have key : ∀ (l : List Nat), (∀ j ∈ l, j < 10) → lcL [] [4] [4] (evC (.idx (.var 3) (.var 4))) (evT (.var 4)) (l.map fun (k : Nat) => PyData.int (0 + (k : Int))) [x0, some (false, d), x2, some (true, .list (bs.map PyData.bool)), none] = .ok ((l.filter fun j => bs.getD j false).map fun (j : Nat) => PyData.int (j : Int), [x0, some (false, d), x2, some (true, .list (bs.map PyData.bool)), none]) := by
      intro l
      induction l with
      | nil => intro _; simp [lcL, srcOk]
      | cons j l ih =>
        intro h
        have hj := h j List.mem_cons_self
        have ih := ih fun k hk => h k (List.mem_cons_of_mem _ hk)
        have hjb : j < bs.length := by omega
        have at1 : L2.atI (bs.map PyData.bool) (j : Int) = some (.bool bs[j]) := by
          have e : L2.ixN bs.length (j : Int) = some j := by
            unfold L2.ixN
            have h1 : (0 : Int) ≤ (j : Int) := by omega
            have h2 : (j : Int) < (bs.length : Int) := by omega
            simp [h1, h2]
          simp [L2.atI, e, hjb]
        have gd : bs.getD j false = bs[j] := by simp [List.getD, hjb]
        simp only [List.map_cons]
        rw [lcL, if_pos (show srcOk _ [] from trivial)]
        have e0 : (0 : Int) + (j : Int) = (j : Int) := by omega
        simp only [List.getD_eq_getElem?_getD, Int.zero_add] at ih gd ⊢
        cases hbj : bs[j] with
        | true =>
          rw [hbj] at at1 gd
          rw [List.filter_cons_of_pos (by rw [gd]), List.map_cons]
          simp [bindT, at1, evT, ih]
        | false =>
          rw [hbj] at at1 gd
          rw [List.filter_cons_of_neg (by rw [gd]; simp)]
          simp [bindT, at1, evT, ih]
    have := key (List.range 10) (fun j hj => List.mem_range.mp hj)
    exact this
  have c' := c [decide (i = 0), decide (i = 1), decide (i = 2), decide (i = 3), decide (i = 4), decide (i = 5), decide (i = 6), decide (i = 7), decide (i = 8), decide (i = 9)] rfl
  have fl : (((List.range 10).filter fun j => [decide (i = 0), decide (i = 1), decide (i = 2), decide (i = 3), decide (i = 4), decide (i = 5), decide (i = 6), decide (i = 7), decide (i = 8), decide (i = 9)].getD j false).map fun (j : Nat) => PyData.int (j : Int)) = [PyData.int (i : Int)] := by
    have : i = 0 ∨ i = 1 ∨ i = 2 ∨ i = 3 ∨ i = 4 ∨ i = 5 ∨ i = 6 ∨ i = 7 ∨ i = 8 ∨ i = 9 := by omega
    rcases this with rfl | rfl | rfl | rfl | rfl | rfl | rfl | rfl | rfl | rfl <;> rfl
  rw [fl] at c'
  simp only [List.map_cons, List.map_nil] at c'
  simp [B_rest, x_ss1, l3, l6, l9, l10, l1, mthF, x_lcE, s10, wipeE, shO, c', backE]
end Rc

set_option maxRecDepth 100000
set_option maxHeartbeats 4000000
namespace Rc
open PySem L2
variable [Tbs]
theorem xs_cases {f : Nat → Bool} {ve : Bool} {x : Str} {b : Bool} (h : (isXs f ve).lookup x = some b) : (∃ j, tens[j]? = some x ∧ b = f j) ∨ (x = "ValueError" ∧ b = ve) := by
  have q := PySem.mem_of_lookup h
  simp only [isXs, List.mem_cons, List.not_mem_nil, or_false, Prod.mk.injEq] at q
  rcases q with ⟨rfl, rfl⟩ | ⟨rfl, rfl⟩ | ⟨rfl, rfl⟩ | ⟨rfl, rfl⟩ | ⟨rfl, rfl⟩ | ⟨rfl, rfl⟩ | ⟨rfl, rfl⟩ | ⟨rfl, rfl⟩ | ⟨rfl, rfl⟩ | ⟨rfl, rfl⟩ | ⟨rfl, rfl⟩
  · exact .inl ⟨0, rfl, rfl⟩
  · exact .inl ⟨1, rfl, rfl⟩
  · exact .inl ⟨2, rfl, rfl⟩
  · exact .inl ⟨3, rfl, rfl⟩
  · exact .inl ⟨4, rfl, rfl⟩
  · exact .inl ⟨5, rfl, rfl⟩
  · exact .inl ⟨6, rfl, rfl⟩
  · exact .inl ⟨7, rfl, rfl⟩
  · exact .inl ⟨8, rfl, rfl⟩
  · exact .inl ⟨9, rfl, rfl⟩
  · exact .inr ⟨rfl, rfl⟩
theorem rp_none {K : PySem.W.Frag} {H : Hp} {v : V} (h : Rp K H v .none) : v = .non := by
  cases h with
  | non => rfl
  | scr _ e => cases e
  | adr e => cases e
theorem rp_adr {K : PySem.W.Frag} {H : Hp} {v : V} {a : Addr} (h : Rp K H v (adrD a)) : v = .ref a := by
  generalize e : adrD a = d at h
  cases h with
  | dct h1 h2 h3 h4 h5 =>
    unfold adrD at e
    injection e with e
    subst e
    rename_i kvs vs ds
    cases kvs with
    | nil => simp at h5
    | cons k r => simp at h5
  | scr _ e2 =>
    rw [e2] at e
    cases e
  | adr e2 =>
    rw [e2] at e
    unfold adrD at e
    simp only [PyData.dict.injEq, List.cons.injEq, Prod.mk.injEq, PyData.int.injEq, and_true, true_and] at e
    have : a = _ := Int.ofNat_inj.mp e
    rw [this]
  | _ => cases e
/-- a call of isinstance by names -/
theorem pe_isn {X : Cx} {v x : Str} {i : Nat} {c : V} {r : List V → Hp → VK → Prop} {b : Bool} {d : D} {p p1 p2 p3 : Pos} (hcall : CallR X (.builtin "isinstance") r) (gi : Gl X "isinstance") (mi : X.mg "isinstance" = none)
    (hv : PE X (.Name v p1) (tVar i)) (hx : PE X (.Name x p2) (tC c)) (hr : ∀ H Q Hs u, Rp X.K Hs u d → Q (.bl b) H → r [u, c] H Q) :
    PE X (.Call (.Name ("isinstance" : Str) p) [.Name v p1, .Name x p2] [] p3) (fun σ H Q => (∃ Hs u, σ[i]? = some (some u) ∧ Rp X.K Hs u d) ∧ Q (.bl b) H) := by
  have pa : PA X [.Name v p1, .Name x p2] (tCons (tVar i) (tCons (tC c) tNil)) := pa_cons hv (pa_cons hx pa_nil (plain_star rfl _ _)) (plain_star rfl _ _)
  refine PE.imp (pe_callB hcall gi mi (by decide +kernel) pa (by decide +kernel) (by decide +kernel) (plain_star rfl _ _) (plain_back rfl)) fun σ H Q ⟨⟨Hs, u, e, rp⟩, q⟩ => ?_
  exact ⟨u, e, hr H Q Hs u rp q⟩
/-- isinstance of the refusal at hand -/
theorem call_isEx {X : Cx} {a C : Addr} {oe : Obj} (E : ExcC X.K C) (hp : (a, oe) ∈ X.pn) (hz : Zc (.ref C) none oe) (hf : ∃ vs, oe.data = .fields vs) : CallR X (.builtin "isinstance") (rIsE X.K C a) := by
  intro pins s σ H xs us Q I r h
  obtain ⟨c, cv, b, rfl, hcv, e, q⟩ := h
  obtain ⟨u1, u2, rfl, r1, r2⟩ := vals2 r
  cases r1
  cases hcv _ r2
  have here := (I.pin (a, oe) (List.mem_append.mpr (.inl hp))).1
  obtain ⟨ws, hw⟩ := hf
  have J : PySem.W.InstAt s.heap a oe C none := by
    obtain ⟨c1, c2, c3, c4⟩ := oe
    obtain ⟨z1, z2⟩ := hz
    dsimp only at z1 z2 hw
    subst z1 z2 hw
    exact ⟨here, rfl, rfl, trivial⟩
  refine PySem.W.kia_one (PySem.W.handS_kitx_exc E.hg E.hk E.hs E.hd E.ha E.hn E.ht E.hm) I.kIn J e (fun z => nomatch z) fun tk => ?_
  exact ⟨.bl b, H, I.kept (t' := tk) fun _ _ z => z, rfl, q⟩
structure RefK (K : PySem.W.Frag) (mg : Str → Option Value) (CE : Addr) (ks : List (Str × Nat)) : Prop where
  ce : mg "CutError" = some (.ref CE)
  kinds : ∀ x i, ks.lookup x = some i → i < 10 ∧ KindOk K mg CE tens x i
  cls : ∀ (j : Nat) (y : Str), tens[j]? = some y → ∃ Dy, mg y = some (.ref Dy) ∧ PySem.W.kitOne K (.type "NoneType") (.ref Dy) = some false
  nv : PySem.W.kitOne K (.type "NoneType") (.type "ValueError") = some false
  ve : mg "ValueError" = none
  blt : ∀ x ∈ blts, mg x = none
theorem boot_ve : bootBuiltins ("ValueError" : Str) = some (.type "ValueError") := by decide +kernel
section
variable {X : Cx} {K : PySem.W.Frag} {mg : Str → Option Value} {CE : Addr} {ks : List (Str × Nat)} {sg : Scope}
theorem isx_none (R : RefK K mg CE ks) (hK : X.K = K) (hm : X.mg = mg) (hN : X.N = refN) (hsc : X.env.scope = sg) : ∀ v d l x b i, (some ("_law_error", PyData.none, isXs (fun _ => false) false) : Option (Str × D × List (Str × Bool))) = some (v, d, l) → l.lookup x = some b → ixOf refN v = some i →
    isGl sg "isinstance" = true → okName v = true → isVis sg v = true → okName x = true → isGl sg x = true → ∀ p p1 p2 p3, PE X (.Call (.Name ("isinstance" : Str) p) [.Name v p1, .Name x p2] [] p3) (fun σ H Q => (∃ Hs u, σ[i]? = some (some u) ∧ Rp X.K Hs u d) ∧ Q (.bl b) H) := by
  intro v d l x b i h1 h2 h3 g1 g2 g3 g4 g5 p p1 p2 p3
  subst hK hm
  simp only [Option.some.injEq, Prod.mk.injEq] at h1
  obtain ⟨rfl, rfl, rfl⟩ := h1
  have gl : ∀ {y : Str}, isGl sg y = true → Gl X y := fun {y} h => by show X.env.scope.names.lookup y = _; rw [hsc]; exact gl_of h
  have hv : PE X (.Name ("_law_error" : Str) p1) (tVar i) := pe_var (by rw [hN]; exact ix_of h3) (by rw [hsc]; exact vis_of g3) (okName_of g2).1 (okName_of g2).2
  rcases xs_cases h2 with ⟨j, hj, rfl⟩ | ⟨rfl, rfl⟩
  · obtain ⟨Dy, m1, m2⟩ := R.cls j x hj
    refine pe_isn (call_isi (X := X)) (gl g1) (R.blt _ (by decide +kernel)) hv (pe_glob (gl g5) m1 (show RelV (.ref Dy) _ from rfl) (okName_of g4).1) fun H Q Hs u rp q => ?_
    rw [rp_none rp]
    exact ⟨_, _, _, _, false, rfl, .own Dy, .base .non, m2, q⟩
  · refine pe_isn (call_isi (X := X)) (gl g1) (R.blt _ (by decide +kernel)) hv (pe_bltn (gl g5) R.ve boot_ve (show RelV (.ty "ValueError") _ from rfl) (by decide +kernel) (okName_of g4).1) fun H Q Hs u rp q => ?_
    rw [rp_none rp]
    exact ⟨_, _, _, _, false, rfl, .ty "ValueError", .base .non, R.nv, q⟩
theorem isx_exc (R : RefK K mg CE ks) (hK : X.K = K) (hm : X.mg = mg) (hN : X.N = refN) (hsc : X.env.scope = sg) {a C : Addr} {oe : Obj} {n : Nat} (hp : (a, oe) ∈ X.pn) (hz : Zc (.ref C) none oe) (hf : ∃ vs, oe.data = .fields vs)
    (E : ExcC K C) (hk : ∀ (j : Nat) (y : Str), tens[j]? = some y → ∃ Dy, mg y = some (.ref Dy) ∧ PySem.W.kitOne K (.ref C) (.ref Dy) = some (decide (n = j))) (hve : PySem.W.kitOne K (.ref C) (.type "ValueError") = some true) :
    ∀ v d l x b i, (some ("_law_error", adrD a, isXs (fun j => decide (n = j)) true) : Option (Str × D × List (Str × Bool))) = some (v, d, l) → l.lookup x = some b → ixOf refN v = some i →
    isGl sg "isinstance" = true → okName v = true → isVis sg v = true → okName x = true → isGl sg x = true → ∀ p p1 p2 p3, PE X (.Call (.Name ("isinstance" : Str) p) [.Name v p1, .Name x p2] [] p3) (fun σ H Q => (∃ Hs u, σ[i]? = some (some u) ∧ Rp X.K Hs u d) ∧ Q (.bl b) H) := by
  intro v d l x b i h1 h2 h3 g1 g2 g3 g4 g5 p p1 p2 p3
  subst hK hm
  simp only [Option.some.injEq, Prod.mk.injEq] at h1
  obtain ⟨rfl, rfl, rfl⟩ := h1
  have gl : ∀ {y : Str}, isGl sg y = true → Gl X y := fun {y} h => by show X.env.scope.names.lookup y = _; rw [hsc]; exact gl_of h
  have hv : PE X (.Name ("_law_error" : Str) p1) (tVar i) := pe_var (by rw [hN]; exact ix_of h3) (by rw [hsc]; exact vis_of g3) (okName_of g2).1 (okName_of g2).2
  rcases xs_cases h2 with ⟨j, hj, rfl⟩ | ⟨rfl, rfl⟩
  · obtain ⟨Dy, m1, m2⟩ := hk j x hj
    refine pe_isn (call_isEx E hp hz hf) (gl g1) (R.blt _ (by decide +kernel)) hv (pe_glob (gl g5) m1 (show RelV (.ref Dy) _ from rfl) (okName_of g4).1) fun H Q Hs u rp q => ?_
    rw [rp_adr rp]
    exact ⟨.ref Dy, .ref Dy, _, rfl, fun u h => h, m2, q⟩
  · refine pe_isn (call_isEx E hp hz hf) (gl g1) (R.blt _ (by decide +kernel)) hv (pe_bltn (gl g5) R.ve boot_ve (show RelV (.ty "ValueError") _ from rfl) (by decide +kernel) (okName_of g4).1) fun H Q Hs u rp q => ?_
    rw [rp_adr rp]
    exact ⟨.ty "ValueError", .type "ValueError", _, rfl, fun u h => h, hve, q⟩
end
end Rc

set_option maxRecDepth 100000
set_option maxHeartbeats 4000000
namespace Rc
open PySem PySem.Spec PyProof.Rows L2
variable [Tbs]
theorem strip {H : Hp} (t : LamX.Tabs Tbs.T H) : ∃ Hs, Sub Hs H :=
  ⟨fun b => match H b with | some (.tbl _) => none | o => o, fun b o e => by
    split at e
    · cases e
    · exact e, t, fun b ps e => by
    split at e
    · cases e
    · rename_i n
      exact n ps e⟩
theorem geti_cons0 (p : Option (Bool × D)) (m : Env) : geti (p :: m) 0 = p := rfl
/-- the environment behind the call: one value is known -/
theorem env_one {K : PySem.W.Frag} {H : Hp} {σ : L2.St} {v : V} {d : D} (t : LamX.Tabs Tbs.T H) (hl : σ.length = 5) (h1 : σ[1]? = some (some v)) (r : ∀ Hs, Rp K Hs v d) :
    ∃ Hs, REnv K Hs H σ [none, some (false, d), none, none, none] ∧ ∀ b, ¬ Own σ [none, some (false, d), none, none, none] b := by
  obtain ⟨Hs, S⟩ := strip t
  have at' : ∀ i p, geti [none, some (false, d), none, none, none] i = some p → i = 1 ∧ p = (false, d) := fun i p h => by
    match i, h with
    | 0, h => cases h
    | 1, h => cases h; exact ⟨rfl, rfl⟩
    | 2, h => cases h
    | 3, h => cases h
    | 4, h => cases h
    | i + 5, h =>
      have : geti ([none, some (false, d), none, none, none] : Env) (i + 5) = none := by cases i <;> rfl
      rw [this] at h
      cases h
  refine ⟨Hs, ⟨S, hl, fun i x h => ?_, fun i x h => ?_, fun i j x y a h _ _ _ => ?_⟩, fun b ⟨i, x, _, h⟩ => ?_⟩
  · obtain ⟨rfl, e⟩ := at' i _ h
    cases e
    exact ⟨v, h1, r Hs⟩
  · obtain ⟨_, e⟩ := at' i _ h
    cases e
  · obtain ⟨_, e⟩ := at' i _ h
    cases e
  · obtain ⟨_, e⟩ := at' i _ h
    cases e
/-- what follows tells None -/
theorem rest0 {K : PySem.W.Frag} {mg : Str → Option Value} {W : XK} {H : Hp} {σ : L2.St} {Q : VK} (t : LamX.Tabs Tbs.T H) (hl : σ.length = 5) (h1 : σ[1]? = some (some .non)) (q : ∀ H2, LamX.ExtN H H2 → LamX.Tabs Tbs.T H2 → Q .non H2) :
    tSts K mg W [] (B_rest .none (fun _ => false) false) { nx := fun _ H' => Q .non H', rt := Q } σ H := by
  obtain ⟨Hs, R, no⟩ := env_one (K := K) (d := .none) t hl h1 fun _ => .non
  obtain ⟨m', e⟩ := rest_none none none
  refine ⟨Hs, _, R, ?_⟩
  rw [e]
  intro v σ' Hs' H' R' F' _ r
  have r : Rp K Hs' v .none := r
  rw [rp_none r]
  exact q H' (fun b o hb n => (F'.keepN hb (no b) n)) R'.sub.tab
/-- .. and the refusal's number -/
theorem rest1 {K : PySem.W.Frag} {mg : Str → Option Value} {W : XK} {H : Hp} {σ : L2.St} {Q : VK} {a : Addr} {n : Nat} (t : LamX.Tabs Tbs.T H) (hl : σ.length = 5) (h1 : σ[1]? = some (some (.ref a))) (hn : n < 10)
    (q : ∀ H2, LamX.ExtN H H2 → LamX.Tabs Tbs.T H2 → ∀ p, H2 p = none → Q (.ref p) (upd H2 p (.lst [.int (n : Int)]))) :
    tSts K mg W [] (B_rest (adrD a) (fun j => decide (n = j)) true) { nx := fun _ H' => Q .non H', rt := Q } σ H := by
  obtain ⟨Hs, R, no⟩ := env_one (K := K) (d := adrD a) t hl h1 fun _ => .adr rfl
  obtain ⟨m', e⟩ := rest_exc (adrD a) n hn none none
  refine ⟨Hs, _, R, ?_⟩
  rw [e]
  intro v σ' Hs' H' R' F' _ r
  obtain ⟨p, o, rfl, h2, c, h3, h4⟩ := r
  cases c with
  | lst c =>
    cases c with
    | cons c1 c2 =>
      cases c2
      have c1 : Rp K Hs' _ (.int (n : Int)) := c1
      have ev : _ = V.int (n : Int) := (show RB K Hs' H' _ (.int (n : Int)) from .inl c1).int
      subst ev
      have dead : Dead H p := (F'.owns p (.inr ⟨rfl, rfl⟩)).resolve_left (no p)
      let H2 : Hp := fun b => if b = p then none else H' b
      have e2 : upd H2 p (.lst [.int (n : Int)]) = H' := by
        funext b
        by_cases hb : b = p
        · subst hb; rw [upd_same, h2]
        · rw [upd_ne hb]; exact if_neg hb
      have n2 : H2 p = none := if_pos rfl
      rw [← e2]
      refine q H2 (fun b o hb ht => ?_) (fun z hz => ?_) p n2
      · have hp : b ≠ p := fun z => by
          subst z
          obtain ⟨ps, e⟩ := dead o hb
          exact ht ps e
        show (if b = p then none else H' b) = _
        rw [if_neg hp]
        exact F'.keepN hb (no b) ht
      · obtain ⟨ps, k1, k2, k3⟩ := R'.sub.tab z hz
        refine ⟨ps, ?_, k2, fun pos cv hc => ?_⟩
        · show (if z.1 = p then none else H' z.1) = _
          rw [if_neg (fun e => by rw [e, h2] at k1; cases k1)]
          exact k1
        · obtain ⟨c, e1, e3⟩ := k3 pos cv hc
          refine ⟨c, e1, ?_⟩
          show (if c = p then none else H' c) = _
          rw [if_neg (fun e => by rw [e, h2] at e3; cases e3)]
          exact e3
/-- the def that tells of refusals, of its body -/
theorem ref_gives {K : PySem.W.Frag} {mg : Str → Option Value} {CE : Addr} {ks : List (Str × Nat)} {r : Str} {sg : Scope} {g : Addr} {cdv : Value} {bg rest : List Stmt} {fuel k : Nat} {p1 p2 p3 p4 p5 p6 p7 p8 p9 p10 p11 p12 : Pos} {k1 : Nat}
    (RK : RefK K mg CE ks) (Sg : FnScope refN ["_law_call"] sg) (l1 : isLoc sg "_law_error" = true) (l2 : sg.names.lookup ("e" : Str) = some .local) (l3 : isGl sg "CutError" = true)
    (hb : bg = .Assign [.Name "_law_error" p1] (.Constant .none k1 p2) p3 :: .Try [.Expr (.Call (.Name "_law_call" p4) [] [] p5) p6] [.ExceptHandler (some (.Name "CutError" p7)) (some "e") [.Assign [.Name "_law_error" p8] (.Name "e" p9) p10] p11] [] [] p12 :: rest)
    (ht : ∀ d f ve, trSs fuel ⟨refN, sg, [], [], [], some ("_law_error", d, isXs f ve), none⟩ [] [] rest = some (B_rest d f ve)) :
    ∀ (X : Cx) (q : Str), X.K = K → X.mg = mg → Room (k + 2) X.A → LamX.GivesTo X refN r sg g cdv bg "_law_call" q (TTr mg ks) := by
  intro X q hK hmg hroom f c' s H Q tl act hco h
  subst hK hmg hb
  let X0 : Cx := (cxOf C8.CX0 X.prog X.w X.K X.mg X.base refN r sg g cdv X.A X.stack s H C8.E0).nox
  let W0 : XK := fun _ _ _ => False
  have hu : X0.A.units + 65 < cLine := by
    have := (hroom.deeper (envOfC r sg s.heap.objs.size g cdv)).un
    show (X.A.deeper _).units + 65 < _
    omega
  have mk : ∀ (pn : List (Addr × Obj)) (ix : Option (Str × D × List (Str × Bool))), (∀ v d l x b i, ix = some (v, d, l) → l.lookup x = some b → ixOf refN v = some i → isGl sg "isinstance" = true → okName v = true → isVis sg v = true → okName x = true → isGl sg x = true → ∀ p p1 p2 p3,
      PE (X0.tr pn X0.xe) (.Call (.Name ("isinstance" : Str) p) [.Name v p1, .Name x p2] [] p3) (fun σ H Q => (∃ Hs u, σ[i]? = some (some u) ∧ Rp X.K Hs u d) ∧ Q (.bl b) H)) → FGood (X0.tr pn X0.xe) W0 ⟨refN, sg, [], [], [], ix, none⟩ [] := fun pn ix hix =>
    ⟨⟨⟨rfl, rfl, Sg.nd, rfl, hu, fun _ _ h => (by cases h), fun _ _ h => (by cases h), RK.blt, hix⟩, fun _ _ h => (by cases h)⟩, Sg.kind, fun _ => rfl, PassesOwn.never, fun _ h => (by cases h), LamX.takes0⟩
  have G0 : FGood (X0.tr [] X0.xe) W0 ⟨refN, sg, [], [], [], none, none⟩ [] := mk [] none fun _ _ _ _ _ _ h => (by cases h)
  have s1 : PS (X0.tr [] X0.xe) (.Assign [.Name "_law_error" p1] (.Constant .none k1 p2) p3) (tAsg (tC .non) (gName 1)) := ps_set (i := 1) Sg.nd rfl (loc_of l1) pe_non rfl (.inl rfl)
  have r0 : PSsm (X0.tr [] X0.xe) W0 [] rest (B_rest .none (fun _ => false) false) := (sndS fuel).ss _ _ _ _ _ (ht _ _ _) _ _ (mk [] _ (isx_none (X := X0.tr [] X0.xe) RK rfl rfl rfl rfl))
  let U1 : Addr → Value → TS := fun a cls D σ H => ∃ x i C, ks.lookup x = some i ∧ cls = .ref C ∧ X.mg x = some (.ref C) ∧ tSts X.K X.mg W0 [] (B_rest (adrD a) (fun j => decide (i = j)) true) D σ H
  have r1 : ∀ (a : Addr) (oe : Obj) (cls : Value) (pn : List (Addr × Obj)), Zc cls none oe → (∃ vs, oe.data = .fields vs) → PSs ((X0.tr [] X0.xe).tr ((a, oe) :: pn) (X0.tr [] X0.xe).xe) rest (U1 a cls) := by
    intro a oe cls pn hz hf
    refine ⟨fun pins s' σ' H' D I ⟨x, i, C, hx, hc, hm, hq⟩ => ?_⟩
    subst hc
    obtain ⟨_, C', m1, _, E, m4, m5⟩ := RK.kinds x i hx
    rw [hm] at m1
    cases m1
    have := (sndS fuel).ss _ _ _ _ _ (ht (adrD a) (fun j => decide (i = j)) true) (X0.tr ((a, oe) :: pn) X0.xe) W0 (mk ((a, oe) :: pn) _ (isx_exc (X := X0.tr ((a, oe) :: pn) X0.xe) (a := a) RK rfl rfl rfl rfl List.mem_cons_self hz hf E m4 m5))
    exact this.run pins s' σ' H' D I hq
  let TB : WX → TS := fun W D σ H => ∃ E' : XK, (∀ cls d σ' H', E' cls d H' → W cls d σ' H') ∧ σ[0]? = some (some (.ref f)) ∧ H c' = some (LamX.CodeO c' q) ∧ tl E' H fun _ H' => D.nx σ H'
  have bd : ∀ (W : WX) (pn : List (Addr × Obj)) (xe : Value → Shared → Prop), Takes ((X0.tr [] X0.xe).tr pn xe) W → PassesOwn (model X0.prog X0.w) X0.A X0.env xe → PSs ((X0.tr [] X0.xe).tr pn xe) [.Expr (.Call (.Name "_law_call" p4) [] [] p5) p6] (TB W) := fun W pn xe tk _ =>
    ⟨fun pins s' σ' H' D I ⟨E', hW, h1, h2, h3⟩ => (pss_one (ps_expr (act W pn xe E' p4 p5 tk hW))).run pins s' σ' H' D I ⟨h1, h2, h3⟩⟩
  have su : ∀ (a : Addr) (oe : Obj) (cls : Value) (pn : List (Addr × Obj)), Zc cls none oe → (∃ vs, oe.data = .fields vs) → PSs ((X0.tr [] X0.xe).suite a ((a, oe) :: pn)) [.Assign [.Name "_law_error" p8] (.Name "e" p9) p10] (tAsg (tVar 2) (gName 1)) := fun a oe cls pn _ _ =>
    pss_one (ps_set (i := 1) Sg.nd rfl (loc_of l1) (pe_var (i := 2) rfl (.inl l2) (by decide +kernel) (by decide +kernel)) rfl (.inl rfl))
  have ct := pss_catch (X := X0.tr [] X0.xe) (x := "CutError") (n := "e") (c := .ref CE) (i := 2) (np := p7) (pos := p12) (pos' := p11) rfl rfl Sg.nd rfl l2 ⟨gl_of l3, by decide +kernel, .inl RK.ce⟩ bd su r0 r1
  refine ⟨_, pss_cons s1 ct, ?_⟩
  obtain ⟨T0, h⟩ := h
  refine ⟨fun cls d H' => LamX.Tabs Tbs.T H' ∧ ∃ x i C, ks.lookup x = some i ∧ X.mg x = some (.ref C) ∧ cls = .ref C ∧ d = none ∧ ∀ H2, LamX.ExtN H' H2 → LamX.Tabs Tbs.T H2 → ∀ p, H2 p = none → Q (.ref p) (upd H2 p (.lst [.int (i : Int)])), fun cls d σ' H' hE => ?_, rfl, hco,
    h _ _ (fun _ _ _ z => z) fun v H' ⟨t1, z⟩ => rest0 t1 rfl rfl z⟩
  obtain ⟨t1, x, i, C, hx, hC, rfl, rfl, z⟩ := hE
  obtain ⟨hi, C', m1, m2, _, _, _⟩ := RK.kinds x i hx
  rw [hC] at m1
  cases m1
  refine ⟨m2, rfl, fun hl a _ => ?_⟩
  have hl : σ'.length = 5 := hl
  refine ⟨.ref a, by rw [List.getElem?_set_self (by omega)], x, i, C, hx, rfl, hC, ?_⟩
  exact rest1 t1 (by simp [gName, hl]) (by simp [gName, hl]) hi z
end Rc

set_option maxRecDepth 100000
set_option maxHeartbeats 4000000
/-! The end of a law that asks for refusals. -/
namespace Rc
open PySem PySem.Spec PyProof.Rows L2
/-- the text of the def that tells of refusals -/
def RefBody (fuel : Nat) (st : Stmt) : Prop := ∃ (p1 p2 p3 p4 p5 p6 p7 p8 p9 p10 p11 p12 : Pos) (k1 : Nat) (rest : List Stmt),
  defBody st = .Assign [.Name "_law_error" p1] (.Constant .none k1 p2) p3 :: .Try [.Expr (.Call (.Name "_law_call" p4) [] [] p5) p6] [.ExceptHandler (some (.Name "CutError" p7)) (some "e") [.Assign [.Name "_law_error" p8] (.Name "e" p9) p10] p11] [] [] p12 :: rest ∧
  ∀ d f ve, trSs fuel ⟨refN, defScope st, [], [], [], some ("_law_error", d, isXs f ve), none⟩ [] [] rest = some (B_rest d f ve)
section
variable [Tbs]
theorem refS_mk {K : PySem.W.Frag} {mg : Str → Option Value} {base : Heap} {qual : Str} {fd : FuncData} {k fuel : Nat} {r : Str} {st : Stmt} {ks : List (Str × Nat)} {CE cd Pt : Addr} (Df : Dfd K mg r st ["_law_call"]) (Sg : FnScope refN ["_law_call"] (defScope st)) (RK : RefK K mg CE ks)
    (l1 : isLoc (defScope st) "_law_error" = true) (l2 : (defScope st).names.lookup ("e" : Str) = some .local) (l3 : isGl (defScope st) "CutError" = true) (hb : RefBody fuel st) (TB : LamX.TabB base mg cd Pt) (hc : fd.code = .ref cd)
    (hT : (Pt, (qual ++ ".<locals>." : Str) ++ "<lambda>") ∈ Tbs.T) (hU : ∀ p ∈ Tbs.T, p.1 = Pt → p.2 = (qual ++ ".<locals>." : Str) ++ "<lambda>") : RefS K mg base qual fd k r ks := by
  obtain ⟨g, fg, F, m, b⟩ := Df.ex
  obtain ⟨oc, od, kV, doc, pm, an, cdv, ct, osl, hfd, lk, hcd⟩ := F.ex
  subst hfd
  obtain ⟨p1, p2, p3, p4, p5, p6, p7, p8, p9, p10, p11, p12, k1, rest, e, ht⟩ := hb
  exact ⟨g, cd, Pt, "_law_call", refN, defArgs st, defBody st, defScope st, .none, kV, doc, pm, cdv, ct, oc, an, od, osl, m, F.kp, lk, hcd, b, Sg, rfl, (Sg.par "_law_call" List.mem_cons_self).elim .inl (fun h => .inr (.inl h)), by decide +kernel,
    ref_gives RK Sg l1 l2 l3 e ht, TB, hc, hT, hU⟩
end
/-- the end with the top's tables -/
theorem walk_rc {l : PySem.W.OpenLaw} {n k : Nat} {q : Program} {loose : List Str} {XP : (Str → Option Value) → Heap → Prop} {YP : World → Heap → Prop} {d : DefRec} {K : Params → PySem.W.Frag} {CX : World → CXT} {x : Str}
    (hn : l.most = some n) (hn2 : n ≤ sizeLine) (hdf : d.params.defaults = []) (hr : Room k callerA) (hY : ∀ (w : World) (h : Heap), YP w h → (K w.params).In h)
    (F : ∀ (w : World) (loose2 : List Str) (mean : ExcName → Option Value) (mg mb : Str → Option Value) (fa : Addr) (h : Heap), (K w.params).In h → PyProof.Rows.Top q loose2 mean mg mb h → mg d.name = some (.ref fa) → LamX.LawAtS l w (K w.params) (CX w) k n x mg fa h)
    (hCX : ∀ (w : World) (H : Hp) (s : Shared) (e : Value) (s' : Shared), CX w [] H s (fun _ _ _ => False) e s' → False) :
    PySem.W.WalkO q loose XP YP l.row.toRowW d [] (fun f vs => PySem.call f vs) := by
  refine Att.attach_callB hn hdf fun w s₀ s₁ mg mb fa o pm cd doc a vs ns G Y ho hd hcd hmg hobj hints hlen hbits hg => ?_
  have KX := hY w _ Y
  obtain ⟨fd, cs, sp, hT, nT, C, hb, hsp, hF⟩ := F w _ _ mg mb fa _ KX G.T hmg
  refine LamX.law_callTs KX G.T.g G.T.b G.T.builtins G.T.nolimit hg hT nT C G.T.bmain hobj hints (Nat.le_trans hlen hn2) hr hF hb ?_ ?_
  · exact fun H hH hS => hsp H a ns hlen hbits hH hS
  · exact fun H e s' => hCX w H s₁ e s'
/-- a def's table -/
theorem tab_at {q : Program} {loose : List Str} {mean : ExcName → Option Value} {mg mb : Str → Option Value} {h : Heap} {K : PySem.W.Frag} {x : Str} {f c P : Addr} {oc oc2 : Value} {od od2 : Option Addr} {fd : FuncData} {osl osl2 : Array (Option Value)} {vs : Array Value} (T : PyProof.Rows.Top q loose mean mg mb h) (X : K.In h) (hr : ((recsOf q).find? (fun e => e.name == x)).isSome = true)
    (a : PySem.W.nsIn K mainGlobals x = some (some (.ref f))) (l : K.lookup f = some ⟨oc, od, .func fd, osl⟩) (e : fd.code = .ref c) (l2 : K.lookup c = some ⟨oc2, od2, .fields vs, osl2⟩) (v : (vs[11]? : Option Value) = some (.ref P)) :
    PySem.W.CodeHd h c P ∧ h.get? P = some { cls := .none, data := .fields #[] } := by
  obtain ⟨d, hd⟩ := Option.isSome_iff_exists.mp hr
  refine PySem.W.tab_of T X hd ?_
  unfold PySem.W.tabIn
  simp only [a, l, e, l2, v]
/-! ### what the head tells of constants, classes -/
section
variable {K : PySem.W.Frag} {mg : Str → Option Value} {h : Heap}
def CstOk (K : PySem.W.Frag) (mg : Str → Option Value) (x : Str) (d : D) : Prop := ∃ v u, mg x = some u ∧ RelV v u ∧ ∀ H, Rp K H v d
theorem cst_int (X : K.In h) (G : h.Ns mainGlobals mg) {x : Str} {i : Int} {t : Tok} (a : PySem.W.nsIn K mainGlobals x = some (some (.int i t))) : CstOk K mg x (.int i) := ⟨.int i, .int i t, PySem.W.mg_of X G a, ⟨t, rfl⟩, fun _ => .int i⟩
theorem cst_str (X : K.In h) (G : h.Ns mainGlobals mg) {x y : Str} {t : Tok} (a : PySem.W.nsIn K mainGlobals x = some (some (.str y t))) : CstOk K mg x (.str y) := ⟨.str y, .str y t, PySem.W.mg_of X G a, ⟨t, rfl⟩, fun _ => .str y⟩
def intsV : List Value → Option (List Int)
  | [] => some []
  | .int i _ :: r => (intsV r).map (i :: ·)
  | _ :: _ => none
theorem intsV_vals : ∀ {vs : List Value} {ns : List Int}, intsV vs = some ns → Vals (ns.map V.int) vs
  | [], ns, h => by simp only [intsV, Option.some.injEq] at h; subst h; exact .nil
  | v :: vs, ns, h => by
    cases v <;> simp only [intsV, reduceCtorEq, Option.map_eq_some_iff] at h
    obtain ⟨ns', h1, rfl⟩ := h
    exact .cons ⟨_, rfl⟩ (intsV_vals h1)
theorem rpa_ints (H : Hp) : ∀ ns : List Int, RpA K H (ns.map V.int) (ns.map PyData.int)
  | [] => .nil
  | n :: ns => .cons (.int n) (rpa_ints H ns)
theorem cst_tup (X : K.In h) (G : h.Ns mainGlobals mg) {x : Str} {t : Addr} {dd : Option Addr} {its : Array Value} {n : Nat} {sl : Array (Option Value)} {ns : List Int} (a : PySem.W.nsIn K mainGlobals x = some (some (.ref t))) (l : K.lookup t = some ⟨.type "tuple", dd, .seq its n, sl⟩)
    (hd : dd = none) (hs : its.size ≤ sizeLine) (hv : intsV its.toList = some ns) : CstOk K mg x (.tuple (ns.map PyData.int)) := by
  subst hd
  refine ⟨.ref t, .ref t, PySem.W.mg_of X G a, rfl, fun H => .tup (xs := ns.map V.int) (.inr ⟨_, its, n, l, rfl, rfl, hs, intsV_vals hv⟩) (rpa_ints H ns)⟩
def ExcOk (K : PySem.W.Frag) (mg : Str → Option Value) (x : Str) : Prop := ∃ C, mg x = some (.ref C) ∧ PySem.W.excIn K C [.type "ValueError", .type "Exception", .type "BaseException", .type "object"] "ValueError.__new__" = true ∧ PySem.W.keepIn K (.ref C) = true ∧
    PySem.W.subIn K (.ref C) (.type "BaseException") = some true ∧ PySem.W.typeIn K (.ref C) = some (.type "type")
theorem exc_mk {x : Str} {C : Addr} (_ : K.In h) (m : mg x = some (.ref C)) (a1 : PySem.W.excIn K C [.type "ValueError", .type "Exception", .type "BaseException", .type "object"] "ValueError.__new__" = true) (a2 : PySem.W.keepIn K (.ref C) = true) (a3 : PySem.W.subIn K (.ref C) (.type "BaseException") = some true) (a4 : PySem.W.typeIn K (.ref C) = some (.type "type")) : ExcOk K mg x := ⟨C, m, a1, a2, a3, a4⟩
def CnsOk (K : PySem.W.Frag) (mg : Str → Option Value) : List (Str × D) → Prop
  | [] => True
  | p :: r => CstOk K mg p.1 p.2 ∧ CnsOk K mg r
theorem cns_all : ∀ {cns : List (Str × D)}, CnsOk K mg cns → ∀ x d, cns.lookup x = some d → ∃ v u, mg x = some u ∧ RelV v u ∧ ∀ H, Rp K H v d
  | [], _, x, d, h => by cases h
  | (y, e) :: r, c, x, d, h => by
    rw [List.lookup_cons] at h
    split at h
    · rename_i z
      cases h
      have := eq_of_beq z
      subst this
      exact c.1
    · exact cns_all c.2 x d h
def XcsOk (K : PySem.W.Frag) (mg : Str → Option Value) : List Str → Prop
  | [] => True
  | x :: r => ExcOk K mg x ∧ XcsOk K mg r
theorem xcs_all : ∀ {xs : List Str}, XcsOk K mg xs → ∀ x ∈ xs, ExcOk K mg x
  | [], _, x, h => by cases h
  | y :: r, c, x, h => by
    rcases List.mem_cons.mp h with rfl | h
    · exact c.1
    · exact xcs_all c.2 x h
theorem glob_mk {cns : List (Str × D)} {xs : List Str} (c : CnsOk K mg cns) (x : XcsOk K mg xs) (b : ∀ x ∈ blts, mg x = none) : Glob K mg cns xs := ⟨cns_all c, b, xcs_all x⟩
/-- the ten classes -/
def TenAt (mg : Str → Option Value) (a0 a1 a2 a3 a4 a5 a6 a7 a8 a9 : Addr) : Prop := mg "NoField" = some (.ref a0) ∧ mg "NoWeights" = some (.ref a1) ∧ mg "NoCut" = some (.ref a2) ∧ mg "Nothing" = some (.ref a3) ∧ mg "NoTurn" = some (.ref a4) ∧ mg "NoCorner" = some (.ref a5) ∧ mg "NoNumber" = some (.ref a6) ∧ mg "NoText" = some (.ref a7) ∧ mg "NoLine" = some (.ref a8) ∧ mg "NoDeed" = some (.ref a9)
def dN (a0 a1 a2 a3 a4 a5 a6 a7 a8 a9 : Addr) : Nat → Addr
  | 0 => a0 | 1 => a1 | 2 => a2 | 3 => a3 | 4 => a4 | 5 => a5 | 6 => a6 | 7 => a7 | 8 => a8 | _ => a9
section
variable {a0 a1 a2 a3 a4 a5 a6 a7 a8 a9 : Addr}
theorem tens_at (t : TenAt mg a0 a1 a2 a3 a4 a5 a6 a7 a8 a9) (j : Nat) (y : Str) (hj : tens[j]? = some y) : mg y = some (.ref (dN a0 a1 a2 a3 a4 a5 a6 a7 a8 a9 j)) := by
  have hl : j < 10 := by
    have := (List.getElem?_eq_some_iff.mp hj).1
    simpa [tens] using this
  obtain ⟨t0, t1, t2, t3, t4, t5, t6, t7, t8, t9⟩ := t
  have : j = 0 ∨ j = 1 ∨ j = 2 ∨ j = 3 ∨ j = 4 ∨ j = 5 ∨ j = 6 ∨ j = 7 ∨ j = 8 ∨ j = 9 := by omega
  rcases this with rfl | rfl | rfl | rfl | rfl | rfl | rfl | rfl | rfl | rfl <;> (cases hj; assumption)
/-- ten answers -/
theorem kind_mk {x : Str} {i : Nat} {C CE : Addr} (_ : K.In h) (_ : mg "CutError" = some (.ref CE)) (m : mg x = some (.ref C)) (t : TenAt mg a0 a1 a2 a3 a4 a5 a6 a7 a8 a9) (E : ExcC K C) (ex : PySem.W.exmOne K (.ref C) (.ref CE) = some true)
    (k0 : PySem.W.kitOne K (.ref C) (.ref a0) = some (decide (i = 0))) (k1 : PySem.W.kitOne K (.ref C) (.ref a1) = some (decide (i = 1))) (k2 : PySem.W.kitOne K (.ref C) (.ref a2) = some (decide (i = 2))) (k3 : PySem.W.kitOne K (.ref C) (.ref a3) = some (decide (i = 3))) (k4 : PySem.W.kitOne K (.ref C) (.ref a4) = some (decide (i = 4))) (k5 : PySem.W.kitOne K (.ref C) (.ref a5) = some (decide (i = 5))) (k6 : PySem.W.kitOne K (.ref C) (.ref a6) = some (decide (i = 6))) (k7 : PySem.W.kitOne K (.ref C) (.ref a7) = some (decide (i = 7))) (k8 : PySem.W.kitOne K (.ref C) (.ref a8) = some (decide (i = 8))) (k9 : PySem.W.kitOne K (.ref C) (.ref a9) = some (decide (i = 9)))
    (kv : PySem.W.kitOne K (.ref C) (.type "ValueError") = some true) : KindOk K mg CE tens x i := ⟨C, m, ex, E, fun j y hj => ⟨dN a0 a1 a2 a3 a4 a5 a6 a7 a8 a9 j, tens_at t j y hj, by
      have hl : j < 10 := by
        have := (List.getElem?_eq_some_iff.mp hj).1
        simpa [tens] using this
      have : j = 0 ∨ j = 1 ∨ j = 2 ∨ j = 3 ∨ j = 4 ∨ j = 5 ∨ j = 6 ∨ j = 7 ∨ j = 8 ∨ j = 9 := by omega
      rcases this with rfl | rfl | rfl | rfl | rfl | rfl | rfl | rfl | rfl | rfl <;> assumption⟩, kv⟩
theorem none_mk (_ : K.In h) (_ : TenAt mg a0 a1 a2 a3 a4 a5 a6 a7 a8 a9)
    (h0 : PySem.W.kitOne K (.type "NoneType") (.ref a0) = some false) (h1 : PySem.W.kitOne K (.type "NoneType") (.ref a1) = some false) (h2 : PySem.W.kitOne K (.type "NoneType") (.ref a2) = some false) (h3 : PySem.W.kitOne K (.type "NoneType") (.ref a3) = some false) (h4 : PySem.W.kitOne K (.type "NoneType") (.ref a4) = some false) (h5 : PySem.W.kitOne K (.type "NoneType") (.ref a5) = some false) (h6 : PySem.W.kitOne K (.type "NoneType") (.ref a6) = some false) (h7 : PySem.W.kitOne K (.type "NoneType") (.ref a7) = some false) (h8 : PySem.W.kitOne K (.type "NoneType") (.ref a8) = some false) (h9 : PySem.W.kitOne K (.type "NoneType") (.ref a9) = some false) : ∀ j < 10, PySem.W.kitOne K (.type "NoneType") (.ref (dN a0 a1 a2 a3 a4 a5 a6 a7 a8 a9 j)) = some false := fun j hj => by
  have : j = 0 ∨ j = 1 ∨ j = 2 ∨ j = 3 ∨ j = 4 ∨ j = 5 ∨ j = 6 ∨ j = 7 ∨ j = 8 ∨ j = 9 := by omega
  rcases this with rfl | rfl | rfl | rfl | rfl | rfl | rfl | rfl | rfl | rfl <;> assumption
end
theorem excC_mk {x : Str} {D : Addr} (_ : K.In h) (m : mg x = some (.ref D)) (h1 : PySem.W.findIn K (.ref D) "__getattribute__" = some (some (.builtin "BaseException.__getattribute__"))) (h2 : PySem.W.findIn K (.ref D) "__getattr__" = some none) (h3 : PySem.W.subIn K (.ref D) (.type "BaseException") = some true) (h4 : PySem.W.hasDictIn K D = true)
    (h5 : PySem.W.findIn K (.ref D) "__class__" = some (some (.builtin "object.__class__"))) (h6 : PySem.W.specialIn K (.builtin "object.__class__") "__get__" = some (some (.builtin "getset_descriptor.__get__"))) (h7 : PySem.W.takesIn K (.builtin "object.__class__") = some true) (h8 : PySem.W.mroIn K D (.type "object") = some true) : ExcC K D := ⟨h1, h2, h3, h4, h5, h6, h7, h8⟩
theorem uniq_of {l : List (Addr × Str)} {z : Addr} {y : Str} {q : Addr × Str} (h : (l.map (·.1)).Nodup) (hz : (z, y) ∈ l) (hq : q ∈ l) (e : q.1 = z) : q.2 = y := by
  induction l with
  | nil => cases hz
  | cons p l ih =>
    rw [List.map_cons, List.nodup_cons] at h
    rcases List.mem_cons.mp hz with rfl | hz'
    · rcases List.mem_cons.mp hq with rfl | hq'
      · rfl
      · exact absurd (List.mem_map.mpr ⟨q, hq', e⟩ : z ∈ l.map (·.1)) h.1
    · rcases List.mem_cons.mp hq with rfl | hq'
      · exact absurd (List.mem_map.mpr ⟨(z, y), hz', e.symm⟩ : q.1 ∈ l.map (·.1)) h.1
      · exact ih h.2 hz' hq'
theorem vnone_mk (_ : K.In h) (nv : PySem.W.kitOne K (.type "NoneType") (.type "ValueError") = some false) : PySem.W.kitOne K (.type "NoneType") (.type "ValueError") = some false := nv
theorem refK_mk {CE : Addr} {ks : List (Str × Nat)} {a0 a1 a2 a3 a4 a5 a6 a7 a8 a9 : Addr} (ce : mg "CutError" = some (.ref CE)) (t : TenAt mg a0 a1 a2 a3 a4 a5 a6 a7 a8 a9) (kn : ∀ j < 10, PySem.W.kitOne K (.type "NoneType") (.ref (dN a0 a1 a2 a3 a4 a5 a6 a7 a8 a9 j)) = some false)
    (nv : PySem.W.kitOne K (.type "NoneType") (.type "ValueError") = some false) (ve : mg "ValueError" = none) (bl : ∀ x ∈ blts, mg x = none) (kinds : ∀ x i, ks.lookup x = some i → i < 10 ∧ KindOk K mg CE tens x i) : RefK K mg CE ks :=
  ⟨ce, kinds, fun j y hj => ⟨dN a0 a1 a2 a3 a4 a5 a6 a7 a8 a9 j, tens_at t j y hj, kn j (by
    have := (List.getElem?_eq_some_iff.mp hj).1
    simpa [tens] using this)⟩, nv, ve, bl⟩
theorem ten_all {P : Nat → Prop} (h0 : P 0) (h1 : P 1) (h2 : P 2) (h3 : P 3) (h4 : P 4) (h5 : P 5) (h6 : P 6) (h7 : P 7) (h8 : P 8) (h9 : P 9) : ∀ j < 10, P j := fun j hj => by
  have : j = 0 ∨ j = 1 ∨ j = 2 ∨ j = 3 ∨ j = 4 ∨ j = 5 ∨ j = 6 ∨ j = 7 ∨ j = 8 ∨ j = 9 := by omega
  rcases this with rfl | rfl | rfl | rfl | rfl | rfl | rfl | rfl | rfl | rfl <;> assumption
end
theorem cls_mk {K : PySem.W.Frag} {h : Heap} {mg : Str → Option Value} (X : K.In h) (G : h.Ns mainGlobals mg) {x : Str} {f : Addr} (a : PySem.W.nsIn K mainGlobals x = some (some (.ref f))) : mg x = some (.ref f) := PySem.W.mg_of X G a
end Rc

set_option maxRecDepth 100000
set_option maxHeartbeats 4000000
/-! The defs that several laws have, as literals of the language (printed by gen.py std). -/
namespace Rc
open PySem
/- _law_cell_at(_law_script, _law_k): 0 _law_script 1 _law_k -/
noncomputable def B_law_cell_at : Ss := (.cons (.sif (.cmp .lt (.var 1) (.blt .len (.cons (.var 0) .nil)))
      (.cons (.ret (.idx (.var 0) (.var 1)))
    .nil)
      .nil)
    (.cons (.ret (.con (.int 0)))
    .nil))
noncomputable def M_law_cell_at : MF := mkM [false, false] 2 B_law_cell_at
/- _law_state(_law_script, _law_k): 0 _law_script 1 _law_k 2 _law_cell -/
noncomputable def B_law_state : Ss := (.cons (.asg 2 (.call M_law_cell_at [false, false] (.cons (.var 0) (.cons (.var 1) .nil))))
    (.cons (.sif (.cmp .ge (.var 2) (.bin .pow (.con (.int 10)) (.con (.int 18))))
      (.cons (.ret (.lst (.cons (.bin .sub (.var 2) (.bin .pow (.con (.int 10)) (.con (.int 18)))) (.cons (.con (.bool true)) .nil))))
    .nil)
      .nil)
    (.cons (.ret (.lst (.cons (.bin .mod (.var 2) (.con (.int 2147483647))) (.cons (.con (.bool false)) .nil))))
    .nil)))
noncomputable def M_law_state : MF := mkM [false, false] 3 B_law_state
/- _law_take(_law_state_here, _law_many): 0 _law_state_here 1 _law_many 2 _law_found 3 _law_stirred -/
noncomputable def B_law_take : Ss := (.cons (.blk [] (.cons (.sif (.idx (.var 0) (.con (.int 1)))
      (.cons (.asg 2 (.bin .mod (.idx (.var 0) (.con (.int 0))) (.var 1)))
    (.cons (.sti 0 (.con (.int 0)) (.bin .fdiv (.idx (.var 0) (.con (.int 0))) (.var 1)))
    (.cons (.retv 2)
    .nil)))
      .nil) .nil) [2])
    (.cons (.sti 0 (.con (.int 0)) (.bin .mod (.bin .add (.bin .mul (.idx (.var 0) (.con (.int 0))) (.con (.int 48271))) (.con (.int 29))) (.con (.int 2147483647))))
    (.cons (.asg 3 (.bin .mod (.bin .add (.bin .add (.bin .mul (.idx (.var 0) (.con (.int 0))) (.idx (.var 0) (.con (.int 0)))) (.bin .mul (.con (.int 39373)) (.idx (.var 0) (.con (.int 0))))) (.con (.int 7))) (.con (.int 2147483629))))
    (.cons (.asg 3 (.bin .mod (.bin .add (.bin .mul (.var 3) (.var 3)) (.bin .mul (.con (.int 16807)) (.var 3))) (.con (.int 2147483587))))
    (.cons (.ret (.bin .mod (.bin .fdiv (.var 3) (.con (.int 8))) (.var 1)))
    .nil)))))
noncomputable def M_law_take : MF := mkM [true, false] 4 B_law_take
/- _law_divisor(_law_one, _law_other): 0 _law_one 1 _law_other -/
noncomputable def L1_law_divisor : Ss := (.cons (.par [0, 1] (.cons (.var 1) (.cons (.bin .mod (.var 0) (.var 1)) .nil)))
    .nil)
noncomputable def B_law_divisor : Ss := (.cons (.blk [] (.cons (.whl (.cmp .ne (.var 1) (.con (.int 0)))
      L1_law_divisor) .nil) [1])
    (.cons (.ret (.blt .abs (.cons (.var 0) .nil)))
    .nil))
noncomputable def M_law_divisor : MF := mkM [false, false] 2 B_law_divisor
/- divisor(one, other): 0 one 1 other -/
noncomputable def L1_divisor : Ss := (.cons (.par [0, 1] (.cons (.var 1) (.cons (.bin .mod (.var 0) (.var 1)) .nil)))
    .nil)
noncomputable def B_divisor : Ss := (.cons (.blk [] (.cons (.whl (.cmp .ne (.var 1) (.con (.int 0)))
      L1_divisor) .nil) [1])
    (.cons (.ret (.blt .abs (.cons (.var 0) .nil)))
    .nil))
noncomputable def M_divisor : MF := mkM [false, false] 2 B_divisor
/- shortened(row): 0 row 1 share -/
noncomputable def B_shortened : Ss := (.cons (.asg 1 (.call M_divisor [false, false] (.cons (.idx (.var 0) (.con (.int 0))) (.cons (.idx (.var 0) (.con (.int 1))) .nil))))
    (.cons (.ret (.tup (.cons (.bin .fdiv (.idx (.var 0) (.con (.int 0))) (.var 1)) (.cons (.bin .fdiv (.idx (.var 0) (.con (.int 1))) (.var 1)) (.cons (.bin .fdiv (.idx (.var 0) (.con (.int 2))) (.var 1)) .nil)))))
    .nil))
noncomputable def M_shortened : MF := mkM [false] 2 B_shortened
/- _law_same(_law_found, _law_due_here): 0 _law_found 1 _law_due_here 2 _law_one 3 _law_other -/
noncomputable def B_law_same (f : MF) : Ss := (.cons (.sif (.isi (.var 1) ["tuple", "list"])
      (.cons (.sif (.or (.cmp .ne (.isi (.var 0) ["tuple"]) (.isi (.var 1) ["tuple"])) (.cmp .ne (.isi (.var 0) ["list"]) (.isi (.var 1) ["list"])))
      (.cons (.ret (.con (.bool false)))
    .nil)
      .nil)
    (.cons (.sif (.cmp .ne (.blt .len (.cons (.var 0) .nil)) (.blt .len (.cons (.var 1) .nil)))
      (.cons (.ret (.con (.bool false)))
    .nil)
      .nil)
    (.cons (.ret (.blt .all (.cons (.lc (.call f [false, false] (.cons (.var 2) (.cons (.var 3) .nil))) [2, 3] (.zp (.var 0) (.var 1)) (.con (.bool true)) [2, 3]) .nil)))
    .nil)))
      .nil)
    (.cons (.ret (.and (.cmp .eq (.var 0) (.var 1)) (.cmp .eq (.isi (.var 0) ["bool"]) (.isi (.var 1) ["bool"]))))
    .nil))
noncomputable def M_law_same : Nat → MF
  | 0 => noM
  | n + 1 => mkM [false, false] 4 (B_law_same (M_law_same n))
/- _law_low(_law_top, _law_bottom): 0 _law_top 1 _law_bottom 2 _law_by -/
noncomputable def B_law_low : Ss := (.cons (.asg 2 (.call M_law_divisor [false, false] (.cons (.var 0) (.cons (.var 1) .nil))))
    (.cons (.sif (.cmp .lt (.var 1) (.con (.int 0)))
      (.cons (.asg 2 (.bin .sub (.con (.int 0)) (.var 2)))
    .nil)
      .nil)
    (.cons (.ret (.tup (.cons (.bin .fdiv (.var 0) (.var 2)) (.cons (.bin .fdiv (.var 1) (.var 2)) .nil))))
    .nil)))
noncomputable def M_law_low : MF := mkM [false, false] 3 B_law_low
/- _law_value(_law_row, _law_place): 0 _law_row 1 _law_place 2 _law_x 3 _law_y -/
noncomputable def B_law_value : Ss := (.cons (.unp [2, 3] (.var 1))
    (.cons (.ret (.call M_law_low [false, false] (.cons (.bin .add (.bin .mul (.bin .mul (.idx (.var 0) (.con (.int 0))) (.idx (.var 2) (.con (.int 0)))) (.idx (.var 3) (.con (.int 1)))) (.bin .mul (.bin .mul (.idx (.var 0) (.con (.int 1))) (.idx (.var 3) (.con (.int 0)))) (.idx (.var 2) (.con (.int 1))))) (.cons (.bin .mul (.idx (.var 2) (.con (.int 1))) (.idx (.var 3) (.con (.int 1)))) .nil))))
    .nil))
noncomputable def M_law_value : MF := mkM [false, false] 4 B_law_value
/- is_less(one, other): 0 one 1 other -/
noncomputable def B_is_less : Ss := (.cons (.ret (.cmp .lt (.bin .mul (.idx (.var 0) (.con (.int 0))) (.idx (.var 1) (.con (.int 1)))) (.bin .mul (.idx (.var 1) (.con (.int 0))) (.idx (.var 0) (.con (.int 1))))))
    .nil)
noncomputable def M_is_less : MF := mkM [false, false] 2 B_is_less
/- ratio(top, bottom): 0 top 1 bottom 2 share -/
noncomputable def B_ratio : Ss := (.cons (.asg 2 (.call M_divisor [false, false] (.cons (.var 0) (.cons (.var 1) .nil))))
    (.cons (.sif (.cmp .lt (.var 1) (.con (.int 0)))
      (.cons (.asg 2 (.bin .sub (.con (.int 0)) (.var 2)))
    .nil)
      .nil)
    (.cons (.ret (.tup (.cons (.bin .fdiv (.var 0) (.var 2)) (.cons (.bin .fdiv (.var 1) (.var 2)) .nil))))
    .nil)))
noncomputable def M_ratio : MF := mkM [false, false] 3 B_ratio
/- plus(one, other): 0 one 1 other -/
noncomputable def B_plus : Ss := (.cons (.ret (.call M_ratio [false, false] (.cons (.bin .add (.bin .mul (.idx (.var 0) (.con (.int 0))) (.idx (.var 1) (.con (.int 1)))) (.bin .mul (.idx (.var 1) (.con (.int 0))) (.idx (.var 0) (.con (.int 1))))) (.cons (.bin .mul (.idx (.var 0) (.con (.int 1))) (.idx (.var 1) (.con (.int 1)))) .nil))))
    .nil)
noncomputable def M_plus : MF := mkM [false, false] 2 B_plus
/- times(one, number): 0 one 1 number -/
noncomputable def B_times : Ss := (.cons (.ret (.call M_ratio [false, false] (.cons (.bin .mul (.idx (.var 0) (.con (.int 0))) (.var 1)) (.cons (.idx (.var 0) (.con (.int 1))) .nil))))
    .nil)
noncomputable def M_times : MF := mkM [false, false] 2 B_times
/- value(row, place): 0 row 1 place -/
noncomputable def B_value : Ss := (.cons (.ret (.call M_plus [false, false] (.cons (.call M_times [false, false] (.cons (.idx (.var 1) (.con (.int 0))) (.cons (.idx (.var 0) (.con (.int 0))) .nil))) (.cons (.call M_times [false, false] (.cons (.idx (.var 1) (.con (.int 1))) (.cons (.idx (.var 0) (.con (.int 1))) .nil))) .nil))))
    .nil)
noncomputable def M_value : MF := mkM [false, false] 2 B_value
/- keeps(row, place): 0 row 1 place -/
noncomputable def B_keeps : Ss := (.cons (.ret (.nt (.call M_is_less [false, false] (.cons (.tup (.cons (.idx (.var 0) (.con (.int 2))) (.cons (.con (.int 1)) .nil))) (.cons (.call M_value [false, false] (.cons (.var 0) (.cons (.var 1) .nil))) .nil)))))
    .nil)
noncomputable def M_keeps : MF := mkM [false, false] 2 B_keeps
/- is_whole(thing): 0 thing -/
noncomputable def B_is_whole : Ss := (.cons (.ret (.and (.isi (.var 0) ["int"]) (.nt (.isi (.var 0) ["bool"]))))
    .nil)
noncomputable def M_is_whole : MF := mkM [false] 1 B_is_whole
/- is_row(thing): 0 thing 1 one -/
noncomputable def V1_is_row : E := (.call M_is_whole [false] (.cons (.var 1) .nil))
noncomputable def B_is_row : Ss := (.cons (.sif (.or (.nt (.isi (.var 0) ["tuple"])) (.or (.cmp .ne (.blt .len (.cons (.var 0) .nil)) (.con (.int 3))) (.nt (.blt .all (.cons (.lc V1_is_row [1] (.sq (.var 0)) (.con (.bool true)) [1]) .nil)))))
      (.cons (.ret (.con (.bool false)))
    .nil)
      .nil)
    (.cons (.ret (.or (.cmp .ne (.idx (.var 0) (.con (.int 0))) (.con (.int 0))) (.cmp .ne (.idx (.var 0) (.con (.int 1))) (.con (.int 0)))))
    .nil))
noncomputable def M_is_row : MF := mkM [false] 2 B_is_row
/- _law_place(_law_state_here): 0 _law_state_here 1 _law_x -/
noncomputable def B_law_place : Ss := (.cons (.asg 1 (.call M_law_low [false, false] (.cons (.bin .sub (.call M_law_take [true, false] (.cons (.var 0) (.cons (.con (.int 25)) .nil))) (.con (.int 12))) (.cons (.bin .add (.con (.int 1)) (.call M_law_take [true, false] (.cons (.var 0) (.cons (.con (.int 4)) .nil)))) .nil))))
    (.cons (.ret (.tup (.cons (.var 1) (.cons (.call M_law_low [false, false] (.cons (.bin .sub (.call M_law_take [true, false] (.cons (.var 0) (.cons (.con (.int 25)) .nil))) (.con (.int 12))) (.cons (.bin .add (.con (.int 1)) (.call M_law_take [true, false] (.cons (.var 0) (.cons (.con (.int 4)) .nil)))) .nil))) .nil))))
    .nil))
noncomputable def M_law_place : MF := mkM [true] 2 B_law_place
/- is_tight(row, place): 0 row 1 place -/
noncomputable def B_is_tight : Ss := (.cons (.ret (.cmp .eq (.call M_value [false, false] (.cons (.var 0) (.cons (.var 1) .nil))) (.tup (.cons (.idx (.var 0) (.con (.int 2))) (.cons (.con (.int 1)) .nil)))))
    .nil)
noncomputable def M_is_tight : MF := mkM [false, false] 2 B_is_tight
/- _law_field(_law_state_here): 0 _law_state_here 1 _law_way 2 _law_rows 3 _law_a 4 _law_b 5 _law_by 6 _law_turn 7 _law_near 8 _law_k 9 _law_some 10 _law_u 11 _law_v 12 _law_c -/
noncomputable def V1_law_field : E := (.tup (.cons (.var 3) (.cons (.var 4) (.cons (.bin .add (.bin .add (.var 12) (.bin .mul (.var 3) (.var 10))) (.bin .mul (.var 4) (.var 11))) .nil))))
noncomputable def V2_law_field : E := (.tup (.cons (.var 3) (.cons (.var 4) (.cons (.call M_law_take [true, false] (.cons (.var 0) (.cons (.con (.int 8)) .nil))) .nil))))
noncomputable def L1_law_field : Ss := (.cons (.blk [] (.cons (.par [3, 4] (.cons (.bin .sub (.call M_law_take [true, false] (.cons (.var 0) (.cons (.con (.int 13)) .nil))) (.con (.int 6))) (.cons (.bin .sub (.call M_law_take [true, false] (.cons (.var 0) (.cons (.con (.int 13)) .nil))) (.con (.int 6))) .nil)))
    (.cons (.sif (.and (.cmp .eq (.var 3) (.con (.int 0))) (.cmp .eq (.var 4) (.con (.int 0))))
      (.cons (.asg 3 (.con (.int 2)))
    .nil)
      .nil)
    (.cons (.asg 7 (.bin .add (.bin .mul (.var 3) (.bin .sub (.call M_law_take [true, false] (.cons (.var 0) (.cons (.con (.int 5)) .nil))) (.con (.int 2)))) (.bin .mul (.var 4) (.bin .sub (.call M_law_take [true, false] (.cons (.var 0) (.cons (.con (.int 5)) .nil))) (.con (.int 2))))))
    (.cons (.mth 2 .append (.cons (.tup (.cons (.var 3) (.cons (.var 4) (.cons (.bin .sub (.bin .add (.var 7) (.call M_law_take [true, false] (.cons (.var 0) (.cons (.con (.int 9)) .nil)))) (.con (.int 1))) .nil)))) .nil))
    .nil)))) [3, 4, 5, 6, 7, 8, 9, 10, 11, 12]) .nil)
noncomputable def L2_law_field : Ss := (.cons (.blk [] (.cons (.asg 5 (.bin .add (.con (.int 1)) (.call M_law_take [true, false] (.cons (.var 0) (.cons (.con (.int 3)) .nil)))))
    (.cons (.mth 2 .append (.cons (.tup (.cons (.bin .mul (.var 3) (.var 5)) (.cons (.bin .mul (.var 4) (.var 5)) (.cons (.bin .add (.bin .mul (.var 5) (.call M_law_take [true, false] (.cons (.var 0) (.cons (.con (.int 5)) .nil)))) (.call M_law_take [true, false] (.cons (.var 0) (.cons (.var 5) .nil)))) .nil)))) .nil))
    .nil)) [3, 4, 5, 6, 7, 8, 9, 10, 11, 12]) .nil)
noncomputable def B_law_field : Ss := (.cons (.asg 1 (.call M_law_take [true, false] (.cons (.var 0) (.cons (.con (.int 6)) .nil))))
    (.cons (.asg 2 (.lst .nil))
    (.cons (.blk [] (.cons (.sif (.cmp .lt (.var 1) (.con (.int 4)))
      (.cons (.blk [3, 4, 5, 6, 7, 8, 9, 10, 11, 12] (.cons (.sfor [3, 4] (.sq (.lst (.cons (.tup (.cons (.neg (.con (.int 1))) (.cons (.con (.int 0)) .nil))) (.cons (.tup (.cons (.con (.int 1)) (.cons (.con (.int 0)) .nil))) (.cons (.tup (.cons (.con (.int 0)) (.cons (.neg (.con (.int 1))) .nil))) (.cons (.tup (.cons (.con (.int 0)) (.cons (.con (.int 1)) .nil))) .nil))))))
      L2_law_field) .nil) [])
    (.cons (.blk [3, 4, 5, 6, 7, 8, 9, 10, 11, 12] (.cons (.sfor [6] (.rg (.call M_law_take [true, false] (.cons (.var 0) (.cons (.con (.int 4)) .nil))))
      L1_law_field) .nil) [])
    (.cons (.sif (.cmp .eq (.call M_law_take [true, false] (.cons (.var 0) (.cons (.con (.int 8)) .nil))) (.con (.int 0)))
      (.cons (.mth 2 .append (.cons (.tup (.cons (.bin .sub (.con (.int 0)) (.idx (.idx (.var 2) (.neg (.con (.int 1)))) (.con (.int 0)))) (.cons (.bin .sub (.con (.int 0)) (.idx (.idx (.var 2) (.neg (.con (.int 1)))) (.con (.int 1)))) (.cons (.bin .sub (.con (.int 0)) (.idx (.idx (.var 2) (.neg (.con (.int 1)))) (.con (.int 2)))) .nil)))) .nil))
    .nil)
      .nil)
    .nil)))
      .nil) .nil) [3, 4, 5, 6, 7])
    (.cons (.blk [] (.cons (.sif (.cmp .eq (.var 1) (.con (.int 4)))
      (.cons (.asg 8 (.bin .add (.con (.int 1)) (.call M_law_take [true, false] (.cons (.var 0) (.cons (.con (.int 7)) .nil)))))
    (.cons (.asg 2 (.lst (.cons (.tup (.cons (.neg (.con (.int 1))) (.cons (.con (.int 0)) (.cons (.con (.int 0)) .nil)))) (.cons (.tup (.cons (.con (.int 1)) (.cons (.bin .mul (.neg (.con (.int 2))) (.var 8)) (.cons (.con (.int 0)) .nil)))) (.cons (.tup (.cons (.con (.int 1)) (.cons (.bin .mul (.con (.int 2)) (.var 8)) (.cons (.bin .mul (.con (.int 2)) (.var 8)) .nil)))) .nil)))))
    .nil))
      .nil) .nil) [8])
    (.cons (.blk [] (.cons (.sif (.cmp .eq (.var 1) (.con (.int 5)))
      (.cons (.asg 9 (.idx (.lst (.cons (.lst (.cons (.tup (.cons (.neg (.con (.int 2))) (.cons (.con (.int 1)) .nil))) (.cons (.tup (.cons (.con (.int 1)) (.cons (.neg (.con (.int 3))) .nil))) (.cons (.tup (.cons (.con (.int 2)) (.cons (.con (.int 3)) .nil))) .nil)))) (.cons (.lst (.cons (.tup (.cons (.neg (.con (.int 3))) (.cons (.neg (.con (.int 2))) .nil))) (.cons (.tup (.cons (.con (.int 3)) (.cons (.neg (.con (.int 1))) .nil))) (.cons (.tup (.cons (.con (.int 1)) (.cons (.con (.int 4)) .nil))) .nil)))) .nil))) (.call M_law_take [true, false] (.cons (.var 0) (.cons (.con (.int 2)) .nil)))))
    (.cons (.asg 2 (.lc V2_law_field [3, 4] (.sq (.var 9)) (.con (.bool true)) [3, 4]))
    .nil))
      .nil) .nil) [9])
    (.cons (.par [10, 11] (.cons (.bin .sub (.call M_law_take [true, false] (.cons (.var 0) (.cons (.con (.int 7)) .nil))) (.con (.int 3))) (.cons (.bin .sub (.call M_law_take [true, false] (.cons (.var 0) (.cons (.con (.int 7)) .nil))) (.con (.int 3))) .nil)))
    (.cons (.asg 2 (.lc V1_law_field [3, 4, 12] (.sq (.var 2)) (.con (.bool true)) [3, 4, 12]))
    (.cons (.asg 6 (.call M_law_take [true, false] (.cons (.var 0) (.cons (.blt .len (.cons (.var 2) .nil)) .nil))))
    (.cons (.ret (.blt .tuple (.cons (.bin .add (.slc (.var 2) (.var 6) (.con .none)) (.slc (.var 2) (.con .none) (.var 6))) .nil)))
    .nil)))))))))
noncomputable def M_law_field : MF := mkM [true] 13 B_law_field
/- go_round(rows): 0 rows 1 a 2 b 3 c 4 u 5 v 6 row -/
noncomputable def V1_go_round : E := (.cmp .gt (.bin .add (.bin .mul (.idx (.var 6) (.con (.int 0))) (.var 4)) (.bin .mul (.idx (.var 6) (.con (.int 1))) (.var 5))) (.con (.int 0)))
noncomputable def L1_go_round : Ss := (.cons (.blk [] (.cons (.sif (.nt (.blt .any (.cons (.lc V1_go_round [6] (.sq (.var 0)) (.con (.bool true)) [6]) .nil)))
      (.cons (.blk [] (.cons (.ret (.con (.bool false))) .nil) [0, 1, 2, 3, 4, 5, 6])
    .nil)
      .nil)
    .nil) [3, 4, 5, 6]) .nil)
noncomputable def L2_go_round : Ss := (.cons (.blk [] (.cons (.blk [3, 4, 5, 6] (.cons (.sfor [4, 5] (.sq (.tup (.cons (.tup (.cons (.var 2) (.cons (.bin .sub (.con (.int 0)) (.var 1)) .nil))) (.cons (.tup (.cons (.bin .sub (.con (.int 0)) (.var 2)) (.cons (.var 1) .nil))) .nil))))
      L1_go_round) .nil) [1, 2])
    .nil) [1, 2, 3, 4, 5, 6]) .nil)
noncomputable def B_go_round : Ss := (.cons (.blk [1, 2, 3, 4, 5, 6] (.cons (.sfor [1, 2, 3] (.sq (.var 0))
      L2_go_round) .nil) [])
    (.cons (.ret (.cmp .ne (.var 0) (.tup .nil)))
    .nil))
noncomputable def M_go_round : MF := mkM [false] 7 B_go_round
/- is_near(place): 0 place 1 one -/
noncomputable def V1_is_near : E := (.call M_is_less [false, false] (.cons (.tup (.cons (.con (.int 12)) (.cons (.con (.int 1)) .nil))) (.cons (.tup (.cons (.blt .abs (.cons (.idx (.var 1) (.con (.int 0))) .nil)) (.cons (.idx (.var 1) (.con (.int 1))) .nil))) .nil)))
noncomputable def B_is_near : Ss := (.cons (.ret (.nt (.blt .any (.cons (.lc V1_is_near [1] (.sq (.var 0)) (.con (.bool true)) [1]) .nil))))
    .nil)
noncomputable def M_is_near : MF := mkM [false] 2 B_is_near
/- twist(one, other): 0 one 1 other -/
noncomputable def B_twist : Ss := (.cons (.ret (.bin .sub (.bin .mul (.idx (.var 0) (.con (.int 0))) (.idx (.var 1) (.con (.int 1)))) (.bin .mul (.idx (.var 0) (.con (.int 1))) (.idx (.var 1) (.con (.int 0))))))
    .nil)
noncomputable def M_twist : MF := mkM [false, false] 2 B_twist
/- crossing(one, other): 0 one 1 other 2 by 3 x -/
noncomputable def B_crossing : Ss := (.cons (.asg 2 (.call M_twist [false, false] (.cons (.var 0) (.cons (.var 1) .nil))))
    (.cons (.asg 3 (.call M_ratio [false, false] (.cons (.bin .sub (.bin .mul (.idx (.var 0) (.con (.int 2))) (.idx (.var 1) (.con (.int 1)))) (.bin .mul (.idx (.var 0) (.con (.int 1))) (.idx (.var 1) (.con (.int 2))))) (.cons (.var 2) .nil))))
    (.cons (.ret (.tup (.cons (.var 3) (.cons (.call M_ratio [false, false] (.cons (.bin .sub (.bin .mul (.idx (.var 0) (.con (.int 0))) (.idx (.var 1) (.con (.int 2)))) (.bin .mul (.idx (.var 0) (.con (.int 2))) (.idx (.var 1) (.con (.int 0))))) (.cons (.var 2) .nil))) .nil))))
    .nil)))
noncomputable def M_crossing : MF := mkM [false, false] 4 B_crossing
/- found_corners(rows): 0 rows 1 found 2 at 3 one 4 other 5 place 6 row -/
noncomputable def V1_found_corners : E := (.call M_keeps [false, false] (.cons (.var 6) (.cons (.var 5) .nil)))
noncomputable def L1_found_corners : Ss := (.cons (.blk [] (.cons (.blk [] (.cons (.sif (.cmp .ne (.call M_twist [false, false] (.cons (.var 3) (.cons (.var 4) .nil))) (.con (.int 0)))
      (.cons (.asg 5 (.call M_crossing [false, false] (.cons (.var 3) (.cons (.var 4) .nil))))
    (.cons (.sif (.and (.cmp .notin (.var 5) (.var 1)) (.blt .all (.cons (.lc V1_found_corners [6] (.sq (.var 0)) (.con (.bool true)) [6]) .nil)))
      (.cons (.mth 1 .append (.cons (.var 5) .nil))
    .nil)
      .nil)
    .nil))
      .nil) .nil) [5])
    .nil) [4, 5, 6]) .nil)
noncomputable def L2_found_corners : Ss := (.cons (.blk [] (.cons (.blk [4, 5, 6] (.cons (.sfor [4] (.sq (.slc (.var 0) (.bin .add (.var 2) (.con (.int 1))) (.con .none)))
      L1_found_corners) .nil) [2, 3])
    .nil) [2, 3, 4, 5, 6]) .nil)
noncomputable def B_found_corners : Ss := (.cons (.asg 1 (.lst .nil))
    (.cons (.blk [2, 3, 4, 5, 6] (.cons (.sfor [2, 3] (.en (.var 0))
      L2_found_corners) .nil) [0])
    (.cons (.retv 1)
    .nil)))
noncomputable def M_found_corners : MF := mkM [false] 7 B_found_corners
/- is_field(thing): 0 thing 1 row 2 a 3 b 4 c 5 place -/
noncomputable def V1_is_field : E := (.call M_is_near [false] (.cons (.var 5) .nil))
noncomputable def L1_is_field : Ss := (.cons (.blk [] (.cons (.sif (.or (.cmp .gt (.blt .max2 (.cons (.blt .abs (.cons (.var 2) .nil)) (.cons (.blt .abs (.cons (.var 3) .nil)) .nil))) (.con (.int 30))) (.cmp .gt (.blt .abs (.cons (.var 4) .nil)) (.con (.int 1000))))
      (.cons (.blk [] (.cons (.ret (.con (.bool false))) .nil) [0, 1, 2, 3, 4, 5])
    .nil)
      .nil)
    .nil) [1, 2, 3, 4, 5]) .nil)
noncomputable def V2_is_field : E := (.call M_is_row [false] (.cons (.var 1) .nil))
noncomputable def B_is_field : Ss := (.cons (.sif (.or (.nt (.isi (.var 0) ["tuple"])) (.nt (.chn .le .le (.con (.int 3)) (.blt .len (.cons (.var 0) .nil)) (.con (.int 8)))))
      (.cons (.ret (.con (.bool false)))
    .nil)
      .nil)
    (.cons (.sif (.nt (.blt .all (.cons (.lc V2_is_field [1] (.sq (.var 0)) (.con (.bool true)) [1]) .nil)))
      (.cons (.ret (.con (.bool false)))
    .nil)
      .nil)
    (.cons (.blk [1, 2, 3, 4, 5] (.cons (.sfor [2, 3, 4] (.sq (.var 0))
      L1_is_field) .nil) [])
    (.cons (.ret (.and (.call M_go_round [false] (.cons (.var 0) .nil)) (.blt .all (.cons (.lc V1_is_field [5] (.sq (.call M_found_corners [false] (.cons (.var 0) .nil))) (.con (.bool true)) [5]) .nil))))
    .nil))))
noncomputable def M_is_field : MF := mkM [false] 6 B_is_field
/- _law_less(_law_one, _law_other): 0 _law_one 1 _law_other -/
noncomputable def B_law_less : Ss := (.cons (.ret (.cmp .lt (.bin .mul (.idx (.var 0) (.con (.int 0))) (.idx (.var 1) (.con (.int 1)))) (.bin .mul (.idx (.var 1) (.con (.int 0))) (.idx (.var 0) (.con (.int 1))))))
    .nil)
noncomputable def M_law_less : MF := mkM [false, false] 2 B_law_less
/- _law_times(_law_one, _law_other): 0 _law_one 1 _law_other -/
noncomputable def B_law_times : Ss := (.cons (.ret (.call M_law_low [false, false] (.cons (.bin .mul (.idx (.var 0) (.con (.int 0))) (.idx (.var 1) (.con (.int 0)))) (.cons (.bin .mul (.idx (.var 0) (.con (.int 1))) (.idx (.var 1) (.con (.int 1)))) .nil))))
    .nil)
noncomputable def M_law_times : MF := mkM [false, false] 2 B_law_times
/- _law_minus(_law_one, _law_other): 0 _law_one 1 _law_other -/
noncomputable def B_law_minus : Ss := (.cons (.ret (.call M_law_low [false, false] (.cons (.bin .sub (.bin .mul (.idx (.var 0) (.con (.int 0))) (.idx (.var 1) (.con (.int 1)))) (.bin .mul (.idx (.var 1) (.con (.int 0))) (.idx (.var 0) (.con (.int 1))))) (.cons (.bin .mul (.idx (.var 0) (.con (.int 1))) (.idx (.var 1) (.con (.int 1)))) .nil))))
    .nil)
noncomputable def M_law_minus : MF := mkM [false, false] 2 B_law_minus
/- _law_cross(_law_one, _law_other, _law_third): 0 _law_one 1 _law_other 2 _law_third 3 _law_first -/
noncomputable def B_law_cross : Ss := (.cons (.asg 3 (.call M_law_times [false, false] (.cons (.call M_law_minus [false, false] (.cons (.idx (.var 1) (.con (.int 0))) (.cons (.idx (.var 0) (.con (.int 0))) .nil))) (.cons (.call M_law_minus [false, false] (.cons (.idx (.var 2) (.con (.int 1))) (.cons (.idx (.var 0) (.con (.int 1))) .nil))) .nil))))
    (.cons (.ret (.idx (.call M_law_minus [false, false] (.cons (.var 3) (.cons (.call M_law_times [false, false] (.cons (.call M_law_minus [false, false] (.cons (.idx (.var 1) (.con (.int 1))) (.cons (.idx (.var 0) (.con (.int 1))) .nil))) (.cons (.call M_law_minus [false, false] (.cons (.idx (.var 2) (.con (.int 0))) (.cons (.idx (.var 0) (.con (.int 0))) .nil))) .nil))) .nil))) (.con (.int 0))))
    .nil))
noncomputable def M_law_cross : MF := mkM [false, false, false] 4 B_law_cross
/- _law_all_left(_law_here, _law_place, _law_some): 0 _law_here 1 _law_place 2 _law_some 3 _law_one -/
noncomputable def C1_law_all_left : E := (.cmp .lt (.call M_law_cross [false, false, false] (.cons (.var 0) (.cons (.var 1) (.cons (.var 3) .nil)))) (.con (.int 0)))
noncomputable def B_law_all_left : Ss := (.cons (.ret (.cmp .eq (.lc (.var 3) [3] (.sq (.var 2)) C1_law_all_left [3]) (.lst .nil)))
    .nil)
noncomputable def M_law_all_left : MF := mkM [false, false, false] 4 B_law_all_left
/- _law_bend(_law_one, _law_other, _law_third): 0 _law_one 1 _law_other 2 _law_third 3 _law_ahead_here -/
noncomputable def B_law_bend : Ss := (.cons (.asg 3 (.call M_law_times [false, false] (.cons (.call M_law_minus [false, false] (.cons (.idx (.var 1) (.con (.int 0))) (.cons (.idx (.var 0) (.con (.int 0))) .nil))) (.cons (.call M_law_minus [false, false] (.cons (.idx (.var 2) (.con (.int 1))) (.cons (.idx (.var 0) (.con (.int 1))) .nil))) .nil))))
    (.cons (.ret (.idx (.call M_law_minus [false, false] (.cons (.var 3) (.cons (.call M_law_times [false, false] (.cons (.call M_law_minus [false, false] (.cons (.idx (.var 1) (.con (.int 1))) (.cons (.idx (.var 0) (.con (.int 1))) .nil))) (.cons (.call M_law_minus [false, false] (.cons (.idx (.var 2) (.con (.int 0))) (.cons (.idx (.var 0) (.con (.int 0))) .nil))) .nil))) .nil))) (.con (.int 0))))
    .nil))
noncomputable def M_law_bend : MF := mkM [false, false, false] 4 B_law_bend
/- _law_chain(_law_places): 0 _law_places 1 _law_found 2 _law_place -/
noncomputable def L1_law_chain : Ss := (.cons (.blk [] (.cons (.whl (.and (.cmp .gt (.blt .len (.cons (.var 1) .nil)) (.con (.int 1))) (.cmp .le (.call M_law_bend [false, false, false] (.cons (.idx (.var 1) (.neg (.con (.int 2)))) (.cons (.idx (.var 1) (.neg (.con (.int 1)))) (.cons (.var 2) .nil)))) (.con (.int 0))))
      (.cons (.mth 1 .pop .nil)
    .nil))
    (.cons (.mth 1 .append (.cons (.var 2) .nil))
    .nil)) [2]) .nil)
noncomputable def B_law_chain : Ss := (.cons (.asg 1 (.lst .nil))
    (.cons (.blk [2] (.cons (.sfor [2] (.sq (.var 0))
      L1_law_chain) .nil) [0])
    (.cons (.retv 1)
    .nil)))
noncomputable def M_law_chain : MF := mkM [false] 3 B_law_chain
/- _law_ahead(_law_one, _law_other): 0 _law_one 1 _law_other -/
noncomputable def B_law_ahead : Ss := (.cons (.sif (.cmp .ne (.idx (.var 0) (.con (.int 0))) (.idx (.var 1) (.con (.int 0))))
      (.cons (.ret (.call M_law_less [false, false] (.cons (.idx (.var 0) (.con (.int 0))) (.cons (.idx (.var 1) (.con (.int 0))) .nil))))
    .nil)
      .nil)
    (.cons (.ret (.call M_law_less [false, false] (.cons (.idx (.var 0) (.con (.int 1))) (.cons (.idx (.var 1) (.con (.int 1))) .nil))))
    .nil))
noncomputable def M_law_ahead : MF := mkM [false, false] 2 B_law_ahead
/- _law_ring(_law_places): 0 _law_places 1 _law_some 2 _law_place 3 _law_other -/
noncomputable def C1_law_ring : E := (.call M_law_ahead [false, false] (.cons (.var 3) (.cons (.var 2) .nil)))
noncomputable def L1_law_ring : Ss := (.cons (.blk [] (.cons (.sif (.cmp .notin (.var 2) (.var 1))
      (.cons (.mth 1 .insert (.cons (.blt .len (.cons (.lc (.var 3) [3] (.sq (.var 1)) C1_law_ring [3]) .nil)) (.cons (.var 2) .nil)))
    .nil)
      .nil)
    .nil) [2, 3]) .nil)
noncomputable def B_law_ring : Ss := (.cons (.asg 1 (.lst .nil))
    (.cons (.blk [2, 3] (.cons (.sfor [2] (.sq (.var 0))
      L1_law_ring) .nil) [0])
    (.cons (.sif (.cmp .lt (.blt .len (.cons (.var 1) .nil)) (.con (.int 3)))
      (.cons (.retv 1)
    .nil)
      .nil)
    (.cons (.ret (.bin .add (.slc (.call M_law_chain [false] (.cons (.var 1) .nil)) (.con .none) (.neg (.con (.int 1)))) (.slc (.call M_law_chain [false] (.cons (.rvs (.var 1)) .nil)) (.con .none) (.neg (.con (.int 1))))))
    .nil))))
noncomputable def M_law_ring : MF := mkM [false] 4 B_law_ring
/- _law_crossing(_law_one, _law_other): 0 _law_one 1 _law_other 2 _law_by 3 _law_x -/
noncomputable def B_law_crossing : Ss := (.cons (.asg 2 (.bin .sub (.bin .mul (.idx (.var 0) (.con (.int 0))) (.idx (.var 1) (.con (.int 1)))) (.bin .mul (.idx (.var 0) (.con (.int 1))) (.idx (.var 1) (.con (.int 0))))))
    (.cons (.sif (.cmp .eq (.var 2) (.con (.int 0)))
      (.cons (.ret (.con .none))
    .nil)
      .nil)
    (.cons (.asg 3 (.call M_law_low [false, false] (.cons (.bin .sub (.bin .mul (.idx (.var 0) (.con (.int 2))) (.idx (.var 1) (.con (.int 1)))) (.bin .mul (.idx (.var 0) (.con (.int 1))) (.idx (.var 1) (.con (.int 2))))) (.cons (.var 2) .nil))))
    (.cons (.ret (.tup (.cons (.var 3) (.cons (.call M_law_low [false, false] (.cons (.bin .sub (.bin .mul (.idx (.var 0) (.con (.int 0))) (.idx (.var 1) (.con (.int 2)))) (.bin .mul (.idx (.var 0) (.con (.int 2))) (.idx (.var 1) (.con (.int 0))))) (.cons (.var 2) .nil))) .nil))))
    .nil))))
noncomputable def M_law_crossing : MF := mkM [false, false] 4 B_law_crossing
/- _law_keeps(_law_row, _law_place): 0 _law_row 1 _law_place 2 _law_here -/
noncomputable def B_law_keeps : Ss := (.cons (.asg 2 (.call M_law_value [false, false] (.cons (.var 0) (.cons (.var 1) .nil))))
    (.cons (.ret (.cmp .le (.idx (.var 2) (.con (.int 0))) (.bin .mul (.idx (.var 0) (.con (.int 2))) (.idx (.var 2) (.con (.int 1))))))
    .nil))
noncomputable def M_law_keeps : MF := mkM [false, false] 3 B_law_keeps
/- _law_corners(_law_rows): 0 _law_rows 1 _law_found 2 _law_at 3 _law_other 4 _law_place 5 _law_row -/
noncomputable def C1_law_corners : E := (.nt (.call M_law_keeps [false, false] (.cons (.var 5) (.cons (.var 4) .nil))))
noncomputable def L1_law_corners : Ss := (.cons (.blk [] (.cons (.asg 4 (.call M_law_crossing [false, false] (.cons (.idx (.var 0) (.var 2)) (.cons (.var 3) .nil))))
    (.cons (.sif (.and (.cmp .isnot (.var 4) (.con .none)) (.cmp .eq (.lc (.var 5) [5] (.sq (.var 0)) C1_law_corners [5]) (.lst .nil)))
      (.cons (.mth 1 .append (.cons (.var 4) .nil))
    .nil)
      .nil)
    .nil)) [3, 4, 5]) .nil)
noncomputable def L2_law_corners : Ss := (.cons (.blk [] (.cons (.blk [3, 4, 5] (.cons (.sfor [3] (.sq (.slc (.var 0) (.bin .add (.var 2) (.con (.int 1))) (.con .none)))
      L1_law_corners) .nil) [2])
    .nil) [2, 3, 4, 5]) .nil)
noncomputable def B_law_corners : Ss := (.cons (.asg 1 (.lst .nil))
    (.cons (.blk [2, 3, 4, 5] (.cons (.sfor [2] (.rg (.blt .len (.cons (.var 0) .nil)))
      L2_law_corners) .nil) [0])
    (.cons (.ret (.call M_law_ring [false] (.cons (.var 1) .nil)))
    .nil)))
noncomputable def M_law_corners : MF := mkM [false] 6 B_law_corners
/- _law_whole(_law_thing): 0 _law_thing -/
noncomputable def B_law_whole : Ss := (.cons (.ret (.and (.isi (.var 0) ["int"]) (.nt (.isi (.var 0) ["bool"]))))
    .nil)
noncomputable def M_law_whole : MF := mkM [false] 1 B_law_whole
/- need_field(field): 0 field -/
noncomputable def B_need_field : Ss := (.cons (.sif (.nt (.call M_is_field [false] (.cons (.var 0) .nil)))
      (.cons (.rais (Str.ofString "NoField"))
    .nil)
      .nil)
    .nil)
noncomputable def M_need_field : MF := mkM [false] 1 B_need_field
/- less_place(one, other): 0 one 1 other -/
noncomputable def B_less_place : Ss := (.cons (.sif (.cmp .ne (.idx (.var 0) (.con (.int 0))) (.idx (.var 1) (.con (.int 0))))
      (.cons (.ret (.call M_is_less [false, false] (.cons (.idx (.var 0) (.con (.int 0))) (.cons (.idx (.var 1) (.con (.int 0))) .nil))))
    .nil)
      .nil)
    (.cons (.ret (.call M_is_less [false, false] (.cons (.idx (.var 0) (.con (.int 1))) (.cons (.idx (.var 1) (.con (.int 1))) .nil))))
    .nil))
noncomputable def M_less_place : MF := mkM [false, false] 2 B_less_place
/- in_order(places): 0 places 1 found 2 place 3 at 4 other -/
noncomputable def C1_in_order : E := (.call M_less_place [false, false] (.cons (.var 4) (.cons (.var 2) .nil)))
noncomputable def L1_in_order : Ss := (.cons (.blk [] (.cons (.asg 3 (.blt .len (.cons (.lc (.var 4) [4] (.sq (.var 1)) C1_in_order [4]) .nil)))
    (.cons (.mth 1 .insert (.cons (.var 3) (.cons (.var 2) .nil)))
    .nil)) [2, 3, 4]) .nil)
noncomputable def B_in_order : Ss := (.cons (.asg 1 (.lst .nil))
    (.cons (.blk [2, 3, 4] (.cons (.sfor [2] (.sq (.var 0))
      L1_in_order) .nil) [0])
    (.cons (.retv 1)
    .nil)))
noncomputable def M_in_order : MF := mkM [false] 5 B_in_order
/- product(one, other): 0 one 1 other -/
noncomputable def B_product : Ss := (.cons (.ret (.call M_ratio [false, false] (.cons (.bin .mul (.idx (.var 0) (.con (.int 0))) (.idx (.var 1) (.con (.int 0)))) (.cons (.bin .mul (.idx (.var 0) (.con (.int 1))) (.idx (.var 1) (.con (.int 1)))) .nil))))
    .nil)
noncomputable def M_product : MF := mkM [false, false] 2 B_product
/- minus(one, other): 0 one 1 other -/
noncomputable def B_minus : Ss := (.cons (.ret (.call M_ratio [false, false] (.cons (.bin .sub (.bin .mul (.idx (.var 0) (.con (.int 0))) (.idx (.var 1) (.con (.int 1)))) (.bin .mul (.idx (.var 1) (.con (.int 0))) (.idx (.var 0) (.con (.int 1))))) (.cons (.bin .mul (.idx (.var 0) (.con (.int 1))) (.idx (.var 1) (.con (.int 1)))) .nil))))
    .nil)
noncomputable def M_minus : MF := mkM [false, false] 2 B_minus
/- is_left(one, other, third): 0 one 1 other 2 third 3 ahead -/
noncomputable def B_is_left : Ss := (.cons (.asg 3 (.call M_product [false, false] (.cons (.call M_minus [false, false] (.cons (.idx (.var 1) (.con (.int 0))) (.cons (.idx (.var 0) (.con (.int 0))) .nil))) (.cons (.call M_minus [false, false] (.cons (.idx (.var 2) (.con (.int 1))) (.cons (.idx (.var 0) (.con (.int 1))) .nil))) .nil))))
    (.cons (.ret (.call M_is_less [false, false] (.cons (.call M_product [false, false] (.cons (.call M_minus [false, false] (.cons (.idx (.var 1) (.con (.int 1))) (.cons (.idx (.var 0) (.con (.int 1))) .nil))) (.cons (.call M_minus [false, false] (.cons (.idx (.var 2) (.con (.int 0))) (.cons (.idx (.var 0) (.con (.int 0))) .nil))) .nil))) (.cons (.var 3) .nil))))
    .nil))
noncomputable def M_is_left : MF := mkM [false, false, false] 4 B_is_left
/- ring(points): 0 points 1 some 2 low 3 place 4 high -/
noncomputable def C1_ring : E := (.call M_is_left [false, false, false] (.cons (.idx (.var 1) (.con (.int 0))) (.cons (.idx (.var 1) (.neg (.con (.int 1)))) (.cons (.var 3) .nil))))
noncomputable def C2_ring : E := (.call M_is_left [false, false, false] (.cons (.idx (.var 1) (.neg (.con (.int 1)))) (.cons (.idx (.var 1) (.con (.int 0))) (.cons (.var 3) .nil))))
noncomputable def B_ring : Ss := (.cons (.asg 1 (.call M_in_order [false] (.cons (.var 0) .nil)))
    (.cons (.sif (.cmp .lt (.blt .len (.cons (.var 1) .nil)) (.con (.int 3)))
      (.cons (.retv 1)
    .nil)
      .nil)
    (.cons (.asg 2 (.lc (.var 3) [3] (.sq (.slc (.var 1) (.con (.int 1)) (.neg (.con (.int 1))))) C2_ring [3]))
    (.cons (.asg 4 (.lc (.var 3) [3] (.sq (.slc (.var 1) (.con (.int 1)) (.neg (.con (.int 1))))) C1_ring [3]))
    (.cons (.ret (.bin .add (.bin .add (.bin .add (.lst (.cons (.idx (.var 1) (.con (.int 0))) .nil)) (.var 2)) (.lst (.cons (.idx (.var 1) (.neg (.con (.int 1)))) .nil))) (.rvs (.var 4))))
    .nil)))))
noncomputable def M_ring : MF := mkM [false] 5 B_ring
/- corners_of(rows): 0 rows -/
noncomputable def B_corners_of : Ss := (.cons (.ret (.call M_ring [false] (.cons (.call M_found_corners [false] (.cons (.var 0) .nil)) .nil)))
    .nil)
noncomputable def M_corners_of : MF := mkM [false] 1 B_corners_of
/- corners(field): 0 field -/
noncomputable def B_corners : Ss := (.cons (.exp (.call M_need_field [false] (.cons (.var 0) .nil)))
    (.cons (.ret (.call M_corners_of [false] (.cons (.var 0) .nil)))
    .nil))
noncomputable def M_corners : MF := mkM [false] 1 B_corners
/- is_whole_place(place): 0 place -/
noncomputable def B_is_whole_place : Ss := (.cons (.ret (.and (.cmp .eq (.idx (.idx (.var 0) (.con (.int 0))) (.con (.int 1))) (.con (.int 1))) (.cmp .eq (.idx (.idx (.var 0) (.con (.int 1))) (.con (.int 1))) (.con (.int 1)))))
    .nil)
noncomputable def M_is_whole_place : MF := mkM [false] 1 B_is_whole_place
/- broken(field): 0 field 1 place -/
noncomputable def C1_broken : E := (.nt (.call M_is_whole_place [false] (.cons (.var 1) .nil)))
noncomputable def B_broken : Ss := (.cons (.ret (.lc (.var 1) [1] (.sq (.call M_corners [false] (.cons (.var 0) .nil))) C1_broken [1]))
    .nil)
noncomputable def M_broken : MF := mkM [false] 2 B_broken
/- tight(field, place): 0 field 1 place 2 number 3 row -/
noncomputable def C1_tight : E := (.call M_is_tight [false, false] (.cons (.var 3) (.cons (.var 1) .nil)))
noncomputable def B_tight : Ss := (.cons (.exp (.call M_need_field [false] (.cons (.var 0) .nil)))
    (.cons (.ret (.blt .tuple (.cons (.lc (.var 2) [2, 3] (.en (.var 0)) C1_tight [2, 3]) .nil)))
    .nil))
noncomputable def M_tight : MF := mkM [false, false] 4 B_tight
/- _law_is_tight(_law_row, _law_place): 0 _law_row 1 _law_place -/
noncomputable def B_law_is_tight : Ss := (.cons (.ret (.cmp .eq (.call M_law_value [false, false] (.cons (.var 0) (.cons (.var 1) .nil))) (.tup (.cons (.idx (.var 0) (.con (.int 2))) (.cons (.con (.int 1)) .nil)))))
    .nil)
noncomputable def M_law_is_tight : MF := mkM [false, false] 2 B_law_is_tight
/- _law_greatest(_law_places, _law_a, _law_b): 0 _law_places 1 _law_a 2 _law_b 3 _law_most_here 4 _law_place 5 _law_here -/
noncomputable def L1_law_greatest : Ss := (.cons (.blk [] (.cons (.asg 5 (.call M_law_value [false, false] (.cons (.tup (.cons (.var 1) (.cons (.var 2) .nil))) (.cons (.var 4) .nil))))
    (.cons (.sif (.call M_law_less [false, false] (.cons (.var 3) (.cons (.var 5) .nil)))
      (.cons (.asg 3 (.var 5))
    .nil)
      .nil)
    .nil)) [4, 5]) .nil)
noncomputable def B_law_greatest : Ss := (.cons (.asg 3 (.call M_law_value [false, false] (.cons (.tup (.cons (.var 1) (.cons (.var 2) .nil))) (.cons (.idx (.var 0) (.con (.int 0))) .nil))))
    (.cons (.blk [4, 5] (.cons (.sfor [4] (.sq (.slc (.var 0) (.con (.int 1)) (.con .none)))
      L1_law_greatest) .nil) [0, 1, 2])
    (.cons (.retv 3)
    .nil)))
noncomputable def M_law_greatest : MF := mkM [false, false, false] 6 B_law_greatest
/- greatest_at(places, a, b): 0 places 1 a 2 b 3 best 4 place 5 here -/
noncomputable def L1_greatest_at : Ss := (.cons (.blk [] (.cons (.asg 5 (.call M_value [false, false] (.cons (.tup (.cons (.var 1) (.cons (.var 2) .nil))) (.cons (.var 4) .nil))))
    (.cons (.sif (.or (.cmp .is (.var 3) (.con .none)) (.call M_is_less [false, false] (.cons (.idx (.var 3) (.con (.int 0))) (.cons (.var 5) .nil))))
      (.cons (.asg 3 (.tup (.cons (.var 5) (.cons (.var 4) .nil))))
    .nil)
      .nil)
    .nil)) [4, 5]) .nil)
noncomputable def B_greatest_at : Ss := (.cons (.asg 3 (.con .none))
    (.cons (.blk [4, 5] (.cons (.sfor [4] (.sq (.var 0))
      L1_greatest_at) .nil) [0, 1, 2])
    (.cons (.retv 3)
    .nil)))
noncomputable def M_greatest_at : MF := mkM [false, false, false] 6 B_greatest_at
/- greatest(field, a, b): 0 field 1 a 2 b 3 some -/
noncomputable def B_greatest : Ss := (.cons (.asg 3 (.call M_corners [false] (.cons (.var 0) .nil)))
    (.cons (.sif (.cmp .eq (.var 3) (.lst .nil))
      (.cons (.ret (.con .none))
    .nil)
      .nil)
    (.cons (.ret (.idx (.call M_greatest_at [false, false, false] (.cons (.var 3) (.cons (.var 1) (.cons (.var 2) .nil)))) (.con (.int 0))))
    .nil)))
noncomputable def M_greatest : MF := mkM [false, false, false] 4 B_greatest
/- holds(field, row): 0 field 1 row 2 most -/
noncomputable def B_holds : Ss := (.cons (.exp (.call M_need_field [false] (.cons (.var 0) .nil)))
    (.cons (.asg 2 (.call M_greatest [false, false, false] (.cons (.var 0) (.cons (.idx (.var 1) (.con (.int 0))) (.cons (.idx (.var 1) (.con (.int 1))) .nil)))))
    (.cons (.ret (.or (.cmp .is (.var 2) (.con .none)) (.nt (.call M_is_less [false, false] (.cons (.tup (.cons (.idx (.var 1) (.con (.int 2))) (.cons (.con (.int 1)) .nil))) (.cons (.var 2) .nil))))))
    .nil)))
noncomputable def M_holds : MF := mkM [false, false] 3 B_holds
/- _law_plus(_law_one, _law_other): 0 _law_one 1 _law_other -/
noncomputable def B_law_plus : Ss := (.cons (.ret (.call M_law_low [false, false] (.cons (.bin .add (.bin .mul (.idx (.var 0) (.con (.int 0))) (.idx (.var 1) (.con (.int 1)))) (.bin .mul (.idx (.var 1) (.con (.int 0))) (.idx (.var 0) (.con (.int 1))))) (.cons (.bin .mul (.idx (.var 0) (.con (.int 1))) (.idx (.var 1) (.con (.int 1)))) .nil))))
    .nil)
noncomputable def M_law_plus : MF := mkM [false, false] 2 B_law_plus
/- _law_inside(_law_places, _law_place): 0 _law_places 1 _law_place 2 _law_one 3 _law_other 4 _law_k -/
noncomputable def C1_law_inside : E := (.cmp .lt (.call M_law_bend [false, false, false] (.cons (.idx (.var 0) (.bin .sub (.var 4) (.con (.int 1)))) (.cons (.idx (.var 0) (.var 4)) (.cons (.var 1) .nil)))) (.con (.int 0)))
noncomputable def B_law_inside : Ss := (.cons (.sif (.cmp .eq (.var 0) (.lst .nil))
      (.cons (.ret (.con (.bool false)))
    .nil)
      .nil)
    (.cons (.sif (.cmp .eq (.blt .len (.cons (.var 0) .nil)) (.con (.int 1)))
      (.cons (.ret (.cmp .eq (.var 1) (.idx (.var 0) (.con (.int 0)))))
    .nil)
      .nil)
    (.cons (.blk [] (.cons (.sif (.cmp .eq (.blt .len (.cons (.var 0) .nil)) (.con (.int 2)))
      (.cons (.unp [2, 3] (.var 0))
    (.cons (.sif (.cmp .ne (.call M_law_bend [false, false, false] (.cons (.var 2) (.cons (.var 3) (.cons (.var 1) .nil)))) (.con (.int 0)))
      (.cons (.ret (.con (.bool false)))
    .nil)
      .nil)
    (.cons (.ret (.and (.nt (.call M_law_ahead [false, false] (.cons (.var 1) (.cons (.var 2) .nil)))) (.nt (.call M_law_ahead [false, false] (.cons (.var 3) (.cons (.var 1) .nil))))))
    .nil)))
      .nil) .nil) [2, 3])
    (.cons (.ret (.cmp .eq (.lc (.var 4) [4] (.rg (.blt .len (.cons (.var 0) .nil))) C1_law_inside [4]) (.lst .nil)))
    .nil))))
noncomputable def M_law_inside : MF := mkM [false, false] 5 B_law_inside
/- _law_weights(_law_state_here, _law_rows): 0 _law_state_here 1 _law_rows 2 _law_many 3 _law_found 4 _law_way 5 _law_row 6 _law_one 7 _law_other 8 _law_by -/
noncomputable def V1_law_weights : E := (.call M_law_low [false, false] (.cons (.call M_law_take [true, false] (.cons (.var 0) (.cons (.con (.int 7)) .nil))) (.cons (.bin .add (.con (.int 1)) (.call M_law_take [true, false] (.cons (.var 0) (.cons (.con (.int 4)) .nil)))) .nil)))
noncomputable def B_law_weights : Ss := (.cons (.asg 2 (.blt .len (.cons (.var 1) .nil)))
    (.cons (.asg 3 (.bin .mul (.lst (.cons (.tup (.cons (.con (.int 0)) (.cons (.con (.int 1)) .nil))) .nil)) (.var 2)))
    (.cons (.asg 4 (.call M_law_take [true, false] (.cons (.var 0) (.cons (.con (.int 4)) .nil))))
    (.cons (.sif (.cmp .eq (.var 4) (.con (.int 0)))
      (.cons (.ret (.blt .tuple (.cons (.lc V1_law_weights [5] (.sq (.var 1)) (.con (.bool true)) [5]) .nil)))
    .nil)
      .nil)
    (.cons (.par [6, 7] (.cons (.call M_law_take [true, false] (.cons (.var 0) (.cons (.var 2) .nil))) (.cons (.call M_law_take [true, false] (.cons (.var 0) (.cons (.var 2) .nil))) .nil)))
    (.cons (.asg 8 (.blt .max2 (.cons (.con (.int 1)) (.cons (.blt .abs (.cons (.bin .sub (.bin .mul (.idx (.idx (.var 1) (.var 6)) (.con (.int 0))) (.idx (.idx (.var 1) (.var 7)) (.con (.int 1)))) (.bin .mul (.idx (.idx (.var 1) (.var 6)) (.con (.int 1))) (.idx (.idx (.var 1) (.var 7)) (.con (.int 0))))) .nil)) .nil))))
    (.cons (.sti 3 (.var 6) (.call M_law_low [false, false] (.cons (.call M_law_take [true, false] (.cons (.var 0) (.cons (.bin .mul (.con (.int 2)) (.var 8)) .nil))) (.cons (.var 8) .nil))))
    (.cons (.sti 3 (.var 7) (.call M_law_low [false, false] (.cons (.call M_law_take [true, false] (.cons (.var 0) (.cons (.bin .add (.var 8) (.con (.int 1))) .nil))) (.cons (.var 8) .nil))))
    (.cons (.sif (.cmp .eq (.var 4) (.con (.int 1)))
      (.cons (.sti 3 (.call M_law_take [true, false] (.cons (.var 0) (.cons (.var 2) .nil))) (.tup (.cons (.call M_law_take [true, false] (.cons (.var 0) (.cons (.con (.int 4)) .nil))) (.cons (.con (.int 1)) .nil))))
    .nil)
      .nil)
    (.cons (.ret (.blt .tuple (.cons (.var 3) .nil)))
    .nil))))))))))
noncomputable def M_law_weights : MF := mkM [true, false] 9 B_law_weights
/- is_fraction(thing): 0 thing -/
noncomputable def B_is_fraction : Ss := (.cons (.sif (.or (.nt (.isi (.var 0) ["tuple"])) (.or (.cmp .ne (.blt .len (.cons (.var 0) .nil)) (.con (.int 2))) (.or (.nt (.call M_is_whole [false] (.cons (.idx (.var 0) (.con (.int 0))) .nil))) (.nt (.call M_is_whole [false] (.cons (.idx (.var 0) (.con (.int 1))) .nil))))))
      (.cons (.ret (.con (.bool false)))
    .nil)
      .nil)
    (.cons (.ret (.and (.cmp .gt (.idx (.var 0) (.con (.int 1))) (.con (.int 0))) (.cmp .eq (.call M_divisor [false, false] (.cons (.idx (.var 0) (.con (.int 0))) (.cons (.idx (.var 0) (.con (.int 1))) .nil))) (.con (.int 1)))))
    .nil))
noncomputable def M_is_fraction : MF := mkM [false] 1 B_is_fraction
/- are_weights(field, thing): 0 field 1 thing 2 one -/
noncomputable def V1_are_weights : E := (.call M_is_less [false, false] (.cons (.var 2) (.cons (.con (.tuple [(.int 0), (.int 1)])) .nil)))
noncomputable def V2_are_weights : E := (.call M_is_fraction [false] (.cons (.var 2) .nil))
noncomputable def B_are_weights : Ss := (.cons (.sif (.or (.nt (.isi (.var 1) ["tuple"])) (.or (.cmp .ne (.blt .len (.cons (.var 1) .nil)) (.blt .len (.cons (.var 0) .nil))) (.nt (.blt .all (.cons (.lc V2_are_weights [2] (.sq (.var 1)) (.con (.bool true)) [2]) .nil)))))
      (.cons (.ret (.con (.bool false)))
    .nil)
      .nil)
    (.cons (.ret (.nt (.blt .any (.cons (.lc V1_are_weights [2] (.sq (.var 1)) (.con (.bool true)) [2]) .nil))))
    .nil))
noncomputable def M_are_weights : MF := mkM [false, false] 3 B_are_weights
/- need_weights(field, weights): 0 field 1 weights -/
noncomputable def B_need_weights : Ss := (.cons (.sif (.nt (.call M_are_weights [false, false] (.cons (.var 0) (.cons (.var 1) .nil))))
      (.cons (.rais (Str.ofString "NoWeights"))
    .nil)
      .nil)
    .nil)
noncomputable def M_need_weights : MF := mkM [false, false] 2 B_need_weights
/- summed(field, weights): 0 field 1 weights 2 found 3 row 4 weight 5 at -/
noncomputable def L1_summed : Ss := (.cons (.blk [] (.cons (.sti 2 (.var 5) (.call M_plus [false, false] (.cons (.idx (.var 2) (.var 5)) (.cons (.call M_times [false, false] (.cons (.var 4) (.cons (.idx (.var 3) (.var 5)) .nil))) .nil))))
    .nil) [5]) .nil)
noncomputable def L2_summed : Ss := (.cons (.blk [] (.cons (.blk [5] (.cons (.sfor [5] (.sq (.tup (.cons (.con (.int 0)) (.cons (.con (.int 1)) (.cons (.con (.int 2)) .nil)))))
      L1_summed) .nil) [3, 4])
    .nil) [3, 4, 5]) .nil)
noncomputable def B_summed : Ss := (.cons (.asg 2 (.lst (.cons (.con (.tuple [(.int 0), (.int 1)])) (.cons (.con (.tuple [(.int 0), (.int 1)])) (.cons (.con (.tuple [(.int 0), (.int 1)])) .nil)))))
    (.cons (.blk [3, 4, 5] (.cons (.sfor [3, 4] (.zp (.var 0) (.var 1))
      L2_summed) .nil) [0, 1])
    (.cons (.ret (.tup (.cons (.idx (.var 2) (.con (.int 0))) (.cons (.idx (.var 2) (.con (.int 1))) (.cons (.idx (.var 2) (.con (.int 2))) .nil)))))
    .nil)))
noncomputable def M_summed : MF := mkM [false, false] 6 B_summed
/- sum_by(field, weights): 0 field 1 weights -/
noncomputable def B_sum_by : Ss := (.cons (.exp (.call M_need_field [false] (.cons (.var 0) .nil)))
    (.cons (.exp (.call M_need_weights [false, false] (.cons (.var 0) (.cons (.var 1) .nil))))
    (.cons (.ret (.call M_summed [false, false] (.cons (.var 0) (.cons (.var 1) .nil))))
    .nil)))
noncomputable def M_sum_by : MF := mkM [false, false] 2 B_sum_by
/- _law_summed(_law_rows, _law_weights): 0 _law_rows 1 _law_weights 2 _law_found 3 _law_row 4 _law_weight 5 _law_at -/
noncomputable def L1_law_summed : Ss := (.cons (.blk [] (.cons (.sti 2 (.var 5) (.call M_law_plus [false, false] (.cons (.idx (.var 2) (.var 5)) (.cons (.call M_law_times [false, false] (.cons (.var 4) (.cons (.tup (.cons (.idx (.var 3) (.var 5)) (.cons (.con (.int 1)) .nil))) .nil))) .nil))))
    .nil) [5]) .nil)
noncomputable def L2_law_summed : Ss := (.cons (.blk [] (.cons (.blk [5] (.cons (.sfor [5] (.rg (.con (.int 3)))
      L1_law_summed) .nil) [3, 4])
    .nil) [3, 4, 5]) .nil)
noncomputable def B_law_summed : Ss := (.cons (.asg 2 (.lst (.cons (.tup (.cons (.con (.int 0)) (.cons (.con (.int 1)) .nil))) (.cons (.tup (.cons (.con (.int 0)) (.cons (.con (.int 1)) .nil))) (.cons (.tup (.cons (.con (.int 0)) (.cons (.con (.int 1)) .nil))) .nil)))))
    (.cons (.blk [3, 4, 5] (.cons (.sfor [3, 4] (.zp (.var 0) (.var 1))
      L2_law_summed) .nil) [0, 1])
    (.cons (.ret (.blt .tuple (.cons (.var 2) .nil)))
    .nil)))
noncomputable def M_law_summed : MF := mkM [false, false] 6 B_law_summed
/- floor_of(one): 0 one -/
noncomputable def B_floor_of : Ss := (.cons (.ret (.bin .fdiv (.idx (.var 0) (.con (.int 0))) (.idx (.var 0) (.con (.int 1)))))
    .nil)
noncomputable def M_floor_of : MF := mkM [false] 1 B_floor_of
/- cut_of(field, weights): 0 field 1 weights 2 a 3 b 4 c -/
noncomputable def B_cut_of : Ss := (.cons (.unp [2, 3, 4] (.call M_summed [false, false] (.cons (.var 0) (.cons (.var 1) .nil))))
    (.cons (.sif (.or (.cmp .ne (.idx (.var 2) (.con (.int 1))) (.con (.int 1))) (.or (.cmp .ne (.idx (.var 3) (.con (.int 1))) (.con (.int 1))) (.cmp .eq (.tup (.cons (.var 2) (.cons (.var 3) .nil))) (.tup (.cons (.con (.tuple [(.int 0), (.int 1)])) (.cons (.con (.tuple [(.int 0), (.int 1)])) .nil))))))
      (.cons (.ret (.con .none))
    .nil)
      .nil)
    (.cons (.ret (.tup (.cons (.idx (.var 2) (.con (.int 0))) (.cons (.idx (.var 3) (.con (.int 0))) (.cons (.call M_floor_of [false] (.cons (.var 4) .nil)) .nil)))))
    .nil)))
noncomputable def M_cut_of : MF := mkM [false, false] 5 B_cut_of
/- cut_by(field, weights): 0 field 1 weights 2 found -/
noncomputable def B_cut_by : Ss := (.cons (.exp (.call M_need_field [false] (.cons (.var 0) .nil)))
    (.cons (.exp (.call M_need_weights [false, false] (.cons (.var 0) (.cons (.var 1) .nil))))
    (.cons (.asg 2 (.call M_cut_of [false, false] (.cons (.var 0) (.cons (.var 1) .nil))))
    (.cons (.sif (.cmp .is (.var 2) (.con .none))
      (.cons (.rais (Str.ofString "NoCut"))
    .nil)
      .nil)
    (.cons (.retv 2)
    .nil)))))
noncomputable def M_cut_by : MF := mkM [false, false] 3 B_cut_by
/- _law_cut(_law_rows, _law_weights): 0 _law_rows 1 _law_weights 2 _law_a 3 _law_b 4 _law_c -/
noncomputable def B_law_cut : Ss := (.cons (.unp [2, 3, 4] (.call M_law_summed [false, false] (.cons (.var 0) (.cons (.var 1) .nil))))
    (.cons (.sif (.or (.cmp .ne (.idx (.var 2) (.con (.int 1))) (.con (.int 1))) (.or (.cmp .ne (.idx (.var 3) (.con (.int 1))) (.con (.int 1))) (.and (.cmp .eq (.idx (.var 2) (.con (.int 0))) (.con (.int 0))) (.cmp .eq (.idx (.var 3) (.con (.int 0))) (.con (.int 0))))))
      (.cons (.ret (.con .none))
    .nil)
      .nil)
    (.cons (.ret (.tup (.cons (.idx (.var 2) (.con (.int 0))) (.cons (.idx (.var 3) (.con (.int 0))) (.cons (.bin .fdiv (.idx (.var 4) (.con (.int 0))) (.idx (.var 4) (.con (.int 1)))) .nil)))))
    .nil)))
noncomputable def M_law_cut : MF := mkM [false, false] 5 B_law_cut
/- is_paper(field, thing): 0 field 1 thing -/
noncomputable def B_is_paper : Ss := (.cons (.exp (.call M_need_field [false] (.cons (.var 0) .nil)))
    (.cons (.sif (.or (.nt (.isi (.var 1) ["tuple"])) (.or (.cmp .ne (.blt .len (.cons (.var 1) .nil)) (.con (.int 2))) (.or (.nt (.call M_are_weights [false, false] (.cons (.var 0) (.cons (.idx (.var 1) (.con (.int 0))) .nil)))) (.nt (.call M_is_row [false] (.cons (.idx (.var 1) (.con (.int 1))) .nil))))))
      (.cons (.ret (.con (.bool false)))
    .nil)
      .nil)
    (.cons (.ret (.cmp .eq (.call M_cut_of [false, false] (.cons (.var 0) (.cons (.idx (.var 1) (.con (.int 0))) .nil))) (.idx (.var 1) (.con (.int 1)))))
    .nil)))
noncomputable def M_is_paper : MF := mkM [false, false] 2 B_is_paper
/- _law_is_fraction(_law_thing): 0 _law_thing -/
noncomputable def B_law_is_fraction : Ss := (.cons (.sif (.or (.nt (.isi (.var 0) ["tuple"])) (.or (.cmp .ne (.blt .len (.cons (.var 0) .nil)) (.con (.int 2))) (.or (.nt (.call M_law_whole [false] (.cons (.idx (.var 0) (.con (.int 0))) .nil))) (.nt (.call M_law_whole [false] (.cons (.idx (.var 0) (.con (.int 1))) .nil))))))
      (.cons (.ret (.con (.bool false)))
    .nil)
      .nil)
    (.cons (.ret (.and (.cmp .gt (.idx (.var 0) (.con (.int 1))) (.con (.int 0))) (.cmp .eq (.call M_law_divisor [false, false] (.cons (.idx (.var 0) (.con (.int 0))) (.cons (.idx (.var 0) (.con (.int 1))) .nil))) (.con (.int 1)))))
    .nil))
noncomputable def M_law_is_fraction : MF := mkM [false] 1 B_law_is_fraction
/- weights_of(field, some): 0 field 1 some 2 found 3 number 4 weight -/
noncomputable def L1_weights_of : Ss := (.cons (.blk [] (.cons (.sti 2 (.var 3) (.call M_plus [false, false] (.cons (.idx (.var 2) (.var 3)) (.cons (.var 4) .nil))))
    .nil) [0, 3, 4]) .nil)
noncomputable def B_weights_of : Ss := (.cons (.asg 2 (.bin .mul (.lst (.cons (.con (.tuple [(.int 0), (.int 1)])) .nil)) (.blt .len (.cons (.var 0) .nil))))
    (.cons (.blk [0, 3, 4] (.cons (.sfor [3, 4] (.sq (.var 1))
      L1_weights_of) .nil) [1])
    (.cons (.ret (.blt .tuple (.cons (.var 2) .nil)))
    .nil)))
noncomputable def M_weights_of : MF := mkM [false, false] 5 B_weights_of
/- short(one): 0 one 1 share -/
noncomputable def B_short : Ss := (.cons (.asg 1 (.call M_divisor [false, false] (.cons (.idx (.var 0) (.con (.int 0))) (.cons (.idx (.var 0) (.con (.int 1))) .nil))))
    (.cons (.ret (.tup (.cons (.bin .fdiv (.idx (.var 0) (.con (.int 0))) (.var 1)) (.cons (.bin .fdiv (.idx (.var 0) (.con (.int 1))) (.var 1)) .nil))))
    .nil))
noncomputable def M_short : MF := mkM [false] 2 B_short
/- half(one): 0 one -/
noncomputable def B_half : Ss := (.cons (.ret (.blt .int (.cons (.or (.cmp .lt (.idx (.var 0) (.con (.int 1))) (.con (.int 0))) (.and (.cmp .eq (.idx (.var 0) (.con (.int 1))) (.con (.int 0))) (.cmp .lt (.idx (.var 0) (.con (.int 0))) (.con (.int 0))))) .nil)))
    .nil)
noncomputable def M_half : MF := mkM [false] 1 B_half
/- is_ahead(one, other): 0 one 1 other -/
noncomputable def B_is_ahead : Ss := (.cons (.sif (.cmp .ne (.call M_half [false] (.cons (.var 0) .nil)) (.call M_half [false] (.cons (.var 1) .nil)))
      (.cons (.ret (.cmp .lt (.call M_half [false] (.cons (.var 0) .nil)) (.call M_half [false] (.cons (.var 1) .nil))))
    .nil)
      .nil)
    (.cons (.ret (.cmp .gt (.call M_twist [false, false] (.cons (.var 0) (.cons (.var 1) .nil))) (.con (.int 0))))
    .nil))
noncomputable def M_is_ahead : MF := mkM [false, false] 2 B_is_ahead
/- turned_round(rows, place): 0 rows 1 place 2 found 3 known 4 number 5 row 6 at 7 other -/
noncomputable def C1_turned_round : E := (.call M_is_ahead [false, false] (.cons (.idx (.var 0) (.var 7)) (.cons (.var 5) .nil)))
noncomputable def L1_turned_round : Ss := (.cons (.blk [] (.cons (.blk [] (.cons (.sif (.and (.call M_is_tight [false, false] (.cons (.var 5) (.cons (.var 1) .nil))) (.cmp .notin (.call M_short [false] (.cons (.var 5) .nil)) (.var 3)))
      (.cons (.sti 3 (.call M_short [false] (.cons (.var 5) .nil)) (.con (.bool true)))
    (.cons (.asg 6 (.blt .len (.cons (.lc (.var 7) [7] (.sq (.var 2)) C1_turned_round [7]) .nil)))
    (.cons (.mth 2 .insert (.cons (.var 6) (.cons (.var 4) .nil)))
    .nil)))
      .nil) .nil) [6])
    .nil) [4, 5, 6, 7]) .nil)
noncomputable def B_turned_round : Ss := (.cons (.asg 2 (.lst .nil))
    (.cons (.asg 3 .dct)
    (.cons (.blk [4, 5, 6, 7] (.cons (.sfor [4, 5] (.en (.var 0))
      L1_turned_round) .nil) [0, 1, 3])
    (.cons (.retv 2)
    .nil))))
noncomputable def M_turned_round : MF := mkM [false, false] 8 B_turned_round
/- neighbours(rows, place): 0 rows 1 place 2 some 3 found 4 one 5 other -/
noncomputable def L1_neighbours : Ss := (.cons (.blk [] (.cons (.sif (.cmp .gt (.call M_twist [false, false] (.cons (.idx (.var 0) (.var 4)) (.cons (.idx (.var 0) (.var 5)) .nil))) (.con (.int 0)))
      (.cons (.mth 3 .append (.cons (.tup (.cons (.var 4) (.cons (.var 5) .nil))) .nil))
    .nil)
      .nil)
    .nil) [1, 4, 5]) .nil)
noncomputable def B_neighbours : Ss := (.cons (.asg 2 (.call M_turned_round [false, false] (.cons (.var 0) (.cons (.var 1) .nil))))
    (.cons (.asg 3 (.lst .nil))
    (.cons (.blk [1, 4, 5] (.cons (.sfor [4, 5] (.zp (.var 2) (.bin .add (.slc (.var 2) (.con (.int 1)) (.con .none)) (.slc (.var 2) (.con .none) (.con (.int 1)))))
      L1_neighbours) .nil) [0, 2])
    (.cons (.retv 3)
    .nil))))
noncomputable def M_neighbours : MF := mkM [false, false] 6 B_neighbours
/- shares(one, other, third): 0 one 1 other 2 third 3 by -/
noncomputable def B_shares : Ss := (.cons (.asg 3 (.call M_twist [false, false] (.cons (.var 0) (.cons (.var 1) .nil))))
    (.cons (.ret (.tup (.cons (.call M_ratio [false, false] (.cons (.call M_twist [false, false] (.cons (.var 2) (.cons (.var 1) .nil))) (.cons (.var 3) .nil))) (.cons (.call M_ratio [false, false] (.cons (.call M_twist [false, false] (.cons (.var 0) (.cons (.var 2) .nil))) (.cons (.var 3) .nil))) .nil))))
    .nil))
noncomputable def M_shares : MF := mkM [false, false, false] 4 B_shares
/- pair_towards(rows, place, direction): 0 rows 1 place 2 direction 3 one 4 other 5 mine 6 theirs -/
noncomputable def L1_pair_towards : Ss := (.cons (.blk [] (.cons (.unp [5, 6] (.call M_shares [false, false, false] (.cons (.idx (.var 0) (.var 3)) (.cons (.idx (.var 0) (.var 4)) (.cons (.var 2) .nil)))))
    (.cons (.sif (.and (.nt (.call M_is_less [false, false] (.cons (.var 5) (.cons (.con (.tuple [(.int 0), (.int 1)])) .nil)))) (.nt (.call M_is_less [false, false] (.cons (.var 6) (.cons (.con (.tuple [(.int 0), (.int 1)])) .nil)))))
      (.cons (.blk [] (.cons (.ret (.lst (.cons (.tup (.cons (.var 3) (.cons (.var 5) .nil))) (.cons (.tup (.cons (.var 4) (.cons (.var 6) .nil))) .nil)))) .nil) [0, 1, 2, 3, 4, 5, 6])
    .nil)
      .nil)
    .nil)) [3, 4, 5, 6]) .nil)
noncomputable def B_pair_towards : Ss := (.cons (.blk [3, 4, 5, 6] (.cons (.sfor [3, 4] (.sq (.call M_neighbours [false, false] (.cons (.var 0) (.cons (.var 1) .nil))))
      L1_pair_towards) .nil) [0, 1, 2])
    (.cons (.ret (.lst .nil))
    .nil))
noncomputable def M_pair_towards : MF := mkM [false, false, false] 7 B_pair_towards
/- cut_towards(field, a, b): 0 field 1 a 2 b 3 some 4 place 5 weights -/
noncomputable def B_cut_towards : Ss := (.cons (.exp (.call M_need_field [false] (.cons (.var 0) .nil)))
    (.cons (.asg 3 (.call M_corners_of [false] (.cons (.var 0) .nil)))
    (.cons (.sif (.cmp .eq (.var 3) (.lst .nil))
      (.cons (.rais (Str.ofString "Nothing"))
    .nil)
      .nil)
    (.cons (.asg 4 (.idx (.call M_greatest_at [false, false, false] (.cons (.var 3) (.cons (.var 1) (.cons (.var 2) .nil)))) (.con (.int 1))))
    (.cons (.asg 5 (.call M_weights_of [false, false] (.cons (.var 0) (.cons (.call M_pair_towards [false, false, false] (.cons (.var 0) (.cons (.var 4) (.cons (.tup (.cons (.var 1) (.cons (.var 2) .nil))) .nil)))) .nil))))
    (.cons (.ret (.tup (.cons (.var 5) (.cons (.call M_cut_of [false, false] (.cons (.var 0) (.cons (.var 5) .nil))) .nil))))
    .nil))))))
noncomputable def M_cut_towards : MF := mkM [false, false, false] 6 B_cut_towards
/- _law_whole_left(_law_rows, _law_places): 0 _law_rows 1 _law_places 2 _law_lows 3 _law_place 4 _law_at 5 _law_highs 6 _law_found 7 _law_x 8 _law_y 9 _law_row -/
noncomputable def C1_law_whole_left : E := (.cmp .gt (.bin .add (.bin .mul (.idx (.var 9) (.con (.int 0))) (.var 7)) (.bin .mul (.idx (.var 9) (.con (.int 1))) (.var 8))) (.idx (.var 9) (.con (.int 2))))
noncomputable def L1_law_whole_left : Ss := (.cons (.blk [] (.cons (.sif (.cmp .eq (.lc (.var 9) [9] (.sq (.var 0)) C1_law_whole_left [9]) (.lst .nil))
      (.cons (.mth 6 .append (.cons (.tup (.cons (.tup (.cons (.var 7) (.cons (.con (.int 1)) .nil))) (.cons (.tup (.cons (.var 8) (.cons (.con (.int 1)) .nil))) .nil))) .nil))
    .nil)
      .nil)
    .nil) [1, 3, 4, 8, 9]) .nil)
noncomputable def L2_law_whole_left : Ss := (.cons (.blk [] (.cons (.blk [1, 3, 4, 8, 9] (.cons (.sfor [8] (.rg2 (.idx (.var 2) (.con (.int 1))) (.bin .add (.idx (.var 5) (.con (.int 1))) (.con (.int 1))))
      L1_law_whole_left) .nil) [7])
    .nil) [1, 3, 4, 7, 8, 9]) .nil)
noncomputable def V1_law_whole_left : E := (.bin .fdiv (.idx (.idx (.var 3) (.var 4)) (.con (.int 0))) (.idx (.idx (.var 3) (.var 4)) (.con (.int 1))))
noncomputable def V2_law_whole_left : E := (.blt .max1 (.cons (.lc V1_law_whole_left [3] (.sq (.var 1)) (.con (.bool true)) [3]) .nil))
noncomputable def V3_law_whole_left : E := (.bin .fdiv (.idx (.idx (.var 3) (.var 4)) (.con (.int 0))) (.idx (.idx (.var 3) (.var 4)) (.con (.int 1))))
noncomputable def V4_law_whole_left : E := (.blt .min1 (.cons (.lc V3_law_whole_left [3] (.sq (.var 1)) (.con (.bool true)) [3]) .nil))
noncomputable def B_law_whole_left : Ss := (.cons (.sif (.cmp .eq (.var 1) (.lst .nil))
      (.cons (.ret (.lst .nil))
    .nil)
      .nil)
    (.cons (.asg 2 (.lc V4_law_whole_left [4] (.sq (.tup (.cons (.con (.int 0)) (.cons (.con (.int 1)) .nil)))) (.con (.bool true)) [4]))
    (.cons (.asg 5 (.lc V2_law_whole_left [4] (.sq (.tup (.cons (.con (.int 0)) (.cons (.con (.int 1)) .nil)))) (.con (.bool true)) [4]))
    (.cons (.asg 6 (.lst .nil))
    (.cons (.blk [1, 3, 4, 7, 8, 9] (.cons (.sfor [7] (.rg2 (.idx (.var 2) (.con (.int 0))) (.bin .add (.idx (.var 5) (.con (.int 0))) (.con (.int 1))))
      L2_law_whole_left) .nil) [0, 2, 5])
    (.cons (.retv 6)
    .nil))))))
noncomputable def M_law_whole_left : MF := mkM [false, false] 10 B_law_whole_left
/- need_turn(one, other): 0 one 1 other -/
noncomputable def B_need_turn : Ss := (.cons (.sif (.cmp .le (.call M_twist [false, false] (.cons (.var 0) (.cons (.var 1) .nil))) (.con (.int 0)))
      (.cons (.rais (Str.ofString "NoTurn"))
    .nil)
      .nil)
    .nil)
noncomputable def M_need_turn : MF := mkM [false, false] 2 B_need_turn
/- parts(one, other, thing): 0 one 1 other 2 thing 3 found -/
noncomputable def B_parts : Ss := (.cons (.exp (.call M_need_turn [false, false] (.cons (.var 0) (.cons (.var 1) .nil))))
    (.cons (.sif (.or (.nt (.isi (.var 2) ["tuple"])) (.or (.cmp .ne (.blt .len (.cons (.var 2) .nil)) (.con (.int 2))) (.or (.nt (.call M_is_whole [false] (.cons (.idx (.var 2) (.con (.int 0))) .nil))) (.nt (.call M_is_whole [false] (.cons (.idx (.var 2) (.con (.int 1))) .nil))))))
      (.cons (.ret (.con .none))
    .nil)
      .nil)
    (.cons (.asg 3 (.call M_shares [false, false, false] (.cons (.var 0) (.cons (.var 1) (.cons (.var 2) .nil)))))
    (.cons (.sif (.or (.cmp .eq (.var 2) (.tup (.cons (.con (.int 0)) (.cons (.con (.int 0)) .nil)))) (.or (.call M_is_less [false, false] (.cons (.idx (.var 3) (.con (.int 0))) (.cons (.con (.tuple [(.int 0), (.int 1)])) .nil))) (.call M_is_less [false, false] (.cons (.idx (.var 3) (.con (.int 1))) (.cons (.con (.tuple [(.int 0), (.int 1)])) .nil)))))
      (.cons (.ret (.con .none))
    .nil)
      .nil)
    (.cons (.retv 3)
    .nil)))))
noncomputable def M_parts : MF := mkM [false, false, false] 4 B_parts
/- first_beside(one): 0 one 1 a 2 b 3 rest 4 more 5 by 6 here 7 there -/
noncomputable def V1_first_beside : E := (.bin .sub (.var 6) (.bin .mul (.var 5) (.var 7)))
noncomputable def L1_first_beside : Ss := (.cons (.blk [] (.cons (.asg 5 (.bin .fdiv (.idx (.var 3) (.con (.int 0))) (.idx (.var 4) (.con (.int 0)))))
    (.cons (.par [3, 4] (.cons (.var 4) (.cons (.blt .tuple (.cons (.lc V1_first_beside [6, 7] (.zp (.var 3) (.var 4)) (.con (.bool true)) [6, 7]) .nil)) .nil)))
    .nil)) [0, 1, 2, 5, 6, 7]) .nil)
noncomputable def B_first_beside : Ss := (.cons (.unp [1, 2] (.var 0))
    (.cons (.par [3, 4] (.cons (.tup (.cons (.var 1) (.cons (.con (.int 1)) (.cons (.con (.int 0)) .nil)))) (.cons (.tup (.cons (.var 2) (.cons (.con (.int 0)) (.cons (.con (.int 1)) .nil)))) .nil)))
    (.cons (.blk [0, 1, 2, 5, 6, 7] (.cons (.whl (.cmp .ne (.idx (.var 4) (.con (.int 0))) (.con (.int 0)))
      L1_first_beside) .nil) [4])
    (.cons (.ret (.tup (.cons (.bin .sub (.con (.int 0)) (.bin .mul (.idx (.var 3) (.con (.int 0))) (.idx (.var 3) (.con (.int 2))))) (.cons (.bin .mul (.idx (.var 3) (.con (.int 0))) (.idx (.var 3) (.con (.int 1)))) .nil))))
    .nil))))
noncomputable def M_first_beside : MF := mkM [false] 8 B_first_beside
/- next_least(here, last): 0 here 1 last 2 some 3 many -/
noncomputable def B_next_least : Ss := (.cons (.asg 2 (.call M_first_beside [false] (.cons (.var 0) .nil)))
    (.cons (.asg 3 (.bin .fdiv (.call M_twist [false, false] (.cons (.var 2) (.cons (.var 1) .nil))) (.call M_twist [false, false] (.cons (.var 0) (.cons (.var 1) .nil)))))
    (.cons (.ret (.tup (.cons (.bin .sub (.idx (.var 2) (.con (.int 0))) (.bin .mul (.var 3) (.idx (.var 0) (.con (.int 0))))) (.cons (.bin .sub (.idx (.var 2) (.con (.int 1))) (.bin .mul (.var 3) (.idx (.var 0) (.con (.int 1))))) .nil))))
    .nil)))
noncomputable def M_next_least : MF := mkM [false, false] 4 B_next_least
/- least_between(one, other): 0 one 1 other 2 last 3 found -/
noncomputable def L1_least_between : Ss := (.cons (.blk [] (.cons (.mth 3 .append (.cons (.call M_next_least [false, false] (.cons (.idx (.var 3) (.neg (.con (.int 1)))) (.cons (.var 2) .nil))) .nil))
    .nil) [0, 1]) .nil)
noncomputable def B_least_between : Ss := (.cons (.asg 2 (.call M_short [false] (.cons (.var 1) .nil)))
    (.cons (.asg 3 (.lst (.cons (.call M_short [false] (.cons (.var 0) .nil)) .nil)))
    (.cons (.blk [0, 1] (.cons (.whl (.cmp .ne (.idx (.var 3) (.neg (.con (.int 1)))) (.var 2))
      L1_least_between) .nil) [2])
    (.cons (.retv 3)
    .nil))))
noncomputable def M_least_between : MF := mkM [false, false] 4 B_least_between
/- between(one, other): 0 one 1 other -/
noncomputable def B_between : Ss := (.cons (.exp (.call M_need_turn [false, false] (.cons (.var 0) (.cons (.var 1) .nil))))
    (.cons (.ret (.call M_least_between [false, false] (.cons (.var 0) (.cons (.var 1) .nil))))
    .nil))
noncomputable def M_between : MF := mkM [false, false] 2 B_between
/- _law_all_cuts(_law_rows): 0 _law_rows 1 _law_found 2 _law_at 3 _law_a 4 _law_b 5 _law_c 6 _law_d 7 _law_e 8 _law_f 9 _law_by 10 _law_p 11 _law_q 12 _law_u 13 _law_v -/
noncomputable def L1_law_all_cuts : Ss := (.cons (.blk [] (.cons (.par [12, 13] (.cons (.bin .add (.bin .mul (.var 10) (.var 3)) (.bin .mul (.var 11) (.var 6))) (.cons (.bin .add (.bin .mul (.var 10) (.var 4)) (.bin .mul (.var 11) (.var 7))) .nil)))
    (.cons (.sif (.and (.cmp .eq (.bin .mod (.var 12) (.var 9)) (.con (.int 0))) (.and (.cmp .eq (.bin .mod (.var 13) (.var 9)) (.con (.int 0))) (.or (.cmp .ne (.var 12) (.con (.int 0))) (.cmp .ne (.var 13) (.con (.int 0))))))
      (.cons (.sti 1 (.tup (.cons (.bin .fdiv (.var 12) (.var 9)) (.cons (.bin .fdiv (.var 13) (.var 9)) (.cons (.bin .fdiv (.bin .add (.bin .mul (.var 10) (.var 5)) (.bin .mul (.var 11) (.var 8))) (.var 9)) .nil)))) (.con (.bool true)))
    .nil)
      .nil)
    .nil)) [11, 12, 13]) .nil)
noncomputable def L2_law_all_cuts : Ss := (.cons (.blk [] (.cons (.blk [11, 12, 13] (.cons (.sfor [11] (.rg (.var 9))
      L1_law_all_cuts) .nil) [10])
    .nil) [10, 11, 12, 13]) .nil)
noncomputable def L3_law_all_cuts : Ss := (.cons (.blk [] (.cons (.unp [6, 7, 8] (.idx (.var 0) (.var 2)))
    (.cons (.asg 9 (.blt .abs (.cons (.bin .sub (.bin .mul (.var 3) (.var 7)) (.bin .mul (.var 4) (.var 6))) .nil)))
    (.cons (.blk [10, 11, 12, 13] (.cons (.sfor [10] (.rg (.var 9))
      L2_law_all_cuts) .nil) [3, 4, 5, 6, 7, 8, 9])
    .nil))) [3, 4, 5, 6, 7, 8, 9, 10, 11, 12, 13]) .nil)
noncomputable def L4_law_all_cuts : Ss := (.cons (.blk [] (.cons (.blk [3, 4, 5, 6, 7, 8, 9, 10, 11, 12, 13] (.cons (.sfor [3, 4, 5] (.sq (.slc (.var 0) (.bin .add (.var 2) (.con (.int 1))) (.con .none)))
      L3_law_all_cuts) .nil) [2])
    .nil) [2, 3, 4, 5, 6, 7, 8, 9, 10, 11, 12, 13]) .nil)
noncomputable def B_law_all_cuts : Ss := (.cons (.asg 1 .dct)
    (.cons (.blk [2, 3, 4, 5, 6, 7, 8, 9, 10, 11, 12, 13] (.cons (.sfor [2] (.rg (.blt .len (.cons (.var 0) .nil)))
      L4_law_all_cuts) .nil) [0])
    (.cons (.ret (.blt .list (.cons (.var 1) .nil)))
    .nil)))
noncomputable def M_law_all_cuts : MF := mkM [false] 14 B_law_all_cuts
/- _law_over(_law_one, _law_other): 0 _law_one 1 _law_other -/
noncomputable def B_law_over : Ss := (.cons (.ret (.call M_law_low [false, false] (.cons (.bin .mul (.idx (.var 0) (.con (.int 0))) (.idx (.var 1) (.con (.int 1)))) (.cons (.bin .mul (.idx (.var 0) (.con (.int 1))) (.idx (.var 1) (.con (.int 0)))) .nil))))
    .nil)
noncomputable def M_law_over : MF := mkM [false, false] 2 B_law_over
/- _law_part(_law_one, _law_other, _law_row): 0 _law_one 1 _law_other 2 _law_row 3 _law_here 4 _law_share 5 _law_k -/
noncomputable def V1_law_part : E := (.call M_law_plus [false, false] (.cons (.idx (.var 0) (.var 5)) (.cons (.call M_law_times [false, false] (.cons (.var 4) (.cons (.call M_law_minus [false, false] (.cons (.idx (.var 1) (.var 5)) (.cons (.idx (.var 0) (.var 5)) .nil))) .nil))) .nil)))
noncomputable def B_law_part : Ss := (.cons (.asg 3 (.call M_law_minus [false, false] (.cons (.tup (.cons (.idx (.var 2) (.con (.int 2))) (.cons (.con (.int 1)) .nil))) (.cons (.call M_law_value [false, false] (.cons (.var 2) (.cons (.var 0) .nil))) .nil))))
    (.cons (.asg 4 (.call M_law_over [false, false] (.cons (.var 3) (.cons (.call M_law_minus [false, false] (.cons (.call M_law_value [false, false] (.cons (.var 2) (.cons (.var 1) .nil))) (.cons (.call M_law_value [false, false] (.cons (.var 2) (.cons (.var 0) .nil))) .nil))) .nil))))
    (.cons (.ret (.blt .tuple (.cons (.lc V1_law_part [5] (.rg (.con (.int 2))) (.con (.bool true)) [5]) .nil)))
    .nil)))
noncomputable def M_law_part : MF := mkM [false, false, false] 6 B_law_part
/- _law_clipped(_law_places, _law_row): 0 _law_places 1 _law_row 2 _law_place 3 _law_found 4 _law_one 5 _law_other -/
noncomputable def L1_law_clipped : Ss := (.cons (.blk [] (.cons (.sif (.call M_law_keeps [false, false] (.cons (.var 1) (.cons (.var 4) .nil)))
      (.cons (.mth 3 .append (.cons (.var 4) .nil))
    .nil)
      .nil)
    (.cons (.sif (.cmp .ne (.call M_law_keeps [false, false] (.cons (.var 1) (.cons (.var 4) .nil))) (.call M_law_keeps [false, false] (.cons (.var 1) (.cons (.var 5) .nil))))
      (.cons (.mth 3 .append (.cons (.call M_law_part [false, false, false] (.cons (.var 4) (.cons (.var 5) (.cons (.var 1) .nil)))) .nil))
    .nil)
      .nil)
    .nil)) [2, 4, 5]) .nil)
noncomputable def C1_law_clipped : E := (.nt (.call M_law_keeps [false, false] (.cons (.var 1) (.cons (.var 2) .nil))))
noncomputable def B_law_clipped : Ss := (.cons (.sif (.cmp .eq (.lc (.var 2) [2] (.sq (.var 0)) C1_law_clipped [2]) (.lst .nil))
      (.cons (.retv 0)
    .nil)
      .nil)
    (.cons (.asg 3 (.lst .nil))
    (.cons (.blk [2, 4, 5] (.cons (.sfor [4, 5] (.zp (.var 0) (.bin .add (.slc (.var 0) (.con (.int 1)) (.con .none)) (.slc (.var 0) (.con .none) (.con (.int 1)))))
      L1_law_clipped) .nil) [0, 1])
    (.cons (.ret (.call M_law_ring [false] (.cons (.var 3) .nil)))
    .nil))))
noncomputable def M_law_clipped : MF := mkM [false, false] 6 B_law_clipped
/- _law_round(_law_places, _law_most_here): 0 _law_places 1 _law_most_here 2 _law_left 3 _law_a 4 _law_b 5 _law_top -/
noncomputable def L1_law_round : Ss := (.cons (.blk [] (.cons (.blk [] (.cons (.sif (.and (.cmp .ne (.tup (.cons (.var 3) (.cons (.var 4) .nil))) (.tup (.cons (.con (.int 0)) (.cons (.con (.int 0)) .nil)))) (.cmp .ne (.var 2) (.lst .nil)))
      (.cons (.asg 5 (.call M_law_greatest [false, false, false] (.cons (.var 0) (.cons (.var 3) (.cons (.var 4) .nil)))))
    (.cons (.asg 2 (.call M_law_clipped [false, false] (.cons (.var 2) (.cons (.tup (.cons (.var 3) (.cons (.var 4) (.cons (.bin .fdiv (.idx (.var 5) (.con (.int 0))) (.idx (.var 5) (.con (.int 1)))) .nil)))) .nil))))
    .nil))
      .nil) .nil) [5])
    .nil) [4, 5]) .nil)
noncomputable def L2_law_round : Ss := (.cons (.blk [] (.cons (.blk [4, 5] (.cons (.sfor [4] (.rg2 (.bin .sub (.con (.int 0)) (.var 1)) (.bin .add (.var 1) (.con (.int 1))))
      L1_law_round) .nil) [3])
    .nil) [3, 4, 5]) .nil)
noncomputable def B_law_round : Ss := (.cons (.asg 2 (.var 0))
    (.cons (.blk [3, 4, 5] (.cons (.sfor [3] (.rg2 (.bin .sub (.con (.int 0)) (.var 1)) (.bin .add (.var 1) (.con (.int 1))))
      L2_law_round) .nil) [0, 1])
    (.cons (.retv 2)
    .nil)))
noncomputable def M_law_round : MF := mkM [false, false] 6 B_law_round
/- unlike(places): 0 places 1 found 2 place -/
noncomputable def L1_unlike : Ss := (.cons (.blk [] (.cons (.sif (.cmp .notin (.var 2) (.var 1))
      (.cons (.mth 1 .append (.cons (.var 2) .nil))
    .nil)
      .nil)
    .nil) [2]) .nil)
noncomputable def B_unlike : Ss := (.cons (.asg 1 (.lst .nil))
    (.cons (.blk [2] (.cons (.sfor [2] (.sq (.var 0))
      L1_unlike) .nil) [0])
    (.cons (.retv 1)
    .nil)))
noncomputable def M_unlike : MF := mkM [false] 3 B_unlike
/- room(row, place): 0 row 1 place -/
noncomputable def B_room : Ss := (.cons (.ret (.call M_minus [false, false] (.cons (.tup (.cons (.idx (.var 0) (.con (.int 2))) (.cons (.con (.int 1)) .nil))) (.cons (.call M_value [false, false] (.cons (.var 0) (.cons (.var 1) .nil))) .nil))))
    .nil)
noncomputable def M_room : MF := mkM [false, false] 2 B_room
/- over(one, other): 0 one 1 other -/
noncomputable def B_over : Ss := (.cons (.ret (.call M_ratio [false, false] (.cons (.bin .mul (.idx (.var 0) (.con (.int 0))) (.idx (.var 1) (.con (.int 1)))) (.cons (.bin .mul (.idx (.var 0) (.con (.int 1))) (.idx (.var 1) (.con (.int 0)))) .nil))))
    .nil)
noncomputable def M_over : MF := mkM [false, false] 2 B_over
/- between_places(one, other, row): 0 one 1 other 2 row 3 here 4 share 5 found 6 at -/
noncomputable def L1_between_places : Ss := (.cons (.blk [] (.cons (.mth 5 .append (.cons (.call M_plus [false, false] (.cons (.idx (.var 0) (.var 6)) (.cons (.call M_product [false, false] (.cons (.var 4) (.cons (.call M_minus [false, false] (.cons (.idx (.var 1) (.var 6)) (.cons (.idx (.var 0) (.var 6)) .nil))) .nil))) .nil))) .nil))
    .nil) [2, 3, 6]) .nil)
noncomputable def B_between_places : Ss := (.cons (.asg 3 (.call M_room [false, false] (.cons (.var 2) (.cons (.var 0) .nil))))
    (.cons (.asg 4 (.call M_over [false, false] (.cons (.var 3) (.cons (.call M_minus [false, false] (.cons (.var 3) (.cons (.call M_room [false, false] (.cons (.var 2) (.cons (.var 1) .nil))) .nil))) .nil))))
    (.cons (.asg 5 (.lst .nil))
    (.cons (.blk [2, 3, 6] (.cons (.sfor [6] (.sq (.tup (.cons (.con (.int 0)) (.cons (.con (.int 1)) .nil))))
      L1_between_places) .nil) [0, 1, 4])
    (.cons (.ret (.tup (.cons (.idx (.var 5) (.con (.int 0))) (.cons (.idx (.var 5) (.con (.int 1))) .nil))))
    .nil)))))
noncomputable def M_between_places : MF := mkM [false, false, false] 7 B_between_places
/- clipped(points, row): 0 points 1 row 2 found 3 one 4 other 5 place -/
noncomputable def L1_clipped : Ss := (.cons (.blk [] (.cons (.sif (.call M_keeps [false, false] (.cons (.var 1) (.cons (.var 3) .nil)))
      (.cons (.mth 2 .append (.cons (.var 3) .nil))
    .nil)
      .nil)
    (.cons (.blk [] (.cons (.sif (.cmp .ne (.call M_keeps [false, false] (.cons (.var 1) (.cons (.var 3) .nil))) (.call M_keeps [false, false] (.cons (.var 1) (.cons (.var 4) .nil))))
      (.cons (.asg 5 (.call M_between_places [false, false, false] (.cons (.var 3) (.cons (.var 4) (.cons (.var 1) .nil)))))
    (.cons (.mth 2 .append (.cons (.var 5) .nil))
    .nil))
      .nil) .nil) [5])
    .nil)) [3, 4, 5]) .nil)
noncomputable def B_clipped : Ss := (.cons (.asg 2 (.lst .nil))
    (.cons (.blk [3, 4, 5] (.cons (.sfor [3, 4] (.zp (.var 0) (.bin .add (.slc (.var 0) (.con (.int 1)) (.con .none)) (.slc (.var 0) (.con .none) (.con (.int 1)))))
      L1_clipped) .nil) [0, 1])
    (.cons (.ret (.call M_ring [false] (.cons (.call M_unlike [false] (.cons (.var 2) .nil)) .nil)))
    .nil)))
noncomputable def M_clipped : MF := mkM [false, false] 6 B_clipped
/- left_by(points, cuts): 0 points 1 cuts 2 some 3 row -/
noncomputable def L1_left_by : Ss := (.cons (.blk [] (.cons (.asg 0 (.call M_clipped [false, false] (.cons (.var 0) (.cons (.var 3) .nil))))
    .nil) [2, 3]) .nil)
noncomputable def B_left_by : Ss := (.cons (.blk [2, 3] (.cons (.sfor [2, 3] (.sq (.var 1))
      L1_left_by) .nil) [1])
    (.cons (.retv 0)
    .nil))
noncomputable def M_left_by : MF := mkM [false, false] 4 B_left_by
/- cuts_at(rows, place): 0 rows 1 place 2 found 3 one 4 other 5 a 6 b 7 mine 8 theirs 9 most -/
noncomputable def L1_cuts_at : Ss := (.cons (.blk [] (.cons (.unp [7, 8] (.call M_shares [false, false, false] (.cons (.idx (.var 0) (.var 3)) (.cons (.idx (.var 0) (.var 4)) (.cons (.tup (.cons (.var 5) (.cons (.var 6) .nil))) .nil)))))
    (.cons (.asg 9 (.call M_plus [false, false] (.cons (.call M_times [false, false] (.cons (.var 7) (.cons (.idx (.idx (.var 0) (.var 3)) (.con (.int 2))) .nil))) (.cons (.call M_times [false, false] (.cons (.var 8) (.cons (.idx (.idx (.var 0) (.var 4)) (.con (.int 2))) .nil))) .nil))))
    (.cons (.mth 2 .append (.cons (.tup (.cons (.tup (.cons (.tup (.cons (.var 3) (.cons (.var 7) .nil))) (.cons (.tup (.cons (.var 4) (.cons (.var 8) .nil))) .nil))) (.cons (.tup (.cons (.var 5) (.cons (.var 6) (.cons (.call M_floor_of [false] (.cons (.var 9) .nil)) .nil)))) .nil))) .nil))
    .nil))) [5, 6, 7, 8, 9]) .nil)
noncomputable def L2_cuts_at : Ss := (.cons (.blk [] (.cons (.blk [5, 6, 7, 8, 9] (.cons (.sfor [5, 6] (.sq (.call M_least_between [false, false] (.cons (.idx (.var 0) (.var 3)) (.cons (.idx (.var 0) (.var 4)) .nil))))
      L1_cuts_at) .nil) [3, 4])
    .nil) [3, 4, 5, 6, 7, 8, 9]) .nil)
noncomputable def B_cuts_at : Ss := (.cons (.asg 2 (.lst .nil))
    (.cons (.blk [3, 4, 5, 6, 7, 8, 9] (.cons (.sfor [3, 4] (.sq (.call M_neighbours [false, false] (.cons (.var 0) (.cons (.var 1) .nil))))
      L2_cuts_at) .nil) [0, 1])
    (.cons (.retv 2)
    .nil)))
noncomputable def M_cuts_at : MF := mkM [false, false] 10 B_cuts_at
/- cuts_of(rows, points): 0 rows 1 points 2 found 3 known 4 place 5 some 6 row -/
noncomputable def L1_cuts_of : Ss := (.cons (.blk [] (.cons (.sif (.cmp .notin (.var 6) (.var 3))
      (.cons (.sti 3 (.var 6) (.con (.bool true)))
    (.cons (.mth 2 .append (.cons (.tup (.cons (.var 5) (.cons (.var 6) .nil))) .nil))
    .nil))
      .nil)
    .nil) [5, 6]) .nil)
noncomputable def L2_cuts_of : Ss := (.cons (.blk [] (.cons (.blk [5, 6] (.cons (.sfor [5, 6] (.sq (.call M_cuts_at [false, false] (.cons (.var 0) (.cons (.var 4) .nil))))
      L1_cuts_of) .nil) [4])
    .nil) [4, 5, 6]) .nil)
noncomputable def B_cuts_of : Ss := (.cons (.asg 2 (.lst .nil))
    (.cons (.asg 3 .dct)
    (.cons (.blk [4, 5, 6] (.cons (.sfor [4] (.sq (.var 1))
      L2_cuts_of) .nil) [0, 1, 3])
    (.cons (.retv 2)
    .nil))))
noncomputable def M_cuts_of : MF := mkM [false, false] 7 B_cuts_of
/- round_corners(field): 0 field 1 points -/
noncomputable def B_round_corners : Ss := (.cons (.exp (.call M_need_field [false] (.cons (.var 0) .nil)))
    (.cons (.asg 1 (.call M_corners_of [false] (.cons (.var 0) .nil)))
    (.cons (.ret (.call M_left_by [false, false] (.cons (.var 1) (.cons (.call M_cuts_of [false, false] (.cons (.var 0) (.cons (.var 1) .nil))) .nil))))
    .nil)))
noncomputable def M_round_corners : MF := mkM [false] 2 B_round_corners
/- round_papers(field): 0 field 1 some 2 row -/
noncomputable def V1_round_papers : E := (.tup (.cons (.call M_weights_of [false, false] (.cons (.var 0) (.cons (.var 1) .nil))) (.cons (.var 2) .nil)))
noncomputable def B_round_papers : Ss := (.cons (.exp (.call M_need_field [false] (.cons (.var 0) .nil)))
    (.cons (.ret (.lc V1_round_papers [1, 2] (.sq (.call M_cuts_of [false, false] (.cons (.var 0) (.cons (.call M_corners_of [false] (.cons (.var 0) .nil)) .nil)))) (.con (.bool true)) [1, 2]))
    .nil))
noncomputable def M_round_papers : MF := mkM [false] 3 B_round_papers
/- _law_is_paper(_law_field_here, _law_thing): 0 _law_field_here 1 _law_thing 2 _law_one -/
noncomputable def C1_law_is_paper : E := (.or (.nt (.call M_law_is_fraction [false] (.cons (.var 2) .nil))) (.cmp .lt (.idx (.var 2) (.con (.int 0))) (.con (.int 0))))
noncomputable def B_law_is_paper : Ss := (.cons (.sif (.or (.nt (.isi (.var 1) ["tuple"])) (.or (.cmp .ne (.blt .len (.cons (.var 1) .nil)) (.con (.int 2))) (.nt (.isi (.idx (.var 1) (.con (.int 0))) ["tuple"]))))
      (.cons (.ret (.con (.bool false)))
    .nil)
      .nil)
    (.cons (.sif (.or (.cmp .ne (.blt .len (.cons (.idx (.var 1) (.con (.int 0))) .nil)) (.blt .len (.cons (.var 0) .nil))) (.cmp .ne (.lc (.var 2) [2] (.sq (.idx (.var 1) (.con (.int 0)))) C1_law_is_paper [2]) (.lst .nil)))
      (.cons (.ret (.con (.bool false)))
    .nil)
      .nil)
    (.cons (.ret (.and (.isi (.idx (.var 1) (.con (.int 1))) ["tuple"]) (.cmp .eq (.call M_law_cut [false, false] (.cons (.var 0) (.cons (.idx (.var 1) (.con (.int 0))) .nil))) (.idx (.var 1) (.con (.int 1))))))
    .nil)))
noncomputable def M_law_is_paper : MF := mkM [false, false] 3 B_law_is_paper
/- paper_against(field, place): 0 field 1 place 2 number 3 row 4 weights -/
noncomputable def L1_paper_against : Ss := (.cons (.blk [] (.cons (.sif (.nt (.call M_keeps [false, false] (.cons (.var 3) (.cons (.var 1) .nil))))
      (.cons (.blk [] (.cons (.ret (.tup (.cons (.var 4) (.cons (.var 3) .nil)))) .nil) [0, 1, 2, 3, 4])
    .nil)
      .nil)
    .nil) [2, 3, 4]) .nil)
noncomputable def L2_paper_against : Ss := (.cons (.blk [] (.cons (.sif (.nt (.call M_keeps [false, false] (.cons (.var 3) (.cons (.var 1) .nil))))
      (.cons (.blk [] (.cons (.ret (.tup (.cons (.call M_weights_of [false, false] (.cons (.var 0) (.cons (.lst (.cons (.tup (.cons (.var 2) (.cons (.tup (.cons (.con (.int 1)) (.cons (.con (.int 1)) .nil))) .nil))) .nil)) .nil))) (.cons (.var 3) .nil)))) .nil) [0, 1, 2, 3, 4])
    .nil)
      .nil)
    .nil) [2, 3, 4]) .nil)
noncomputable def B_paper_against : Ss := (.cons (.exp (.call M_need_field [false] (.cons (.var 0) .nil)))
    (.cons (.blk [2, 3, 4] (.cons (.sfor [2, 3] (.en (.var 0))
      L2_paper_against) .nil) [])
    (.cons (.blk [2, 3, 4] (.cons (.sfor [4, 3] (.sq (.call M_round_papers [false] (.cons (.var 0) .nil)))
      L1_paper_against) .nil) [0, 1])
    (.cons (.ret (.con .none))
    .nil))))
noncomputable def M_paper_against : MF := mkM [false, false] 5 B_paper_against
/- corner_paper(field, number): 0 field 1 number 2 places 3 place 4 some 5 cut -/
noncomputable def C1_corner_paper : E := (.nt (.call M_keeps [false, false] (.cons (.idx (.var 5) (.con (.int 1))) (.cons (.var 3) .nil))))
noncomputable def B_corner_paper : Ss := (.cons (.asg 2 (.call M_broken [false] (.cons (.var 0) .nil)))
    (.cons (.sif (.or (.nt (.call M_is_whole [false] (.cons (.var 1) .nil))) (.nt (.chn .le .lt (.con (.int 0)) (.var 1) (.blt .len (.cons (.var 2) .nil)))))
      (.cons (.rais (Str.ofString "NoCorner"))
    .nil)
      .nil)
    (.cons (.asg 3 (.idx (.var 2) (.var 1)))
    (.cons (.asg 4 (.lc (.var 5) [5] (.sq (.call M_cuts_at [false, false] (.cons (.var 0) (.cons (.var 3) .nil)))) C1_corner_paper [5]))
    (.cons (.ret (.tup (.cons (.call M_weights_of [false, false] (.cons (.var 0) (.cons (.idx (.idx (.var 4) (.con (.int 0))) (.con (.int 0))) .nil))) (.cons (.idx (.idx (.var 4) (.con (.int 0))) (.con (.int 1))) .nil))))
    .nil)))))
noncomputable def M_corner_paper : MF := mkM [false, false] 6 B_corner_paper
/- _law_box(_law_state_here): 0 _law_state_here 1 _law_rows 2 _law_a 3 _law_b 4 _law_many 5 _law_turn 6 _law_x 7 _law_y -/
noncomputable def L1_law_box : Ss := (.cons (.blk [] (.cons (.par [2, 3] (.cons (.bin .sub (.call M_law_take [true, false] (.cons (.var 0) (.cons (.con (.int 9)) .nil))) (.con (.int 4))) (.cons (.bin .sub (.call M_law_take [true, false] (.cons (.var 0) (.cons (.con (.int 9)) .nil))) (.con (.int 4))) .nil)))
    (.cons (.sif (.and (.cmp .eq (.var 2) (.con (.int 0))) (.cmp .eq (.var 3) (.con (.int 0))))
      (.cons (.asg 2 (.con (.int 3)))
    .nil)
      .nil)
    (.cons (.par [6, 7] (.cons (.bin .sub (.call M_law_take [true, false] (.cons (.var 0) (.cons (.con (.int 5)) .nil))) (.con (.int 2))) (.cons (.bin .sub (.call M_law_take [true, false] (.cons (.var 0) (.cons (.con (.int 5)) .nil))) (.con (.int 2))) .nil)))
    (.cons (.mth 1 .insert (.cons (.call M_law_take [true, false] (.cons (.var 0) (.cons (.bin .add (.blt .len (.cons (.var 1) .nil)) (.con (.int 1))) .nil))) (.cons (.tup (.cons (.var 2) (.cons (.var 3) (.cons (.bin .sub (.bin .add (.bin .add (.bin .mul (.var 2) (.var 6)) (.bin .mul (.var 3) (.var 7))) (.call M_law_take [true, false] (.cons (.var 0) (.cons (.con (.int 4)) .nil)))) (.con (.int 1))) .nil)))) .nil)))
    .nil)))) [2, 3, 4, 5, 6, 7]) .nil)
noncomputable def L2_law_box : Ss := (.cons (.blk [] (.cons (.asg 4 (.bin .add (.con (.int 1)) (.call M_law_take [true, false] (.cons (.var 0) (.cons (.con (.int 4)) .nil)))))
    (.cons (.mth 1 .append (.cons (.tup (.cons (.bin .mul (.var 2) (.var 4)) (.cons (.bin .mul (.var 3) (.var 4)) (.cons (.call M_law_take [true, false] (.cons (.var 0) (.cons (.bin .add (.bin .mul (.con (.int 3)) (.var 4)) (.con (.int 1))) .nil))) .nil)))) .nil))
    .nil)) [2, 3, 4, 5, 6, 7]) .nil)
noncomputable def B_law_box : Ss := (.cons (.asg 1 (.lst .nil))
    (.cons (.blk [2, 3, 4, 5, 6, 7] (.cons (.sfor [2, 3] (.sq (.lst (.cons (.tup (.cons (.con (.int 1)) (.cons (.con (.int 0)) .nil))) (.cons (.tup (.cons (.neg (.con (.int 1))) (.cons (.con (.int 0)) .nil))) (.cons (.tup (.cons (.con (.int 0)) (.cons (.con (.int 1)) .nil))) (.cons (.tup (.cons (.con (.int 0)) (.cons (.neg (.con (.int 1))) .nil))) .nil))))))
      L2_law_box) .nil) [])
    (.cons (.blk [2, 3, 4, 5, 6, 7] (.cons (.sfor [5] (.rg (.call M_law_take [true, false] (.cons (.var 0) (.cons (.con (.int 4)) .nil))))
      L1_law_box) .nil) [])
    (.cons (.retv 1)
    .nil))))
noncomputable def M_law_box : MF := mkM [true] 8 B_law_box
/- _law_spike(_law_state_here): 0 _law_state_here 1 _law_long 2 _law_rows -/
noncomputable def B_law_spike : Ss := (.cons (.asg 1 (.bin .add (.con (.int 1)) (.call M_law_take [true, false] (.cons (.var 0) (.cons (.con (.int 4)) .nil)))))
    (.cons (.asg 2 (.lst (.cons (.tup (.cons (.neg (.con (.int 1))) (.cons (.con (.int 0)) (.cons (.con (.int 0)) .nil)))) (.cons (.tup (.cons (.con (.int 1)) (.cons (.bin .mul (.neg (.con (.int 2))) (.var 1)) (.cons (.con (.int 0)) .nil)))) (.cons (.tup (.cons (.con (.int 1)) (.cons (.bin .mul (.con (.int 2)) (.var 1)) (.cons (.bin .mul (.con (.int 2)) (.var 1)) .nil)))) .nil)))))
    (.cons (.sif (.cmp .eq (.call M_law_take [true, false] (.cons (.var 0) (.cons (.con (.int 2)) .nil))) (.con (.int 1)))
      (.cons (.mth 2 .append (.cons (.tup (.cons (.call M_law_take [true, false] (.cons (.var 0) (.cons (.con (.int 3)) .nil))) (.cons (.bin .add (.con (.int 1)) (.call M_law_take [true, false] (.cons (.var 0) (.cons (.con (.int 2)) .nil)))) (.cons (.bin .add (.con (.int 1)) (.call M_law_take [true, false] (.cons (.var 0) (.cons (.con (.int 4)) .nil)))) .nil)))) .nil))
    .nil)
      .nil)
    (.cons (.retv 2)
    .nil))))
noncomputable def M_law_spike : MF := mkM [true] 3 B_law_spike
/- _law_most(_law_rows): 0 _law_rows 1 _law_row -/
noncomputable def V1_law_most : E := (.blt .max2 (.cons (.blt .abs (.cons (.idx (.var 1) (.con (.int 0))) .nil)) (.cons (.blt .abs (.cons (.idx (.var 1) (.con (.int 1))) .nil)) .nil)))
noncomputable def B_law_most : Ss := (.cons (.ret (.blt .max1 (.cons (.lc V1_law_most [1] (.sq (.var 0)) (.con (.bool true)) [1]) .nil)))
    .nil)
noncomputable def M_law_most : MF := mkM [false] 2 B_law_most
/- _law_whole_place(_law_place): 0 _law_place -/
noncomputable def B_law_whole_place : Ss := (.cons (.ret (.and (.cmp .eq (.idx (.idx (.var 0) (.con (.int 0))) (.con (.int 1))) (.con (.int 1))) (.cmp .eq (.idx (.idx (.var 0) (.con (.int 1))) (.con (.int 1))) (.con (.int 1)))))
    .nil)
noncomputable def M_law_whole_place : MF := mkM [false] 1 B_law_whole_place
/- _law_rounds(_law_field_here): 0 _law_field_here 1 _law_found 2 _law_place -/
noncomputable def C1_law_rounds : E := (.nt (.call M_law_whole_place [false] (.cons (.var 2) .nil)))
noncomputable def L1_law_rounds : Ss := (.cons (.blk [] (.cons (.mth 1 .append (.cons (.call M_law_round [false, false] (.cons (.idx (.var 1) (.neg (.con (.int 1)))) (.cons (.call M_law_most [false] (.cons (.var 0) .nil)) .nil))) .nil))
    .nil) [2]) .nil)
noncomputable def B_law_rounds : Ss := (.cons (.asg 1 (.lst (.cons (.call M_law_corners [false] (.cons (.var 0) .nil)) .nil)))
    (.cons (.blk [2] (.cons (.whl (.cmp .ne (.lc (.var 2) [2] (.sq (.idx (.var 1) (.neg (.con (.int 1))))) C1_law_rounds [2]) (.lst .nil))
      L1_law_rounds) .nil) [0])
    (.cons (.retv 1)
    .nil)))
noncomputable def M_law_rounds : MF := mkM [false] 3 B_law_rounds
/- is_done(points): 0 points 1 place -/
noncomputable def V1_is_done : E := (.call M_is_whole_place [false] (.cons (.var 1) .nil))
noncomputable def B_is_done : Ss := (.cons (.ret (.blt .all (.cons (.lc V1_is_done [1] (.sq (.var 0)) (.con (.bool true)) [1]) .nil)))
    .nil)
noncomputable def M_is_done : MF := mkM [false] 2 B_is_done
/- next_rows(rows, points): 0 rows 1 points 2 cuts 3 left 4 found 5 row 6 some 7 place -/
noncomputable def V1_next_rows : E := (.call M_is_tight [false, false] (.cons (.var 5) (.cons (.var 7) .nil)))
noncomputable def L1_next_rows : Ss := (.cons (.blk [] (.cons (.sif (.and (.cmp .notin (.var 5) (.var 4)) (.blt .any (.cons (.lc V1_next_rows [7] (.sq (.var 3)) (.con (.bool true)) [7]) .nil)))
      (.cons (.mth 4 .append (.cons (.var 5) .nil))
    .nil)
      .nil)
    .nil) [1, 5, 6, 7]) .nil)
noncomputable def B_next_rows : Ss := (.cons (.asg 2 (.call M_cuts_of [false, false] (.cons (.var 0) (.cons (.var 1) .nil))))
    (.cons (.asg 3 (.call M_left_by [false, false] (.cons (.var 1) (.cons (.var 2) .nil))))
    (.cons (.asg 4 (.lst .nil))
    (.cons (.blk [1, 5, 6, 7] (.cons (.sfor [5] (.sq (.bin .add (.blt .list (.cons (.var 0) .nil)) (.lc (.var 5) [6, 5] (.sq (.var 2)) (.con (.bool true)) [6, 5])))
      L1_next_rows) .nil) [0, 2])
    (.cons (.ret (.tup (.cons (.var 4) (.cons (.var 3) .nil))))
    .nil)))))
noncomputable def M_next_rows : MF := mkM [false, false] 8 B_next_rows
/- levels(field): 0 field 1 rows 2 points 3 found -/
noncomputable def L1_levels : Ss := (.cons (.blk [] (.cons (.unp [1, 2] (.call M_next_rows [false, false] (.cons (.var 1) (.cons (.var 2) .nil))))
    (.cons (.mth 3 .append (.cons (.tup (.cons (.var 1) (.cons (.var 2) .nil))) .nil))
    .nil)) [0]) .nil)
noncomputable def B_levels : Ss := (.cons (.par [1, 2] (.cons (.blt .list (.cons (.var 0) .nil)) (.cons (.call M_corners_of [false] (.cons (.var 0) .nil)) .nil)))
    (.cons (.asg 3 (.lst (.cons (.tup (.cons (.var 1) (.cons (.var 2) .nil))) .nil)))
    (.cons (.blk [0] (.cons (.whl (.nt (.call M_is_done [false] (.cons (.var 2) .nil)))
      L1_levels) .nil) [1, 2])
    (.cons (.retv 3)
    .nil))))
noncomputable def M_levels : MF := mkM [false] 4 B_levels
/- all_rounds(field): 0 field 1 rows 2 points -/
noncomputable def B_all_rounds : Ss := (.cons (.exp (.call M_need_field [false] (.cons (.var 0) .nil)))
    (.cons (.ret (.lc (.blt .list (.cons (.var 2) .nil)) [1, 2] (.sq (.call M_levels [false] (.cons (.var 0) .nil))) (.con (.bool true)) [1, 2]))
    .nil))
noncomputable def M_all_rounds : MF := mkM [false] 3 B_all_rounds
/- behind(field, many): 0 field 1 many 2 rows 3 points 4 gone -/
noncomputable def L1_behind : Ss := (.cons (.blk [] (.cons (.sif (.nt (.call M_is_done [false] (.cons (.var 3) .nil)))
      (.cons (.unp [2, 3] (.call M_next_rows [false, false] (.cons (.var 2) (.cons (.var 3) .nil))))
    .nil)
      .nil)
    .nil) [0, 4]) .nil)
noncomputable def B_behind : Ss := (.cons (.exp (.call M_need_field [false] (.cons (.var 0) .nil)))
    (.cons (.sif (.or (.nt (.call M_is_whole [false] (.cons (.var 1) .nil))) (.nt (.chn .le .le (.con (.int 0)) (.var 1) (.con (.int 40)))))
      (.cons (.rais (Str.ofString "NoNumber"))
    .nil)
      .nil)
    (.cons (.par [2, 3] (.cons (.blt .list (.cons (.var 0) .nil)) (.cons (.call M_corners_of [false] (.cons (.var 0) .nil)) .nil)))
    (.cons (.blk [0, 4] (.cons (.sfor [4] (.rg (.var 1))
      L1_behind) .nil) [1, 2])
    (.cons (.ret (.blt .list (.cons (.var 3) .nil)))
    .nil)))))
noncomputable def M_behind : MF := mkM [false, false] 5 B_behind
/- _law_whole_places(_law_rows): 0 _law_rows 1 _law_found 2 _law_x 3 _law_y 4 _law_row -/
noncomputable def C1_law_whole_places : E := (.cmp .gt (.bin .add (.bin .mul (.idx (.var 4) (.con (.int 0))) (.var 2)) (.bin .mul (.idx (.var 4) (.con (.int 1))) (.var 3))) (.idx (.var 4) (.con (.int 2))))
noncomputable def L1_law_whole_places : Ss := (.cons (.blk [] (.cons (.sif (.cmp .eq (.lc (.var 4) [4] (.sq (.var 0)) C1_law_whole_places [4]) (.lst .nil))
      (.cons (.mth 1 .append (.cons (.tup (.cons (.tup (.cons (.var 2) (.cons (.con (.int 1)) .nil))) (.cons (.tup (.cons (.var 3) (.cons (.con (.int 1)) .nil))) .nil))) .nil))
    .nil)
      .nil)
    .nil) [3, 4]) .nil)
noncomputable def L2_law_whole_places : Ss := (.cons (.blk [] (.cons (.blk [3, 4] (.cons (.sfor [3] (.rg2 (.neg (.con (.int 12))) (.con (.int 13)))
      L1_law_whole_places) .nil) [2])
    .nil) [2, 3, 4]) .nil)
noncomputable def B_law_whole_places : Ss := (.cons (.asg 1 (.lst .nil))
    (.cons (.blk [2, 3, 4] (.cons (.sfor [2] (.rg2 (.neg (.con (.int 12))) (.con (.int 13)))
      L2_law_whole_places) .nil) [0])
    (.cons (.retv 1)
    .nil)))
noncomputable def M_law_whole_places : MF := mkM [false] 5 B_law_whole_places
/- keeps_all(rows, place): 0 rows 1 place 2 row -/
noncomputable def V1_keeps_all : E := (.call M_keeps [false, false] (.cons (.var 2) (.cons (.var 1) .nil)))
noncomputable def B_keeps_all : Ss := (.cons (.ret (.blt .all (.cons (.lc V1_keeps_all [2] (.sq (.var 0)) (.con (.bool true)) [2]) .nil)))
    .nil)
noncomputable def M_keeps_all : MF := mkM [false, false] 3 B_keeps_all
/- whole_places(field): 0 field 1 found 2 x 3 some 4 y 5 place -/
noncomputable def C1_whole_places : E := (.call M_keeps_all [false, false] (.cons (.var 0) (.cons (.var 5) .nil)))
noncomputable def V1_whole_places : E := (.tup (.cons (.tup (.cons (.var 2) (.cons (.con (.int 1)) .nil))) (.cons (.tup (.cons (.var 4) (.cons (.con (.int 1)) .nil))) .nil)))
noncomputable def L1_whole_places : Ss := (.cons (.blk [] (.cons (.asg 3 (.lc V1_whole_places [4] (.rg2 (.bin .sub (.con (.int 0)) (.con (.int 12))) (.bin .add (.con (.int 12)) (.con (.int 1)))) (.con (.bool true)) [4]))
    (.cons (.mth 1 .extend (.cons (.lc (.var 5) [5] (.sq (.var 3)) C1_whole_places [5]) .nil))
    .nil)) [2, 3, 4, 5]) .nil)
noncomputable def B_whole_places : Ss := (.cons (.exp (.call M_need_field [false] (.cons (.var 0) .nil)))
    (.cons (.asg 1 (.lst .nil))
    (.cons (.blk [2, 3, 4, 5] (.cons (.sfor [2] (.rg2 (.bin .sub (.con (.int 0)) (.con (.int 12))) (.bin .add (.con (.int 12)) (.con (.int 1))))
      L1_whole_places) .nil) [0])
    (.cons (.retv 1)
    .nil))))
noncomputable def M_whole_places : MF := mkM [false] 6 B_whole_places
/- half_ring(places): 0 places 1 found 2 place -/
noncomputable def L1_half_ring : Ss := (.cons (.blk [] (.cons (.whl (.and (.cmp .gt (.blt .len (.cons (.var 1) .nil)) (.con (.int 1))) (.nt (.call M_is_left [false, false, false] (.cons (.idx (.var 1) (.neg (.con (.int 2)))) (.cons (.idx (.var 1) (.neg (.con (.int 1)))) (.cons (.var 2) .nil))))))
      (.cons (.mth 1 .pop .nil)
    .nil))
    (.cons (.mth 1 .append (.cons (.var 2) .nil))
    .nil)) [2]) .nil)
noncomputable def B_half_ring : Ss := (.cons (.asg 1 (.lst .nil))
    (.cons (.blk [2] (.cons (.sfor [2] (.sq (.var 0))
      L1_half_ring) .nil) [0])
    (.cons (.retv 1)
    .nil)))
noncomputable def M_half_ring : MF := mkM [false] 3 B_half_ring
/- hull(field): 0 field 1 places -/
noncomputable def B_hull : Ss := (.cons (.asg 1 (.call M_whole_places [false] (.cons (.var 0) .nil)))
    (.cons (.sif (.cmp .lt (.blt .len (.cons (.var 1) .nil)) (.con (.int 2)))
      (.cons (.retv 1)
    .nil)
      .nil)
    (.cons (.ret (.bin .add (.slc (.call M_half_ring [false] (.cons (.var 1) .nil)) (.con .none) (.neg (.con (.int 1)))) (.slc (.call M_half_ring [false] (.cons (.rvs (.var 1)) .nil)) (.con .none) (.neg (.con (.int 1))))))
    .nil)))
noncomputable def M_hull : MF := mkM [false] 2 B_hull
/- _law_wanted(_law_state_here, _law_field_here, _law_rounds_here): 0 _law_state_here 1 _law_field_here 2 _law_rounds_here 3 _law_a 4 _law_b 5 _law_places 6 _law_c 7 _law_top -/
noncomputable def B_law_wanted : Ss := (.cons (.par [3, 4] (.cons (.bin .sub (.call M_law_take [true, false] (.cons (.var 0) (.cons (.con (.int 9)) .nil))) (.con (.int 4))) (.cons (.bin .sub (.call M_law_take [true, false] (.cons (.var 0) (.cons (.con (.int 9)) .nil))) (.con (.int 4))) .nil)))
    (.cons (.sif (.and (.cmp .eq (.var 3) (.con (.int 0))) (.cmp .eq (.var 4) (.con (.int 0))))
      (.cons (.asg 4 (.neg (.con (.int 2))))
    .nil)
      .nil)
    (.cons (.asg 5 (.idx (.var 2) (.call M_law_take [true, false] (.cons (.var 0) (.cons (.blt .len (.cons (.var 2) .nil)) .nil)))))
    (.cons (.asg 6 (.bin .sub (.call M_law_take [true, false] (.cons (.var 0) (.cons (.con (.int 15)) .nil))) (.con (.int 7))))
    (.cons (.blk [] (.cons (.sif (.and (.cmp .ne (.var 5) (.lst .nil)) (.cmp .gt (.call M_law_take [true, false] (.cons (.var 0) (.cons (.con (.int 4)) .nil))) (.con (.int 0))))
      (.cons (.asg 7 (.call M_law_greatest [false, false, false] (.cons (.var 5) (.cons (.var 3) (.cons (.var 4) .nil)))))
    (.cons (.asg 6 (.bin .add (.bin .fdiv (.idx (.var 7) (.con (.int 0))) (.idx (.var 7) (.con (.int 1)))) (.idx (.lst (.cons (.con (.int 0)) (.cons (.con (.int 0)) (.cons (.con (.int 1)) (.cons (.neg (.con (.int 1))) .nil))))) (.call M_law_take [true, false] (.cons (.var 0) (.cons (.con (.int 4)) .nil))))))
    .nil))
      .nil) .nil) [7])
    (.cons (.ret (.tup (.cons (.var 3) (.cons (.var 4) (.cons (.var 6) .nil)))))
    .nil))))))
noncomputable def M_law_wanted : MF := mkM [true, false, false] 8 B_law_wanted
/- _law_depth(_law_rounds_here, _law_row): 0 _law_rounds_here 1 _law_row 2 _law_number 3 _law_places -/
noncomputable def L1_law_depth : Ss := (.cons (.blk [] (.cons (.sif (.or (.cmp .eq (.var 3) (.lst .nil)) (.nt (.call M_law_less [false, false] (.cons (.tup (.cons (.idx (.var 1) (.con (.int 2))) (.cons (.con (.int 1)) .nil))) (.cons (.call M_law_greatest [false, false, false] (.cons (.var 3) (.cons (.idx (.var 1) (.con (.int 0))) (.cons (.idx (.var 1) (.con (.int 1))) .nil)))) .nil)))))
      (.cons (.blk [] (.cons (.retv 2) .nil) [0, 1, 2, 3])
    .nil)
      .nil)
    .nil) [2, 3]) .nil)
noncomputable def B_law_depth : Ss := (.cons (.blk [2, 3] (.cons (.sfor [2, 3] (.en (.var 0))
      L1_law_depth) .nil) [0, 1])
    (.cons (.ret (.con .none))
    .nil))
noncomputable def M_law_depth : MF := mkM [false, false] 4 B_law_depth
/- line_by(rows, places, some, row): 0 rows 1 places 2 some 3 row 4 number 5 weight -/
noncomputable def V1_line_by : E := (.tup (.cons (.idx (.var 1) (.var 4)) (.cons (.var 5) .nil)))
noncomputable def B_line_by : Ss := (.cons (.ret (.tup (.cons (.call M_weights_of [false, false] (.cons (.var 0) (.cons (.lc V1_line_by [4, 5] (.sq (.var 2)) (.con (.bool true)) [4, 5]) .nil))) (.cons (.var 3) .nil))))
    .nil)
noncomputable def M_line_by : MF := mkM [false, false, false, false] 6 B_line_by
/- are_numbers(thing): 0 thing 1 one -/
noncomputable def V1_are_numbers : E := (.call M_is_whole [false] (.cons (.var 1) .nil))
noncomputable def B_are_numbers : Ss := (.cons (.ret (.and (.isi (.var 0) ["tuple"]) (.and (.cmp .eq (.blt .len (.cons (.var 0) .nil)) (.con (.int 3))) (.blt .all (.cons (.lc V1_are_numbers [1] (.sq (.var 0)) (.con (.bool true)) [1]) .nil)))))
    .nil)
noncomputable def M_are_numbers : MF := mkM [false] 2 B_are_numbers
/- line_depth(rows, depths, line): 0 rows 1 depths 2 line 3 a 4 b 5 c 6 used 7 depth 8 weight -/
noncomputable def C1_line_depth : E := (.cmp .ne (.var 8) (.con (.tuple [(.int 0), (.int 1)])))
noncomputable def B_line_depth : Ss := (.cons (.sif (.or (.nt (.isi (.var 2) ["tuple"])) (.or (.cmp .ne (.blt .len (.cons (.var 2) .nil)) (.con (.int 2))) (.or (.nt (.call M_are_weights [false, false] (.cons (.var 0) (.cons (.idx (.var 2) (.con (.int 0))) .nil)))) (.nt (.call M_are_numbers [false] (.cons (.idx (.var 2) (.con (.int 1))) .nil))))))
      (.cons (.ret (.con .none))
    .nil)
      .nil)
    (.cons (.unp [3, 4, 5] (.call M_summed [false, false] (.cons (.var 0) (.cons (.idx (.var 2) (.con (.int 0))) .nil))))
    (.cons (.sif (.or (.cmp .ne (.var 3) (.tup (.cons (.idx (.idx (.var 2) (.con (.int 1))) (.con (.int 0))) (.cons (.con (.int 1)) .nil)))) (.or (.cmp .ne (.var 4) (.tup (.cons (.idx (.idx (.var 2) (.con (.int 1))) (.con (.int 1))) (.cons (.con (.int 1)) .nil)))) (.cmp .gt (.call M_floor_of [false] (.cons (.var 5) .nil)) (.idx (.idx (.var 2) (.con (.int 1))) (.con (.int 2))))))
      (.cons (.ret (.con .none))
    .nil)
      .nil)
    (.cons (.asg 6 (.lc (.var 7) [7, 8] (.zp (.var 1) (.idx (.var 2) (.con (.int 0)))) C1_line_depth [7, 8]))
    (.cons (.ret (.bin .add (.blt .max1 (.cons (.bin .add (.lst (.cons (.con (.int 0)) .nil)) (.var 6)) .nil)) (.blt .int (.cons (.call M_is_less [false, false] (.cons (.tup (.cons (.idx (.idx (.var 2) (.con (.int 1))) (.con (.int 2))) (.cons (.con (.int 1)) .nil))) (.cons (.var 5) .nil))) .nil))))
    .nil)))))
noncomputable def M_line_depth : MF := mkM [false, false, false] 9 B_line_depth
/- way_shows(field, thing): 0 field 1 thing 2 rows 3 depths 4 line 5 depth -/
noncomputable def L1_way_shows : Ss := (.cons (.blk [] (.cons (.asg 5 (.call M_line_depth [false, false, false] (.cons (.var 2) (.cons (.var 3) (.cons (.var 4) .nil)))))
    (.cons (.sif (.cmp .is (.var 5) (.con .none))
      (.cons (.blk [] (.cons (.ret (.con .none)) .nil) [0, 1, 2, 3, 4, 5])
    .nil)
      .nil)
    (.cons (.mth 2 .append (.cons (.idx (.var 4) (.con (.int 1))) .nil))
    (.cons (.mth 3 .append (.cons (.var 5) .nil))
    .nil)))) [0, 4, 5]) .nil)
noncomputable def B_way_shows : Ss := (.cons (.exp (.call M_need_field [false] (.cons (.var 0) .nil)))
    (.cons (.sif (.or (.nt (.isi (.var 1) ["list"])) (.nt (.chn .le .le (.con (.int 1)) (.blt .len (.cons (.var 1) .nil)) (.con (.int 2000)))))
      (.cons (.ret (.con .none))
    .nil)
      .nil)
    (.cons (.asg 2 (.blt .list (.cons (.var 0) .nil)))
    (.cons (.asg 3 (.bin .mul (.lst (.cons (.con (.int 0)) .nil)) (.blt .len (.cons (.var 0) .nil))))
    (.cons (.blk [0, 4, 5] (.cons (.sfor [4] (.sq (.var 1))
      L1_way_shows) .nil) [1])
    (.cons (.ret (.tup (.cons (.idx (.var 2) (.neg (.con (.int 1)))) (.cons (.idx (.var 3) (.neg (.con (.int 1)))) .nil))))
    .nil))))))
noncomputable def M_way_shows : MF := mkM [false, false] 6 B_way_shows
/- _law_line(_law_rows, _law_depths, _law_line_here): 0 _law_rows 1 _law_depths 2 _law_line_here 3 _law_weight 4 _law_one 5 _law_sums 6 _law_row 7 _law_k 8 _law_a 9 _law_b 10 _law_c 11 _law_most_here 12 _law_depth -/
noncomputable def C1_law_line : E := (.cmp .gt (.idx (.var 3) (.con (.int 0))) (.con (.int 0)))
noncomputable def V1_law_line : E := (.call M_law_plus [false, false] (.cons (.idx (.var 5) (.var 7)) (.cons (.call M_law_times [false, false] (.cons (.var 3) (.cons (.tup (.cons (.idx (.var 6) (.var 7)) (.cons (.con (.int 1)) .nil))) .nil))) .nil)))
noncomputable def L1_law_line : Ss := (.cons (.blk [] (.cons (.asg 5 (.lc V1_law_line [7] (.rg (.con (.int 3))) (.con (.bool true)) [7]))
    .nil) [3, 4, 6, 7, 8, 9, 10, 11, 12]) .nil)
noncomputable def V2_law_line : E := (.call M_law_whole [false] (.cons (.var 4) .nil))
noncomputable def L2_law_line : Ss := (.cons (.blk [] (.cons (.sif (.or (.nt (.call M_law_is_fraction [false] (.cons (.var 3) .nil))) (.cmp .lt (.idx (.var 3) (.con (.int 0))) (.con (.int 0))))
      (.cons (.blk [] (.cons (.ret (.con .none)) .nil) [0, 1, 2, 3, 4, 5, 6, 7, 8, 9, 10, 11, 12])
    .nil)
      .nil)
    .nil) [3, 4, 5, 6, 7, 8, 9, 10, 11, 12]) .nil)
noncomputable def B_law_line : Ss := (.cons (.sif (.or (.nt (.isi (.var 2) ["tuple"])) (.or (.cmp .ne (.blt .len (.cons (.var 2) .nil)) (.con (.int 2))) (.or (.nt (.isi (.idx (.var 2) (.con (.int 0))) ["tuple"])) (.cmp .ne (.blt .len (.cons (.idx (.var 2) (.con (.int 0))) .nil)) (.blt .len (.cons (.var 0) .nil))))))
      (.cons (.ret (.con .none))
    .nil)
      .nil)
    (.cons (.blk [3, 4, 5, 6, 7, 8, 9, 10, 11, 12] (.cons (.sfor [3] (.sq (.idx (.var 2) (.con (.int 0))))
      L2_law_line) .nil) [])
    (.cons (.sif (.or (.nt (.isi (.idx (.var 2) (.con (.int 1))) ["tuple"])) (.or (.cmp .ne (.blt .len (.cons (.idx (.var 2) (.con (.int 1))) .nil)) (.con (.int 3))) (.nt (.blt .all (.cons (.lc V2_law_line [4] (.sq (.idx (.var 2) (.con (.int 1)))) (.con (.bool true)) [4]) .nil)))))
      (.cons (.ret (.con .none))
    .nil)
      .nil)
    (.cons (.asg 5 (.lst (.cons (.tup (.cons (.con (.int 0)) (.cons (.con (.int 1)) .nil))) (.cons (.tup (.cons (.con (.int 0)) (.cons (.con (.int 1)) .nil))) (.cons (.tup (.cons (.con (.int 0)) (.cons (.con (.int 1)) .nil))) .nil)))))
    (.cons (.blk [3, 4, 6, 7, 8, 9, 10, 11, 12] (.cons (.sfor [6, 3] (.zp (.var 0) (.idx (.var 2) (.con (.int 0))))
      L1_law_line) .nil) [0])
    (.cons (.unp [8, 9, 10] (.idx (.var 2) (.con (.int 1))))
    (.cons (.sif (.or (.cmp .ne (.idx (.var 5) (.con (.int 0))) (.tup (.cons (.var 8) (.cons (.con (.int 1)) .nil)))) (.or (.cmp .ne (.idx (.var 5) (.con (.int 1))) (.tup (.cons (.var 9) (.cons (.con (.int 1)) .nil)))) (.cmp .gt (.bin .fdiv (.idx (.idx (.var 5) (.con (.int 2))) (.con (.int 0))) (.idx (.idx (.var 5) (.con (.int 2))) (.con (.int 1)))) (.var 10))))
      (.cons (.ret (.con .none))
    .nil)
      .nil)
    (.cons (.asg 11 (.blt .max1 (.cons (.bin .add (.lst (.cons (.con (.int 0)) .nil)) (.lc (.var 12) [12, 3] (.zp (.var 1) (.idx (.var 2) (.con (.int 0)))) C1_law_line [12, 3])) .nil)))
    (.cons (.ret (.bin .add (.var 11) (.blt .int (.cons (.call M_law_less [false, false] (.cons (.tup (.cons (.var 10) (.cons (.con (.int 1)) .nil))) (.cons (.idx (.var 5) (.con (.int 2))) .nil))) .nil))))
    .nil)))))))))
noncomputable def M_law_line : MF := mkM [false, false, false] 13 B_law_line
/- _law_shown(_law_field_here, _law_thing): 0 _law_field_here 1 _law_thing 2 _law_rows 3 _law_depths 4 _law_line_here 5 _law_depth -/
noncomputable def L1_law_shown : Ss := (.cons (.blk [] (.cons (.asg 5 (.call M_law_line [false, false, false] (.cons (.var 2) (.cons (.var 3) (.cons (.var 4) .nil)))))
    (.cons (.sif (.cmp .is (.var 5) (.con .none))
      (.cons (.blk [] (.cons (.ret (.con .none)) .nil) [0, 1, 2, 3, 4, 5])
    .nil)
      .nil)
    (.cons (.mth 2 .append (.cons (.idx (.var 4) (.con (.int 1))) .nil))
    (.cons (.mth 3 .append (.cons (.var 5) .nil))
    .nil)))) [0, 4, 5]) .nil)
noncomputable def B_law_shown : Ss := (.cons (.sif (.or (.nt (.isi (.var 1) ["list"])) (.nt (.chn .le .le (.con (.int 1)) (.blt .len (.cons (.var 1) .nil)) (.con (.int 2000)))))
      (.cons (.ret (.con .none))
    .nil)
      .nil)
    (.cons (.asg 2 (.blt .list (.cons (.var 0) .nil)))
    (.cons (.asg 3 (.bin .mul (.lst (.cons (.con (.int 0)) .nil)) (.blt .len (.cons (.var 0) .nil))))
    (.cons (.blk [0, 4, 5] (.cons (.sfor [4] (.sq (.var 1))
      L1_law_shown) .nil) [1])
    (.cons (.ret (.tup (.cons (.idx (.var 2) (.neg (.con (.int 1)))) (.cons (.idx (.var 3) (.neg (.con (.int 1)))) .nil))))
    .nil)))))
noncomputable def M_law_shown : MF := mkM [false, false] 6 B_law_shown
/- _law_bare(_law_state_here): 0 _law_state_here 1 _law_field_here 2 _law_way 3 _law_a 4 _law_b 5 _law_c -/
noncomputable def B_law_bare : Ss := (.cons (.asg 1 (.call M_law_field [true] (.cons (.var 0) .nil)))
    (.cons (.asg 2 (.call M_law_take [true, false] (.cons (.var 0) (.cons (.con (.int 5)) .nil))))
    (.cons (.blk [] (.cons (.sif (.and (.cmp .lt (.var 2) (.con (.int 2))) (.cmp .lt (.blt .len (.cons (.var 1) .nil)) (.con (.int 7))))
      (.cons (.par [3, 4] (.cons (.bin .add (.con (.int 1)) (.call M_law_take [true, false] (.cons (.var 0) (.cons (.con (.int 3)) .nil)))) (.cons (.bin .sub (.call M_law_take [true, false] (.cons (.var 0) (.cons (.con (.int 5)) .nil))) (.con (.int 2))) .nil)))
    (.cons (.asg 5 (.bin .sub (.call M_law_take [true, false] (.cons (.var 0) (.cons (.con (.int 9)) .nil))) (.con (.int 4))))
    (.cons (.asg 1 (.bin .add (.var 1) (.tup (.cons (.tup (.cons (.bin .mul (.con (.int 3)) (.var 3)) (.cons (.bin .mul (.con (.int 3)) (.var 4)) (.cons (.bin .add (.bin .mul (.con (.int 3)) (.var 5)) (.con (.int 2))) .nil)))) (.cons (.tup (.cons (.bin .mul (.neg (.con (.int 3))) (.var 3)) (.cons (.bin .mul (.neg (.con (.int 3))) (.var 4)) (.cons (.bin .sub (.neg (.con (.int 1))) (.bin .mul (.con (.int 3)) (.var 5))) .nil)))) .nil)))))
    .nil)))
      .nil) .nil) [3, 4, 5])
    (.cons (.blk [] (.cons (.sif (.cmp .eq (.var 2) (.con (.int 2)))
      (.cons (.par [3, 4] (.cons (.bin .sub (.call M_law_take [true, false] (.cons (.var 0) (.cons (.con (.int 5)) .nil))) (.con (.int 2))) (.cons (.bin .add (.con (.int 1)) (.call M_law_take [true, false] (.cons (.var 0) (.cons (.con (.int 3)) .nil)))) .nil)))
    (.cons (.asg 1 (.bin .add (.var 1) (.tup (.cons (.tup (.cons (.var 3) (.cons (.var 4) (.cons (.bin .sub (.bin .sub (.con (.int 0)) (.con (.int 7))) (.call M_law_take [true, false] (.cons (.var 0) (.cons (.con (.int 20)) .nil)))) .nil)))) .nil))))
    .nil))
      .nil) .nil) [3, 4])
    (.cons (.retv 1)
    .nil)))))
noncomputable def M_law_bare : MF := mkM [true] 6 B_law_bare
/- opposed(rows, one, other): 0 rows 1 one 2 other 3 a 4 b 5 d 6 e -/
noncomputable def B_opposed : Ss := (.cons (.unp [3, 4] (.slc (.idx (.var 0) (.var 1)) (.con .none) (.con (.int 2))))
    (.cons (.unp [5, 6] (.slc (.idx (.var 0) (.var 2)) (.con .none) (.con (.int 2))))
    (.cons (.sif (.cmp .ge (.bin .add (.bin .mul (.var 3) (.var 5)) (.bin .mul (.var 4) (.var 6))) (.con (.int 0)))
      (.cons (.ret (.con .none))
    .nil)
      .nil)
    (.cons (.ret (.lst (.cons (.tup (.cons (.var 1) (.cons (.tup (.cons (.con (.int 1)) (.cons (.con (.int 1)) .nil))) .nil))) (.cons (.tup (.cons (.var 2) (.cons (.call M_ratio [false, false] (.cons (.bin .add (.bin .mul (.var 3) (.var 3)) (.bin .mul (.var 4) (.var 4))) (.cons (.bin .sub (.bin .sub (.con (.int 0)) (.bin .mul (.var 3) (.var 5))) (.bin .mul (.var 4) (.var 6))) .nil))) .nil))) .nil))))
    .nil))))
noncomputable def M_opposed : MF := mkM [false, false, false] 7 B_opposed
/- against(rows, one, other, third): 0 rows 1 one 2 other 3 third 4 lesser 5 mine 6 theirs -/
noncomputable def B_against : Ss := (.cons (.asg 4 (.tup (.cons (.bin .sub (.con (.int 0)) (.idx (.idx (.var 0) (.var 3)) (.con (.int 0)))) (.cons (.bin .sub (.con (.int 0)) (.idx (.idx (.var 0) (.var 3)) (.con (.int 1)))) .nil))))
    (.cons (.unp [5, 6] (.call M_shares [false, false, false] (.cons (.idx (.var 0) (.var 1)) (.cons (.idx (.var 0) (.var 2)) (.cons (.var 4) .nil)))))
    (.cons (.sif (.or (.call M_is_less [false, false] (.cons (.var 5) (.cons (.con (.tuple [(.int 0), (.int 1)])) .nil))) (.call M_is_less [false, false] (.cons (.var 6) (.cons (.con (.tuple [(.int 0), (.int 1)])) .nil))))
      (.cons (.ret (.con .none))
    .nil)
      .nil)
    (.cons (.ret (.lst (.cons (.tup (.cons (.var 1) (.cons (.var 5) .nil))) (.cons (.tup (.cons (.var 2) (.cons (.var 6) .nil))) (.cons (.tup (.cons (.var 3) (.cons (.tup (.cons (.con (.int 1)) (.cons (.con (.int 1)) .nil))) .nil))) .nil)))))
    .nil))))
noncomputable def M_against : MF := mkM [false, false, false, false] 7 B_against
/- with_two(rows, one, other): 0 rows 1 one 2 other 3 found 4 third 5 some -/
noncomputable def V1_with_two : E := (.call M_against [false, false, false, false] (.cons (.var 0) (.cons (.var 1) (.cons (.var 2) (.cons (.var 4) .nil)))))
noncomputable def B_with_two : Ss := (.cons (.sif (.cmp .eq (.call M_twist [false, false] (.cons (.idx (.var 0) (.var 1)) (.cons (.idx (.var 0) (.var 2)) .nil))) (.con (.int 0)))
      (.cons (.asg 3 (.lst (.cons (.call M_opposed [false, false, false] (.cons (.var 0) (.cons (.var 1) (.cons (.var 2) .nil)))) .nil)))
    .nil)
      (.cons (.asg 3 (.lc V1_with_two [4] (.rg (.blt .len (.cons (.var 0) .nil))) (.con (.bool true)) [4]))
    .nil))
    (.cons (.ret (.lc (.var 5) [5] (.sq (.var 3)) (.cmp .isnot (.var 5) (.con .none)) [5]))
    .nil))
noncomputable def M_with_two : MF := mkM [false, false, false] 6 B_with_two
/- sum_of_c(rows, some): 0 rows 1 some 2 found 3 number 4 weight -/
noncomputable def L1_sum_of_c : Ss := (.cons (.blk [] (.cons (.asg 2 (.call M_plus [false, false] (.cons (.var 2) (.cons (.call M_times [false, false] (.cons (.var 4) (.cons (.idx (.idx (.var 0) (.var 3)) (.con (.int 2))) .nil))) .nil))))
    .nil) [3, 4]) .nil)
noncomputable def B_sum_of_c : Ss := (.cons (.asg 2 (.con (.tuple [(.int 0), (.int 1)])))
    (.cons (.blk [3, 4] (.cons (.sfor [3, 4] (.sq (.var 1))
      L1_sum_of_c) .nil) [0, 1])
    (.cons (.retv 2)
    .nil)))
noncomputable def M_sum_of_c : MF := mkM [false, false] 5 B_sum_of_c
/- void_by(rows): 0 rows 1 one 2 other 3 some 4 total 5 number 6 weight -/
noncomputable def V1_void_by : E := (.tup (.cons (.var 5) (.cons (.call M_over [false, false] (.cons (.var 6) (.cons (.tup (.cons (.bin .sub (.con (.int 0)) (.idx (.var 4) (.con (.int 0)))) (.cons (.idx (.var 4) (.con (.int 1))) .nil))) .nil))) .nil)))
noncomputable def L1_void_by : Ss := (.cons (.blk [] (.cons (.asg 4 (.call M_sum_of_c [false, false] (.cons (.var 0) (.cons (.var 3) .nil))))
    (.cons (.sif (.call M_is_less [false, false] (.cons (.var 4) (.cons (.con (.tuple [(.int 0), (.int 1)])) .nil)))
      (.cons (.blk [] (.cons (.ret (.lc V1_void_by [5, 6] (.sq (.var 3)) (.con (.bool true)) [5, 6])) .nil) [0, 1, 2, 3, 4, 5, 6])
    .nil)
      .nil)
    .nil)) [3, 4, 5, 6]) .nil)
noncomputable def L2_void_by : Ss := (.cons (.blk [] (.cons (.blk [3, 4, 5, 6] (.cons (.sfor [3] (.sq (.call M_with_two [false, false, false] (.cons (.var 0) (.cons (.var 1) (.cons (.var 2) .nil)))))
      L1_void_by) .nil) [2])
    .nil) [2, 3, 4, 5, 6]) .nil)
noncomputable def L3_void_by : Ss := (.cons (.blk [] (.cons (.blk [2, 3, 4, 5, 6] (.cons (.sfor [2] (.rg2 (.bin .add (.var 1) (.con (.int 1))) (.blt .len (.cons (.var 0) .nil)))
      L2_void_by) .nil) [1])
    .nil) [1, 2, 3, 4, 5, 6]) .nil)
noncomputable def B_void_by : Ss := (.cons (.blk [1, 2, 3, 4, 5, 6] (.cons (.sfor [1] (.rg (.blt .len (.cons (.var 0) .nil)))
      L3_void_by) .nil) [0])
    (.cons (.ret (.lst .nil))
    .nil))
noncomputable def M_void_by : MF := mkM [false] 7 B_void_by
/- nothing_weights(field): 0 field -/
noncomputable def B_nothing_weights : Ss := (.cons (.exp (.call M_need_field [false] (.cons (.var 0) .nil)))
    (.cons (.sif (.cmp .ne (.call M_corners_of [false] (.cons (.var 0) .nil)) (.lst .nil))
      (.cons (.ret (.con .none))
    .nil)
      .nil)
    (.cons (.ret (.call M_weights_of [false, false] (.cons (.var 0) (.cons (.call M_void_by [false] (.cons (.var 0) .nil)) .nil))))
    .nil)))
noncomputable def M_nothing_weights : MF := mkM [false] 1 B_nothing_weights
/- shows_nothing(field, thing): 0 field 1 thing 2 a 3 b 4 c -/
noncomputable def B_shows_nothing : Ss := (.cons (.exp (.call M_need_field [false] (.cons (.var 0) .nil)))
    (.cons (.sif (.nt (.call M_are_weights [false, false] (.cons (.var 0) (.cons (.var 1) .nil))))
      (.cons (.ret (.con (.bool false)))
    .nil)
      .nil)
    (.cons (.unp [2, 3, 4] (.call M_summed [false, false] (.cons (.var 0) (.cons (.var 1) .nil))))
    (.cons (.ret (.and (.cmp .eq (.var 2) (.con (.tuple [(.int 0), (.int 1)]))) (.and (.cmp .eq (.var 3) (.con (.tuple [(.int 0), (.int 1)]))) (.call M_is_less [false, false] (.cons (.var 4) (.cons (.con (.tuple [(.int 0), (.int 1)])) .nil))))))
    .nil))))
noncomputable def M_shows_nothing : MF := mkM [false, false] 5 B_shows_nothing
/- none_behind(field): 0 field 1 found -/
noncomputable def B_none_behind : Ss := (.cons (.exp (.call M_need_field [false] (.cons (.var 0) .nil)))
    (.cons (.asg 1 (.call M_levels [false] (.cons (.var 0) .nil)))
    (.cons (.sif (.cmp .ne (.idx (.idx (.var 1) (.neg (.con (.int 1)))) (.con (.int 1))) (.lst .nil))
      (.cons (.ret (.con .none))
    .nil)
      .nil)
    (.cons (.ret (.bin .sub (.blt .len (.cons (.var 1) .nil)) (.con (.int 1))))
    .nil))))
noncomputable def M_none_behind : MF := mkM [false] 2 B_none_behind
/- no_whole_place(field): 0 field -/
noncomputable def B_no_whole_place : Ss := (.cons (.ret (.cmp .isnot (.call M_none_behind [false] (.cons (.var 0) .nil)) (.con .none)))
    .nil)
noncomputable def M_no_whole_place : MF := mkM [false] 1 B_no_whole_place
/- _law_lead(_law_state_here): 0 _law_state_here 1 _law_lead_here 2 _law_turn 3 _law_p 4 _law_q 5 _law_r 6 _law_s 7 _law_by -/
noncomputable def L1_law_lead : Ss := (.cons (.blk [] (.cons (.unp [3, 4, 5, 6] (.var 1))
    (.cons (.asg 7 (.bin .sub (.call M_law_take [true, false] (.cons (.var 0) (.cons (.con (.int 5)) .nil))) (.con (.int 2))))
    (.cons (.asg 1 (.idx (.lst (.cons (.tup (.cons (.bin .add (.var 3) (.bin .mul (.var 7) (.var 5))) (.cons (.bin .add (.var 4) (.bin .mul (.var 7) (.var 6))) (.cons (.var 5) (.cons (.var 6) .nil))))) (.cons (.tup (.cons (.var 3) (.cons (.var 4) (.cons (.bin .add (.var 5) (.bin .mul (.var 7) (.var 3))) (.cons (.bin .add (.var 6) (.bin .mul (.var 7) (.var 4))) .nil))))) .nil))) (.call M_law_take [true, false] (.cons (.var 0) (.cons (.con (.int 2)) .nil)))))
    .nil))) [2, 3, 4, 5, 6, 7]) .nil)
noncomputable def B_law_lead : Ss := (.cons (.asg 1 (.idx (.lst (.cons (.tup (.cons (.con (.int 1)) (.cons (.con (.int 0)) (.cons (.con (.int 0)) (.cons (.con (.int 1)) .nil))))) (.cons (.tup (.cons (.con (.int 0)) (.cons (.con (.int 1)) (.cons (.con (.int 1)) (.cons (.con (.int 0)) .nil))))) (.cons (.tup (.cons (.con (.int 0)) (.cons (.neg (.con (.int 1))) (.cons (.con (.int 1)) (.cons (.con (.int 0)) .nil))))) (.cons (.tup (.cons (.con (.int 1)) (.cons (.con (.int 0)) (.cons (.con (.int 0)) (.cons (.neg (.con (.int 1))) .nil))))) .nil))))) (.call M_law_take [true, false] (.cons (.var 0) (.cons (.con (.int 4)) .nil)))))
    (.cons (.blk [2, 3, 4, 5, 6, 7] (.cons (.sfor [2] (.rg (.bin .add (.con (.int 1)) (.call M_law_take [true, false] (.cons (.var 0) (.cons (.con (.int 2)) .nil)))))
      L1_law_lead) .nil) [])
    (.cons (.retv 1)
    .nil)))
noncomputable def M_law_lead : MF := mkM [true] 8 B_law_lead
/- _law_is_near(_law_place): 0 _law_place 1 _law_one -/
noncomputable def C1_law_is_near : E := (.cmp .gt (.blt .abs (.cons (.idx (.var 1) (.con (.int 0))) .nil)) (.bin .mul (.con (.int 12)) (.idx (.var 1) (.con (.int 1)))))
noncomputable def B_law_is_near : Ss := (.cons (.ret (.cmp .eq (.lc (.var 1) [1] (.sq (.var 0)) C1_law_is_near [1]) (.lst .nil)))
    .nil)
noncomputable def M_law_is_near : MF := mkM [false] 2 B_law_is_near
/- _law_is_field(_law_rows): 0 _law_rows 1 _law_a 2 _law_b 3 _law_c 4 _law_place -/
noncomputable def C1_law_is_field : E := (.nt (.call M_law_is_near [false] (.cons (.var 4) .nil)))
noncomputable def L1_law_is_field : Ss := (.cons (.blk [] (.cons (.sif (.or (.cmp .gt (.blt .max2 (.cons (.blt .abs (.cons (.var 1) .nil)) (.cons (.blt .abs (.cons (.var 2) .nil)) .nil))) (.con (.int 30))) (.cmp .gt (.blt .abs (.cons (.var 3) .nil)) (.con (.int 1000))))
      (.cons (.blk [] (.cons (.ret (.con (.bool false))) .nil) [0, 1, 2, 3, 4])
    .nil)
      .nil)
    .nil) [1, 2, 3, 4]) .nil)
noncomputable def B_law_is_field : Ss := (.cons (.blk [1, 2, 3, 4] (.cons (.sfor [1, 2, 3] (.sq (.var 0))
      L1_law_is_field) .nil) [])
    (.cons (.ret (.cmp .eq (.lc (.var 4) [4] (.sq (.call M_law_corners [false] (.cons (.var 0) .nil))) C1_law_is_field [4]) (.lst .nil)))
    .nil))
noncomputable def M_law_is_field : MF := mkM [false] 5 B_law_is_field
/- _law_lead_back(_law_lead_here): 0 _law_lead_here 1 _law_p 2 _law_q 3 _law_r 4 _law_s 5 _law_size -/
noncomputable def B_law_lead_back : Ss := (.cons (.unp [1, 2, 3, 4] (.var 0))
    (.cons (.asg 5 (.bin .sub (.bin .mul (.var 1) (.var 4)) (.bin .mul (.var 2) (.var 3))))
    (.cons (.ret (.tup (.cons (.bin .mul (.var 4) (.var 5)) (.cons (.bin .sub (.con (.int 0)) (.bin .mul (.var 2) (.var 5))) (.cons (.bin .sub (.con (.int 0)) (.bin .mul (.var 3) (.var 5))) (.cons (.bin .mul (.var 1) (.var 5)) .nil))))))
    .nil)))
noncomputable def M_law_lead_back : MF := mkM [false] 6 B_law_lead_back
/- size_of(lead): 0 lead -/
noncomputable def B_size_of : Ss := (.cons (.ret (.bin .sub (.bin .mul (.idx (.var 0) (.con (.int 0))) (.idx (.var 0) (.con (.int 3)))) (.bin .mul (.idx (.var 0) (.con (.int 1))) (.idx (.var 0) (.con (.int 2))))))
    .nil)
noncomputable def M_size_of : MF := mkM [false] 1 B_size_of
/- is_lead(thing): 0 thing 1 one -/
noncomputable def V1_is_lead : E := (.cmp .gt (.blt .abs (.cons (.var 1) .nil)) (.con (.int 30)))
noncomputable def V2_is_lead : E := (.call M_is_whole [false] (.cons (.var 1) .nil))
noncomputable def B_is_lead : Ss := (.cons (.sif (.or (.nt (.isi (.var 0) ["tuple"])) (.or (.cmp .ne (.blt .len (.cons (.var 0) .nil)) (.con (.int 4))) (.nt (.blt .all (.cons (.lc V2_is_lead [1] (.sq (.var 0)) (.con (.bool true)) [1]) .nil)))))
      (.cons (.ret (.con (.bool false)))
    .nil)
      .nil)
    (.cons (.sif (.blt .any (.cons (.lc V1_is_lead [1] (.sq (.var 0)) (.con (.bool true)) [1]) .nil))
      (.cons (.ret (.con (.bool false)))
    .nil)
      .nil)
    (.cons (.ret (.cmp .eq (.blt .abs (.cons (.call M_size_of [false] (.cons (.var 0) .nil)) .nil)) (.con (.int 1))))
    .nil)))
noncomputable def M_is_lead : MF := mkM [false] 2 B_is_lead
/- need_lead(lead): 0 lead -/
noncomputable def B_need_lead : Ss := (.cons (.sif (.nt (.call M_is_lead [false] (.cons (.var 0) .nil)))
      (.cons (.rais (Str.ofString "NoTurn"))
    .nil)
      .nil)
    .nil)
noncomputable def M_need_lead : MF := mkM [false] 1 B_need_lead
/- back_of(lead): 0 lead 1 by 2 p 3 q 4 r 5 s -/
noncomputable def B_back_of : Ss := (.cons (.asg 1 (.call M_size_of [false] (.cons (.var 0) .nil)))
    (.cons (.unp [2, 3, 4, 5] (.var 0))
    (.cons (.ret (.tup (.cons (.bin .mul (.var 1) (.var 5)) (.cons (.bin .sub (.con (.int 0)) (.bin .mul (.var 1) (.var 3))) (.cons (.bin .sub (.con (.int 0)) (.bin .mul (.var 1) (.var 4))) (.cons (.bin .mul (.var 1) (.var 2)) .nil))))))
    .nil)))
noncomputable def M_back_of : MF := mkM [false] 6 B_back_of
/- turn_back(lead): 0 lead -/
noncomputable def B_turn_back : Ss := (.cons (.exp (.call M_need_lead [false] (.cons (.var 0) .nil)))
    (.cons (.ret (.call M_back_of [false] (.cons (.var 0) .nil)))
    .nil))
noncomputable def M_turn_back : MF := mkM [false] 1 B_turn_back
/- as_field(rows): 0 rows 1 found -/
noncomputable def B_as_field : Ss := (.cons (.asg 1 (.blt .tuple (.cons (.var 0) .nil)))
    (.cons (.sif (.nt (.call M_is_field [false] (.cons (.var 1) .nil)))
      (.cons (.rais (Str.ofString "NoField"))
    .nil)
      .nil)
    (.cons (.retv 1)
    .nil)))
noncomputable def M_as_field : MF := mkM [false] 2 B_as_field
/- turned(field, lead): 0 field 1 lead 2 p 3 q 4 r 5 s 6 a 7 b 8 c -/
noncomputable def V1_turned : E := (.tup (.cons (.bin .add (.bin .mul (.var 6) (.var 2)) (.bin .mul (.var 7) (.var 4))) (.cons (.bin .add (.bin .mul (.var 6) (.var 3)) (.bin .mul (.var 7) (.var 5))) (.cons (.var 8) .nil))))
noncomputable def B_turned : Ss := (.cons (.exp (.call M_need_field [false] (.cons (.var 0) .nil)))
    (.cons (.exp (.call M_need_lead [false] (.cons (.var 1) .nil)))
    (.cons (.unp [2, 3, 4, 5] (.call M_back_of [false] (.cons (.var 1) .nil)))
    (.cons (.ret (.call M_as_field [false] (.cons (.lc V1_turned [6, 7, 8] (.sq (.var 0)) (.con (.bool true)) [6, 7, 8]) .nil)))
    .nil))))
noncomputable def M_turned : MF := mkM [false, false] 9 B_turned
/- led_to(lead, place): 0 lead 1 place 2 p 3 q 4 r 5 s 6 x 7 y -/
noncomputable def B_led_to : Ss := (.cons (.exp (.call M_need_lead [false] (.cons (.var 0) .nil)))
    (.cons (.unp [2, 3, 4, 5] (.var 0))
    (.cons (.unp [6, 7] (.var 1))
    (.cons (.ret (.tup (.cons (.call M_plus [false, false] (.cons (.call M_times [false, false] (.cons (.var 6) (.cons (.var 2) .nil))) (.cons (.call M_times [false, false] (.cons (.var 7) (.cons (.var 3) .nil))) .nil))) (.cons (.call M_plus [false, false] (.cons (.call M_times [false, false] (.cons (.var 6) (.cons (.var 4) .nil))) (.cons (.call M_times [false, false] (.cons (.var 7) (.cons (.var 5) .nil))) .nil))) .nil))))
    .nil))))
noncomputable def M_led_to : MF := mkM [false, false] 8 B_led_to
/- moved(field, u, v): 0 field 1 u 2 v 3 step 4 a 5 b 6 c -/
noncomputable def V1_moved : E := (.tup (.cons (.var 4) (.cons (.var 5) (.cons (.bin .add (.bin .add (.var 6) (.bin .mul (.var 4) (.var 1))) (.bin .mul (.var 5) (.var 2))) .nil))))
noncomputable def L1_moved : Ss := (.cons (.blk [] (.cons (.sif (.or (.nt (.call M_is_whole [false] (.cons (.var 3) .nil))) (.cmp .gt (.blt .abs (.cons (.var 3) .nil)) (.con (.int 24))))
      (.cons (.rais (Str.ofString "NoNumber"))
    .nil)
      .nil)
    .nil) [3, 4, 5, 6]) .nil)
noncomputable def B_moved : Ss := (.cons (.exp (.call M_need_field [false] (.cons (.var 0) .nil)))
    (.cons (.blk [3, 4, 5, 6] (.cons (.sfor [3] (.sq (.tup (.cons (.var 1) (.cons (.var 2) .nil))))
      L1_moved) .nil) [])
    (.cons (.ret (.call M_as_field [false] (.cons (.lc V1_moved [4, 5, 6] (.sq (.var 0)) (.con (.bool true)) [4, 5, 6]) .nil)))
    .nil)))
noncomputable def M_moved : MF := mkM [false, false, false] 7 B_moved
/- side(field, k): 0 field 1 k 2 a 3 b 4 c -/
noncomputable def B_side : Ss := (.cons (.exp (.call M_need_field [false] (.cons (.var 0) .nil)))
    (.cons (.sif (.or (.nt (.call M_is_whole [false] (.cons (.var 1) .nil))) (.nt (.chn .le .lt (.con (.int 0)) (.var 1) (.blt .len (.cons (.var 0) .nil)))))
      (.cons (.rais (Str.ofString "NoNumber"))
    .nil)
      .nil)
    (.cons (.sif (.cmp .gt (.blt .len (.cons (.var 0) .nil)) (.con (.int 7)))
      (.cons (.rais (Str.ofString "NoField"))
    .nil)
      .nil)
    (.cons (.unp [2, 3, 4] (.idx (.var 0) (.var 1)))
    (.cons (.ret (.bin .add (.var 0) (.tup (.cons (.tup (.cons (.bin .sub (.con (.int 0)) (.var 2)) (.cons (.bin .sub (.con (.int 0)) (.var 3)) (.cons (.bin .sub (.con (.int 0)) (.var 4)) .nil)))) .nil))))
    .nil)))))
noncomputable def M_side : MF := mkM [false, false] 5 B_side
/- is_within(one, other): 0 one 1 other 2 place -/
noncomputable def V1_is_within : E := (.call M_keeps_all [false, false] (.cons (.var 1) (.cons (.var 2) .nil)))
noncomputable def B_is_within : Ss := (.cons (.exp (.call M_need_field [false] (.cons (.var 0) .nil)))
    (.cons (.exp (.call M_need_field [false] (.cons (.var 1) .nil)))
    (.cons (.ret (.blt .all (.cons (.lc V1_is_within [2] (.sq (.call M_corners_of [false] (.cons (.var 0) .nil))) (.con (.bool true)) [2]) .nil)))
    .nil)))
noncomputable def M_is_within : MF := mkM [false, false] 3 B_is_within
/- _v2: _law_field(_law_state_here): 0 _law_state_here 1 _law_rows 2 _law_way 3 _law_u 4 _law_v 5 _law_found 6 _law_a 7 _law_b 8 _law_c -/
noncomputable def L1_law_field_v2 : Ss := (.cons (.blk [] (.cons (.sif (.cmp .eq (.bin .mod (.var 2) (.con (.int 2))) (.con (.int 1)))
      (.cons (.par [6, 7] (.cons (.var 7) (.cons (.var 6) .nil)))
    .nil)
      .nil)
    (.cons (.par [6, 7] (.cons (.bin .mul (.var 6) (.idx (.lst (.cons (.con (.int 1)) (.cons (.neg (.con (.int 1))) .nil))) (.bin .mod (.bin .fdiv (.var 2) (.con (.int 2))) (.con (.int 2))))) (.cons (.bin .mul (.var 7) (.idx (.lst (.cons (.con (.int 1)) (.cons (.neg (.con (.int 1))) .nil))) (.bin .fdiv (.var 2) (.con (.int 4))))) .nil)))
    (.cons (.mth 5 .append (.cons (.tup (.cons (.var 6) (.cons (.var 7) (.cons (.bin .add (.bin .add (.var 8) (.bin .mul (.var 6) (.var 3))) (.bin .mul (.var 7) (.var 4))) .nil)))) .nil))
    .nil))) [6, 7, 8]) .nil)
noncomputable def B_law_field_v2 : Ss := (.cons (.asg 1 (.call M_law_box [true] (.cons (.var 0) .nil)))
    (.cons (.sif (.cmp .eq (.call M_law_take [true, false] (.cons (.var 0) (.cons (.con (.int 3)) .nil))) (.con (.int 0)))
      (.cons (.asg 1 (.call M_law_spike [true] (.cons (.var 0) .nil)))
    .nil)
      .nil)
    (.cons (.asg 2 (.call M_law_take [true, false] (.cons (.var 0) (.cons (.con (.int 8)) .nil))))
    (.cons (.par [3, 4] (.cons (.bin .sub (.call M_law_take [true, false] (.cons (.var 0) (.cons (.con (.int 5)) .nil))) (.con (.int 2))) (.cons (.bin .sub (.call M_law_take [true, false] (.cons (.var 0) (.cons (.con (.int 5)) .nil))) (.con (.int 2))) .nil)))
    (.cons (.asg 5 (.lst .nil))
    (.cons (.blk [6, 7, 8] (.cons (.sfor [6, 7, 8] (.sq (.var 1))
      L1_law_field_v2) .nil) [1, 2, 3, 4])
    (.cons (.ret (.blt .tuple (.cons (.var 5) .nil)))
    .nil)))))))
noncomputable def M_law_field_v2 : MF := mkM [true] 9 B_law_field_v2
/- _v2: _law_ring(_law_places): 0 _law_places 1 _law_some 2 _law_place 3 _law_ahead 4 _law_one 5 _law_found 6 _law_k 7 _law_here -/
noncomputable def C1_law_ring_v2 : E := (.and (.cmp .notin (.var 2) (.var 5)) (.call M_law_all_left [false, false, false] (.cons (.var 7) (.cons (.var 2) (.cons (.var 1) .nil)))))
noncomputable def L1_law_ring_v2 : Ss := (.cons (.blk [] (.cons (.asg 7 (.idx (.var 5) (.neg (.con (.int 1)))))
    (.cons (.asg 5 (.bin .add (.var 5) (.slc (.lc (.var 2) [2] (.sq (.var 1)) C1_law_ring_v2 [2]) (.con .none) (.con (.int 1)))))
    .nil)) [0, 2, 3, 4, 6, 7]) .nil)
noncomputable def C2_law_ring_v2 : E := (.and (.cmp .eq (.idx (.var 4) (.con (.int 0))) (.idx (.var 2) (.con (.int 0)))) (.call M_law_less [false, false] (.cons (.idx (.var 4) (.con (.int 1))) (.cons (.idx (.var 2) (.con (.int 1))) .nil))))
noncomputable def C3_law_ring_v2 : E := (.call M_law_less [false, false] (.cons (.idx (.var 4) (.con (.int 0))) (.cons (.idx (.var 2) (.con (.int 0))) .nil)))
noncomputable def L2_law_ring_v2 : Ss := (.cons (.blk [] (.cons (.asg 3 (.lc (.var 4) [4] (.sq (.var 1)) C3_law_ring_v2 [4]))
    (.cons (.asg 3 (.bin .add (.var 3) (.lc (.var 4) [4] (.sq (.var 1)) C2_law_ring_v2 [4])))
    (.cons (.sif (.cmp .notin (.var 2) (.var 1))
      (.cons (.mth 1 .insert (.cons (.blt .len (.cons (.var 3) .nil)) (.cons (.var 2) .nil)))
    .nil)
      .nil)
    .nil))) [2, 3, 4, 5, 6, 7]) .nil)
noncomputable def B_law_ring_v2 : Ss := (.cons (.asg 1 (.lst .nil))
    (.cons (.blk [2, 3, 4, 5, 6, 7] (.cons (.sfor [2] (.sq (.var 0))
      L2_law_ring_v2) .nil) [0])
    (.cons (.sif (.cmp .lt (.blt .len (.cons (.var 1) .nil)) (.con (.int 3)))
      (.cons (.retv 1)
    .nil)
      .nil)
    (.cons (.asg 5 (.slc (.var 1) (.con .none) (.con (.int 1))))
    (.cons (.blk [0, 2, 3, 4, 6, 7] (.cons (.sfor [6] (.rg (.bin .sub (.blt .len (.cons (.var 1) .nil)) (.con (.int 1))))
      L1_law_ring_v2) .nil) [1])
    (.cons (.retv 5)
    .nil))))))
noncomputable def M_law_ring_v2 : MF := mkM [false] 8 B_law_ring_v2
/- _v2: _law_corners(_law_rows): 0 _law_rows 1 _law_found 2 _law_at 3 _law_other 4 _law_place 5 _law_row -/
noncomputable def C1_law_corners_v2 : E := (.nt (.call M_law_keeps [false, false] (.cons (.var 5) (.cons (.var 4) .nil))))
noncomputable def L1_law_corners_v2 : Ss := (.cons (.blk [] (.cons (.asg 4 (.call M_law_crossing [false, false] (.cons (.idx (.var 0) (.var 2)) (.cons (.var 3) .nil))))
    (.cons (.sif (.and (.cmp .isnot (.var 4) (.con .none)) (.cmp .eq (.lc (.var 5) [5] (.sq (.var 0)) C1_law_corners_v2 [5]) (.lst .nil)))
      (.cons (.mth 1 .append (.cons (.var 4) .nil))
    .nil)
      .nil)
    .nil)) [3, 4, 5]) .nil)
noncomputable def L2_law_corners_v2 : Ss := (.cons (.blk [] (.cons (.blk [3, 4, 5] (.cons (.sfor [3] (.sq (.slc (.var 0) (.bin .add (.var 2) (.con (.int 1))) (.con .none)))
      L1_law_corners_v2) .nil) [2])
    .nil) [2, 3, 4, 5]) .nil)
noncomputable def B_law_corners_v2 : Ss := (.cons (.asg 1 (.lst .nil))
    (.cons (.blk [2, 3, 4, 5] (.cons (.sfor [2] (.rg (.blt .len (.cons (.var 0) .nil)))
      L2_law_corners_v2) .nil) [0])
    (.cons (.ret (.call M_law_ring_v2 [false] (.cons (.var 1) .nil)))
    .nil)))
noncomputable def M_law_corners_v2 : MF := mkM [false] 6 B_law_corners_v2
/- _v2: _law_value(_law_row, _law_place): 0 _law_row 1 _law_place -/
noncomputable def B_law_value_v2 : Ss := (.cons (.ret (.call M_law_plus [false, false] (.cons (.call M_law_times [false, false] (.cons (.tup (.cons (.idx (.var 0) (.con (.int 0))) (.cons (.con (.int 1)) .nil))) (.cons (.idx (.var 1) (.con (.int 0))) .nil))) (.cons (.call M_law_times [false, false] (.cons (.tup (.cons (.idx (.var 0) (.con (.int 1))) (.cons (.con (.int 1)) .nil))) (.cons (.idx (.var 1) (.con (.int 1))) .nil))) .nil))))
    .nil)
noncomputable def M_law_value_v2 : MF := mkM [false, false] 2 B_law_value_v2
/- _v2: _law_cross(_law_one, _law_other): 0 _law_one 1 _law_other 2 _law_by 3 _law_x -/
noncomputable def B_law_cross_v2 : Ss := (.cons (.asg 2 (.bin .sub (.bin .mul (.idx (.var 0) (.con (.int 0))) (.idx (.var 1) (.con (.int 1)))) (.bin .mul (.idx (.var 0) (.con (.int 1))) (.idx (.var 1) (.con (.int 0))))))
    (.cons (.sif (.cmp .eq (.var 2) (.con (.int 0)))
      (.cons (.ret (.con .none))
    .nil)
      .nil)
    (.cons (.asg 3 (.call M_law_low [false, false] (.cons (.bin .sub (.bin .mul (.idx (.var 0) (.con (.int 2))) (.idx (.var 1) (.con (.int 1)))) (.bin .mul (.idx (.var 0) (.con (.int 1))) (.idx (.var 1) (.con (.int 2))))) (.cons (.var 2) .nil))))
    (.cons (.ret (.tup (.cons (.var 3) (.cons (.call M_law_low [false, false] (.cons (.bin .sub (.bin .mul (.idx (.var 0) (.con (.int 0))) (.idx (.var 1) (.con (.int 2)))) (.bin .mul (.idx (.var 0) (.con (.int 2))) (.idx (.var 1) (.con (.int 0))))) (.cons (.var 2) .nil))) .nil))))
    .nil))))
noncomputable def M_law_cross_v2 : MF := mkM [false, false] 4 B_law_cross_v2
/- _v2: _law_keeps(_law_row, _law_place): 0 _law_row 1 _law_place -/
noncomputable def B_law_keeps_v2 : Ss := (.cons (.ret (.nt (.call M_law_less [false, false] (.cons (.tup (.cons (.idx (.var 0) (.con (.int 2))) (.cons (.con (.int 1)) .nil))) (.cons (.call M_law_value_v2 [false, false] (.cons (.var 0) (.cons (.var 1) .nil))) .nil)))))
    .nil)
noncomputable def M_law_keeps_v2 : MF := mkM [false, false] 2 B_law_keeps_v2
/- _v3: _law_corners(_law_rows): 0 _law_rows 1 _law_found 2 _law_k 3 _law_other 4 _law_place 5 _law_row -/
noncomputable def C1_law_corners_v3 : E := (.nt (.call M_law_keeps_v2 [false, false] (.cons (.var 5) (.cons (.var 4) .nil))))
noncomputable def L1_law_corners_v3 : Ss := (.cons (.blk [] (.cons (.asg 4 (.call M_law_cross_v2 [false, false] (.cons (.idx (.var 0) (.var 2)) (.cons (.var 3) .nil))))
    (.cons (.sif (.and (.cmp .isnot (.var 4) (.con .none)) (.cmp .eq (.lc (.var 5) [5] (.sq (.var 0)) C1_law_corners_v3 [5]) (.lst .nil)))
      (.cons (.mth 1 .append (.cons (.var 4) .nil))
    .nil)
      .nil)
    .nil)) [3, 4, 5]) .nil)
noncomputable def L2_law_corners_v3 : Ss := (.cons (.blk [] (.cons (.blk [3, 4, 5] (.cons (.sfor [3] (.sq (.slc (.var 0) (.bin .add (.var 2) (.con (.int 1))) (.con .none)))
      L1_law_corners_v3) .nil) [2])
    .nil) [2, 3, 4, 5]) .nil)
noncomputable def B_law_corners_v3 : Ss := (.cons (.asg 1 (.lst .nil))
    (.cons (.blk [2, 3, 4, 5] (.cons (.sfor [2] (.rg (.blt .len (.cons (.var 0) .nil)))
      L2_law_corners_v3) .nil) [0])
    (.cons (.ret (.call M_law_ring [false] (.cons (.var 1) .nil)))
    .nil)))
noncomputable def M_law_corners_v3 : MF := mkM [false] 6 B_law_corners_v3
/- _v2: _law_greatest(_law_places, _law_a, _law_b): 0 _law_places 1 _law_a 2 _law_b 3 _law_most_here 4 _law_place 5 _law_here -/
noncomputable def L1_law_greatest_v2 : Ss := (.cons (.blk [] (.cons (.asg 5 (.call M_law_value_v2 [false, false] (.cons (.tup (.cons (.var 1) (.cons (.var 2) .nil))) (.cons (.var 4) .nil))))
    (.cons (.sif (.call M_law_less [false, false] (.cons (.var 3) (.cons (.var 5) .nil)))
      (.cons (.asg 3 (.var 5))
    .nil)
      .nil)
    .nil)) [4, 5]) .nil)
noncomputable def B_law_greatest_v2 : Ss := (.cons (.asg 3 (.call M_law_value_v2 [false, false] (.cons (.tup (.cons (.var 1) (.cons (.var 2) .nil))) (.cons (.idx (.var 0) (.con (.int 0))) .nil))))
    (.cons (.blk [4, 5] (.cons (.sfor [4] (.sq (.slc (.var 0) (.con (.int 1)) (.con .none)))
      L1_law_greatest_v2) .nil) [0, 1, 2])
    (.cons (.retv 3)
    .nil)))
noncomputable def M_law_greatest_v2 : MF := mkM [false, false, false] 6 B_law_greatest_v2
/- _v2: _law_part(_law_one, _law_other, _law_row): 0 _law_one 1 _law_other 2 _law_row 3 _law_here 4 _law_share 5 _law_k -/
noncomputable def V1_law_part_v2 : E := (.call M_law_plus [false, false] (.cons (.idx (.var 0) (.var 5)) (.cons (.call M_law_times [false, false] (.cons (.var 4) (.cons (.call M_law_minus [false, false] (.cons (.idx (.var 1) (.var 5)) (.cons (.idx (.var 0) (.var 5)) .nil))) .nil))) .nil)))
noncomputable def B_law_part_v2 : Ss := (.cons (.asg 3 (.call M_law_minus [false, false] (.cons (.tup (.cons (.idx (.var 2) (.con (.int 2))) (.cons (.con (.int 1)) .nil))) (.cons (.call M_law_value_v2 [false, false] (.cons (.var 2) (.cons (.var 0) .nil))) .nil))))
    (.cons (.asg 4 (.call M_law_over [false, false] (.cons (.var 3) (.cons (.call M_law_minus [false, false] (.cons (.call M_law_value_v2 [false, false] (.cons (.var 2) (.cons (.var 1) .nil))) (.cons (.call M_law_value_v2 [false, false] (.cons (.var 2) (.cons (.var 0) .nil))) .nil))) .nil))))
    (.cons (.ret (.blt .tuple (.cons (.lc V1_law_part_v2 [5] (.rg (.con (.int 2))) (.con (.bool true)) [5]) .nil)))
    .nil)))
noncomputable def M_law_part_v2 : MF := mkM [false, false, false] 6 B_law_part_v2
/- _v2: _law_clipped(_law_places, _law_row): 0 _law_places 1 _law_row 2 _law_place 3 _law_found 4 _law_one 5 _law_other -/
noncomputable def L1_law_clipped_v2 : Ss := (.cons (.blk [] (.cons (.sif (.call M_law_keeps_v2 [false, false] (.cons (.var 1) (.cons (.var 4) .nil)))
      (.cons (.mth 3 .append (.cons (.var 4) .nil))
    .nil)
      .nil)
    (.cons (.sif (.cmp .ne (.call M_law_keeps_v2 [false, false] (.cons (.var 1) (.cons (.var 4) .nil))) (.call M_law_keeps_v2 [false, false] (.cons (.var 1) (.cons (.var 5) .nil))))
      (.cons (.mth 3 .append (.cons (.call M_law_part_v2 [false, false, false] (.cons (.var 4) (.cons (.var 5) (.cons (.var 1) .nil)))) .nil))
    .nil)
      .nil)
    .nil)) [2, 4, 5]) .nil)
noncomputable def C1_law_clipped_v2 : E := (.nt (.call M_law_keeps_v2 [false, false] (.cons (.var 1) (.cons (.var 2) .nil))))
noncomputable def B_law_clipped_v2 : Ss := (.cons (.sif (.cmp .eq (.lc (.var 2) [2] (.sq (.var 0)) C1_law_clipped_v2 [2]) (.lst .nil))
      (.cons (.retv 0)
    .nil)
      .nil)
    (.cons (.asg 3 (.lst .nil))
    (.cons (.blk [2, 4, 5] (.cons (.sfor [4, 5] (.zp (.var 0) (.bin .add (.slc (.var 0) (.con (.int 1)) (.con .none)) (.slc (.var 0) (.con .none) (.con (.int 1)))))
      L1_law_clipped_v2) .nil) [0, 1])
    (.cons (.ret (.call M_law_ring [false] (.cons (.var 3) .nil)))
    .nil))))
noncomputable def M_law_clipped_v2 : MF := mkM [false, false] 6 B_law_clipped_v2
/- _v2: _law_round(_law_places, _law_most_here): 0 _law_places 1 _law_most_here 2 _law_left 3 _law_a 4 _law_b 5 _law_top -/
noncomputable def L1_law_round_v2 : Ss := (.cons (.blk [] (.cons (.blk [] (.cons (.sif (.and (.cmp .ne (.tup (.cons (.var 3) (.cons (.var 4) .nil))) (.tup (.cons (.con (.int 0)) (.cons (.con (.int 0)) .nil)))) (.cmp .ne (.var 2) (.lst .nil)))
      (.cons (.asg 5 (.call M_law_greatest_v2 [false, false, false] (.cons (.var 0) (.cons (.var 3) (.cons (.var 4) .nil)))))
    (.cons (.asg 2 (.call M_law_clipped_v2 [false, false] (.cons (.var 2) (.cons (.tup (.cons (.var 3) (.cons (.var 4) (.cons (.bin .fdiv (.idx (.var 5) (.con (.int 0))) (.idx (.var 5) (.con (.int 1)))) .nil)))) .nil))))
    .nil))
      .nil) .nil) [5])
    .nil) [4, 5]) .nil)
noncomputable def L2_law_round_v2 : Ss := (.cons (.blk [] (.cons (.blk [4, 5] (.cons (.sfor [4] (.rg2 (.bin .sub (.con (.int 0)) (.var 1)) (.bin .add (.var 1) (.con (.int 1))))
      L1_law_round_v2) .nil) [3])
    .nil) [3, 4, 5]) .nil)
noncomputable def B_law_round_v2 : Ss := (.cons (.asg 2 (.var 0))
    (.cons (.blk [3, 4, 5] (.cons (.sfor [3] (.rg2 (.bin .sub (.con (.int 0)) (.var 1)) (.bin .add (.var 1) (.con (.int 1))))
      L2_law_round_v2) .nil) [0, 1])
    (.cons (.retv 2)
    .nil)))
noncomputable def M_law_round_v2 : MF := mkM [false, false] 6 B_law_round_v2
/- _v2: _law_rounds(_law_field_here): 0 _law_field_here 1 _law_found 2 _law_place -/
noncomputable def C1_law_rounds_v2 : E := (.nt (.call M_law_whole_place [false] (.cons (.var 2) .nil)))
noncomputable def L1_law_rounds_v2 : Ss := (.cons (.blk [] (.cons (.mth 1 .append (.cons (.call M_law_round_v2 [false, false] (.cons (.idx (.var 1) (.neg (.con (.int 1)))) (.cons (.call M_law_most [false] (.cons (.var 0) .nil)) .nil))) .nil))
    .nil) [2]) .nil)
noncomputable def B_law_rounds_v2 : Ss := (.cons (.asg 1 (.lst (.cons (.call M_law_corners_v3 [false] (.cons (.var 0) .nil)) .nil)))
    (.cons (.blk [2] (.cons (.whl (.cmp .ne (.lc (.var 2) [2] (.sq (.idx (.var 1) (.neg (.con (.int 1))))) C1_law_rounds_v2 [2]) (.lst .nil))
      L1_law_rounds_v2) .nil) [0])
    (.cons (.retv 1)
    .nil)))
noncomputable def M_law_rounds_v2 : MF := mkM [false] 3 B_law_rounds_v2
/- _v3: _law_greatest(_law_places, _law_a, _law_b): 0 _law_places 1 _law_a 2 _law_b 3 _law_found 4 _law_place 5 _law_here -/
noncomputable def L1_law_greatest_v3 : Ss := (.cons (.blk [] (.cons (.asg 5 (.call M_law_value [false, false] (.cons (.tup (.cons (.var 1) (.cons (.var 2) .nil))) (.cons (.var 4) .nil))))
    (.cons (.sif (.or (.cmp .is (.var 3) (.con .none)) (.call M_law_less [false, false] (.cons (.var 3) (.cons (.var 5) .nil))))
      (.cons (.asg 3 (.var 5))
    .nil)
      .nil)
    .nil)) [4, 5]) .nil)
noncomputable def B_law_greatest_v3 : Ss := (.cons (.asg 3 (.con .none))
    (.cons (.blk [4, 5] (.cons (.sfor [4] (.sq (.var 0))
      L1_law_greatest_v3) .nil) [0, 1, 2])
    (.cons (.retv 3)
    .nil)))
noncomputable def M_law_greatest_v3 : MF := mkM [false, false, false] 6 B_law_greatest_v3
/- _v3: _law_clipped(_law_places, _law_row): 0 _law_places 1 _law_row 2 _law_place_here 3 _law_found 4 _law_at 5 _law_one 6 _law_other 7 _law_here 8 _law_there 9 _law_share 10 _law_x -/
noncomputable def L1_law_clipped_v3 : Ss := (.cons (.blk [] (.cons (.par [5, 6] (.cons (.idx (.var 0) (.bin .sub (.var 4) (.con (.int 1)))) (.cons (.idx (.var 0) (.var 4)) .nil)))
    (.cons (.asg 7 (.call M_law_minus [false, false] (.cons (.tup (.cons (.idx (.var 1) (.con (.int 2))) (.cons (.con (.int 1)) .nil))) (.cons (.call M_law_value [false, false] (.cons (.var 1) (.cons (.var 5) .nil))) .nil))))
    (.cons (.asg 8 (.call M_law_minus [false, false] (.cons (.tup (.cons (.idx (.var 1) (.con (.int 2))) (.cons (.con (.int 1)) .nil))) (.cons (.call M_law_value [false, false] (.cons (.var 1) (.cons (.var 6) .nil))) .nil))))
    (.cons (.blk [] (.cons (.sif (.cmp .lt (.bin .mul (.idx (.var 7) (.con (.int 0))) (.idx (.var 8) (.con (.int 0)))) (.con (.int 0)))
      (.cons (.asg 9 (.call M_law_over [false, false] (.cons (.var 7) (.cons (.call M_law_minus [false, false] (.cons (.var 7) (.cons (.var 8) .nil))) .nil))))
    (.cons (.asg 10 (.call M_law_plus [false, false] (.cons (.idx (.var 5) (.con (.int 0))) (.cons (.call M_law_times [false, false] (.cons (.var 9) (.cons (.call M_law_minus [false, false] (.cons (.idx (.var 6) (.con (.int 0))) (.cons (.idx (.var 5) (.con (.int 0))) .nil))) .nil))) .nil))))
    (.cons (.mth 3 .append (.cons (.tup (.cons (.var 10) (.cons (.call M_law_plus [false, false] (.cons (.idx (.var 5) (.con (.int 1))) (.cons (.call M_law_times [false, false] (.cons (.var 9) (.cons (.call M_law_minus [false, false] (.cons (.idx (.var 6) (.con (.int 1))) (.cons (.idx (.var 5) (.con (.int 1))) .nil))) .nil))) .nil))) .nil))) .nil))
    .nil)))
      .nil) .nil) [9, 10])
    (.cons (.sif (.cmp .ge (.idx (.var 8) (.con (.int 0))) (.con (.int 0)))
      (.cons (.mth 3 .append (.cons (.var 6) .nil))
    .nil)
      .nil)
    .nil))))) [2, 4, 5, 6, 7, 8, 9, 10]) .nil)
noncomputable def C1_law_clipped_v3 : E := (.nt (.call M_law_keeps [false, false] (.cons (.var 1) (.cons (.var 2) .nil))))
noncomputable def B_law_clipped_v3 : Ss := (.cons (.sif (.cmp .eq (.lc (.var 2) [2] (.sq (.var 0)) C1_law_clipped_v3 [2]) (.lst .nil))
      (.cons (.retv 0)
    .nil)
      .nil)
    (.cons (.asg 3 (.lst .nil))
    (.cons (.blk [2, 4, 5, 6, 7, 8, 9, 10] (.cons (.sfor [4] (.rg (.blt .len (.cons (.var 0) .nil)))
      L1_law_clipped_v3) .nil) [0, 1])
    (.cons (.ret (.call M_law_ring_v2 [false] (.cons (.var 3) .nil)))
    .nil))))
noncomputable def M_law_clipped_v3 : MF := mkM [false, false] 11 B_law_clipped_v3
/- _v3: _law_round(_law_rows): 0 _law_rows 1 _law_places 2 _law_row -/
noncomputable def L1_law_round_v3 : Ss := (.cons (.blk [] (.cons (.asg 1 (.call M_law_clipped_v3 [false, false] (.cons (.var 1) (.cons (.var 2) .nil))))
    .nil) [2]) .nil)
noncomputable def B_law_round_v3 : Ss := (.cons (.asg 1 (.call M_law_corners_v2 [false] (.cons (.var 0) .nil)))
    (.cons (.blk [2] (.cons (.sfor [2] (.sq (.call M_law_all_cuts [false] (.cons (.var 0) .nil)))
      L1_law_round_v3) .nil) [0])
    (.cons (.retv 1)
    .nil)))
noncomputable def M_law_round_v3 : MF := mkM [false] 3 B_law_round_v3
/- _v2: _law_wanted(_law_state_here, _law_field_here, _law_rounds_here): 0 _law_state_here 1 _law_field_here 2 _law_rounds_here 3 _law_a 4 _law_b 5 _law_places 6 _law_c 7 _law_top -/
noncomputable def B_law_wanted_v2 : Ss := (.cons (.par [3, 4] (.cons (.bin .sub (.call M_law_take [true, false] (.cons (.var 0) (.cons (.con (.int 9)) .nil))) (.con (.int 4))) (.cons (.bin .sub (.call M_law_take [true, false] (.cons (.var 0) (.cons (.con (.int 9)) .nil))) (.con (.int 4))) .nil)))
    (.cons (.sif (.and (.cmp .eq (.var 3) (.con (.int 0))) (.cmp .eq (.var 4) (.con (.int 0))))
      (.cons (.asg 4 (.neg (.con (.int 2))))
    .nil)
      .nil)
    (.cons (.asg 5 (.idx (.var 2) (.call M_law_take [true, false] (.cons (.var 0) (.cons (.blt .len (.cons (.var 2) .nil)) .nil)))))
    (.cons (.asg 6 (.bin .sub (.call M_law_take [true, false] (.cons (.var 0) (.cons (.con (.int 15)) .nil))) (.con (.int 7))))
    (.cons (.blk [] (.cons (.sif (.and (.cmp .ne (.var 5) (.lst .nil)) (.cmp .gt (.call M_law_take [true, false] (.cons (.var 0) (.cons (.con (.int 4)) .nil))) (.con (.int 0))))
      (.cons (.asg 7 (.call M_law_greatest_v2 [false, false, false] (.cons (.var 5) (.cons (.var 3) (.cons (.var 4) .nil)))))
    (.cons (.asg 6 (.bin .add (.bin .fdiv (.idx (.var 7) (.con (.int 0))) (.idx (.var 7) (.con (.int 1)))) (.idx (.lst (.cons (.con (.int 0)) (.cons (.con (.int 0)) (.cons (.con (.int 1)) (.cons (.neg (.con (.int 1))) .nil))))) (.call M_law_take [true, false] (.cons (.var 0) (.cons (.con (.int 4)) .nil))))))
    .nil))
      .nil) .nil) [7])
    (.cons (.ret (.tup (.cons (.var 3) (.cons (.var 4) (.cons (.var 6) .nil)))))
    .nil))))))
noncomputable def M_law_wanted_v2 : MF := mkM [true, false, false] 8 B_law_wanted_v2
/- _v2: _law_bare(_law_state_here): 0 _law_state_here 1 _law_field_here 2 _law_way 3 _law_a 4 _law_b 5 _law_c -/
noncomputable def B_law_bare_v2 : Ss := (.cons (.asg 1 (.call M_law_field_v2 [true] (.cons (.var 0) .nil)))
    (.cons (.asg 2 (.call M_law_take [true, false] (.cons (.var 0) (.cons (.con (.int 5)) .nil))))
    (.cons (.blk [] (.cons (.sif (.and (.cmp .lt (.var 2) (.con (.int 2))) (.cmp .lt (.blt .len (.cons (.var 1) .nil)) (.con (.int 7))))
      (.cons (.par [3, 4] (.cons (.bin .add (.con (.int 1)) (.call M_law_take [true, false] (.cons (.var 0) (.cons (.con (.int 3)) .nil)))) (.cons (.bin .sub (.call M_law_take [true, false] (.cons (.var 0) (.cons (.con (.int 5)) .nil))) (.con (.int 2))) .nil)))
    (.cons (.asg 5 (.bin .sub (.call M_law_take [true, false] (.cons (.var 0) (.cons (.con (.int 9)) .nil))) (.con (.int 4))))
    (.cons (.asg 1 (.bin .add (.var 1) (.tup (.cons (.tup (.cons (.bin .mul (.con (.int 3)) (.var 3)) (.cons (.bin .mul (.con (.int 3)) (.var 4)) (.cons (.bin .add (.bin .mul (.con (.int 3)) (.var 5)) (.con (.int 2))) .nil)))) (.cons (.tup (.cons (.bin .mul (.neg (.con (.int 3))) (.var 3)) (.cons (.bin .mul (.neg (.con (.int 3))) (.var 4)) (.cons (.bin .sub (.neg (.con (.int 1))) (.bin .mul (.con (.int 3)) (.var 5))) .nil)))) .nil)))))
    .nil)))
      .nil) .nil) [3, 4, 5])
    (.cons (.blk [] (.cons (.sif (.cmp .eq (.var 2) (.con (.int 2)))
      (.cons (.par [3, 4] (.cons (.bin .sub (.call M_law_take [true, false] (.cons (.var 0) (.cons (.con (.int 5)) .nil))) (.con (.int 2))) (.cons (.bin .add (.con (.int 1)) (.call M_law_take [true, false] (.cons (.var 0) (.cons (.con (.int 3)) .nil)))) .nil)))
    (.cons (.asg 1 (.bin .add (.var 1) (.tup (.cons (.tup (.cons (.var 3) (.cons (.var 4) (.cons (.bin .sub (.bin .sub (.con (.int 0)) (.con (.int 7))) (.call M_law_take [true, false] (.cons (.var 0) (.cons (.con (.int 20)) .nil)))) .nil)))) .nil))))
    .nil))
      .nil) .nil) [3, 4])
    (.cons (.retv 1)
    .nil)))))
noncomputable def M_law_bare_v2 : MF := mkM [true] 6 B_law_bare_v2
/- _v2: _law_depth(_law_rounds_here, _law_row): 0 _law_rounds_here 1 _law_row 2 _law_number 3 _law_places -/
noncomputable def L1_law_depth_v2 : Ss := (.cons (.blk [] (.cons (.sif (.or (.cmp .eq (.var 3) (.lst .nil)) (.nt (.call M_law_less [false, false] (.cons (.tup (.cons (.idx (.var 1) (.con (.int 2))) (.cons (.con (.int 1)) .nil))) (.cons (.call M_law_greatest_v2 [false, false, false] (.cons (.var 3) (.cons (.idx (.var 1) (.con (.int 0))) (.cons (.idx (.var 1) (.con (.int 1))) .nil)))) .nil)))))
      (.cons (.blk [] (.cons (.retv 2) .nil) [0, 1, 2, 3])
    .nil)
      .nil)
    .nil) [2, 3]) .nil)
noncomputable def B_law_depth_v2 : Ss := (.cons (.blk [2, 3] (.cons (.sfor [2, 3] (.en (.var 0))
      L1_law_depth_v2) .nil) [0, 1])
    (.cons (.ret (.con .none))
    .nil))
noncomputable def M_law_depth_v2 : MF := mkM [false, false] 4 B_law_depth_v2
/- _v2: _law_is_field(_law_rows): 0 _law_rows 1 _law_a 2 _law_b 3 _law_c 4 _law_place -/
noncomputable def C1_law_is_field_v2 : E := (.nt (.call M_law_is_near [false] (.cons (.var 4) .nil)))
noncomputable def L1_law_is_field_v2 : Ss := (.cons (.blk [] (.cons (.sif (.or (.cmp .gt (.blt .max2 (.cons (.blt .abs (.cons (.var 1) .nil)) (.cons (.blt .abs (.cons (.var 2) .nil)) .nil))) (.con (.int 30))) (.cmp .gt (.blt .abs (.cons (.var 3) .nil)) (.con (.int 1000))))
      (.cons (.blk [] (.cons (.ret (.con (.bool false))) .nil) [0, 1, 2, 3, 4])
    .nil)
      .nil)
    .nil) [1, 2, 3, 4]) .nil)
noncomputable def B_law_is_field_v2 : Ss := (.cons (.blk [1, 2, 3, 4] (.cons (.sfor [1, 2, 3] (.sq (.var 0))
      L1_law_is_field_v2) .nil) [])
    (.cons (.ret (.cmp .eq (.lc (.var 4) [4] (.sq (.call M_law_corners_v3 [false] (.cons (.var 0) .nil))) C1_law_is_field_v2 [4]) (.lst .nil)))
    .nil))
noncomputable def M_law_is_field_v2 : MF := mkM [false] 5 B_law_is_field_v2
end Rc

set_option maxRecDepth 100000
set_option maxHeartbeats 4000000
/-! What the laws' own small defs answer. -/
namespace Rc
open PySem
theorem bits_le {i : Int} {k : Nat} (h : i.natAbs < 2 ^ (k + 1)) : bits i ≤ k := by
  unfold bits
  by_cases z : i.natAbs = 0
  · rw [z]
    have : Nat.log2 0 = 0 := by decide
    omega
  · have := (Nat.log2_lt z).mpr h
    omega
theorem mulOk_of {i j : Int} (k l : Nat) (hi : i.natAbs < 2 ^ (k + 1)) (hj : j.natAbs < 2 ^ (l + 1)) (h : k + l < 1000000) : mulOk i j := by
  have := bits_le hi
  have := bits_le hj
  unfold mulOk
  omega
theorem mulOk_small {i j : Int} (hi : -18446744073709551616 < i ∧ i < 18446744073709551616) (hj : -18446744073709551616 < j ∧ j < 18446744073709551616) : mulOk i j :=
  mulOk_of 63 63 (by omega) (by omega) (by omega)
theorem divOk_small {j : Int} (h0 : j ≠ 0) (hj : -18446744073709551616 < j ∧ j < 18446744073709551616) : divOk j :=
  ⟨h0, by have := bits_le (k := 63) (i := j) (by omega); omega⟩
/-! ### the state -/
structure St where
  s : Int
  b : Bool
  h : b = false → 0 ≤ s ∧ s < 2147483647
def stD (a : St) : D := .list [.int a.s, .bool a.b]
theorem fm_lo (a : Int) {b : Int} (h : 0 < b) : 0 ≤ a.fmod b := Int.fmod_nonneg_of_pos a h
theorem fm_lt (a : Int) {b : Int} (h : 0 < b) : a.fmod b < b := Int.fmod_lt_of_pos a h
def step1 (s : Int) : Int := (s * 48271 + 29).fmod 2147483647
def step2 (s : Int) : Int := (s * s + 39373 * s + 7).fmod 2147483629
def step3 (s : Int) : Int := (s * s + 16807 * s).fmod 2147483587
/-- the number taken, the state behind -/
def tkV (a : St) (n : Int) : Int := match a.b with
  | true => a.s.fmod n
  | false => ((step3 (step2 (step1 a.s))).fdiv 8).fmod n
def tkS (a : St) (n : Int) : St := match a with
  | ⟨s, true, _⟩ => ⟨s.fdiv n, true, fun h => by cases h⟩
  | ⟨s, false, _⟩ => ⟨step1 s, false, fun _ => ⟨fm_lo _ (by decide), fm_lt _ (by decide)⟩⟩
theorem tkV_lo (a : St) {n : Int} (h : 0 < n) : 0 ≤ tkV a n := by
  unfold tkV
  split <;> exact fm_lo _ h
theorem tkV_lt (a : St) {n : Int} (h : 0 < n) : tkV a n < n := by
  unfold tkV
  split <;> exact fm_lt _ h
theorem take_eq (a : St) (n : Int) (h : 0 < n) (h2 : n < 18446744073709551616) : M_law_take [(true, stD a), (false, .int n)] = .ok (false, .int (tkV a n), [(true, stD (tkS a n)), (false, .int n)]) := by
  have hn : n ≠ 0 := by omega
  have hd : divOk n := divOk_small hn (by omega)
  obtain ⟨s, b, hs⟩ := a
  cases b with
  | true => simp [M_law_take, mkM, flg, runFn, B_law_take, x_ss1, stD, tkV, tkS, hn, hd, stiF, L2.ixN]
  | false =>
    obtain ⟨h0, h1⟩ := hs rfl
    have a0 : 0 ≤ step1 s ∧ step1 s < 2147483647 := ⟨fm_lo _ (by decide), fm_lt _ (by decide)⟩
    have a1 : 0 ≤ step2 (step1 s) ∧ step2 (step1 s) < 2147483629 := ⟨fm_lo _ (by decide), fm_lt _ (by decide)⟩
    have m1 : mulOk s 48271 := mulOk_small (by omega) (by omega)
    have m2 : mulOk (step1 s) (step1 s) := mulOk_small (by omega) (by omega)
    have m3 : mulOk 39373 (step1 s) := mulOk_small (by omega) (by omega)
    have m4 : mulOk (step2 (step1 s)) (step2 (step1 s)) := mulOk_small (by omega) (by omega)
    have m5 : mulOk 16807 (step2 (step1 s)) := mulOk_small (by omega) (by omega)
    have d8 : divOk 8 := divOk_small (by decide) (by decide)
    have e1 : (s * 48271 + 29).fmod 2147483647 = step1 s := rfl
    have e2 : (step1 s * step1 s + 39373 * step1 s + 7).fmod 2147483629 = step2 (step1 s) := rfl
    have e3 : (step2 (step1 s) * step2 (step1 s) + 16807 * step2 (step1 s)).fmod 2147483587 = step3 (step2 (step1 s)) := rfl
    simp [M_law_take, mkM, flg, runFn, B_law_take, x_ss1, stD, tkV, tkS, hn, hd, stiF, L2.ixN, m1, m2, m3, m4, m5, d8, e1, e2, e3]
/-! ### cells -/
theorem i_scr (ns : List Int) (k : Int) : idxF (scrD ns) (.int k) = L2.atI (ns.map PyData.int) k := rfl
theorem cell_eq (ns : List Int) (k : Int) (h : 0 ≤ k) : M_law_cell_at [(false, scrD ns), (false, .int k)] = .ok (false, .int (ns.getD k.toNat 0), [(false, scrD ns), (false, .int k)]) := by
  by_cases hk : k < (ns.length : Int)
  · have hl : k.toNat < ns.length := by omega
    have e : L2.ixN ns.length k = some k.toNat := by
      unfold L2.ixN
      simp [h, hl, hk]
    simp [M_law_cell_at, mkM, flg, runFn, B_law_cell_at, x_ss1, hk, e, hl, i_scr, L2.atI]
  · have hl : ¬ k.toNat < ns.length := by omega
    simp [M_law_cell_at, mkM, flg, runFn, B_law_cell_at, x_ss1, hk, hl]
end Rc
namespace Rc
open PySem
/-- the state a cell gives -/
def mkSt (c : Int) : St := if h : c ≥ 1000000000000000000 then ⟨c - 1000000000000000000, true, fun h => by cases h⟩ else ⟨c.fmod 2147483647, false, fun _ => ⟨fm_lo _ (by decide), fm_lt _ (by decide)⟩⟩
theorem state_eq (ns : List Int) (k : Int) (h : 0 ≤ k) : M_law_state [(false, scrD ns), (false, .int k)] = .ok (true, stD (mkSt (ns.getD k.toNat 0)), [(false, scrD ns), (false, .int k)]) := by
  have e : ((10 : Int) ^ 18) = 1000000000000000000 := by decide
  have lo : lenOk 2 := by decide
  by_cases hc : 1000000000000000000 ≤ ns.getD k.toNat 0
  · simp [M_law_state, mkM, flg, runFn, B_law_state, x_ss1, cell_eq ns k h, e, lo, stD, mkSt]
    simp at hc
    simp [hc, x_ss1, lo, e]
  · simp [M_law_state, mkM, flg, runFn, B_law_state, x_ss1, cell_eq ns k h, e, lo, stD, mkSt]
    simp at hc
    have hc' : ¬ 1000000000000000000 ≤ ns[k.toNat]?.getD 0 := by omega
    simp [hc', x_ss1, lo, e]
end Rc
namespace Rc
open PySem
/-! ### same -/
inductive Nice : Nat → D → Prop
  | non (n : Nat) : Nice (n + 1) .none
  | int (n : Nat) (i : Int) : Nice (n + 1) (.int i)
  | bool (n : Nat) (b : Bool) : Nice (n + 1) (.bool b)
  | tup {n : Nat} {xs : List D} : (∀ x ∈ xs, Nice n x) → lenOk xs.length → Nice (n + 1) (.tuple xs)
  | lst {n : Nat} {xs : List D} : (∀ x ∈ xs, Nice n x) → lenOk xs.length → Nice (n + 1) (.list xs)
@[simp] theorem sh_bool (b : Bool) : SeqAt.shaped (.bool b) = true := by simp [SeqAt.shaped, PyData.canLay0, PyData.depth]
@[simp] theorem sh_none : SeqAt.shaped .none = true := by simp [SeqAt.shaped, PyData.canLay0, PyData.depth]
@[simp] theorem c_eqB (a b : Bool) : cop .eq (.bool a) (.bool b) = some (a == b) := by
  show (if SeqAt.shaped (.bool a) = true ∧ SeqAt.shaped (.bool b) = true then some (PyData.eqv (.bool a) (.bool b)) else none) = _
  rw [if_pos ⟨sh_bool a, sh_bool b⟩]
  cases a <;> cases b <;> simp [PyData.eqv]
@[simp] theorem c_neB (a b : Bool) : cop .ne (.bool a) (.bool b) = some (a != b) := by
  show (if SeqAt.shaped (.bool a) = true ∧ SeqAt.shaped (.bool b) = true then some (!PyData.eqv (.bool a) (.bool b)) else none) = _
  rw [if_pos ⟨sh_bool a, sh_bool b⟩]
  cases a <;> cases b <;> simp [PyData.eqv]
theorem c_eqN : cop .eq .none .none = some true := by
  show (if SeqAt.shaped .none = true ∧ SeqAt.shaped .none = true then some (PyData.eqv .none .none) else none) = _
  rw [if_pos ⟨sh_none, sh_none⟩]
  simp [PyData.eqv]
theorem zip_self {α β : Type} (f : α → α → β) : ∀ xs : List α, List.zipWith f xs xs = xs.map fun x => f x x
  | [] => rfl
  | x :: xs => by simp [zip_self f xs]
theorem all_true {α : Type} : ∀ xs : List α, allB (xs.map fun _ => PyData.bool true) = some true
  | [] => rfl
  | x :: xs => by simp [allB, all_true xs]
theorem same_eq : ∀ (n : Nat) (d : D), Nice n d → M_law_same n [(false, d), (false, d)] = .ok (false, .bool true, [(false, d), (false, d)]) := by
  intro n d h
  induction h with
  | non n => simp [M_law_same, mkM, flg, runFn, B_law_same, x_ss1, isiD, tyOf, isiB, c_eqN]
  | int n i => simp [M_law_same, mkM, flg, runFn, B_law_same, x_ss1, isiD, tyOf, isiB]
  | bool n b => simp [M_law_same, mkM, flg, runFn, B_law_same, x_ss1, isiD, tyOf, isiB]
  | @tup n xs hx hl ih =>
    have q := lc_map (srcs := []) (own := [2, 3]) (g := [2, 3]) (cnd := evC (.con (.bool true))) (elt := evT (.call (M_law_same n) [false, false] (.cons (.var 2) (.cons (.var 3) .nil)))) (m := [some (false, .tuple xs), some (false, .tuple xs), none, none])
      (fun x => PyData.tuple [x, x]) (fun _ => PyData.bool true) xs trivial fun x hx => ⟨[some (false, .tuple xs), some (false, .tuple xs), some (false, x), some (false, x)], [some (false, .tuple xs), some (false, .tuple xs), some (false, x), some (false, x)], by simp [bindT], by simp, by simp [evT, ih x hx], by simp [wipeE]⟩
    simp [M_law_same, mkM, flg, runFn, B_law_same, x_ss1, isiD, tyOf, isiB, x_lcE, isL, seqD, srcsOf, zip_self, wipeE, q, shO, backE, all_true, hl]
  | @lst n xs hx hl ih =>
    have q := lc_map (srcs := []) (own := [2, 3]) (g := [2, 3]) (cnd := evC (.con (.bool true))) (elt := evT (.call (M_law_same n) [false, false] (.cons (.var 2) (.cons (.var 3) .nil)))) (m := [some (false, .list xs), some (false, .list xs), none, none])
      (fun x => PyData.tuple [x, x]) (fun _ => PyData.bool true) xs trivial fun x hx => ⟨[some (false, .list xs), some (false, .list xs), some (false, x), some (false, x)], [some (false, .list xs), some (false, .list xs), some (false, x), some (false, x)], by simp [bindT], by simp, by simp [evT, ih x hx], by simp [wipeE]⟩
    simp [M_law_same, mkM, flg, runFn, B_law_same, x_ss1, isiD, tyOf, isiB, x_lcE, isL, seqD, srcsOf, zip_self, wipeE, q, shO, backE, all_true, hl]
end Rc

set_option maxRecDepth 100000
set_option maxHeartbeats 4000000
/-! Rows; rules for readings. -/
namespace Rc
open PySem
@[simp] theorem Wp_ok {α : Type} {a : α} {Q : α → Prop} : Wp (.ok a) Q ↔ Q a := ⟨fun ⟨b, e, q⟩ => by cases e; exact q, Wp.ok⟩
theorem Wp_lb {α β : Type} {a : Res α} {k : α → Res β} {Q : β → Prop} (h : Wp a fun x => Wp (k x) Q) : Wp (@lb α β a ⟨k⟩) Q := Wp.bind h
theorem Wp_of {α : Type} {a b : Res α} {Q : α → Prop} (e : a = b) (h : Wp b Q) : Wp a Q := by rw [e]; exact h
/-- a def, read to its end -/
theorem run_wp {ms : List Bool} {n : Nat} {b : Ss} {as : List (Bool × D)} {Q : Bool × D × List (Bool × D) → Prop} (h : flg ms as = true) (w : Wp (exSs b (as.map some ++ List.replicate (n - as.length) none)) fun f => match f with
      | .nx m => ∃ fs, finsOf 0 as m = some fs ∧ Q (false, .none, fs)
      | .rt fr d m => ∃ fs, finsOf 0 as m = some fs ∧ Q (fr, d, fs)
      | _ => False) : Wp (mkM ms n b as) Q := by
  obtain ⟨f, e, q⟩ := w
  rw [run_of h]
  unfold runFn
  show Wp ((exSs b (as.map some ++ List.replicate (n - as.length) none)).bind _) Q
  rw [e, bind_ok]
  cases f with
  | nx m =>
    obtain ⟨fs, e2, q⟩ := q
    show Wp ((Res.ofO (finsOf 0 as m)).bind _) Q
    rw [e2]
    exact .ok q
  | rt fr d m =>
    obtain ⟨fs, e2, q⟩ := q
    show Wp ((Res.ofO (finsOf 0 as m)).bind _) Q
    rw [e2]
    exact .ok q
  | bk m => exact q.elim
  | ct m => exact q.elim
abbrev Row := Int × Int × Int
def rowD (r : Row) : D := .tuple [.int r.1, .int r.2.1, .int r.2.2]
def fieldD (rs : List Row) : D := .tuple (rs.map rowD)
def nz (r : Row) : Prop := r.1 ≠ 0 ∨ r.2.1 ≠ 0
/-- within bounds -/
def Bd (n : Nat) (i : Int) : Prop := -(n : Int) ≤ i ∧ i ≤ n
def RowIn (p q : Nat) (r : Row) : Prop := nz r ∧ Bd p r.1 ∧ Bd p r.2.1 ∧ Bd q r.2.2
theorem Bd.mul {m n : Nat} {i j : Int} (h1 : Bd m i) (h2 : Bd n j) : Bd (m * n) (i * j) := by
  unfold Bd at *
  have : (i * j).natAbs ≤ m * n := by
    rw [Int.natAbs_mul]
    exact Nat.mul_le_mul (by omega) (by omega)
  omega
theorem Bd.ok {m n : Nat} {i j : Int} (h1 : Bd m i) (h2 : Bd n j) (hm : m < 18446744073709551616) (hn : n < 18446744073709551616) : mulOk i j := by
  unfold Bd at *
  exact mulOk_small (by omega) (by omega)
theorem len_ok {n : Nat} (h : n ≤ 1000000) : lenOk n := by
  have : (1000000 : Nat) ≤ sizeLine := by decide
  unfold lenOk
  omega
theorem rng_mem {lo hi : Int} {d : D} (h : d ∈ rngD lo hi) : ∃ i, d = .int i ∧ lo ≤ i ∧ i < hi := by
  unfold rngD at h
  rw [List.mem_map] at h
  obtain ⟨k, hk, rfl⟩ := h
  rw [List.mem_range] at hk
  exact ⟨lo + k, rfl, by omega, by omega⟩
def RowsIn (p q n : Nat) (rs : List Row) : Prop := rs.length ≤ n ∧ ∀ r ∈ rs, RowIn p q r
theorem RowsIn.snoc {p q n : Nat} {rs : List Row} {r : Row} (h : RowsIn p q n rs) (h2 : RowIn p q r) : RowsIn p q (n + 1) (rs ++ [r]) := ⟨by simp; exact h.1, fun x hx => by
  rcases List.mem_append.mp hx with z | z
  · exact h.2 x z
  · simp at z; subst z; exact h2⟩
theorem RowsIn.nil {p q n : Nat} : RowsIn p q n [] := ⟨by simp, fun _ h => by simp at h⟩
theorem RowsIn.mono {p q n p' q' n' : Nat} {rs : List Row} (h : RowsIn p q n rs) (a : p ≤ p') (b : q ≤ q') (c : n ≤ n') : RowsIn p' q' n' rs := ⟨Nat.le_trans h.1 c, fun r hr => by
  obtain ⟨h1, h2, h3, h4⟩ := h.2 r hr
  unfold Bd at *
  exact ⟨h1, ⟨by omega, by omega⟩, ⟨by omega, by omega⟩, ⟨by omega, by omega⟩⟩⟩
theorem tk_bd (a : St) (n : Int) (h : 0 < n) : 0 ≤ tkV a n ∧ tkV a n < n := ⟨tkV_lo a h, tkV_lt a h⟩
theorem cut_from (xs : List D) (t : Int) (h0 : 0 ≤ t) (h1 : t ≤ xs.length) : cutD xs (some t) none = xs.drop t.toNat := by
  have e : HT.sIx xs.length 0 (some t) = t.toNat := by
    have := HT.sIx_nat xs.length 0 t.toNat
    rw [Int.toNat_of_nonneg h0] at this
    rw [this]
    omega
  unfold cutD
  rw [e, HT.sIx_none]
  exact List.take_of_length_le (by simp)
theorem cut_to (xs : List D) (t : Int) (h0 : 0 ≤ t) (h1 : t ≤ xs.length) : cutD xs none (some t) = xs.take t.toNat := by
  have e : HT.sIx xs.length xs.length (some t) = t.toNat := by
    have := HT.sIx_nat xs.length xs.length t.toNat
    rw [Int.toNat_of_nonneg h0] at this
    rw [this]
    omega
  unfold cutD
  rw [e, HT.sIx_none]
  simp
@[simp] theorem slc_list (xs : List D) (lo hi : Option Int) : slcF (.list xs) lo hi = some (true, .list (cutD xs lo hi)) := rfl
@[simp] theorem slc_tup (xs : List D) (lo hi : Option Int) : slcF (.tuple xs) lo hi = some (false, .tuple (cutD xs lo hi)) := rfl
@[simp] theorem p_none (d : D) : partI (.con .none) d = some none := rfl
@[simp] theorem p_var (k : Nat) (i : Int) : partI (.var k) (.int i) = some (some i) := rfl
@[simp] theorem shO_n : shO none = true := rfl
@[simp] theorem shO_f (d : D) : shO (some (false, d)) = true := rfl
instance (n : Nat) (i : Int) : Decidable (Bd n i) := inferInstanceAs (Decidable (_ ∧ _))
theorem snoc_of {α : Type} {xs : List α} (h : xs ≠ []) : ∃ ys y, xs = ys ++ [y] := ⟨xs.dropLast, xs.getLast h, (List.dropLast_concat_getLast h).symm⟩
theorem rng_len (lo hi : Int) : (rngD lo hi).length = (hi - lo).toNat := by simp [rngD]
@[simp] theorem a_last (xs : List D) (x : D) : L2.atI (xs ++ [x]) (-1) = some x := L2.atI_last _ _
end Rc

set_option maxRecDepth 100000
set_option maxHeartbeats 4000000
/-! Fractions. -/
namespace Rc
open PySem
def fracD (q : Rat) : D := .tuple [.int q.num, .int q.den]
theorem fmod_small (a : Int) {b : Int} (h : b ≠ 0) : (a.fmod b).natAbs < b.natAbs := by
  rcases Int.lt_or_gt_of_ne h with hb | hb
  · have e : a.fmod b = a - b * a.fdiv b := Int.fmod_def a b
    have q : a.fdiv b = (-a).fdiv (-b) := (Int.neg_fdiv_neg a b).symm
    have r : (-a).fmod (-b) = -a - (-b) * (-a).fdiv (-b) := Int.fmod_def _ _
    have l1 := fm_lo (-a) (b := -b) (by omega)
    have l2 := fm_lt (-a) (b := -b) (by omega)
    have : a.fmod b = -((-a).fmod (-b)) := by rw [e, r, q]; grind
    omega
  · have l1 := fm_lo a hb
    have l2 := fm_lt a hb
    omega
theorem fmod_gcd (a b : Int) : b.gcd (a.fmod b) = a.gcd b := by
  rw [Int.fmod_def, Int.gcd_sub_mul_left_right, Int.gcd_comm]
theorem dv_loop : ∀ (n : Nat) (a b : Int), b.natAbs ≤ n → ∃ g : Int, wh (evC (.cmp .ne (.var 1) (.con (.int 0)))) (exSs L1_divisor) [some (false, .int a), some (false, .int b)] = .ok (.nx [some (false, .int g), some (false, .int 0)]) ∧ g.natAbs = a.gcd b
  | 0, a, b, h => by
    have hb : b = 0 := by omega
    subst hb
    refine ⟨a, wh_stop ?_, by simp⟩
    simp [wturn]
  | n + 1, a, b, h => by
    by_cases hb : b = 0
    · subst hb
      refine ⟨a, wh_stop ?_, by simp⟩
      simp [wturn]
    · obtain ⟨g, e1, e2⟩ := dv_loop n b (a.fmod b) (by have := fmod_small a hb; omega)
      refine ⟨g, ?_, by rw [e2, fmod_gcd]⟩
      rw [wh_go (m2 := [some (false, .int b), some (false, .int (a.fmod b))])]
      · exact e1
      · simp [wturn, hb, L1_divisor, x_ss1]
theorem divisor_eq (a b : Int) : M_divisor [(false, .int a), (false, .int b)] = .ok (false, .int (a.gcd b), [(false, .int a), (false, .int b)]) := by
  obtain ⟨g, e1, e2⟩ := dv_loop _ a b (Nat.le_refl _)
  have ab : (if g < 0 then -g else g) = (a.gcd b : Int) := by rw [← e2]; split <;> omega
  have e3 : exS (.whl (.cmp .ne (.var 1) (.con (.int 0))) L1_divisor) [some (false, .int a), some (false, .int b)] = .ok (.nx [some (false, .int g), some (false, .int 0)]) := by rw [x_whl]; exact e1
  simp [M_divisor, mkM, flg, runFn, B_divisor, x_ss1, e3, ab]
theorem law_divisor_eq (a b : Int) : M_law_divisor [(false, .int a), (false, .int b)] = .ok (false, .int (a.gcd b), [(false, .int a), (false, .int b)]) := divisor_eq a b
theorem gcd_pos {p q : Int} (h : q ≠ 0) : 0 < (p.gcd q : Int) := by
  have : 0 < p.gcd q := Int.gcd_pos_of_ne_zero_right _ h
  omega
/-- the fraction of two numbers, as the program has it -/
theorem frac_parts (p q : Int) (hq : q ≠ 0) : (if q < 0 then p.fdiv (0 - (p.gcd q : Int)) else p.fdiv (p.gcd q : Int)) = (Rat.divInt p q).num ∧
    (if q < 0 then q.fdiv (0 - (p.gcd q : Int)) else q.fdiv (p.gcd q : Int)) = ((Rat.divInt p q).den : Int) := by
  have g0 := gcd_pos (p := p) hq
  have d1 : (p.gcd q : Int) ∣ p := Int.gcd_dvd_left p q
  have d2 : (p.gcd q : Int) ∣ q := Int.gcd_dvd_right p q
  rw [Rat.num_divInt, Rat.den_divInt, if_neg hq, Int.gcd_comm q p]
  rcases Int.lt_or_gt_of_ne hq with h | h
  · rw [if_pos h, if_pos h, Int.sign_eq_neg_one_of_neg h]
    have n1 : (0 - (p.gcd q : Int)) ∣ p := by rw [Int.zero_sub]; exact Int.neg_dvd.mpr d1
    have n2 : (0 - (p.gcd q : Int)) ∣ q := by rw [Int.zero_sub]; exact Int.neg_dvd.mpr d2
    rw [Int.fdiv_eq_ediv_of_dvd n1, Int.fdiv_eq_ediv_of_dvd n2, Int.zero_sub, Int.ediv_neg, Int.ediv_neg]
    constructor
    · rw [show (-1 : Int) * p = -p by omega, Int.neg_ediv_of_dvd d1]
    · rw [← Int.neg_ediv_of_dvd d2, Int.natCast_ediv]
      congr 1
      omega
  · rw [if_neg (by omega), if_neg (by omega), Int.sign_eq_one_of_pos h]
    rw [Int.fdiv_eq_ediv_of_dvd d1, Int.fdiv_eq_ediv_of_dvd d2]
    constructor
    · rw [Int.one_mul]
    · rw [Int.natCast_ediv]
      congr 1
      omega
/-- the divisor is not too great -/
def small9 (q : Int) : Prop := q.natAbs < 2 ^ 9000
theorem gcd_div {p q : Int} (hq : q ≠ 0) (h : small9 q) : divOk (p.gcd q : Int) ∧ divOk (0 - (p.gcd q : Int)) := by
  have g0 := gcd_pos (p := p) hq
  have le : p.gcd q ≤ q.natAbs := Nat.le_of_dvd (by omega) (by
    have := Int.natAbs_dvd_natAbs.mpr (Int.gcd_dvd_right p q)
    rwa [Int.natAbs_natCast] at this)
  unfold small9 at h
  constructor
  · refine ⟨by omega, ?_⟩
    have := bits_le (k := 8999) (i := (p.gcd q : Int)) (by omega)
    omega
  · refine ⟨by omega, ?_⟩
    have := bits_le (k := 8999) (i := 0 - (p.gcd q : Int)) (by omega)
    omega
theorem ratio_eq (p q : Int) (hq : q ≠ 0) (h : small9 q) : M_ratio [(false, .int p), (false, .int q)] = .ok (false, fracD (Rat.divInt p q), [(false, .int p), (false, .int q)]) := by
  obtain ⟨d1, d2⟩ := gcd_div (p := p) hq h
  obtain ⟨e1, e2⟩ := frac_parts p q hq
  have l2 : lenOk 2 := by decide
  by_cases n : q < 0
  · rw [if_pos n] at e1 e2
    rw [Int.zero_sub] at e1 e2 d2
    simp [M_ratio, mkM, flg, runFn, B_ratio, x_ss1, divisor_eq, n, d2, l2, fracD, e1, e2]
  · rw [if_neg n] at e1 e2
    simp [M_ratio, mkM, flg, runFn, B_ratio, x_ss1, divisor_eq, n, d1, l2, fracD, e1, e2]
theorem low_eq (p q : Int) (hq : q ≠ 0) (h : small9 q) : M_law_low [(false, .int p), (false, .int q)] = .ok (false, fracD (Rat.divInt p q), [(false, .int p), (false, .int q)]) := ratio_eq p q hq h
/-! sizes -/
/-- numerator and denominator below 2^n -/
def Sz (n : Nat) (q : Rat) : Prop := q.num.natAbs < 2 ^ n ∧ q.den < 2 ^ n
theorem lt_mul {a b m n : Nat} (h1 : a < 2 ^ m) (h2 : b < 2 ^ n) : a * b < 2 ^ (m + n) := by
  rw [Nat.pow_add]
  rcases Nat.eq_zero_or_pos b with z | z
  · rw [z, Nat.mul_zero]
    exact Nat.mul_pos (Nat.two_pow_pos _) (Nat.two_pow_pos _)
  · exact Nat.lt_of_lt_of_le ((Nat.mul_lt_mul_right z).mpr h1) (Nat.mul_le_mul_left _ (Nat.le_of_lt h2))
/-- an int below 2^n -/
def Ib (n : Nat) (i : Int) : Prop := i.natAbs < 2 ^ n
theorem Ib.mul {m n : Nat} {i j : Int} (h1 : Ib m i) (h2 : Ib n j) : Ib (m + n) (i * j) := by
  unfold Ib
  rw [Int.natAbs_mul]
  exact lt_mul h1 h2
theorem Ib.mono {m n : Nat} {i : Int} (h : Ib m i) (l : m ≤ n) : Ib n i := Nat.lt_of_lt_of_le h (Nat.pow_le_pow_right (by decide) l)
theorem Ib.add {n : Nat} {i j : Int} (h1 : Ib n i) (h2 : Ib n j) : Ib (n + 1) (i + j) := by
  unfold Ib at *
  rw [Nat.pow_succ]
  omega
theorem Ib.sub {n : Nat} {i j : Int} (h1 : Ib n i) (h2 : Ib n j) : Ib (n + 1) (i - j) := by
  unfold Ib at *
  rw [Nat.pow_succ]
  omega
theorem Ib.ok {m n : Nat} {i j : Int} (h1 : Ib m i) (h2 : Ib n j) (h : m + n < 1000000) : mulOk i j := by
  refine mulOk_of m n (Nat.lt_of_lt_of_le h1 (Nat.pow_le_pow_right (by decide) (by omega))) (Nat.lt_of_lt_of_le h2 (Nat.pow_le_pow_right (by decide) (by omega))) h
theorem Ib.small {n : Nat} {i : Int} (h : Ib n i) (l : n ≤ 9000) : small9 i := h.mono l
theorem Sz.num {n : Nat} {q : Rat} (h : Sz n q) : Ib n q.num := h.1
theorem Sz.den {n : Nat} {q : Rat} (h : Sz n q) : Ib n (q.den : Int) := by unfold Ib; rw [Int.natAbs_natCast]; exact h.2
theorem Sz.divInt {n : Nat} {p q : Int} (hp : Ib n p) (hq : Ib n q) (z : q ≠ 0) : Sz n (Rat.divInt p q) := by
  have g0 := gcd_pos (p := p) z
  unfold Sz
  rw [Rat.num_divInt, Rat.den_divInt, if_neg z]
  constructor
  · refine Nat.lt_of_le_of_lt ?_ hp
    refine Nat.le_trans (Int.natAbs_ediv_le_natAbs _ _) ?_
    rw [Int.natAbs_mul]
    have : q.sign.natAbs = 1 := by
      rcases Int.lt_or_gt_of_ne z with h | h
      · rw [Int.sign_eq_neg_one_of_neg h]; rfl
      · rw [Int.sign_eq_one_of_pos h]; rfl
    rw [this]
    omega
  · exact Nat.lt_of_le_of_lt (Nat.div_le_self _ _) hq
theorem den_pos (q : Rat) : (0 : Int) < q.den := by have := q.den_pos; omega
theorem den_ne (q : Rat) : (q.den : Int) ≠ 0 := by have := den_pos q; omega
/-! the program's sums -/
theorem mul_ne {a b : Int} (h1 : a ≠ 0) (h2 : b ≠ 0) : a * b ≠ 0 := Int.mul_ne_zero h1 h2
theorem add_num (a b : Rat) : Rat.divInt (a.num * b.den + b.num * a.den) (a.den * b.den) = a + b := by
  rw [← Rat.divInt_add_divInt _ _ (den_ne a) (den_ne b), Rat.num_divInt_den, Rat.num_divInt_den]
theorem plus_eq (a b : Rat) (n : Nat) (ha : Sz n a) (hb : Sz n b) (hn : n ≤ 4000) : M_plus [(false, fracD a), (false, fracD b)] = .ok (false, fracD (a + b), [(false, fracD a), (false, fracD b)]) := by
  have m1 := ha.num.ok hb.den (by omega)
  have m2 := hb.num.ok ha.den (by omega)
  have m3 := ha.den.ok hb.den (by omega)
  have r := ratio_eq (a.num * b.den + b.num * a.den) (a.den * b.den) (mul_ne (den_ne a) (den_ne b)) ((ha.den.mul hb.den).small (by omega))
  rw [add_num] at r
  simp only [fracD] at r
  simp [M_plus, mkM, flg, runFn, B_plus, x_ss1, fracD, m1, m2, m3, r]
theorem mul_num (a : Rat) (k : Int) : Rat.divInt (a.num * k) a.den = a * k := by
  have h1 : Rat.divInt k 1 = (k : Rat) := Rat.num_divInt_den (k : Rat)
  have : a * (k : Rat) = Rat.divInt a.num a.den * Rat.divInt k 1 := by rw [Rat.num_divInt_den, h1]
  rw [this, Rat.divInt_mul_divInt]
  simp
theorem times_eq (a : Rat) (k : Int) (n : Nat) (ha : Sz n a) (hk : Ib n k) (hn : n ≤ 4000) : M_times [(false, fracD a), (false, .int k)] = .ok (false, fracD (a * k), [(false, fracD a), (false, .int k)]) := by
  have m1 := ha.num.ok hk (by omega)
  have r := ratio_eq (a.num * k) a.den (den_ne a) (ha.den.small (by omega))
  rw [mul_num] at r
  simp only [fracD] at r
  simp [M_times, mkM, flg, runFn, B_times, x_ss1, fracD, m1, r]
theorem is_less_eq (a b : Rat) (n : Nat) (ha : Sz n a) (hb : Sz n b) (hn : n ≤ 4000) : M_is_less [(false, fracD a), (false, fracD b)] = .ok (false, .bool (decide (a < b)), [(false, fracD a), (false, fracD b)]) := by
  have m1 := ha.num.ok hb.den (by omega)
  have m2 := hb.num.ok ha.den (by omega)
  have e : (a < b) = (a.num * b.den < b.num * a.den) := propext (Rat.lt_iff a b)
  simp [M_is_less, mkM, flg, runFn, B_is_less, x_ss1, fracD, m1, m2, e]
theorem Sz.add {n : Nat} {a b : Rat} (ha : Sz n a) (hb : Sz n b) : Sz (2 * n + 1) (a + b) := by
  rw [← add_num]
  refine Sz.divInt ?_ ?_ (mul_ne (den_ne a) (den_ne b))
  · have := (ha.num.mul hb.den).add (hb.num.mul ha.den)
    rwa [show n + n + 1 = 2 * n + 1 by omega] at this
  · exact (ha.den.mul hb.den).mono (by omega)
theorem Sz.mulI {m n : Nat} {a : Rat} {k : Int} (ha : Sz n a) (hk : Ib m k) : Sz (n + m) (a * k) := by
  rw [← mul_num]
  exact Sz.divInt (ha.num.mul hk) (ha.den.mono (by omega)) (den_ne a)
theorem Sz.mono {m n : Nat} {a : Rat} (h : Sz m a) (l : m ≤ n) : Sz n a := ⟨Nat.lt_of_lt_of_le h.1 (Nat.pow_le_pow_right (by decide) l), Nat.lt_of_lt_of_le h.2 (Nat.pow_le_pow_right (by decide) l)⟩
theorem Sz.int {n : Nat} {k : Int} (h : Ib n k) (hn : 0 < n) : Sz n (k : Rat) := ⟨h, by
  show 1 < 2 ^ n
  exact Nat.one_lt_two_pow (by omega)⟩
/-! places and rows -/
abbrev Place := Rat × Rat
def placeD (p : Place) : D := .tuple [fracD p.1, fracD p.2]
def val (r : Row) (p : Place) : Rat := p.1 * r.1 + p.2 * r.2.1
def SzR (n : Nat) (r : Row) : Prop := Ib n r.1 ∧ Ib n r.2.1 ∧ Ib n r.2.2
def SzP (n : Nat) (p : Place) : Prop := Sz n p.1 ∧ Sz n p.2
theorem value_eq (r : Row) (p : Place) (n : Nat) (hr : SzR n r) (hp : SzP n p) (hn : n ≤ 2000) : M_value [(false, rowD r), (false, placeD p)] = .ok (false, fracD (val r p), [(false, rowD r), (false, placeD p)]) := by
  have e1 := times_eq p.1 r.1 n hp.1 hr.1 (by omega)
  have e2 := times_eq p.2 r.2.1 n hp.2 hr.2.1 (by omega)
  have s1 := hp.1.mulI hr.1
  have s2 := hp.2.mulI hr.2.1
  have e3 := plus_eq (p.1 * r.1) (p.2 * r.2.1) (n + n) s1 s2 (by omega)
  simp [M_value, mkM, flg, runFn, B_value, x_ss1, rowD, placeD, e1, e2, e3, val]
theorem val_sz {r : Row} {p : Place} {n : Nat} (hr : SzR n r) (hp : SzP n p) : Sz (4 * n + 1) (val r p) := by
  have s1 := hp.1.mulI hr.1
  have s2 := hp.2.mulI hr.2.1
  have := s1.add s2
  rwa [show 2 * (n + n) + 1 = 4 * n + 1 by omega] at this
theorem frac_int (k : Int) : fracD (k : Rat) = .tuple [.int k, .int 1] := rfl
theorem keeps_eq (r : Row) (p : Place) (n : Nat) (hr : SzR n r) (hp : SzP n p) (h0 : 0 < n) (hn : n ≤ 900) : M_keeps [(false, rowD r), (false, placeD p)] = .ok (false, .bool (decide (val r p ≤ r.2.2)), [(false, rowD r), (false, placeD p)]) := by
  have e1 := value_eq r p n hr hp (by omega)
  have s := val_sz hr hp
  have e2 := is_less_eq (r.2.2 : Rat) (val r p) (4 * n + 1) (Sz.int (hr.2.2.mono (by omega)) (by omega)) s (by omega)
  have l2 : lenOk 2 := by decide
  have e3 : (!decide ((r.2.2 : Rat) < val r p)) = decide (val r p ≤ r.2.2) := by
    rw [Bool.eq_iff_iff]
    simp [Rat.not_lt]
  rw [← e3]
  simp only [rowD] at e1
  simp only [frac_int] at e2
  simp [M_keeps, mkM, flg, runFn, B_keeps, x_ss1, rowD, e1, e2, l2]
end Rc

set_option maxRecDepth 100000
set_option maxHeartbeats 4000000
/-! Rules for loops and comprehensions: what they compute, exactly. -/
namespace Rc
open PySem
/-- a loop folds -/
theorem for_fold {σ α : Type} {srcs : List (Nat × List D)} {g : List Nat} {body : Env → Res Fw} (enc : σ → Env) (item : α → D) (f : σ → α → σ) (I : List α → σ → Prop) (hs : ∀ r s, I r s → srcOk (enc s) srcs)
    (h : ∀ x r s, I (x :: r) s → ∃ m1, bindT g (item x) (enc s) = some m1 ∧ body m1 = .ok (.nx (enc (f s x))) ∧ I r (f s x)) :
    ∀ (xs : List α) (s : σ), I xs s → forL srcs g body (xs.map item) (enc s) = .ok (.nx (enc (xs.foldl f s))) ∧ I [] (xs.foldl f s)
  | [], s, i => ⟨by simp only [List.map_nil]; rw [forL, if_pos (hs _ _ i)]; rfl, i⟩
  | x :: xs, s, i => by
    obtain ⟨m1, b, e, i2⟩ := h x xs s i
    obtain ⟨q1, q2⟩ := for_fold enc item f I hs h xs (f s x) i2
    refine ⟨?_, q2⟩
    rw [List.map_cons, forL, if_pos (hs _ _ i), b, ofO_some, bind_ok, e, bind_ok]
    exact q1
/-- a loop that folds, its invariant asked of prefixes -/
theorem for_fold' {σ α : Type} {srcs : List (Nat × List D)} {g : List Nat} {body : Env → Res Fw} (enc : σ → Env) (item : α → D) (f : σ → α → σ) (xs : List α) (s0 : σ) (hs : ∀ s, srcOk (enc s) srcs)
    (h : ∀ pre x post, xs = pre ++ x :: post → ∃ m1, bindT g (item x) (enc (pre.foldl f s0)) = some m1 ∧ body m1 = .ok (.nx (enc (f (pre.foldl f s0) x)))) :
    forL srcs g body (xs.map item) (enc s0) = .ok (.nx (enc (xs.foldl f s0))) := by
  refine (for_fold enc item f (fun r s => ∃ pre, xs = pre ++ r ∧ s = pre.foldl f s0) (fun r s _ => hs s) (fun x r s ⟨pre, e, es⟩ => ?_) xs s0 ⟨[], rfl, rfl⟩).1
  subst es
  obtain ⟨m1, b, e2⟩ := h pre x r e
  exact ⟨m1, b, e2, pre ++ [x], by simp [e], by simp⟩
/-- a loop that leaves at the first item that is so -/
theorem for_find {α : Type} {srcs : List (Nat × List D)} {g : List Nat} {body : Env → Res Fw} {m mr : Env} {fr : Bool} {v : D} (item : α → D) (p : α → Bool) (hs : srcOk m srcs) : ∀ (xs : List α),
    (∀ x ∈ xs, ∃ m1, bindT g (item x) m = some m1 ∧ body m1 = if p x = true then .ok (.rt fr v mr) else .ok (.nx m)) →
    forL srcs g body (xs.map item) m = if xs.any p = true then .ok (.rt fr v mr) else .ok (.nx m)
  | [], _ => by simp only [List.map_nil]; rw [forL, if_pos hs]; simp
  | x :: xs, h => by
    obtain ⟨m1, b, e⟩ := h x List.mem_cons_self
    rw [List.map_cons, forL, if_pos hs, b, ofO_some, bind_ok, e]
    by_cases q : p x = true
    · simp [q]
    · have ih := for_find item p hs xs fun y hy => h y (List.mem_cons_of_mem _ hy)
      rw [if_neg q, bind_ok]
      show forL srcs g body (xs.map item) m = _
      rw [ih]
      simp [q]
/-- a loop all of whose turns leave all as it is -/
theorem for_same {α : Type} {srcs : List (Nat × List D)} {g : List Nat} {body : Env → Res Fw} {m : Env} (item : α → D) (hs : srcOk m srcs) (xs : List α) (h : ∀ x ∈ xs, ∃ m1, bindT g (item x) m = some m1 ∧ body m1 = .ok (.nx m)) : forL srcs g body (xs.map item) m = .ok (.nx m) := by
  have := for_find (fr := false) (v := .none) (mr := m) item (fun _ => false) hs xs (fun x hx => by simpa using h x hx)
  simpa using this
/-- a comprehension with its test -/
theorem lc_fm {α : Type} {srcs : List (Nat × List D)} {own g : List Nat} {cnd : Env → Res (Bool × Env)} {elt : Env → Res (D × Env)} {m : Env} (item : α → D) (p : α → Bool) (f : α → D) (hs : srcOk m srcs) : ∀ (xs : List α),
    (∀ x ∈ xs, ∃ m1 m2, bindT g (item x) m = some m1 ∧ cnd m1 = .ok (p x, m2) ∧ (p x = true → ∃ m3, elt m2 = .ok (f x, m3) ∧ wipeE m3 own = m) ∧ (p x = false → wipeE m2 own = m)) →
    lcL srcs own g cnd elt (xs.map item) m = .ok ((xs.filter p).map f, m)
  | [], _ => by simp only [List.map_nil]; rw [lcL, if_pos hs]; rfl
  | x :: xs, h => by
    obtain ⟨m1, m2, b, c, e1, e2⟩ := h x List.mem_cons_self
    have ih := lc_fm item p f hs xs fun y hy => h y (List.mem_cons_of_mem _ hy)
    rw [List.map_cons, lcL, if_pos hs, b, ofO_some, bind_ok, c, bind_ok]
    cases q : p x with
    | true =>
      obtain ⟨m3, e, w⟩ := e1 q
      simp [e, w, ih, q]
    | false =>
      have w := e2 q
      simp [w, ih, q]
/-- .. without a test -/
theorem lc_mp {α : Type} {srcs : List (Nat × List D)} {own g : List Nat} {cnd : Env → Res (Bool × Env)} {elt : Env → Res (D × Env)} {m : Env} (item : α → D) (f : α → D) (hs : srcOk m srcs) (xs : List α)
    (h : ∀ x ∈ xs, ∃ m1 m2 m3, bindT g (item x) m = some m1 ∧ cnd m1 = .ok (true, m2) ∧ elt m2 = .ok (f x, m3) ∧ wipeE m3 own = m) : lcL srcs own g cnd elt (xs.map item) m = .ok (xs.map f, m) := by
  have := lc_fm (own := own) (elt := elt) item (fun _ => true) f hs xs fun x hx => by
    obtain ⟨m1, m2, m3, a, b, c, d⟩ := h x hx
    exact ⟨m1, m2, a, b, fun _ => ⟨m3, c, d⟩, fun z => by cases z⟩
  rw [this, List.filter_eq_self.mpr (by simp)]
/-- what elements and a state come to, one behind the other -/
def accum {σ α β : Type} (f : σ → α → β × σ) : σ → List α → List β × σ
  | s, [] => ([], s)
  | s, x :: xs => let r := f s x; let q := accum f r.2 xs; (r.1 :: q.1, q.2)
/-- a comprehension that draws -/
theorem lc_acc {σ α : Type} {srcs : List (Nat × List D)} {own g : List Nat} {cnd : Env → Res (Bool × Env)} {elt : Env → Res (D × Env)} (enc : σ → Env) (item : α → D) (f : σ → α → D × σ) (hs : ∀ s, srcOk (enc s) srcs) : ∀ (xs : List α) (s : σ),
    (∀ x ∈ xs, ∀ s, ∃ m1 m2 m3, bindT g (item x) (enc s) = some m1 ∧ cnd m1 = .ok (true, m2) ∧ elt m2 = .ok ((f s x).1, m3) ∧ wipeE m3 own = enc (f s x).2) → lcL srcs own g cnd elt (xs.map item) (enc s) = .ok ((accum f s xs).1, enc (accum f s xs).2)
  | [], s, _ => by simp only [List.map_nil]; rw [lcL, if_pos (hs s)]; rfl
  | x :: xs, s, h => by
    obtain ⟨m1, m2, m3, a, b, c, d⟩ := h x List.mem_cons_self s
    have ih := lc_acc enc item f hs xs (f s x).2 fun y hy => h y (List.mem_cons_of_mem _ hy)
    rw [List.map_cons, lcL, if_pos (hs s), a, ofO_some, bind_ok, b, bind_ok, if_pos rfl, c, bind_ok, d, ih]
    rfl
theorem any_map {α : Type} (p : α → Bool) : ∀ xs : List α, anyB (xs.map fun x => PyData.bool (p x)) = some (xs.any p)
  | [] => rfl
  | x :: xs => by simp [anyB, any_map p xs]
theorem all_map {α : Type} (p : α → Bool) : ∀ xs : List α, allB (xs.map fun x => PyData.bool (p x)) = some (xs.all p)
  | [] => rfl
  | x :: xs => by simp [allB, all_map p xs]
@[simp] theorem seq_tup (xs : List D) : seqD (.tuple xs) = some xs := rfl
@[simp] theorem seq_list (xs : List D) : seqD (.list xs) = some xs := rfl
theorem ints_app : ∀ xs ys : List D, intsOf (xs ++ ys) = (intsOf xs).bind fun a => (intsOf ys).map (a ++ ·)
  | [], ys => by cases h : intsOf ys <;> simp [intsOf, h]
  | x :: xs, ys => by
    cases x <;> simp [intsOf]
    rw [ints_app xs ys]
    cases intsOf xs <;> cases intsOf ys <;> simp
theorem ints_map {α : Type} (f : α → Int) : ∀ xs : List α, intsOf (xs.map fun x => PyData.int (f x)) = some (xs.map f)
  | [] => rfl
  | x :: xs => by simp [intsOf, ints_map f xs]
theorem foldl_maxI : ∀ (xs : List Int) (a b : Int), xs.foldl max a ≤ b ↔ a ≤ b ∧ ∀ x ∈ xs, x ≤ b
  | [], a, b => by simp
  | x :: xs, a, b => by
    rw [List.foldl_cons, foldl_maxI xs]
    simp only [List.mem_cons, forall_eq_or_imp]
    constructor
    · rintro ⟨h1, h2⟩
      exact ⟨by omega, by omega, h2⟩
    · rintro ⟨h1, h2, h3⟩
      exact ⟨by omega, h3⟩
theorem maxL_some {xs : List Int} (h : xs ≠ []) : ∃ m, maxL xs = some m ∧ ∀ b, m ≤ b ↔ ∀ x ∈ xs, x ≤ b := by
  cases xs with
  | nil => exact absurd rfl h
  | cons x xs => exact ⟨_, rfl, fun b => by rw [foldl_maxI]; simp⟩
theorem rng_has {lo hi i : Int} (h1 : lo ≤ i) (h2 : i < hi) : PyData.int i ∈ rngD lo hi := by
  unfold rngD
  rw [List.mem_map]
  exact ⟨(i - lo).toNat, List.mem_range.mpr (by omega), by congr 1; omega⟩
/-- a range, as ints -/
def rngI (lo hi : Int) : List Int := (List.range (hi - lo).toNat).map fun (k : Nat) => lo + (k : Int)
theorem rngD_eq (lo hi : Int) : rngD lo hi = (rngI lo hi).map PyData.int := by simp [rngD, rngI]
theorem rngI_mem {lo hi i : Int} : i ∈ rngI lo hi ↔ lo ≤ i ∧ i < hi := by
  unfold rngI
  rw [List.mem_map]
  constructor
  · rintro ⟨k, hk, rfl⟩
    rw [List.mem_range] at hk
    omega
  · rintro ⟨h1, h2⟩
    exact ⟨(i - lo).toNat, List.mem_range.mpr (by omega), by omega⟩
/-! ### the law's own loop -/
def maxI (i j : Int) : Int := if j > i then j else i
def minI (i j : Int) : Int := if j < i then j else i
theorem law_turns {L : Ss} {m : Env} (N : Int) (h : ∀ k : Int, 0 ≤ k → exSs L (m.set 1 (some (false, .int k))) = .ok (.nx m)) : forL [] [1] (exSs L) (rngD 0 N) m = .ok (.nx m) := by
  rw [rngD_eq]
  exact for_same PyData.int (show srcOk _ [] from trivial) _ fun k hk => ⟨_, rfl, h k (rngI_mem.mp hk).1⟩
theorem turns_small (n : Nat) (c : Int) (h : 1 ≤ c ∧ c ≤ 1000) : smallI (if (if c < (n : Int) then c else (n : Int)) > 1 then (if c < (n : Int) then c else (n : Int)) else 1) := by
  unfold smallI
  split <;> (try split) <;> omega
/-- the statements within a block; behind the first -/
def Ss.inn : Ss → Ss
  | .cons (.blk _ b _) _ => b
  | s => s
def Ss.tl : Ss → Ss
  | .cons _ r => r
  | s => s
theorem fold_filter {α β : Type} (p : α → Bool) (g : α → β) : ∀ (xs : List α) (s : List β), xs.foldl (fun s x => if p x = true then s ++ [g x] else s) s = s ++ (xs.filter p).map g
  | [], s => by simp
  | x :: xs, s => by
    rw [List.foldl_cons, fold_filter p g xs, List.filter_cons]
    by_cases h : p x = true <;> simp [h]
theorem fold_flat {α β : Type} (g : α → List β) : ∀ (xs : List α) (s : List β), xs.foldl (fun s x => s ++ g x) s = s ++ xs.flatMap g
  | [], s => by simp
  | x :: xs, s => by rw [List.foldl_cons, fold_flat g xs, List.flatMap_cons, List.append_assoc]
end Rc

set_option maxRecDepth 100000
set_option maxHeartbeats 4000000
/-! Equality of what is made of numbers. -/
namespace Rc
open PySem
/-- made of ints, so deep at most -/
def pint : Nat → D → Bool
  | _, .int _ => true
  | n + 1, .tuple xs => xs.all (pint n)
  | n + 1, .list xs => xs.all (pint n)
  | _, _ => false
theorem pint_lay : ∀ (n : Nat) (d : D), pint n d = true → d.canLay0 = true ∧ d.depth ≤ n
  | n, .int i, _ => ⟨by simp [PyData.canLay0], by simp [PyData.depth]⟩
  | n + 1, .tuple xs, h => by
    have key : ∀ ys : List D, (∀ y ∈ ys, pint n y = true) → PyData.canLayAll0 ys = true ∧ PyData.depthAll ys ≤ n := fun ys => by
      induction ys with
      | nil => intro _; simp [PyData.canLayAll0, PyData.depthAll]
      | cons y ys ih =>
        intro h
        obtain ⟨a, b⟩ := ih fun z hz => h z (List.mem_cons_of_mem _ hz)
        obtain ⟨c, e⟩ := pint_lay n y (h y List.mem_cons_self)
        exact ⟨by simp [PyData.canLayAll0, a, c], by simp only [PyData.depthAll]; omega⟩
    obtain ⟨a, b⟩ := key xs (by simpa [pint] using h)
    exact ⟨by simpa [PyData.canLay0] using a, by simp only [PyData.depth]; omega⟩
  | n + 1, .list xs, h => by
    have key : ∀ ys : List D, (∀ y ∈ ys, pint n y = true) → PyData.canLayAll0 ys = true ∧ PyData.depthAll ys ≤ n := fun ys => by
      induction ys with
      | nil => intro _; simp [PyData.canLayAll0, PyData.depthAll]
      | cons y ys ih =>
        intro h
        obtain ⟨a, b⟩ := ih fun z hz => h z (List.mem_cons_of_mem _ hz)
        obtain ⟨c, e⟩ := pint_lay n y (h y List.mem_cons_self)
        exact ⟨by simp [PyData.canLayAll0, a, c], by simp only [PyData.depthAll]; omega⟩
    obtain ⟨a, b⟩ := key xs (by simpa [pint] using h)
    exact ⟨by simpa [PyData.canLay0] using a, by simp only [PyData.depth]; omega⟩
  | 0, .tuple _, h => by simp [pint] at h
  | 0, .list _, h => by simp [pint] at h
  | 0, .none, h => by simp [pint] at h
  | n + 1, .none, h => by simp [pint] at h
  | 0, .bool _, h => by simp [pint] at h
  | n + 1, .bool _, h => by simp [pint] at h
  | 0, .str _, h => by simp [pint] at h
  | n + 1, .str _, h => by simp [pint] at h
  | 0, .dict _, h => by simp [pint] at h
  | n + 1, .dict _, h => by simp [pint] at h
theorem pint_sh {n : Nat} {d : D} (h : pint n d = true) (hn : n ≤ 64) : SeqAt.shaped d = true := by
  obtain ⟨a, b⟩ := pint_lay n d h
  simp only [SeqAt.shaped, a, Bool.true_and, decide_eq_true_eq]
  omega
theorem pint_eqv : ∀ (n : Nat) (x y : D), pint n x = true → pint n y = true → (PyData.eqv x y = true ↔ x = y)
  | n, .int i, .int j, _, _ => by simp [PyData.eqv]
  | n + 1, .int i, .tuple ys, _, _ => by simp [PyData.eqv]
  | n + 1, .int i, .list ys, _, _ => by simp [PyData.eqv]
  | n + 1, .tuple xs, .int j, _, _ => by simp [PyData.eqv]
  | n + 1, .list xs, .int j, _, _ => by simp [PyData.eqv]
  | n + 1, .tuple xs, .list ys, _, _ => by simp [PyData.eqv]
  | n + 1, .list xs, .tuple ys, _, _ => by simp [PyData.eqv]
  | n + 1, .tuple xs, .tuple ys, h1, h2 => by
    have key : ∀ xs ys : List D, (∀ y ∈ xs, pint n y = true) → (∀ y ∈ ys, pint n y = true) → (PyData.eqvAll xs ys = true ↔ xs = ys) := fun xs => by
      induction xs with
      | nil => intro ys _ _; cases ys <;> simp [PyData.eqvAll]
      | cons x xs ih =>
        intro ys h1 h2
        cases ys with
        | nil => simp [PyData.eqvAll]
        | cons y ys =>
          have a := pint_eqv n x y (h1 x List.mem_cons_self) (h2 y List.mem_cons_self)
          have b := ih ys (fun z hz => h1 z (List.mem_cons_of_mem _ hz)) (fun z hz => h2 z (List.mem_cons_of_mem _ hz))
          simp [PyData.eqvAll, a, b]
    have := key xs ys (by simpa [pint] using h1) (by simpa [pint] using h2)
    simp [PyData.eqv, this]
  | n + 1, .list xs, .list ys, h1, h2 => by
    have key : ∀ xs ys : List D, (∀ y ∈ xs, pint n y = true) → (∀ y ∈ ys, pint n y = true) → (PyData.eqvAll xs ys = true ↔ xs = ys) := fun xs => by
      induction xs with
      | nil => intro ys _ _; cases ys <;> simp [PyData.eqvAll]
      | cons x xs ih =>
        intro ys h1 h2
        cases ys with
        | nil => simp [PyData.eqvAll]
        | cons y ys =>
          have a := pint_eqv n x y (h1 x List.mem_cons_self) (h2 y List.mem_cons_self)
          have b := ih ys (fun z hz => h1 z (List.mem_cons_of_mem _ hz)) (fun z hz => h2 z (List.mem_cons_of_mem _ hz))
          simp [PyData.eqvAll, a, b]
    have := key xs ys (by simpa [pint] using h1) (by simpa [pint] using h2)
    simp [PyData.eqv, this]
  | 0, .tuple _, _, h, _ => by simp [pint] at h
  | 0, .list _, _, h, _ => by simp [pint] at h
  | 0, .none, _, h, _ => by simp [pint] at h
  | n + 1, .none, _, h, _ => by simp [pint] at h
  | 0, .bool _, _, h, _ => by simp [pint] at h
  | n + 1, .bool _, _, h, _ => by simp [pint] at h
  | 0, .str _, _, h, _ => by simp [pint] at h
  | n + 1, .str _, _, h, _ => by simp [pint] at h
  | 0, .dict _, _, h, _ => by simp [pint] at h
  | n + 1, .dict _, _, h, _ => by simp [pint] at h
  | 0, _, .tuple _, _, h => by simp [pint] at h
  | 0, _, .list _, _, h => by simp [pint] at h
  | 0, _, .none, _, h => by simp [pint] at h
  | n + 1, _, .none, _, h => by simp [pint] at h
  | 0, _, .bool _, _, h => by simp [pint] at h
  | n + 1, _, .bool _, _, h => by simp [pint] at h
  | 0, _, .str _, _, h => by simp [pint] at h
  | n + 1, _, .str _, _, h => by simp [pint] at h
  | 0, _, .dict _, _, h => by simp [pint] at h
  | n + 1, _, .dict _, _, h => by simp [pint] at h
/-- how values lie as data -/
class Enc (α : Type) where
  e : α → D
  inj : ∀ {a b : α}, e a = e b → a = b
  p : ∀ a : α, pint 8 (e a) = true
section
variable {α : Type} [Enc α] [DecidableEq α]
theorem enc_eq (a b : α) : cop .eq (Enc.e a) (Enc.e b) = some (decide (a = b)) := by
  show (if SeqAt.shaped (Enc.e a) = true ∧ SeqAt.shaped (Enc.e b) = true then some (PyData.eqv (Enc.e a) (Enc.e b)) else none) = _
  rw [if_pos ⟨pint_sh (Enc.p a) (by decide), pint_sh (Enc.p b) (by decide)⟩, Option.some.injEq, Bool.eq_iff_iff, pint_eqv 8 _ _ (Enc.p a) (Enc.p b), decide_eq_true_eq]
  exact ⟨Enc.inj, fun h => by rw [h]⟩
theorem enc_ne (a b : α) : cop .ne (Enc.e a) (Enc.e b) = some (decide (a ≠ b)) := by
  have := enc_eq a b
  show (if SeqAt.shaped (Enc.e a) = true ∧ SeqAt.shaped (Enc.e b) = true then some (!PyData.eqv (Enc.e a) (Enc.e b)) else none) = _
  have e : (if SeqAt.shaped (Enc.e a) = true ∧ SeqAt.shaped (Enc.e b) = true then some (PyData.eqv (Enc.e a) (Enc.e b)) else none) = some (decide (a = b)) := this
  rw [if_pos ⟨pint_sh (Enc.p a) (by decide), pint_sh (Enc.p b) (by decide)⟩] at e ⊢
  rw [Option.some.inj e]
  simp
theorem enc_all (xs : List α) : pint 9 (.list (xs.map Enc.e)) = true ∧ pint 9 (.tuple (xs.map Enc.e)) = true := by
  constructor <;> simp [pint] <;> exact fun a _ => Enc.p a
theorem enc_any (a : α) : ∀ xs : List α, ((xs.map Enc.e).any fun z => PyData.eqv z (Enc.e a)) = decide (a ∈ xs)
  | [] => by simp
  | x :: xs => by
    have q : PyData.eqv (Enc.e x) (Enc.e a) = decide (a = x) := by
      rw [Bool.eq_iff_iff, pint_eqv 8 _ _ (Enc.p x) (Enc.p a), decide_eq_true_eq]
      exact ⟨fun h => (Enc.inj h).symm, fun h => by rw [h]⟩
    rw [List.map_cons, List.any_cons, q, enc_any a xs]
    simp [List.mem_cons]
theorem enc_in (a : α) (xs : List α) : cop .isin (Enc.e a) (.list (xs.map Enc.e)) = some (decide (a ∈ xs)) := by
  show (if SeqAt.shaped (Enc.e a) = true ∧ SeqAt.shaped (.list (xs.map Enc.e)) = true then some ((xs.map Enc.e).any fun z => PyData.eqv z (Enc.e a)) else none) = _
  rw [if_pos ⟨pint_sh (Enc.p a) (by decide), pint_sh (enc_all xs).1 (by decide)⟩, enc_any]
theorem enc_notin (a : α) (xs : List α) : cop .notin (Enc.e a) (.list (xs.map Enc.e)) = some (decide (a ∉ xs)) := by
  show (if SeqAt.shaped (Enc.e a) = true ∧ SeqAt.shaped (.list (xs.map Enc.e)) = true then some (!(xs.map Enc.e).any fun z => PyData.eqv z (Enc.e a)) else none) = _
  rw [if_pos ⟨pint_sh (Enc.p a) (by decide), pint_sh (enc_all xs).1 (by decide)⟩, enc_any]
  simp
theorem enc_map {xs ys : List α} (h : xs.map Enc.e = ys.map Enc.e) : xs = ys := by
  induction xs generalizing ys with
  | nil => cases ys <;> simp at h ⊢
  | cons x xs ih =>
    cases ys with
    | nil => simp at h
    | cons y ys =>
      simp only [List.map_cons, List.cons.injEq] at h
      rw [Enc.inj h.1, ih h.2]
theorem encL_eq (xs ys : List α) : cop .eq (.list (xs.map Enc.e)) (.list (ys.map Enc.e)) = some (decide (xs = ys)) := by
  show (if SeqAt.shaped (.list (xs.map Enc.e)) = true ∧ SeqAt.shaped (.list (ys.map Enc.e)) = true then some (PyData.eqv (.list (xs.map Enc.e)) (.list (ys.map Enc.e))) else none) = _
  rw [if_pos ⟨pint_sh (enc_all xs).1 (by decide), pint_sh (enc_all ys).1 (by decide)⟩, Option.some.injEq, Bool.eq_iff_iff, pint_eqv 9 _ _ (enc_all xs).1 (enc_all ys).1, decide_eq_true_eq]
  exact ⟨fun h => enc_map (PyData.list.inj h), fun h => by rw [h]⟩
theorem encL_ne (xs ys : List α) : cop .ne (.list (xs.map Enc.e)) (.list (ys.map Enc.e)) = some (decide (xs ≠ ys)) := by
  have e : (if SeqAt.shaped (.list (xs.map Enc.e)) = true ∧ SeqAt.shaped (.list (ys.map Enc.e)) = true then some (PyData.eqv (.list (xs.map Enc.e)) (.list (ys.map Enc.e))) else none) = some (decide (xs = ys)) := encL_eq xs ys
  show (if SeqAt.shaped (.list (xs.map Enc.e)) = true ∧ SeqAt.shaped (.list (ys.map Enc.e)) = true then some (!PyData.eqv (.list (xs.map Enc.e)) (.list (ys.map Enc.e))) else none) = _
  rw [if_pos ⟨pint_sh (enc_all xs).1 (by decide), pint_sh (enc_all ys).1 (by decide)⟩] at e ⊢
  rw [Option.some.inj e]
  simp
end
/-! ### numbers, fractions, directions, rows, places -/
abbrev Dir := Int × Int
def dirD (d : Dir) : D := .tuple [.int d.1, .int d.2]
instance : Enc Int := ⟨.int, fun h => by cases h; rfl, fun _ => rfl⟩
instance : Enc Rat := ⟨fracD, fun {a b} h => by
  simp only [fracD, PyData.tuple.injEq, List.cons.injEq, PyData.int.injEq, and_true] at h
  exact Rat.ext h.1 (by omega), fun _ => rfl⟩
instance : Enc Dir := ⟨dirD, fun {a b} h => by
  simp only [dirD, PyData.tuple.injEq, List.cons.injEq, PyData.int.injEq, and_true] at h
  exact Prod.ext h.1 h.2, fun _ => rfl⟩
instance : Enc Row := ⟨rowD, fun {a b} h => by
  simp only [rowD, PyData.tuple.injEq, List.cons.injEq, PyData.int.injEq, and_true] at h
  exact Prod.ext h.1 (Prod.ext h.2.1 h.2.2), fun _ => rfl⟩
instance : Enc Place := ⟨placeD, fun {a b} h => by
  simp only [placeD, PyData.tuple.injEq, List.cons.injEq, and_true] at h
  exact Prod.ext (Enc.inj (α := Rat) h.1) (Enc.inj (α := Rat) h.2), fun _ => rfl⟩
@[simp] theorem eq_row (a b : Row) : cop .eq (rowD a) (rowD b) = some (decide (a = b)) := enc_eq a b
@[simp] theorem ne_row (a b : Row) : cop .ne (rowD a) (rowD b) = some (decide (a ≠ b)) := enc_ne a b
@[simp] theorem eq_frac (a b : Rat) : cop .eq (fracD a) (fracD b) = some (decide (a = b)) := enc_eq a b
@[simp] theorem ne_frac (a b : Rat) : cop .ne (fracD a) (fracD b) = some (decide (a ≠ b)) := enc_ne a b
@[simp] theorem eq_place (a b : Place) : cop .eq (placeD a) (placeD b) = some (decide (a = b)) := enc_eq a b
@[simp] theorem ne_place (a b : Place) : cop .ne (placeD a) (placeD b) = some (decide (a ≠ b)) := enc_ne a b
@[simp] theorem eq_dir (a b : Dir) : cop .eq (dirD a) (dirD b) = some (decide (a = b)) := enc_eq a b
@[simp] theorem ne_dir (a b : Dir) : cop .ne (dirD a) (dirD b) = some (decide (a ≠ b)) := enc_ne a b
@[simp] theorem in_row (a : Row) (xs : List Row) : cop .isin (rowD a) (.list (xs.map rowD)) = some (decide (a ∈ xs)) := (enc_in a xs).trans (by congr)
@[simp] theorem nin_row (a : Row) (xs : List Row) : cop .notin (rowD a) (.list (xs.map rowD)) = some (decide (a ∉ xs)) := (enc_notin a xs).trans (by congr)
@[simp] theorem in_place (a : Place) (xs : List Place) : cop .isin (placeD a) (.list (xs.map placeD)) = some (decide (a ∈ xs)) := (enc_in a xs).trans (by congr)
@[simp] theorem nin_place (a : Place) (xs : List Place) : cop .notin (placeD a) (.list (xs.map placeD)) = some (decide (a ∉ xs)) := (enc_notin a xs).trans (by congr)
@[simp] theorem in_dir (a : Dir) (xs : List Dir) : cop .isin (dirD a) (.list (xs.map dirD)) = some (decide (a ∈ xs)) := (enc_in a xs).trans (by congr)
@[simp] theorem nin_dir (a : Dir) (xs : List Dir) : cop .notin (dirD a) (.list (xs.map dirD)) = some (decide (a ∉ xs)) := (enc_notin a xs).trans (by congr)
end Rc

set_option maxRecDepth 100000
set_option maxHeartbeats 4000000
/-! Directions. -/
namespace Rc
open PySem
/-- a tuple that begins with two numbers -/
abbrev ab (a b : Int) (r : List D) : D := .tuple (.int a :: .int b :: r)
def tw (p q : Dir) : Int := p.1 * q.2 - p.2 * q.1
theorem twist_eq (p q : Dir) (r r' : List D) (n : Nat) (h1 : Ib n p.1) (h2 : Ib n p.2) (h3 : Ib n q.1) (h4 : Ib n q.2) (hn : n ≤ 400000) : M_twist [(false, ab p.1 p.2 r), (false, ab q.1 q.2 r')] = .ok (false, .int (tw p q), [(false, ab p.1 p.2 r), (false, ab q.1 q.2 r')]) := by
  have m1 := h1.ok h4 (by omega)
  have m2 := h2.ok h3 (by omega)
  simp [M_twist, mkM, flg, runFn, B_twist, x_ss1, m1, m2, tw]
theorem tw_ib {p q : Dir} {n : Nat} (h1 : Ib n p.1) (h2 : Ib n p.2) (h3 : Ib n q.1) (h4 : Ib n q.2) : Ib (n + n + 1) (tw p q) := (h1.mul h4).sub (h2.mul h3)
theorem need_turn_eq (p q : Dir) (r r' : List D) (n : Nat) (h1 : Ib n p.1) (h2 : Ib n p.2) (h3 : Ib n q.1) (h4 : Ib n q.2) (hn : n ≤ 400000) :
    M_need_turn [(false, ab p.1 p.2 r), (false, ab q.1 q.2 r')] = if tw p q ≤ 0 then .exc (Str.ofString "NoTurn") else .ok (false, .none, [(false, ab p.1 p.2 r), (false, ab q.1 q.2 r')]) := by
  have e := twist_eq p q r r' n h1 h2 h3 h4 hn
  by_cases h : tw p q ≤ 0 <;> simp [M_need_turn, mkM, flg, runFn, B_need_turn, x_ss1, e, h]
/-- how many times the one and the other come to the third -/
def share (p q t : Dir) : Rat × Rat := (Rat.divInt (tw t q) (tw p q), Rat.divInt (tw p t) (tw p q))
def pairD (f : Rat × Rat) : D := .tuple [fracD f.1, fracD f.2]
theorem shares_eq (p q t : Dir) (r r' r'' : List D) (n : Nat) (h1 : Ib n p.1) (h2 : Ib n p.2) (h3 : Ib n q.1) (h4 : Ib n q.2) (h5 : Ib n t.1) (h6 : Ib n t.2) (hz : tw p q ≠ 0) (hn : n ≤ 4000) :
    M_shares [(false, ab p.1 p.2 r), (false, ab q.1 q.2 r'), (false, ab t.1 t.2 r'')] = .ok (false, pairD (share p q t), [(false, ab p.1 p.2 r), (false, ab q.1 q.2 r'), (false, ab t.1 t.2 r'')]) := by
  have e1 := twist_eq p q r r' n h1 h2 h3 h4 (by omega)
  have e2 := twist_eq t q r'' r' n h5 h6 h3 h4 (by omega)
  have e3 := twist_eq p t r r'' n h1 h2 h5 h6 (by omega)
  have sm : small9 (tw p q) := (tw_ib h1 h2 h3 h4).small (by omega)
  have e4 := ratio_eq (tw t q) (tw p q) hz sm
  have e5 := ratio_eq (tw p t) (tw p q) hz sm
  have l2 : lenOk 2 := by decide
  simp [M_shares, mkM, flg, runFn, B_shares, x_ss1, e1, e2, e3, e4, e5, l2, pairD, share]
theorem is_whole_int (i : Int) : M_is_whole [(false, .int i)] = .ok (false, .bool true, [(false, .int i)]) := by
  simp [M_is_whole, mkM, flg, runFn, B_is_whole, x_ss1, isiD, tyOf, isiB]
theorem share_sz {p q t : Dir} {n : Nat} (h1 : Ib n p.1) (h2 : Ib n p.2) (h3 : Ib n q.1) (h4 : Ib n q.2) (h5 : Ib n t.1) (h6 : Ib n t.2) (hz : tw p q ≠ 0) : Sz (n + n + 1) (share p q t).1 ∧ Sz (n + n + 1) (share p q t).2 :=
  ⟨Sz.divInt (tw_ib h5 h6 h3 h4) (tw_ib h1 h2 h3 h4) hz, Sz.divInt (tw_ib h1 h2 h5 h6) (tw_ib h1 h2 h3 h4) hz⟩
theorem sz_zero {n : Nat} (h : 0 < n) : Sz n (0 : Rat) := ⟨by show (0 : Nat) < 2 ^ n; exact Nat.two_pow_pos _, by show 1 < 2 ^ n; exact Nat.one_lt_two_pow (by omega)⟩
theorem frac_zero : fracD (0 : Rat) = .tuple [.int 0, .int 1] := rfl
theorem divInt_neg {a b : Int} (hb : 0 < b) : Rat.divInt a b < 0 ↔ a < 0 := by
  rw [Rat.lt_iff]
  have z : (0 : Rat).num = 0 := rfl
  have w : ((0 : Rat).den : Int) = 1 := rfl
  rw [z, w, Int.mul_one, Int.zero_mul, Rat.num_divInt, Int.sign_eq_one_of_pos hb, Int.one_mul]
  have g : 0 < (b.gcd a : Int) := by
    have : 0 < b.gcd a := Int.gcd_pos_of_ne_zero_left _ (by omega)
    omega
  have d : (b.gcd a : Int) ∣ a := Int.gcd_dvd_right _ _
  rw [show Int.gcd b a = Int.gcd a b from Int.gcd_comm b a] at *
  constructor
  · intro h
    have := Int.ediv_mul_cancel d
    have : a / (a.gcd b : Int) * (a.gcd b : Int) < 0 := Int.mul_neg_of_neg_of_pos h g
    omega
  · intro h
    have := Int.ediv_mul_cancel d
    apply Int.not_le.mp
    intro h2
    have : 0 ≤ a / (a.gcd b : Int) * (a.gcd b : Int) := Int.mul_nonneg h2 (by omega)
    omega
/-- parts of a pair of numbers -/
theorem parts_dir (p q t : Dir) (r r' : List D) (n : Nat) (h1 : Ib n p.1) (h2 : Ib n p.2) (h3 : Ib n q.1) (h4 : Ib n q.2) (h5 : Ib n t.1) (h6 : Ib n t.2) (hn : n ≤ 1900) :
    M_parts [(false, ab p.1 p.2 r), (false, ab q.1 q.2 r'), (false, dirD t)] = if tw p q ≤ 0 then .exc (Str.ofString "NoTurn") else .ok (false, if t = (0, 0) ∨ tw t q < 0 ∨ tw p t < 0 then .none else pairD (share p q t), [(false, ab p.1 p.2 r), (false, ab q.1 q.2 r'), (false, dirD t)]) := by
  have e0 := need_turn_eq p q r r' n h1 h2 h3 h4 (by omega)
  by_cases hz : tw p q ≤ 0
  · rw [if_pos hz] at e0
    simp [M_parts, mkM, flg, runFn, B_parts, x_ss1, e0, hz]
  · rw [if_neg hz] at e0
    have hp : 0 < tw p q := by omega
    have e1 := shares_eq p q t r r' [] n h1 h2 h3 h4 h5 h6 (by omega) (by omega)
    obtain ⟨s1, s2⟩ := share_sz (t := t) h1 h2 h3 h4 h5 h6 (show tw p q ≠ 0 by omega)
    have e2 := is_less_eq (share p q t).1 0 (n + n + 1) s1 (sz_zero (by omega)) (by omega)
    have e3 := is_less_eq (share p q t).2 0 (n + n + 1) s2 (sz_zero (by omega)) (by omega)
    have n1 : ((share p q t).1 < 0) = (tw t q < 0) := propext (divInt_neg hp)
    have n2 : ((share p q t).2 < 0) = (tw p t < 0) := propext (divInt_neg hp)
    rw [frac_zero] at e2 e3
    simp only [n1] at e2
    simp only [n2] at e3
    have w1 := is_whole_int t.1
    have w2 := is_whole_int t.2
    have q0 : cop .eq (dirD t) (.tuple [.int 0, .int 0]) = some (decide (t = (0, 0))) := eq_dir t (0, 0)
    have l2 : lenOk 2 := by decide
    simp only [dirD] at q0
    by_cases c0 : t = (0, 0)
    · subst c0
      simp [M_parts, mkM, flg, runFn, B_parts, x_ss1, e0, hz, isiD, tyOf, isiB, dirD, w1, e1, q0, l2, pairD] at *
    · by_cases c1 : tw t q < 0
      · simp [M_parts, mkM, flg, runFn, B_parts, x_ss1, e0, hz, isiD, tyOf, isiB, dirD, w1, w2, e1, q0, l2, pairD, c0, e2, c1]
      · by_cases c2 : tw p t < 0
        · simp [M_parts, mkM, flg, runFn, B_parts, x_ss1, e0, hz, isiD, tyOf, isiB, dirD, w1, w2, e1, q0, l2, pairD, c0, e2, c1, e3, c2]
        · simp [M_parts, mkM, flg, runFn, B_parts, x_ss1, e0, hz, isiD, tyOf, isiB, dirD, w1, w2, e1, q0, l2, pairD, c0, e2, c1, e3, c2]
theorem nice_frac (n : Nat) (a : Rat) : Nice (n + 2) (fracD a) := .tup (fun x hx => by
  simp only [List.mem_cons, List.not_mem_nil, or_false] at hx
  rcases hx with rfl | rfl
  · exact .int n _
  · exact .int n _) (len_ok (by simp))
theorem nice_row (n : Nat) (r : Row) : Nice (n + 2) (rowD r) := .tup (fun x hx => by
  simp only [List.mem_cons, List.not_mem_nil, or_false] at hx
  rcases hx with rfl | rfl | rfl
  · exact .int n _
  · exact .int n _
  · exact .int n _) (len_ok (by simp))
theorem nice_dir (n : Nat) (r : Dir) : Nice (n + 2) (dirD r) := .tup (fun x hx => by
  simp only [List.mem_cons, List.not_mem_nil, or_false] at hx
  rcases hx with rfl | rfl
  · exact .int n _
  · exact .int n _) (len_ok (by simp))
theorem nice_pair (n : Nat) (f : Rat × Rat) : Nice (n + 3) (pairD f) := .tup (fun x hx => by
  simp only [List.mem_cons, List.not_mem_nil, or_false] at hx
  rcases hx with rfl | rfl <;> exact nice_frac n _) (len_ok (by simp))
@[simp] theorem kx_nil (os : List Nat) (k : Nat) : keepX os k [] = [] := rfl
@[simp] theorem kx_cons (os : List Nat) (k : Nat) (p : Option (Bool × D)) (m : Env) : keepX os k (p :: m) = (if os.contains k = true then p else match p with | some (true, _) => none | p => p) :: keepX os (k + 1) m := rfl
@[simp] theorem lenOk_1 : lenOk 1 := by decide
@[simp] theorem lenOk_2 : lenOk 2 := by decide
@[simp] theorem lenOk_3 : lenOk 3 := by decide
@[simp] theorem lenOk_4 : lenOk 4 := by decide
@[simp] theorem lenOk_5 : lenOk 5 := by decide
@[simp] theorem lenOk_6 : lenOk 6 := by decide
@[simp] theorem lenOk_7 : lenOk 7 := by decide
@[simp] theorem lenOk_8 : lenOk 8 := by decide
@[simp] theorem lenOk_9 : lenOk 9 := by decide
@[simp] theorem lenOk_10 : lenOk 10 := by decide
@[simp] theorem lenOk_0 : lenOk 0 := by decide
@[simp] theorem ne_one (i j : Int) : cop .ne (.list [.int i]) (.list [.int j]) = some (decide (i ≠ j)) := (encL_ne (α := Int) [i] [j]).trans (by simp)
@[simp] theorem isnot_nn : cop .isnot .none .none = some false := rfl
@[simp] theorem is_nn : cop .is .none .none = some true := rfl
@[simp] theorem isnot_tn (xs : List D) : cop .isnot (.tuple xs) .none = some true := rfl
@[simp] theorem is_tn (xs : List D) : cop .is (.tuple xs) .none = some false := rfl
@[simp] theorem isnot_ln (xs : List D) : cop .isnot (.list xs) .none = some true := rfl
@[simp] theorem is_ln (xs : List D) : cop .is (.list xs) .none = some false := rfl
@[simp] theorem isnot_in (i : Int) : cop .isnot (.int i) .none = some true := rfl
@[simp] theorem is_in (i : Int) : cop .is (.int i) .none = some false := rfl
@[simp] theorem idx_dir0 (p : Dir) : idxF (dirD p) (.int 0) = some (.int p.1) := by simp [dirD]
@[simp] theorem idx_dir1 (p : Dir) : idxF (dirD p) (.int 1) = some (.int p.2) := by simp [dirD]
@[simp] theorem idx_row0 (p : Row) : idxF (rowD p) (.int 0) = some (.int p.1) := by simp [rowD]
@[simp] theorem idx_row1 (p : Row) : idxF (rowD p) (.int 1) = some (.int p.2.1) := by simp [rowD]
@[simp] theorem idx_row2 (p : Row) : idxF (rowD p) (.int 2) = some (.int p.2.2) := by simp [rowD]
@[simp] theorem idx_place0 (p : Place) : idxF (placeD p) (.int 0) = some (fracD p.1) := by simp [placeD]
@[simp] theorem idx_place1 (p : Place) : idxF (placeD p) (.int 1) = some (fracD p.2) := by simp [placeD]
@[simp] theorem idx_frac0 (p : Rat) : idxF (fracD p) (.int 0) = some (.int p.num) := by simp [fracD]
@[simp] theorem idx_frac1 (p : Rat) : idxF (fracD p) (.int 1) = some (.int p.den) := by simp [fracD]
theorem ins_eq (xs : List D) (i : Nat) (y : D) (h : i ≤ 1000000) (lo : lenOk (xs.length + 1)) : mthF .insert (.list xs) [.int i, y] = some (.list (xs.take i ++ y :: xs.drop i)) := by
  rw [mthF, if_pos ⟨by omega, by omega, lo⟩, Int.toNat_natCast]
theorem mth_ins {i : Nat} {es : Es} {m m1 : Env} {xs ys : List D} {k : Nat} {y : D} (h0 : geti m i = some (true, .list ys)) (h : evs es m = .ok ([.int k, y], m1)) (h1 : geti m1 i = some (true, .list xs)) (hk : k ≤ 1000000) (lo : lenOk (xs.length + 1)) :
    exS (.mth i .insert es) m = .ok (.nx (m1.set i (some (true, .list (xs.take k ++ y :: xs.drop k))))) := by
  have e := ins_eq xs k y hk lo
  rw [exS, h0]
  show (evs es m).bind (fun p => match geti p.2 i with
    | some (true, d) => (Res.ofO (mthF .insert d p.1)).bind fun d' => Res.ok (Fw.nx (p.2.set i (some (true, d'))))
    | _ => .bad) = _
  rw [h, bind_ok]
  simp only [h1, e, ofO_some, bind_ok]
end Rc

set_option maxRecDepth 100000
set_option maxHeartbeats 4000000
/-! Rules for comprehensions and loops, whole; what the program finds of rows. -/
namespace Rc
open PySem
/-- a comprehension that leaves all as it is -/
theorem ev_lc {α : Type} {e c : E} {g own : List Nat} {it : It} {m : Env} {srcs : List (Nat × List D)} (item : α → D) (p : α → Bool) (f : α → D) (xs : List α)
    (hit : evI it m = .ok (xs.map item, srcs, m)) (hs : srcOk m srcs) (ho : (own.all fun i => shO (geti m i)) = true) (hw : wipeE m own = m) (hb : backE m m own = m) (hl : lenOk xs.length)
    (h : ∀ x ∈ xs, ∃ m1, bindT g (item x) m = some m1 ∧ (∃ b, ev c m1 = .ok ((b, .bool (p x)), m1)) ∧ wipeE m1 own = m ∧ (p x = true → ∃ b m2, ev e m1 = .ok ((b, f x), m2) ∧ wipeE (tkm e m2) own = m)) :
    ev (.lc e g it c own) m = .ok ((true, .list ((xs.filter p).map f)), m) := by
  have q := lc_fm (srcs := srcs) (own := own) (g := g) (cnd := evC c) (elt := evT e) (m := m) item p f hs xs fun x hx => by
    obtain ⟨m1, b1, ⟨b, e1⟩, w1, h2⟩ := h x hx
    refine ⟨m1, m1, b1, by rw [x_evC, e1]; rfl, fun hp => ?_, fun _ => w1⟩
    obtain ⟨b', m2, e2, w2⟩ := h2 hp
    exact ⟨tkm e m2, by unfold evT; rw [e2, bind_ok], w2⟩
  have l : lenOk ((xs.filter p).map f).length := by
    have := List.length_filter_le p xs
    unfold lenOk at *
    rw [List.length_map]
    omega
  have := x_lc (e := e) (c := c) (g := g) (own := own) hit ho (by rw [hw]; exact q) l
  rw [this, hb]
/-- .. without a test -/
theorem ev_lcm {α : Type} {e : E} {g own : List Nat} {it : It} {m : Env} {srcs : List (Nat × List D)} (item : α → D) (f : α → D) (xs : List α)
    (hit : evI it m = .ok (xs.map item, srcs, m)) (hs : srcOk m srcs) (ho : (own.all fun i => shO (geti m i)) = true) (hw : wipeE m own = m) (hb : backE m m own = m) (hl : lenOk xs.length)
    (h : ∀ x ∈ xs, ∃ m1, bindT g (item x) m = some m1 ∧ (∃ b, ev e m1 = .ok ((b, f x), m1)) ∧ wipeE (tkm e m1) own = m) :
    ev (.lc e g it (.con (.bool true)) own) m = .ok ((true, .list (xs.map f)), m) := by
  have q := lc_mp (srcs := srcs) (own := own) (g := g) (cnd := evC (.con (.bool true))) (elt := evT e) (m := m) item f hs xs fun x hx => by
    obtain ⟨m1, b1, ⟨b', e2⟩, w2⟩ := h x hx
    exact ⟨m1, m1, tkm e m1, b1, by simp, by unfold evT; rw [e2, bind_ok], w2⟩
  have := x_lc (e := e) (c := .con (.bool true)) (g := g) (own := own) hit ho (by rw [hw]; exact q) (by rw [List.length_map]; exact hl)
  rw [this, hb]
/-- a loop, told by its state -/
theorem for_eq {σ α : Type} {it : It} {g : List Nat} {b : Ss} {srcs : List (Nat × List D)} (enc : σ → Env) (item : α → D) (f : σ → α → σ) (I : List α → σ → Prop) {xs : List α} {s0 : σ}
    (hit : evI it (enc s0) = .ok (xs.map item, srcs, enc s0)) (hs : ∀ r s, I r s → srcOk (enc s) srcs) (h0 : I xs s0)
    (h : ∀ x r s, I (x :: r) s → ∃ m1, bindT g (item x) (enc s) = some m1 ∧ exSs b m1 = .ok (.nx (enc (f s x))) ∧ I r (f s x)) :
    exS (.sfor g it b) (enc s0) = .ok (.nx (enc (xs.foldl f s0))) ∧ I [] (xs.foldl f s0) := by
  obtain ⟨q1, q2⟩ := for_fold (srcs := srcs) (g := g) (body := exSs b) enc item f I hs h xs s0 h0
  refine ⟨?_, q2⟩
  rw [x_sfor, hit, lb_ok]
  exact q1
theorem for_ex {σ α : Type} {srcs : List (Nat × List D)} {g : List Nat} {body : Env → Res Fw} (enc : σ → Env) (item : α → D) (P : List α → σ → Prop) (hs : ∀ r s, P r s → srcOk (enc s) srcs)
    (h : ∀ x r s, P (x :: r) s → ∃ m1 s', bindT g (item x) (enc s) = some m1 ∧ body m1 = .ok (.nx (enc s')) ∧ P r s') :
    ∀ (xs : List α) (s : σ), P xs s → ∃ s', forL srcs g body (xs.map item) (enc s) = .ok (.nx (enc s')) ∧ P [] s'
  | [], s, i => ⟨s, by simp only [List.map_nil]; rw [forL, if_pos (hs _ _ i)], i⟩
  | x :: xs, s, i => by
    obtain ⟨m1, s1, b, e, i2⟩ := h x xs s i
    obtain ⟨s', q1, q2⟩ := for_ex enc item P hs h xs s1 i2
    refine ⟨s', ?_, q2⟩
    rw [List.map_cons, forL, if_pos (hs _ _ i), b, ofO_some, bind_ok, e, bind_ok]
    exact q1
/-- a loop of which only something is told -/
theorem for_is {σ α : Type} {it : It} {g : List Nat} {b : Ss} {srcs : List (Nat × List D)} (enc : σ → Env) (item : α → D) (P : List α → σ → Prop) {xs : List α} {s0 : σ}
    {m0 : Env} (hit : evI it m0 = .ok (xs.map item, srcs, enc s0)) (hs : ∀ r s, P r s → srcOk (enc s) srcs) (h0 : P xs s0)
    (h : ∀ x r s, P (x :: r) s → ∃ m1 s', bindT g (item x) (enc s) = some m1 ∧ exSs b m1 = .ok (.nx (enc s')) ∧ P r s') :
    ∃ s', exS (.sfor g it b) m0 = .ok (.nx (enc s')) ∧ P [] s' := by
  obtain ⟨s', q1, q2⟩ := for_ex (srcs := srcs) (g := g) (body := exSs b) enc item P hs h xs s0 h0
  refine ⟨s', ?_, q2⟩
  rw [x_sfor, hit, lb_ok]
  exact q1
/-- a loop that leaves at the first item that is so -/
theorem for_first {α : Type} {it : It} {g : List Nat} {b : Ss} {srcs : List (Nat × List D)} {m mr : Env} {fr : Bool} {v : D} (item : α → D) (p : α → Bool) {xs : List α}
    (hit : evI it m = .ok (xs.map item, srcs, m)) (hs : srcOk m srcs) (h : ∀ x ∈ xs, ∃ m1, bindT g (item x) m = some m1 ∧ exSs b m1 = if p x = true then .ok (.rt fr v mr) else .ok (.nx m)) :
    exS (.sfor g it b) m = if xs.any p = true then .ok (.rt fr v mr) else .ok (.nx m) := by
  rw [x_sfor, hit, lb_ok]
  exact for_find item p hs xs h
/-! ### rows -/
abbrev Row.d (r : Row) : Dir := (r.1, r.2.1)
def twR (r s : Row) : Int := tw r.d s.d
theorem twR_self (r : Row) : twR r r = 0 := by unfold twR tw; simp only; rw [Int.mul_comm]; omega
theorem twR_sw (r s : Row) : twR s r = - twR r s := by unfold twR tw; simp only; rw [Int.mul_comm s.1, Int.mul_comm s.2.1]; omega
theorem twistR_eq (r s : Row) (n : Nat) (h1 : SzR n r) (h2 : SzR n s) (hn : n ≤ 4000) : M_twist [(false, rowD r), (false, rowD s)] = .ok (false, .int (twR r s), [(false, rowD r), (false, rowD s)]) :=
  twist_eq r.d s.d [.int r.2.2] [.int s.2.2] n h1.1 h1.2.1 h2.1 h2.2.1 (by omega)
/-- where two rows are both tight -/
def cross (r s : Row) : Place := (Rat.divInt (r.2.2 * s.2.1 - r.2.1 * s.2.2) (twR r s), Rat.divInt (r.1 * s.2.2 - r.2.2 * s.1) (twR r s))
theorem twR_ib {r s : Row} {n : Nat} (h1 : SzR n r) (h2 : SzR n s) : Ib (2 * n + 1) (twR r s) := by
  have := tw_ib (p := r.d) (q := s.d) h1.1 h1.2.1 h2.1 h2.2.1
  rwa [show n + n + 1 = 2 * n + 1 by omega] at this
theorem cross_sz {r s : Row} {n : Nat} (h1 : SzR n r) (h2 : SzR n s) (z : twR r s ≠ 0) : SzP (2 * n + 1) (cross r s) := by
  have t := twR_ib h1 h2
  have a := (h1.2.2.mul h2.2.1).sub (h1.2.1.mul h2.2.2)
  have b := (h1.1.mul h2.2.2).sub (h1.2.2.mul h2.1)
  rw [show n + n + 1 = 2 * n + 1 by omega] at a b
  exact ⟨Sz.divInt a t z, Sz.divInt b t z⟩
theorem crossing_eq (r s : Row) (n : Nat) (h1 : SzR n r) (h2 : SzR n s) (z : twR r s ≠ 0) (hn : n ≤ 4000) : M_crossing [(false, rowD r), (false, rowD s)] = .ok (false, placeD (cross r s), [(false, rowD r), (false, rowD s)]) := by
  have e1 := twistR_eq r s n h1 h2 hn
  have sm : small9 (twR r s) := (twR_ib h1 h2).small (by omega)
  have e2 := ratio_eq (r.2.2 * s.2.1 - r.2.1 * s.2.2) (twR r s) z sm
  have e3 := ratio_eq (r.1 * s.2.2 - r.2.2 * s.1) (twR r s) z sm
  have m1 := h1.2.2.ok h2.2.1 (by omega)
  have m2 := h1.2.1.ok h2.2.2 (by omega)
  have m3 := h1.1.ok h2.2.2 (by omega)
  have m4 := h1.2.2.ok h2.1 (by omega)
  simp [M_crossing, mkM, flg, runFn, B_crossing, x_ss1, e1, e2, e3, m1, m2, m3, m4, placeD, cross]
/-- a place keeps all rows -/
def Kp (rs : List Row) (p : Place) : Prop := ∀ r ∈ rs, val r p ≤ r.2.2
def kpB (rs : List Row) (p : Place) : Bool := rs.all fun r => decide (val r p ≤ r.2.2)
theorem kpB_iff {rs : List Row} {p : Place} : kpB rs p = true ↔ Kp rs p := by simp [kpB, Kp]
/-- all pairs of a list, the earlier one ahead -/
def prsOf {α : Type} : List α → List (α × α)
  | [] => []
  | x :: xs => xs.map (fun y => (x, y)) ++ prsOf xs
theorem prs_zip2 {α : Type} : ∀ (xs pre : List α), ((List.range' pre.length xs.length).zip xs).flatMap (fun p => ((pre ++ xs).drop (p.1 + 1)).map fun y => (p.2, y)) = prsOf xs
  | [], pre => rfl
  | x :: xs, pre => by
    have ih := prs_zip2 xs (pre ++ [x])
    simp only [List.length_append, List.length_cons, List.length_nil, List.append_assoc, List.cons_append, List.nil_append] at ih
    rw [List.length_cons, List.range'_succ, List.zip_cons_cons, List.flatMap_cons, ih]
    have : (pre ++ x :: xs).drop (pre.length + 1) = xs := by
      rw [← List.drop_drop, List.drop_left]
      rfl
    simp only [this, prsOf]
theorem prs_eq {α : Type} (xs : List α) : ((List.range xs.length).zip xs).flatMap (fun p => (xs.drop (p.1 + 1)).map fun y => (p.2, y)) = prsOf xs := by
  have := prs_zip2 xs []
  simpa [List.range_eq_range'] using this
theorem mem_prs {α : Type} {x y : α} : ∀ {xs : List α}, (x, y) ∈ prsOf xs → x ∈ xs ∧ y ∈ xs
  | [], h => by simp [prsOf] at h
  | z :: xs, h => by
    simp only [prsOf, List.mem_append, List.mem_map, Prod.mk.injEq] at h
    rcases h with ⟨w, hw, rfl, rfl⟩ | h
    · exact ⟨List.mem_cons_self, List.mem_cons_of_mem _ hw⟩
    · obtain ⟨a, b⟩ := mem_prs h
      exact ⟨List.mem_cons_of_mem _ a, List.mem_cons_of_mem _ b⟩
theorem prs_of {α : Type} {x y : α} : ∀ {xs : List α}, x ∈ xs → y ∈ xs → x ≠ y → (x, y) ∈ prsOf xs ∨ (y, x) ∈ prsOf xs
  | [], h, _, _ => by simp at h
  | z :: xs, h1, h2, ne => by
    simp only [prsOf, List.mem_append, List.mem_map, Prod.mk.injEq]
    rcases List.mem_cons.mp h1 with rfl | h1
    · rcases List.mem_cons.mp h2 with rfl | h2
      · exact absurd rfl ne
      · exact .inl (.inl ⟨y, h2, rfl, rfl⟩)
    · rcases List.mem_cons.mp h2 with rfl | h2
      · exact .inr (.inl ⟨x, ‹_›, rfl, rfl⟩)
      · rcases prs_of h1 h2 ne with h | h
        · exact .inl (.inr h)
        · exact .inr (.inr h)
/-- the corners found: one step -/
def fcS (rs : List Row) (acc : List Place) (p : Row × Row) : List Place := if twR p.1 p.2 ≠ 0 ∧ cross p.1 p.2 ∉ acc ∧ kpB rs (cross p.1 p.2) = true then acc ++ [cross p.1 p.2] else acc
def fc (rs : List Row) : List Place := (prsOf rs).foldl (fcS rs) []
theorem enum_zip (rs : List Row) : List.zipWith (fun (k : Nat) v => PyData.tuple [.int k, v]) (List.range rs.length) (rs.map rowD) = ((List.range rs.length).zip rs).map fun p => PyData.tuple [.int p.1, rowD p.2] := by
  rw [List.zipWith_map_right, List.zip, List.map_zipWith]
theorem foldl_prs {σ : Type} (rs : List Row) (f : σ → Row × Row → σ) (s : σ) : ((List.range rs.length).zip rs).foldl (fun s p => (rs.drop (p.1 + 1)).foldl (fun s y => f s (p.2, y)) s) s = (prsOf rs).foldl f s := by
  rw [← prs_eq, List.foldl_flatMap]
  congr 1
  funext s p
  rw [List.foldl_map]
theorem mem_zipR {α : Type} {xs : List α} {p : Nat × α} (h : p ∈ (List.range xs.length).zip xs) : p.1 < xs.length ∧ p.2 ∈ xs := by
  have := List.of_mem_zip h
  exact ⟨List.mem_range.mp this.1, this.2⟩
def SzRs (n : Nat) (rs : List Row) : Prop := rs.length ≤ 100000 ∧ ∀ r ∈ rs, SzR n r
theorem keeps_lc (rs : List Row) (p : Place) (n : Nat) (hr : SzRs n rs) (hp : SzP n p) (h0 : 0 < n) (hn : n ≤ 900) (x1 x2 x3 x4 : Option (Bool × D)) :
    ev (.lc V1_found_corners [6] (.sq (.var 0)) (.con (.bool true)) [6]) [some (false, fieldD rs), x1, x2, x3, x4, some (false, placeD p), none] = .ok ((true, .list (rs.map fun r => .bool (decide (val r p ≤ r.2.2)))), [some (false, fieldD rs), x1, x2, x3, x4, some (false, placeD p), none]) := by
  refine ev_lcm (srcs := []) rowD _ rs (by simp [fieldD, srcsOf]) trivial (by simp) (by simp) (by simp [backE]) (len_ok (by have := hr.1; omega)) fun r hrs => ?_
  have e := keeps_eq r p n (hr.2 r hrs) hp h0 hn
  exact ⟨_, rfl, ⟨false, by simp [V1_found_corners, e]⟩, by simp [V1_found_corners]⟩
def fcE (rs : List Row) (acc : List Place) : Env := [some (false, fieldD rs), some (true, .list (acc.map placeD)), none, none, none, none, none]
def fcE2 (rs : List Row) (k : Int) (r : Row) (acc : List Place) : Env := [some (false, fieldD rs), some (true, .list (acc.map placeD)), some (false, .int k), some (false, rowD r), none, none, none]
theorem fcS_len (rs : List Row) (acc : List Place) (p : Row × Row) : (fcS rs acc p).length ≤ acc.length + 1 := by
  unfold fcS
  split <;> simp
theorem fc_inner (rs : List Row) (n : Nat) (hr : SzRs n rs) (hn : n ≤ 400) (k : Int) (r s : Row) (acc : List Place) (hrr : r ∈ rs) (hs : s ∈ rs) (hl : acc.length < 1000000) :
    exSs L1_found_corners [some (false, fieldD rs), some (true, .list (acc.map placeD)), some (false, .int k), some (false, rowD r), some (false, rowD s), none, none] = .ok (.nx (fcE2 rs k r (fcS rs acc (r, s)))) := by
  have e1 := twistR_eq r s n (hr.2 r hrr) (hr.2 s hs) (by omega)
  by_cases z : twR r s = 0
  · simp [L1_found_corners, x_ss1, e1, z, fcE2, fcS]
  · have e2 := crossing_eq r s n (hr.2 r hrr) (hr.2 s hs) z (by omega)
    have sz := cross_sz (hr.2 r hrr) (hr.2 s hs) z
    have hr' : SzRs (2 * n + 1) rs := ⟨hr.1, fun q hq => by
      obtain ⟨a, b, c⟩ := hr.2 q hq
      exact ⟨a.mono (by omega), b.mono (by omega), c.mono (by omega)⟩⟩
    have e3 := keeps_lc rs (cross r s) (2 * n + 1) hr' sz (by omega) (by omega) (some (true, .list (acc.map placeD))) (some (false, .int k)) (some (false, rowD r)) (some (false, rowD s))
    have e4 := nin_place (cross r s) acc
    have e5 := all_map (fun q : Row => decide (val q (cross r s) ≤ q.2.2)) rs
    have lo : lenOk (acc.length + 1) := len_ok (by omega)
    have ek : (rs.all fun q => decide (val q (cross r s) ≤ q.2.2)) = kpB rs (cross r s) := rfl
    rw [ek] at e5
    by_cases w : cross r s ∈ acc
    · simp [L1_found_corners, x_ss1, e1, z, e2, e4, w, fcE2, fcS]
    · cases hk : kpB rs (cross r s) with
      | false => simp [L1_found_corners, x_ss1, e1, z, e2, e3, e4, e5, w, fcE2, fcS, hk]
      | true => simp [L1_found_corners, x_ss1, e1, z, e2, e3, e4, e5, w, fcE2, fcS, hk, mthF, lo]
theorem fc_step (rs : List Row) (n : Nat) (hr : SzRs n rs) (hn : n ≤ 400) (hl : rs.length ≤ 900) (R : Nat) (k : Nat) (r : Row) (acc : List Place) (hk : k < rs.length) (hrr : r ∈ rs) (h : acc.length + (R + 1) * rs.length ≤ rs.length * rs.length) :
    exSs L2_found_corners [some (false, fieldD rs), some (true, .list (acc.map placeD)), some (false, .int k), some (false, rowD r), none, none, none] = .ok (.nx (fcE rs ((rs.drop (k + 1)).foldl (fun a s => fcS rs a (r, s)) acc))) ∧
      ((rs.drop (k + 1)).foldl (fun a s => fcS rs a (r, s)) acc).length + R * rs.length ≤ rs.length * rs.length := by
  have ct := cut_from (rs.map rowD) (k + 1) (by omega) (by simp; omega)
  rw [show ((k : Int) + 1).toNat = k + 1 by omega, ← List.map_drop] at ct
  have big : rs.length * rs.length ≤ 810000 := Nat.mul_le_mul hl hl
  obtain ⟨q1, q2⟩ := for_eq (it := .sq (.slc (.var 0) (.bin .add (.var 2) (.con (.int 1))) (.con .none))) (g := [4]) (b := L1_found_corners) (srcs := []) (fcE2 rs k r) rowD (fun a s => fcS rs a (r, s)) (fun (l : List Row) a => (∀ s ∈ l, s ∈ rs) ∧ a.length + l.length + R * rs.length ≤ rs.length * rs.length) (xs := rs.drop (k + 1)) (s0 := acc)
    (by simp [fcE2, fieldD, srcsOf, ct, partI]) (fun _ _ _ => trivial) ⟨fun s hs => List.mem_of_mem_drop hs, by rw [Nat.succ_mul] at h; simp only [List.length_drop]; omega⟩ (fun s l a ⟨i1, i2⟩ => ⟨_, rfl, fc_inner rs n hr hn k r s a hrr (i1 s List.mem_cons_self) (by simp at i2; omega), fun s hs => i1 s (List.mem_cons_of_mem _ hs), by
      have := fcS_len rs a (r, s)
      simp at i2
      omega⟩)
  generalize (rs.drop (k + 1)).foldl (fun a s => fcS rs a (r, s)) acc = acc' at *
  refine ⟨?_, by have := q2.2; simp at this; exact this⟩
  simp only [fcE2] at q1
  simp [L2_found_corners, x_ss1, q1, fcE]
theorem found_corners_eq (rs : List Row) (n : Nat) (hr : SzRs n rs) (hn : n ≤ 400) (hl : rs.length ≤ 900) : M_found_corners [(false, fieldD rs)] = .ok (true, .list ((fc rs).map placeD), [(false, fieldD rs)]) := by
  obtain ⟨q1, q2⟩ := for_eq (it := .en (.var 0)) (g := [2, 3]) (b := L2_found_corners) (srcs := []) (fcE rs) (fun p : Nat × Row => .tuple [.int p.1, rowD p.2]) (fun a p => (rs.drop (p.1 + 1)).foldl (fun a s => fcS rs a (p.2, s)) a) (fun l a => (∀ p ∈ l, p.1 < rs.length ∧ p.2 ∈ rs) ∧ a.length + l.length * rs.length ≤ rs.length * rs.length) (xs := (List.range rs.length).zip rs) (s0 := [])
    (by simp [fcE, fieldD, srcsOf]; exact (enum_zip rs)) (fun _ _ _ => trivial) ⟨fun p hp => mem_zipR hp, by simp⟩ (fun p l a ⟨i1, i2⟩ => by
      obtain ⟨a1, a2⟩ := i1 p List.mem_cons_self
      rw [List.length_cons] at i2
      obtain ⟨b1, b2⟩ := fc_step rs n hr hn hl l.length p.1 p.2 a a1 a2 i2
      exact ⟨_, rfl, b1, fun s hs => i1 s (List.mem_cons_of_mem _ hs), b2⟩)
  rw [foldl_prs] at q1
  simp only [fcE, List.map_nil] at q1
  simp [M_found_corners, mkM, flg, runFn, B_found_corners, x_ss1, q1, fc]
end Rc

set_option maxRecDepth 100000
set_option maxHeartbeats 4000000
/-! Corners: what is found of rows, and where a greatest value lies. -/
namespace Rc
open PySem
theorem twR_cast (r s : Row) : ((twR r s : Int) : Rat) = (r.1 : Rat) * s.2.1 - (r.2.1 : Rat) * s.1 := by
  unfold twR tw
  simp only [Rat.intCast_sub, Rat.intCast_mul]
theorem castI_ne {i : Int} (h : i ≠ 0) : ((i : Int) : Rat) ≠ 0 := fun z => h (Rat.intCast_eq_zero_iff.mp z)
theorem val_cross (r s : Row) (z : twR r s ≠ 0) : val r (cross r s) = r.2.2 ∧ val s (cross r s) = s.2.2 := by
  have t := castI_ne z
  have h := Rat.mul_inv_cancel _ t
  unfold val cross
  simp only [Rat.divInt_eq_div, Rat.div_def, Rat.intCast_sub, Rat.intCast_mul]
  rw [twR_cast] at *
  generalize ((r.1 : Rat) * s.2.1 - (r.2.1 : Rat) * s.1)⁻¹ = w at *
  constructor <;> grind
theorem cross_of {r s : Row} {p : Place} (z : twR r s ≠ 0) (h1 : val r p = r.2.2) (h2 : val s p = s.2.2) : p = cross r s := by
  have t := castI_ne z
  have h := Rat.mul_inv_cancel _ t
  unfold val at h1 h2
  refine Prod.ext ?_ ?_
  · unfold cross
    simp only [Rat.divInt_eq_div, Rat.div_def, Rat.intCast_sub, Rat.intCast_mul]
    rw [twR_cast] at *
    generalize ((r.1 : Rat) * s.2.1 - (r.2.1 : Rat) * s.1)⁻¹ = w at *
    grind
  · unfold cross
    simp only [Rat.divInt_eq_div, Rat.div_def, Rat.intCast_sub, Rat.intCast_mul]
    rw [twR_cast] at *
    generalize ((r.1 : Rat) * s.2.1 - (r.2.1 : Rat) * s.1)⁻¹ = w at *
    grind
/-- a corner of what rows leave -/
def Cn (rs : List Row) (c : Place) : Prop := Kp rs c ∧ ∃ r ∈ rs, ∃ s ∈ rs, twR r s ≠ 0 ∧ val r c = r.2.2 ∧ val s c = s.2.2
theorem mem_fold (rs : List Row) (c : Place) : ∀ (l : List (Row × Row)) (acc : List Place), c ∈ l.foldl (fcS rs) acc ↔ c ∈ acc ∨ ∃ q ∈ l, twR q.1 q.2 ≠ 0 ∧ Kp rs (cross q.1 q.2) ∧ cross q.1 q.2 = c
  | [], acc => by simp
  | q :: l, acc => by
    rw [List.foldl_cons, mem_fold rs c l]
    unfold fcS
    split
    · rename_i h
      rw [kpB_iff] at h
      simp only [List.mem_append, List.mem_cons, List.not_mem_nil, or_false, exists_eq_or_imp]
      constructor
      · rintro ((h1 | h1) | h1)
        · exact .inl h1
        · exact .inr (.inl ⟨h.1, h.2.2, h1.symm⟩)
        · exact .inr (.inr h1)
      · rintro (h1 | h1 | h1)
        · exact .inl (.inl h1)
        · exact .inl (.inr h1.2.2.symm)
        · exact .inr h1
    · rename_i h
      rw [kpB_iff] at h
      simp only [List.mem_cons, exists_eq_or_imp]
      constructor
      · rintro (h1 | h1)
        · exact .inl h1
        · exact .inr (.inr h1)
      · rintro (h1 | ⟨h1, h2, h3⟩ | h1)
        · exact .inl h1
        · refine .inl ?_
          rw [← h3]
          apply Classical.byContradiction
          intro w
          exact h ⟨h1, w, h2⟩
        · exact .inr h1
theorem nodup_fold (rs : List Row) : ∀ (l : List (Row × Row)) (acc : List Place), acc.Nodup → (l.foldl (fcS rs) acc).Nodup
  | [], acc, h => h
  | q :: l, acc, h => by
    rw [List.foldl_cons]
    refine nodup_fold rs l _ ?_
    unfold fcS
    split
    · rename_i w
      rw [List.nodup_append]
      refine ⟨h, by simp, fun a ha b hb => ?_⟩
      simp at hb
      subst hb
      intro e
      subst e
      exact w.2.1 ha
    · exact h
theorem mem_fc {rs : List Row} {c : Place} : c ∈ fc rs ↔ Cn rs c := by
  unfold fc Cn
  rw [mem_fold]
  simp only [List.not_mem_nil, false_or]
  constructor
  · rintro ⟨⟨r, s⟩, h1, h2, h3, rfl⟩
    obtain ⟨a, b⟩ := mem_prs h1
    obtain ⟨v1, v2⟩ := val_cross r s h2
    exact ⟨h3, r, a, s, b, h2, v1, v2⟩
  · rintro ⟨h1, r, hr, s, hs, z, v1, v2⟩
    have ne : r ≠ s := by
      rintro rfl
      exact z (twR_self r)
    rcases prs_of hr hs ne with h | h
    · exact ⟨(r, s), h, z, by rw [← cross_of z v1 v2]; exact h1, (cross_of z v1 v2).symm⟩
    · have z' : twR s r ≠ 0 := by rw [twR_sw]; omega
      exact ⟨(s, r), h, z', by rw [← cross_of z' v2 v1]; exact h1, (cross_of z' v2 v1).symm⟩
theorem fc_nodup (rs : List Row) : (fc rs).Nodup := nodup_fold rs _ _ List.nodup_nil
/-! ### rows that go all round -/
/-- each row has rows to both sides -/
def Round (rs : List Row) : Prop := ∀ r ∈ rs, (∃ q ∈ rs, 0 < twR r q) ∧ (∃ q ∈ rs, twR r q < 0)
/-- a x + b y along a way -/
def al (q : Row) (u v : Rat) : Rat := u * q.1 + v * q.2.1
theorem val_move (q : Row) (p : Place) (u v t : Rat) : val q (p.1 + t * u, p.2 + t * v) = val q p + t * al q u v := by
  unfold val al
  grind
/-- along a way that some row stops, to the first row that does -/
theorem go_till {rs : List Row} {p : Place} {u v : Rat} (k : Kp rs p) (ex : ∃ q ∈ rs, 0 < al q u v) : ∃ t : Rat, 0 ≤ t ∧ Kp rs (p.1 + t * u, p.2 + t * v) ∧ ∃ q ∈ rs, 0 < al q u v ∧ val q (p.1 + t * u, p.2 + t * v) = q.2.2 := by
  have key : ∀ l : List Row, (∀ q ∈ l, q ∈ rs) → (∃ q ∈ l, 0 < al q u v) → ∃ t : Rat, 0 ≤ t ∧ (∀ q ∈ l, val q p + t * al q u v ≤ q.2.2) ∧ ∃ q ∈ l, 0 < al q u v ∧ val q p + t * al q u v = q.2.2 := by
    intro l
    induction l with
    | nil => intro _ h; simp at h
    | cons q l ih =>
      intro hl he
      have kq := k q (hl q List.mem_cons_self)
      by_cases hq : 0 < al q u v
      · -- q stops at tq
        have inv : al q u v * (al q u v)⁻¹ = 1 := Rat.mul_inv_cancel _ (by grind)
        have ip : 0 < (al q u v)⁻¹ := Rat.inv_pos.mpr hq
        have tq0 : 0 ≤ ((q.2.2 : Rat) - val q p) * (al q u v)⁻¹ := Rat.mul_nonneg (by grind) (by grind)
        have tqe : val q p + (((q.2.2 : Rat) - val q p) * (al q u v)⁻¹) * al q u v = q.2.2 := by grind
        generalize ((q.2.2 : Rat) - val q p) * (al q u v)⁻¹ = tq at *
        by_cases hex : ∃ q ∈ l, 0 < al q u v
        · obtain ⟨t, t0, ta, s, hs, sp, se⟩ := ih (fun x hx => hl x (List.mem_cons_of_mem _ hx)) hex
          rcases Rat.le_total (a := t) (b := tq) with c | c
          · refine ⟨t, t0, fun x hx => ?_, s, List.mem_cons_of_mem _ hs, sp, se⟩
            rcases List.mem_cons.mp hx with rfl | hx
            · have := Rat.mul_le_mul_of_nonneg_right c (Rat.le_of_lt hq)
              grind
            · exact ta x hx
          · refine ⟨tq, tq0, fun x hx => ?_, q, List.mem_cons_self, hq, tqe⟩
            rcases List.mem_cons.mp hx with rfl | hx
            · grind
            · have h1 := ta x hx
              have h2 := k x (hl x (List.mem_cons_of_mem _ hx))
              rcases Rat.le_total (a := 0) (b := al x u v) with d | d
              · have := Rat.mul_le_mul_of_nonneg_right c d
                grind
              · have := Rat.mul_nonneg tq0 (show 0 ≤ - al x u v by grind)
                grind
        · refine ⟨tq, tq0, fun x hx => ?_, q, List.mem_cons_self, hq, tqe⟩
          rcases List.mem_cons.mp hx with rfl | hx
          · grind
          · have h2 := k x (hl x (List.mem_cons_of_mem _ hx))
            have d : ¬ 0 < al x u v := fun z => hex ⟨x, hx, z⟩
            have := Rat.mul_nonneg tq0 (show 0 ≤ - al x u v by grind)
            grind
      · obtain ⟨q2, hq2, hp2⟩ := he
        have hex : ∃ q ∈ l, 0 < al q u v := by
          rcases List.mem_cons.mp hq2 with rfl | h
          · exact absurd hp2 hq
          · exact ⟨q2, h, hp2⟩
        obtain ⟨t, t0, ta, s, hs, sp, se⟩ := ih (fun x hx => hl x (List.mem_cons_of_mem _ hx)) hex
        refine ⟨t, t0, fun x hx => ?_, s, List.mem_cons_of_mem _ hs, sp, se⟩
        rcases List.mem_cons.mp hx with rfl | hx
        · have := Rat.mul_nonneg t0 (show 0 ≤ - al x u v by grind)
          grind
        · exact ta x hx
  obtain ⟨t, t0, ta, s, hs, sp, se⟩ := key rs (fun _ h => h) ex
  exact ⟨t, t0, fun q hq => by rw [val_move]; exact ta q hq, s, hs, sp, by rw [val_move]; exact se⟩
/-- along a row's line -/
theorem al_perp (r q : Row) : al q (-(r.2.1 : Rat)) (r.1 : Rat) = ((twR r q : Int) : Rat) := by
  rw [twR_cast]
  unfold al
  grind
theorem al_perp' (r q : Row) : al q (r.2.1 : Rat) (-(r.1 : Rat)) = - ((twR r q : Int) : Rat) := by
  rw [twR_cast]
  unfold al
  grind
theorem go_line {rs : List Row} {p : Place} {r : Row} (R : Round rs) (hr : r ∈ rs) (k : Kp rs p) (u v : Rat) :
    ∃ p' : Place, Kp rs p' ∧ u * p.1 + v * p.2 ≤ u * p'.1 + v * p'.2 ∧ val r p' = val r p ∧ ∃ q ∈ rs, twR r q ≠ 0 ∧ val q p' = q.2.2 := by
  obtain ⟨⟨a, ha, ha'⟩, ⟨b, hb, hb'⟩⟩ := R r hr
  rcases Rat.le_total (a := 0) (b := u * (-(r.2.1 : Rat)) + v * (r.1 : Rat)) with c | c
  · obtain ⟨t, t0, k', q, hq, qp, qe⟩ := go_till (u := -(r.2.1 : Rat)) (v := (r.1 : Rat)) k ⟨a, ha, by rw [al_perp]; exact Rat.intCast_pos.mpr ha'⟩
    rw [al_perp, Rat.intCast_pos] at qp
    refine ⟨_, k', ?_, ?_, q, hq, by omega, qe⟩
    · have := Rat.mul_nonneg t0 c
      simp only
      grind
    · rw [val_move, al_perp, twR_self]
      simp [Rat.add_zero]
  · obtain ⟨t, t0, k', q, hq, qp, qe⟩ := go_till (u := (r.2.1 : Rat)) (v := -(r.1 : Rat)) k ⟨b, hb, by
      rw [al_perp']
      have : ((twR r b : Int) : Rat) < 0 := Rat.intCast_neg_iff.mpr hb'
      grind⟩
    rw [al_perp'] at qp
    have qn : twR r q < 0 := Rat.intCast_neg_iff.mp (by grind)
    refine ⟨_, k', ?_, ?_, q, hq, by omega, qe⟩
    · have := Rat.mul_nonneg t0 (show 0 ≤ -(u * (-(r.2.1 : Rat)) + v * (r.1 : Rat)) by grind)
      simp only
      grind
    · rw [val_move, al_perp', twR_self]
      simp [Rat.add_zero]
/-- what is left has, for each direction, a corner that is as far along -/
theorem corner_max {rs : List Row} {p : Place} (R : Round rs) (ne : rs ≠ []) (k : Kp rs p) (u v : Rat) : ∃ c, Cn rs c ∧ u * p.1 + v * p.2 ≤ u * c.1 + v * c.2 := by
  obtain ⟨r0, hr0⟩ := List.exists_mem_of_ne_nil _ ne
  obtain ⟨p1, k1, f1, _, q, hq, z1, t1⟩ := go_line R hr0 k u v
  obtain ⟨p2, k2, f2, e2, s, hs, z2, t2⟩ := go_line R hq k1 u v
  exact ⟨p2, ⟨k2, q, hq, s, hs, z2, by rw [e2, t1], t2⟩, by grind⟩
/-- .. on a row that is tight, such a corner at which it is tight -/
theorem corner_on {rs : List Row} {p : Place} {r : Row} (R : Round rs) (hr : r ∈ rs) (k : Kp rs p) (t : val r p = r.2.2) (u v : Rat) : ∃ c, Cn rs c ∧ val r c = r.2.2 ∧ u * p.1 + v * p.2 ≤ u * c.1 + v * c.2 := by
  obtain ⟨p2, k2, f2, e2, s, hs, z2, t2⟩ := go_line R hr k u v
  exact ⟨p2, ⟨k2, r, hr, s, hs, z2, by rw [e2, t], t2⟩, by rw [e2, t], f2⟩
/-- a corner is alone where some direction is greatest -/
theorem corner_ext {rs : List Row} {c : Place} (h : Cn rs c) : ∃ u v : Int, ∀ q, Kp rs q → q ≠ c → (u : Rat) * q.1 + v * q.2 < u * c.1 + v * c.2 := by
  obtain ⟨_, r, hr, s, hs, z, t1, t2⟩ := h
  refine ⟨r.1 + s.1, r.2.1 + s.2.1, fun q kq ne => ?_⟩
  have h1 := kq r hr
  have h2 := kq s hs
  have n : ¬ (val r q = r.2.2 ∧ val s q = s.2.2) := fun ⟨a, b⟩ => ne (by rw [cross_of z a b, cross_of z t1 t2])
  have e : ∀ p : Place, ((r.1 + s.1 : Int) : Rat) * p.1 + ((r.2.1 + s.2.1 : Int) : Rat) * p.2 = val r p + val s p := fun p => by
    unfold val
    simp only [Rat.intCast_add]
    grind
  rw [e, e, t1, t2]
  rcases Rat.le_iff_lt_or_eq.mp h1 with a | a
  · grind
  · rcases Rat.le_iff_lt_or_eq.mp h2 with b | b
    · grind
    · exact absurd ⟨a, b⟩ n
end Rc

set_option maxRecDepth 100000
set_option maxHeartbeats 4000000
/-! What is a field, told by the program. -/
namespace Rc
open PySem
/-! ### rows are rows -/
instance (r : Row) : Decidable (nz r) := inferInstanceAs (Decidable (_ ∨ _))
instance (n : Nat) (i : Int) : Decidable (Ib n i) := inferInstanceAs (Decidable (_ < _))
theorem is_row_eq (r : Row) : M_is_row [(false, rowD r)] = .ok (false, .bool (decide (nz r)), [(false, rowD r)]) := by
  have e := ev_lcm (e := V1_is_row) (g := [1]) (own := [1]) (it := .sq (.var 0)) (m := [some (false, rowD r), none]) (srcs := []) PyData.int (fun _ => PyData.bool true) [r.1, r.2.1, r.2.2] (by simp [rowD, srcsOf]) trivial (by simp) (by simp) (by simp [backE]) (by simp) fun i _ => ⟨_, rfl, ⟨false, by simp [V1_is_row, is_whole_int]⟩, by simp [V1_is_row]⟩
  have l : bltF .len [rowD r] = some (false, .int 3) := rfl
  have i0 : isiD (rowD r) ["tuple"] = some true := by rfl
  simp only [List.map_cons, List.map_nil] at e
  by_cases h1 : r.1 = 0
  · by_cases h2 : r.2.1 = 0
    · simp [M_is_row, mkM, flg, runFn, B_is_row, x_ss1, i0, l, e, allB, h1, h2, nz]
    · simp [M_is_row, mkM, flg, runFn, B_is_row, x_ss1, i0, l, e, allB, h1, h2, nz]
  · simp [M_is_row, mkM, flg, runFn, B_is_row, x_ss1, i0, l, e, allB, h1, nz]
/-! ### all round -/
def posB (rs : List Row) (u v : Int) : Bool := rs.any fun q => decide (0 < q.1 * u + q.2.1 * v)
theorem pos_lc (rs : List Row) (n : Nat) (hr : SzRs n rs) (u v : Int) (hu : Ib (n + 1) u) (hv : Ib (n + 1) v) (hn : n ≤ 4000) (x1 x2 x3 : Option (Bool × D)) :
    ev (.lc V1_go_round [6] (.sq (.var 0)) (.con (.bool true)) [6]) [some (false, fieldD rs), x1, x2, x3, some (false, .int u), some (false, .int v), none] = .ok ((true, .list (rs.map fun q => .bool (decide (0 < q.1 * u + q.2.1 * v)))), [some (false, fieldD rs), x1, x2, x3, some (false, .int u), some (false, .int v), none]) := by
  refine ev_lcm (srcs := []) rowD _ rs (by simp [fieldD, srcsOf]) trivial (by simp) (by simp) (by simp [backE]) (len_ok (by have := hr.1; omega)) fun r hrs => ?_
  obtain ⟨a, b, _⟩ := hr.2 r hrs
  have m1 := a.ok hu (by omega)
  have m2 := b.ok hv (by omega)
  exact ⟨_, rfl, ⟨false, by simp [V1_go_round, m1, m2]⟩, by simp [V1_go_round]⟩
/-- a row with no row to one of its sides -/
def badR (rs : List Row) (r : Row) : Bool := !(posB rs r.2.1 (0 - r.1)) || !(posB rs (0 - r.2.1) r.1)
theorem gr_turn (rs : List Row) (n : Nat) (hr : SzRs n rs) (r : Row) (h : SzR n r) (hn : n ≤ 4000) :
    exSs L2_go_round [some (false, fieldD rs), some (false, .int r.1), some (false, .int r.2.1), some (false, .int r.2.2), none, none, none] = if badR rs r = true then .ok (.rt false (.bool false) [none, none, none, none, none, none, none]) else .ok (.nx [some (false, fieldD rs), none, none, none, none, none, none]) := by
  obtain ⟨ha, hb, _⟩ := h
  have z : Ib n 0 := Nat.two_pow_pos n
  have f := for_first (it := .sq (.tup (.cons (.tup (.cons (.var 2) (.cons (.bin .sub (.con (.int 0)) (.var 1)) .nil))) (.cons (.tup (.cons (.bin .sub (.con (.int 0)) (.var 2)) (.cons (.var 1) .nil))) .nil)))) (g := [4, 5]) (b := L1_go_round) (srcs := [])
    (m := [some (false, fieldD rs), some (false, .int r.1), some (false, .int r.2.1), none, none, none, none]) (mr := [none, none, none, none, none, none, none]) (fr := false) (v := .bool false) dirD (fun d => !(posB rs d.1 d.2)) (xs := [(r.2.1, 0 - r.1), (0 - r.2.1, r.1)]) (by simp [srcsOf, dirD]) trivial fun d hd => ⟨_, rfl, by
      have s : Ib (n + 1) d.1 ∧ Ib (n + 1) d.2 := by
        simp only [List.mem_cons, List.not_mem_nil, or_false] at hd
        rcases hd with rfl | rfl
        · exact ⟨hb.mono (by omega), z.sub ha⟩
        · exact ⟨z.sub hb, ha.mono (by omega)⟩
      have e := pos_lc rs n hr d.1 d.2 s.1 s.2 hn (some (false, .int r.1)) (some (false, .int r.2.1)) none
      have e2 := any_map (fun q : Row => decide (0 < q.1 * d.1 + q.2.1 * d.2)) rs
      rw [show (rs.any fun q : Row => decide (0 < q.1 * d.1 + q.2.1 * d.2)) = posB rs d.1 d.2 from rfl] at e2
      cases hp : posB rs d.1 d.2 <;> simp [L1_go_round, x_ss1, e, e2, hp]⟩
  have sx : ([(r.2.1, 0 - r.1), (0 - r.2.1, r.1)] : List Dir).any (fun d => !(posB rs d.1 d.2)) = badR rs r := by simp [badR]
  rw [sx] at f
  cases hb : badR rs r <;> rw [hb] at f <;> simp at f <;> simp [L2_go_round, x_ss1, f]
def roundB (rs : List Row) : Bool := !(rs.any (badR rs)) && decide (rs ≠ [])
theorem ne_tup0 (rs : List Row) : cop .ne (fieldD rs) (.tuple []) = some (decide (rs ≠ [])) := by
  have h1 : pint 9 (fieldD rs) = true := (enc_all rs).2
  have h2 : pint 9 (.tuple []) = true := by rfl
  show (if SeqAt.shaped (fieldD rs) = true ∧ SeqAt.shaped (.tuple []) = true then some (!PyData.eqv (fieldD rs) (.tuple [])) else none) = _
  have e : PyData.eqv (fieldD rs) (.tuple []) = decide (rs = []) := by
    rw [Bool.eq_iff_iff, pint_eqv 9 _ _ h1 h2]
    cases rs <;> simp [fieldD]
  rw [if_pos ⟨pint_sh h1 (by decide), pint_sh h2 (by decide)⟩, e]
  simp
theorem go_round_eq (rs : List Row) (n : Nat) (hr : SzRs n rs) (hn : n ≤ 4000) : M_go_round [(false, fieldD rs)] = .ok (false, .bool (roundB rs), [(false, fieldD rs)]) := by
  have f := for_first (it := .sq (.var 0)) (g := [1, 2, 3]) (b := L2_go_round) (srcs := []) (m := [some (false, fieldD rs), none, none, none, none, none, none]) (mr := [none, none, none, none, none, none, none]) (fr := false) (v := .bool false) rowD (badR rs) (xs := rs) (by simp [srcsOf, fieldD]) trivial fun r hrs => ⟨_, rfl, gr_turn rs n hr r (hr.2 r hrs) hn⟩
  have e := ne_tup0 rs
  cases hb : rs.any (badR rs) <;> rw [hb] at f <;> simp at f <;> simp [M_go_round, mkM, flg, runFn, B_go_round, x_ss1, f, e, roundB, hb]
theorem posB_iff {rs : List Row} {u v : Int} : posB rs u v = true ↔ ∃ q ∈ rs, 0 < q.1 * u + q.2.1 * v := by simp [posB]
theorem badR_iff {rs : List Row} {r : Row} : badR rs r = false ↔ (∃ q ∈ rs, 0 < twR r q) ∧ (∃ q ∈ rs, twR r q < 0) := by
  have h1 : ∀ q : Row, q.1 * r.2.1 + q.2.1 * (0 - r.1) = - twR r q := fun q => by
    unfold twR tw
    simp only
    rw [Int.zero_sub, Int.mul_neg, Int.mul_comm r.1, Int.mul_comm r.2.1]
    omega
  have h2 : ∀ q : Row, q.1 * (0 - r.2.1) + q.2.1 * r.1 = twR r q := fun q => by
    unfold twR tw
    simp only
    rw [Int.zero_sub, Int.mul_neg, Int.mul_comm r.1, Int.mul_comm r.2.1]
    omega
  unfold badR
  rw [Bool.or_eq_false_iff, Bool.not_eq_false', Bool.not_eq_false', posB_iff, posB_iff]
  simp only [h1, h2]
  constructor
  · rintro ⟨⟨q, a, b⟩, c⟩
    exact ⟨c, q, a, by omega⟩
  · rintro ⟨c, ⟨q, a, b⟩⟩
    exact ⟨⟨q, a, by omega⟩, c⟩
theorem roundB_iff {rs : List Row} : roundB rs = true ↔ Round rs ∧ rs ≠ [] := by
  unfold roundB Round
  rw [Bool.and_eq_true, Bool.not_eq_true', List.any_eq_false, decide_eq_true_eq]
  constructor
  · rintro ⟨h, n⟩
    exact ⟨fun r hr => badR_iff.mp (by simpa using h r hr), n⟩
  · rintro ⟨h, n⟩
    exact ⟨fun r hr => by simpa using badR_iff.mpr (h r hr), n⟩
/-! ### near -/
def absI (i : Int) : Int := if i < 0 then -i else i
def absR (q : Rat) : Rat := if q < 0 then -q else q
theorem absR_le {q b : Rat} : absR q ≤ b ↔ -b ≤ q ∧ q ≤ b := by
  unfold absR
  split <;> grind
theorem absR_num (q : Rat) : absI q.num = (absR q).num ∧ q.den = (absR q).den := by
  have : (q < 0) = (q.num < 0) := by
    rw [Rat.lt_iff]
    simp
  unfold absI absR
  simp only [this]
  split <;> simp
theorem absR_sz {n : Nat} {q : Rat} (h : Sz n q) : Sz n (absR q) := by
  unfold absR
  split
  · exact ⟨by rw [Rat.neg_num, Int.natAbs_neg]; exact h.1, h.2⟩
  · exact h
def nearB (b : Rat) (p : Place) : Bool := !([p.1, p.2].any fun q => decide (b < absR q))
theorem is_near_eq (p : Place) (n : Nat) (hp : SzP n p) (hn : n ≤ 3000) : M_is_near [(false, placeD p)] = .ok (false, .bool (nearB 12 p), [(false, placeD p)]) := by
  have e := ev_lcm (e := V1_is_near) (g := [1]) (own := [1]) (it := .sq (.var 0)) (m := [some (false, placeD p), none]) (srcs := []) fracD (fun q => PyData.bool (decide ((12 : Rat) < absR q))) [p.1, p.2] (by simp [placeD, srcsOf]) trivial (by simp) (by simp) (by simp [backE]) (by simp) fun q hq => ⟨_, rfl, ⟨false, by
    have s : Sz (n + 4) q := by
      simp only [List.mem_cons, List.not_mem_nil, or_false] at hq
      rcases hq with rfl | rfl
      · exact hp.1.mono (by omega)
      · exact hp.2.mono (by omega)
    have i12 : Ib (n + 4) 12 := (show Ib 4 12 by decide).mono (by omega)
    have e := is_less_eq (12 : Rat) (absR q) (n + 4) (Sz.int (k := 12) i12 (by omega)) (absR_sz s) (by omega)
    obtain ⟨a1, a2⟩ := absR_num q
    rw [show fracD (12 : Rat) = .tuple [.int 12, .int 1] from rfl] at e
    unfold fracD at e
    rw [← a1, ← a2] at e
    unfold absI at e
    simp [V1_is_near, e]⟩, by simp [V1_is_near]⟩
  have e2 := any_map (fun q : Rat => decide ((12 : Rat) < absR q)) [p.1, p.2]
  rw [← Bool.not_not (List.any _ _)] at e2
  have e3 : (!(!([p.1, p.2].any fun q => decide ((12 : Rat) < absR q)))) = !(nearB 12 p) := rfl
  rw [e3] at e2
  simp only [List.map_cons, List.map_nil] at e e2
  simp [M_is_near, mkM, flg, runFn, B_is_near, x_ss1, e, e2]
theorem nearB_iff {b : Rat} {p : Place} : nearB b p = true ↔ (-b ≤ p.1 ∧ p.1 ≤ b) ∧ (-b ≤ p.2 ∧ p.2 ≤ b) := by
  unfold nearB
  simp only [List.any_cons, List.any_nil, Bool.or_false, Bool.not_eq_true', Bool.or_eq_false_iff, decide_eq_false_iff_not, Rat.not_lt, absR_le]
end Rc

set_option maxRecDepth 100000
set_option maxHeartbeats 4000000
/-! What is a field, told by the program: all of it. -/
namespace Rc
open PySem
def outB (r : Row) : Bool := decide (30 < maxI (absI r.1) (absI r.2.1)) || decide (1000 < absI r.2.2)
def fieldB (rs : List Row) : Bool := decide (3 ≤ rs.length ∧ rs.length ≤ 8) && rs.all (fun r => decide (nz r)) && !(rs.any outB) && roundB rs && (fc rs).all (nearB 12)
theorem SzRs.mono {m n : Nat} {rs : List Row} (h : SzRs m rs) (l : m ≤ n) : SzRs n rs := ⟨h.1, fun q hq => by
  obtain ⟨a, b, c⟩ := h.2 q hq
  exact ⟨a.mono l, b.mono l, c.mono l⟩⟩
theorem fc_sz {rs : List Row} {n : Nat} (hr : SzRs n rs) {c : Place} (h : Cn rs c) : SzP (2 * n + 1) c := by
  obtain ⟨_, r, hrr, s, hs, z, t1, t2⟩ := h
  rw [cross_of z t1 t2]
  exact cross_sz (hr.2 r hrr) (hr.2 s hs) z
theorem fc_len_le (rs : List Row) : ∀ (l : List (Row × Row)) (acc : List Place), (l.foldl (fcS rs) acc).length ≤ acc.length + l.length
  | [], acc => by simp
  | q :: l, acc => by
    have := fc_len_le rs l (fcS rs acc q)
    have := fcS_len rs acc q
    simp only [List.foldl_cons, List.length_cons]
    omega
theorem prs_len {α : Type} : ∀ xs : List α, (prsOf xs).length ≤ xs.length * xs.length
  | [] => by simp [prsOf]
  | x :: xs => by
    have := prs_len xs
    simp only [prsOf, List.length_append, List.length_map, List.length_cons]
    rw [Nat.succ_mul, Nat.mul_succ]
    omega
theorem fc_len (rs : List Row) : (fc rs).length ≤ rs.length * rs.length := by
  have := fc_len_le rs (prsOf rs) []
  have := prs_len rs
  unfold fc
  simp at *
  omega
theorem is_field_eq (rs : List Row) (n : Nat) (hr : SzRs n rs) (hn : n ≤ 400) : M_is_field [(false, fieldD rs)] = .ok (false, .bool (fieldB rs), [(false, fieldD rs)]) := by
  have i0 : isiD (fieldD rs) ["tuple"] = some true := rfl
  have l0 : bltF .len [fieldD rs] = some (false, .int rs.length) := by
    show some (false, PyData.int ((rs.map rowD).length : Int)) = _
    rw [List.length_map]
  by_cases h1 : 3 ≤ rs.length ∧ rs.length ≤ 8
  · have g1 : (3 : Int) ≤ rs.length := by omega
    have g2 : (rs.length : Int) ≤ 8 := by omega
    have sq : rs.length * rs.length ≤ 64 := Nat.mul_le_mul h1.2 h1.2
    have fl := fc_len rs
    have e1 := ev_lcm (e := V2_is_field) (g := [1]) (own := [1]) (it := .sq (.var 0)) (m := [some (false, fieldD rs), none, none, none, none, none]) (srcs := []) rowD (fun r => PyData.bool (decide (nz r))) rs (by simp [fieldD, srcsOf]) trivial (by simp) (by simp) (by simp [backE]) (len_ok (by omega)) fun r _ => ⟨_, rfl, ⟨false, by simp [V2_is_field, is_row_eq]⟩, by simp [V2_is_field]⟩
    have a1 := all_map (fun r : Row => decide (nz r)) rs
    have f := for_first (it := .sq (.var 0)) (g := [2, 3, 4]) (b := L1_is_field) (srcs := []) (m := [some (false, fieldD rs), none, none, none, none, none]) (mr := [none, none, none, none, none, none]) (fr := false) (v := .bool false) rowD outB (xs := rs) (by simp [srcsOf, fieldD]) trivial fun r _ => ⟨_, rfl, by
      have d1 : (if 30 < (if (if r.2.1 < 0 then -r.2.1 else r.2.1) > (if r.1 < 0 then -r.1 else r.1) then (if r.2.1 < 0 then -r.2.1 else r.2.1) else (if r.1 < 0 then -r.1 else r.1)) then true else false) = decide (30 < maxI (absI r.1) (absI r.2.1)) := by
        unfold maxI absI
        split <;> simp_all
      cases b1 : decide (30 < maxI (absI r.1) (absI r.2.1)) with
      | true =>
        have c1 := of_decide_eq_true b1
        unfold maxI absI at c1
        simp [L1_is_field, x_ss1, outB, b1, c1]
      | false =>
        have c1 := of_decide_eq_false b1
        unfold maxI absI at c1
        cases b2 : decide (1000 < absI r.2.2) with
        | true =>
          have c2 := of_decide_eq_true b2
          unfold absI at c2
          simp [L1_is_field, x_ss1, outB, b1, b2, c1, c2]
        | false =>
          have c2 := of_decide_eq_false b2
          unfold absI at c2
          simp [L1_is_field, x_ss1, outB, b1, b2, c1, c2]⟩
    have e2 := go_round_eq rs n hr (by omega)
    have e3 := found_corners_eq rs n hr hn (by omega)
    have e4 := ev_lcm (e := V1_is_field) (g := [5]) (own := [5]) (it := .sq (.call M_found_corners [false] (.cons (.var 0) .nil))) (m := [some (false, fieldD rs), none, none, none, none, none]) (srcs := []) placeD (fun c => PyData.bool (nearB 12 c)) (fc rs) (by simp [e3, srcsOf]) trivial (by simp) (by simp) (by simp [backE]) (len_ok (by omega)) fun c hc => ⟨_, rfl, ⟨false, by simp [V1_is_field, is_near_eq c (2 * n + 1) (fc_sz hr (mem_fc.mp hc)) (by omega)]⟩, by simp [V1_is_field]⟩
    have a4 := all_map (nearB 12) (fc rs)
    cases b1 : rs.all (fun r => decide (nz r)) with
    | false =>
      rw [b1] at a1
      simp [M_is_field, mkM, flg, runFn, B_is_field, x_ss1, i0, l0, g1, g2, e1, a1, fieldB, b1]
    | true =>
      rw [b1] at a1
      cases b2 : rs.any outB with
      | true =>
        rw [b2] at f
        simp at f
        simp [M_is_field, mkM, flg, runFn, B_is_field, x_ss1, i0, l0, g1, g2, e1, a1, fieldB, b2, f]
      | false =>
        rw [b2] at f
        simp at f
        have h1' : decide (3 ≤ rs.length ∧ rs.length ≤ 8) = true := decide_eq_true h1
        cases b3 : roundB rs with
        | false => simp [M_is_field, mkM, flg, runFn, B_is_field, x_ss1, i0, l0, g1, g2, e1, a1, fieldB, b1, b2, f, e2, b3]
        | true =>
          cases b4 : (fc rs).all (nearB 12) <;> rw [b4] at a4 <;> simp only [fieldB, h1', b1, b2, b3, b4] <;> simp [M_is_field, mkM, flg, runFn, B_is_field, x_ss1, i0, l0, g1, g2, e1, a1, f, e2, b3, e4, a4]
  · have n1 : fieldB rs = false := by
      unfold fieldB
      rw [decide_eq_false h1]
      rfl
    rw [n1]
    by_cases g1 : 3 ≤ rs.length
    · have g2 : ¬ (rs.length : Int) ≤ 8 := by omega
      have g1' : (3 : Int) ≤ rs.length := by omega
      simp [M_is_field, mkM, flg, runFn, B_is_field, x_ss1, i0, l0, g1', g2]
    · have g1' : ¬ (3 : Int) ≤ rs.length := by omega
      simp [M_is_field, mkM, flg, runFn, B_is_field, x_ss1, i0, l0, g1']
theorem need_field_eq (rs : List Row) (n : Nat) (hr : SzRs n rs) (hn : n ≤ 400) : M_need_field [(false, fieldD rs)] = if fieldB rs = true then .ok (false, .none, [(false, fieldD rs)]) else .exc (Str.ofString "NoField") := by
  have e := is_field_eq rs n hr hn
  cases h : fieldB rs <;> rw [h] at e <;> simp [M_need_field, mkM, flg, runFn, B_need_field, x_ss1, e]
/-- a field -/
structure Fld (rs : List Row) : Prop where
  lo : 3 ≤ rs.length
  hi : rs.length ≤ 8
  row : ∀ r ∈ rs, nz r ∧ Bd 30 r.1 ∧ Bd 30 r.2.1 ∧ Bd 1000 r.2.2
  rnd : Round rs
  near : ∀ c, Cn rs c → (-12 ≤ c.1 ∧ c.1 ≤ 12) ∧ (-12 ≤ c.2 ∧ c.2 ≤ 12)
theorem outB_iff {r : Row} : outB r = false ↔ Bd 30 r.1 ∧ Bd 30 r.2.1 ∧ Bd 1000 r.2.2 := by
  unfold outB maxI absI Bd
  rw [Bool.or_eq_false_iff, decide_eq_false_iff_not, decide_eq_false_iff_not]
  omega
theorem fieldB_iff {rs : List Row} : fieldB rs = true ↔ Fld rs := by
  unfold fieldB
  simp only [Bool.and_eq_true, decide_eq_true_eq, Bool.not_eq_true', roundB_iff, List.all_eq_true, List.any_eq_false, Bool.not_eq_true, outB_iff, nearB_iff, mem_fc]
  constructor
  · rintro ⟨⟨⟨⟨h1, h2⟩, h3⟩, h4, h5⟩, h6⟩
    exact ⟨h1.1, h1.2, fun r hr => ⟨h2 r hr, h3 r hr⟩, h4, h6⟩
  · rintro ⟨h1, h2, h3, h4, h5⟩
    exact ⟨⟨⟨⟨⟨h1, h2⟩, fun r hr => (h3 r hr).1⟩, fun r hr => (h3 r hr).2⟩, h4, by
      rintro rfl
      simp at h1⟩, h5⟩
theorem Fld.sz {rs : List Row} (h : Fld rs) : SzRs 10 rs := ⟨by have := h.hi; omega, fun r hr => by
  obtain ⟨_, a, b, c⟩ := h.row r hr
  unfold Bd at a b c
  unfold SzR Ib
  omega⟩
theorem Fld.ne {rs : List Row} (h : Fld rs) : rs ≠ [] := by
  rintro rfl
  have := h.lo
  simp at this
theorem Fld.need {rs : List Row} (h : Fld rs) : M_need_field [(false, fieldD rs)] = .ok (false, .none, [(false, fieldD rs)]) := by
  rw [need_field_eq rs 10 h.sz (by decide), if_pos (fieldB_iff.mpr h)]
theorem Fld.is {rs : List Row} (h : Fld rs) : M_is_field [(false, fieldD rs)] = .ok (false, .bool true, [(false, fieldD rs)]) := by
  rw [is_field_eq rs 10 h.sz (by decide), fieldB_iff.mpr h]
end Rc

set_option maxRecDepth 100000
set_option maxHeartbeats 4000000
/-! The fields that laws draw (boxes, spikes, triangles) are fields. -/
namespace Rc
open PySem
namespace A
def dirs : List Dir := [(-1, 0), (1, 0), (0, -1), (0, 1)]
def BoxR (d : Dir) (r : Row) : Prop := ∃ k : Int, 1 ≤ k ∧ k ≤ 3 ∧ r.1 = d.1 * k ∧ r.2.1 = d.2 * k ∧ 0 ≤ r.2.2 ∧ r.2.2 < 5 * k
def Rw (p q : Nat) (r : Row) : Prop := nz r ∧ Bd p r.1 ∧ Bd p r.2.1 ∧ Bd q r.2.2
abbrev Sr := Rc.St × List Row
def enc (w : Int) (s : Sr) : Env := [some (true, stD s.1), some (false, .int w), some (true, .list (s.2.map rowD)), none, none, none, none, none, none, none, none, none, none]
def P1 (r : List Dir) (s : Sr) : Prop := (∀ d ∈ dirs, d ∈ r ∨ ∃ x ∈ s.2, BoxR d x) ∧ s.2.length + r.length = 4 ∧ (∀ x ∈ s.2, Rw 3 14 x) ∧ ∀ d ∈ r, d ∈ dirs
theorem loop1 (w : Int) (st : Rc.St) : ∃ s : Sr, exS (.sfor [3, 4] (.sq (.lst (.cons (.tup (.cons (.neg (.con (.int 1))) (.cons (.con (.int 0)) .nil))) (.cons (.tup (.cons (.con (.int 1)) (.cons (.con (.int 0)) .nil))) (.cons (.tup (.cons (.con (.int 0)) (.cons (.neg (.con (.int 1))) .nil))) (.cons (.tup (.cons (.con (.int 0)) (.cons (.con (.int 1)) .nil))) .nil))))))
      L2_law_field) (enc w (st, [])) = .ok (.nx (enc w s)) ∧ P1 [] s := by
  refine for_is (srcs := []) (enc w) dirD P1 (xs := dirs) (s0 := (st, [])) (by simp [enc, dirs, srcsOf, dirD]) (fun _ _ _ => trivial) ⟨fun d hd => .inl hd, rfl, fun _ h => by simp at h, fun _ h => h⟩ fun d r s ⟨h1, h2, h3, h4⟩ => ?_
  obtain ⟨st, rs⟩ := s
  have t1 := take_eq st 3 (by decide) (by decide)
  have c1 := tk_bd st 3 (by decide)
  have t2 := take_eq (tkS st 3) 5 (by decide) (by decide)
  have c2 := tk_bd (tkS st 3) 5 (by decide)
  have t3 := take_eq (tkS (tkS st 3) 5) (1 + tkV st 3) (by omega) (by omega)
  have c3 := tk_bd (tkS (tkS st 3) 5) (1 + tkV st 3) (by omega)
  generalize hk : 1 + tkV st 3 = k at *
  generalize tkV (tkS st 3) 5 = u at *
  generalize tkV (tkS (tkS st 3) 5) k = v at *
  have lo : lenOk (rs.length + 1) := len_ok (by simp at h2; omega)
  have hd : d ∈ dirs := h4 d List.mem_cons_self
  have dd : Bd 1 d.1 ∧ Bd 1 d.2 ∧ (d.1 ≠ 0 ∨ d.2 ≠ 0) := by
    simp only [dirs, List.mem_cons, List.not_mem_nil, or_false] at hd
    rcases hd with rfl | rfl | rfl | rfl <;> exact ⟨by decide, by decide, by decide⟩
  have bk : Bd 3 k := ⟨by omega, by omega⟩
  have bu : Bd 4 u := ⟨by omega, by omega⟩
  have m1 := dd.1.ok bk (by decide) (by decide)
  have m2 := dd.2.1.ok bk (by decide) (by decide)
  have m3 := bk.ok bu (by decide) (by decide)
  have b1 := dd.1.mul bk
  have b2 := dd.2.1.mul bk
  have ku : 0 ≤ k * u := Int.mul_nonneg (by omega) (by omega)
  have ku4 : k * u ≤ k * 4 := Int.mul_le_mul_of_nonneg_left (by omega) (by omega)
  refine ⟨_, (tkS (tkS (tkS st 3) 5) k, rs ++ [(d.1 * k, d.2 * k, k * u + v)]), rfl, ?_, fun e he => ?_, ?_, fun x hx => ?_, fun e he => h4 e (List.mem_cons_of_mem _ he)⟩
  · simp [L2_law_field, x_ss1, t1, hk, t2, t3, m1, m2, m3, mthF, lo, enc, rowD]
  · rcases h1 e he with h | ⟨x, hx, hb⟩
    · rcases List.mem_cons.mp h with rfl | h
      · exact .inr ⟨_, List.mem_append_right _ List.mem_cons_self, k, by omega, by omega, rfl, rfl, by simp only; omega, by simp only; omega⟩
      · exact .inl h
    · exact .inr ⟨x, List.mem_append_left _ hx, hb⟩
  · simp at h2 ⊢
    omega
  · rcases List.mem_append.mp hx with h | h
    · exact h3 x h
    · simp only [List.mem_cons, List.not_mem_nil, or_false] at h
      subst h
      refine ⟨?_, b1, b2, ?_⟩
      · unfold nz
        simp only [Int.mul_ne_zero_iff]
        rcases dd.2.2 with z | z
        · exact .inl ⟨z, by omega⟩
        · exact .inr ⟨z, by omega⟩
      · unfold Bd
        simp only
        omega
def P2 (N : Nat) (r : List Int) (s : Sr) : Prop := (∀ d ∈ dirs, ∃ x ∈ s.2, BoxR d x) ∧ s.2.length + r.length ≤ N ∧ 4 ≤ s.2.length ∧ (∀ x ∈ s.2, Rw 6 58 x)
theorem turn2 (w : Int) (st : Rc.St) (rs : List Row) (t : D) (a b : Int) (hl : rs.length < 8) (ha : Bd 6 a) (hb : Bd 6 b) (hz : a ≠ 0 ∨ b ≠ 0) :
    ∃ st' c, Bd 40 c ∧ exSs L1_law_field.inn.tl.tl [some (true, stD st), some (false, .int w), some (true, .list (rs.map rowD)), some (false, .int a), some (false, .int b), none, some (false, t), none, none, none, none, none, none] = .ok (.nx [some (true, stD st'), some (false, .int w), some (true, .list ((rs ++ [(a, b, c)]).map rowD)), some (false, .int a), some (false, .int b), none, some (false, t), some (false, .int (a * (tkV st 5 - 2) + b * (tkV (tkS st 5) 5 - 2))), none, none, none, none, none]) := by
  have t1 := take_eq st 5 (by decide) (by decide)
  have c1 := tk_bd st 5 (by decide)
  have t2 := take_eq (tkS st 5) 5 (by decide) (by decide)
  have c2 := tk_bd (tkS st 5) 5 (by decide)
  have t3 := take_eq (tkS (tkS st 5) 5) 9 (by decide) (by decide)
  have c3 := tk_bd (tkS (tkS st 5) 5) 9 (by decide)
  have b1 : Bd 2 (tkV st 5 - 2) := ⟨by omega, by omega⟩
  have b2 : Bd 2 (tkV (tkS st 5) 5 - 2) := ⟨by omega, by omega⟩
  have m1 := ha.ok b1 (by decide) (by decide)
  have m2 := hb.ok b2 (by decide) (by decide)
  have e1 := ha.mul b1
  have e2 := hb.mul b2
  have lo : lenOk (rs.length + 1) := len_ok (by omega)
  refine ⟨tkS (tkS (tkS st 5) 5) 9, a * (tkV st 5 - 2) + b * (tkV (tkS st 5) 5 - 2) + tkV (tkS (tkS st 5) 5) 9 - 1, ?_, ?_⟩
  · unfold Bd at *
    omega
  · simp only [L1_law_field, Ss.inn, Ss.tl]
    simp [x_ss1, t1, t2, t3, m1, m2, mthF, lo, rowD]
theorem loop2 (w : Int) (s0 : Sr) (n : Int) (h0 : 0 ≤ n) (hn : n ≤ 3) (h : P1 [] s0) : ∃ s : Sr, forL [] [6] (exSs L1_law_field) (rngD 0 n) (enc w s0) = .ok (.nx (enc w s)) ∧ P2 7 [] s := by
  rw [rngD_eq]
  refine for_ex (srcs := []) (enc w) PyData.int (P2 7) (fun _ _ _ => trivial) (fun k r s ⟨h1, h2, h3, h4⟩ => ?_) _ _ ⟨fun d hd => (h.1 d hd).resolve_left (by simp), ?_, ?_, fun x hx => ?_⟩
  · obtain ⟨st, rs⟩ := s
    have t1 := take_eq st 13 (by decide) (by decide)
    have c1 := tk_bd st 13 (by decide)
    have t2 := take_eq (tkS st 13) 13 (by decide) (by decide)
    have c2 := tk_bd (tkS st 13) 13 (by decide)
    have key : ∀ a b : Int, Bd 6 a → Bd 6 b → (a ≠ 0 ∨ b ≠ 0) → (a = if tkV st 13 - 6 = 0 ∧ tkV (tkS st 13) 13 - 6 = 0 then 2 else tkV st 13 - 6) → b = tkV (tkS st 13) 13 - 6 → ∃ m1 s', bindT [6] (.int k) (enc w (st, rs)) = some m1 ∧ exSs L1_law_field m1 = .ok (.nx (enc w s')) ∧ P2 7 r s' := by
      intro a b ha hb hz ea eb
      obtain ⟨st', c, hc, e⟩ := turn2 w (tkS (tkS st 13) 13) rs (.int k) a b (by simp at h2; omega) ha hb hz
      refine ⟨_, (st', rs ++ [(a, b, c)]), rfl, ?_, fun d hd => ?_, ?_, ?_, fun x hx => ?_⟩
      · simp only [L1_law_field, Ss.inn, Ss.tl, List.map_append] at e ⊢
        by_cases z1 : tkV st 13 - 6 = 0
        · by_cases z2 : tkV (tkS st 13) 13 - 6 = 0
          · rw [if_pos ⟨z1, z2⟩] at ea
            subst ea
            subst eb
            simp [x_ss1 (.blk _ _ _), x_ss1 (.par _ _), x_ss1 (.sif _ _ _), x_ss1 (.asg 3 _), enc, t1, t2, z1, z2] at e ⊢
            simp [e]
          · rw [if_neg (by simp [z2])] at ea
            subst ea
            subst eb
            simp [x_ss1 (.blk _ _ _), x_ss1 (.par _ _), x_ss1 (.sif _ _ _), x_ss1 (.asg 3 _), enc, t1, t2, z1, z2] at e ⊢
            simp [e]
        · rw [if_neg (by simp [z1])] at ea
          subst ea
          subst eb
          simp [x_ss1 (.blk _ _ _), x_ss1 (.par _ _), x_ss1 (.sif _ _ _), x_ss1 (.asg 3 _), enc, t1, t2, z1] at e ⊢
          simp [e]
      · obtain ⟨x, hx, hb⟩ := h1 d hd
        exact ⟨x, List.mem_append_left _ hx, hb⟩
      · simp at h2 ⊢
        omega
      · simp at h3 ⊢
        omega
      · rcases List.mem_append.mp hx with h | h
        · exact h4 x h
        · simp only [List.mem_cons, List.not_mem_nil, or_false] at h
          subst h
          exact ⟨hz, ha, hb, by unfold Bd at hc ⊢; simp only; omega⟩
    by_cases z : tkV st 13 - 6 = 0 ∧ tkV (tkS st 13) 13 - 6 = 0
    · exact key 2 (tkV (tkS st 13) 13 - 6) (by decide) ⟨by omega, by omega⟩ (.inl (by decide)) (by rw [if_pos z]) rfl
    · exact key (tkV st 13 - 6) (tkV (tkS st 13) 13 - 6) ⟨by omega, by omega⟩ ⟨by omega, by omega⟩ (by omega) (by rw [if_neg z]) rfl
  · have := h.2.1
    have : (rngI 0 n).length = n.toNat := by simp [rngI]
    simp at *
    omega
  · have := h.2.1
    simp at this
    omega
  · obtain ⟨a, b, c, d⟩ := h.2.2.1 x hx
    exact ⟨a, by unfold Bd at *; omega, by unfold Bd at *; omega, by unfold Bd at *; omega⟩
/-- rows, ahead of the move -/
structure Pre (rs : List Row) : Prop where
  lo : 3 ≤ rs.length
  hi : rs.length ≤ 8
  row : ∀ r ∈ rs, Rw 14 58 r
  rnd : Round rs
  bnd : ∀ p, Kp rs p → (-9 ≤ p.1 ∧ p.1 ≤ 9) ∧ (-9 ≤ p.2 ∧ p.2 ≤ 9)
theorem cast_lt5 {c k : Int} (h : c < 5 * k) : (c : Rat) < 5 * (k : Rat) := by
  have := Rat.intCast_lt_intCast.mpr h
  rwa [Rat.intCast_mul] at this
theorem pre_box {rs : List Row} (h1 : ∀ d ∈ dirs, ∃ x ∈ rs, BoxR d x) (h2 : 4 ≤ rs.length) (h3 : rs.length ≤ 8) (h4 : ∀ x ∈ rs, Rw 6 58 x) : Pre rs := by
  obtain ⟨a, ha, ka, a1, a2, a3, a4, a5, a6⟩ := h1 (-1, 0) (by decide)
  obtain ⟨b, hb, kb, b1, b2, b3, b4, b5, b6⟩ := h1 (1, 0) (by decide)
  obtain ⟨c, hc, kc, c1, c2, c3, c4, c5, c6⟩ := h1 (0, -1) (by decide)
  obtain ⟨d, hd, kd, d1, d2, d3, d4, d5, d6⟩ := h1 (0, 1) (by decide)
  simp only [Int.zero_mul, Int.one_mul, Int.neg_mul] at a3 a4 b3 b4 c3 c4 d3 d4
  refine ⟨by omega, h3, fun r hr => ?_, fun r hr => ?_, fun p kp => ?_⟩
  · obtain ⟨x, y, z, w⟩ := h4 r hr
    exact ⟨x, by unfold Bd at *; omega, by unfold Bd at *; omega, by unfold Bd at *; omega⟩
  · have nz := (h4 r hr).1
    have ta : twR r a = r.2.1 * ka := by unfold twR tw; simp only [a3, a4]; rw [Int.mul_neg]; omega
    have tb : twR r b = - (r.2.1 * kb) := by unfold twR tw; simp only [b3, b4]; omega
    have tc : twR r c = - (r.1 * kc) := by unfold twR tw; simp only [c3, c4]; rw [Int.mul_neg]; omega
    have td : twR r d = r.1 * kd := by unfold twR tw; simp only [d3, d4]; omega
    rcases Int.lt_trichotomy r.2.1 0 with y | y | y
    · have g1 := Int.mul_neg_of_neg_of_pos y (show 0 < ka by omega)
      have g2 := Int.mul_neg_of_neg_of_pos y (show 0 < kb by omega)
      exact ⟨⟨b, hb, by omega⟩, ⟨a, ha, by omega⟩⟩
    · rcases Int.lt_trichotomy r.1 0 with x | x | x
      · have g1 := Int.mul_neg_of_neg_of_pos x (show 0 < kc by omega)
        have g2 := Int.mul_neg_of_neg_of_pos x (show 0 < kd by omega)
        exact ⟨⟨c, hc, by omega⟩, ⟨d, hd, by omega⟩⟩
      · exact absurd nz (by unfold Rc.nz; omega)
      · have g1 := Int.mul_pos x (show 0 < kc by omega)
        have g2 := Int.mul_pos x (show 0 < kd by omega)
        exact ⟨⟨d, hd, by omega⟩, ⟨c, hc, by omega⟩⟩
    · have g1 := Int.mul_pos y (show 0 < ka by omega)
      have g2 := Int.mul_pos y (show 0 < kb by omega)
      exact ⟨⟨a, ha, by omega⟩, ⟨b, hb, by omega⟩⟩
  · have va := kp a ha
    have vb := kp b hb
    have vc := kp c hc
    have vd := kp d hd
    have la := cast_lt5 a6
    have lb := cast_lt5 b6
    have lc := cast_lt5 c6
    have ld := cast_lt5 d6
    unfold val at va vb vc vd
    simp only [a3, a4, b3, b4, c3, c4, d3, d4, Rat.intCast_neg, Rat.intCast_zero] at va vb vc vd
    have pa : (0 : Rat) < ka := Rat.intCast_pos.mpr (by omega)
    have pb : (0 : Rat) < kb := Rat.intCast_pos.mpr (by omega)
    have pc : (0 : Rat) < kc := Rat.intCast_pos.mpr (by omega)
    have pd : (0 : Rat) < kd := Rat.intCast_pos.mpr (by omega)
    have xa : -5 < p.1 := by
      apply Classical.byContradiction
      intro h
      have := Rat.mul_nonneg (show 0 ≤ -5 - p.1 by grind) (Rat.le_of_lt pa)
      grind
    have xb : p.1 < 5 := by
      apply Classical.byContradiction
      intro h
      have := Rat.mul_nonneg (show 0 ≤ p.1 - 5 by grind) (Rat.le_of_lt pb)
      grind
    have xc : -5 < p.2 := by
      apply Classical.byContradiction
      intro h
      have := Rat.mul_nonneg (show 0 ≤ -5 - p.2 by grind) (Rat.le_of_lt pc)
      grind
    have xd : p.2 < 5 := by
      apply Classical.byContradiction
      intro h
      have := Rat.mul_nonneg (show 0 ≤ p.2 - 5 by grind) (Rat.le_of_lt pd)
      grind
    exact ⟨⟨by grind, by grind⟩, by grind, by grind⟩
/-- three rows about -/
theorem pre_three {r s t : Row} (hr : Rw 14 58 r) (hs : Rw 14 58 s) (ht : Rw 14 58 t) (h1 : 0 < twR r s) (h2 : 0 < twR s t) (h3 : 0 < twR t r) (hb : ∀ p, Kp [r, s, t] p → (-9 ≤ p.1 ∧ p.1 ≤ 9) ∧ (-9 ≤ p.2 ∧ p.2 ≤ 9)) : Pre [r, s, t] := by
  refine ⟨by simp, by simp, fun x hx => ?_, fun x hx => ?_, hb⟩
  · simp only [List.mem_cons, List.not_mem_nil, or_false] at hx
    rcases hx with rfl | rfl | rfl
    · exact hr
    · exact hs
    · exact ht
  · have g1 := twR_sw r s
    have g2 := twR_sw s t
    have g3 := twR_sw t r
    simp only [List.mem_cons, List.not_mem_nil, or_false] at hx
    rcases hx with rfl | rfl | rfl
    · exact ⟨⟨s, by simp, h1⟩, ⟨t, by simp, by omega⟩⟩
    · exact ⟨⟨t, by simp, h2⟩, ⟨r, by simp, by omega⟩⟩
    · exact ⟨⟨r, by simp, h3⟩, ⟨s, by simp, by omega⟩⟩
theorem cast_le7 {c : Int} (h : c ≤ 7) : (c : Rat) ≤ 7 := by
  have := Rat.intCast_le_intCast.mpr h
  exact this
theorem spike (k : Int) (h1 : 1 ≤ k) (h2 : k ≤ 7) : Pre [(-1, 0, 0), (1, -2 * k, 0), (1, 2 * k, 2 * k)] := by
  have g1 : (1 : Rat) ≤ k := Rat.intCast_le_intCast.mpr h1
  have g2 : (k : Rat) ≤ 7 := Rat.intCast_le_intCast.mpr h2
  refine pre_three ⟨by simp [nz], by simp [Bd], by simp [Bd], by simp [Bd]⟩ ⟨by simp [nz], by simp [Bd], by unfold Bd; simp only; omega, by simp [Bd]⟩ ⟨by simp [nz], by simp [Bd], by unfold Bd; simp only; omega, by unfold Bd; simp only; omega⟩ (by unfold twR tw; simp only; omega) (by unfold twR tw; simp only; omega) (by unfold twR tw; simp only; omega) fun p kp => ?_
  have v1 := kp _ (show ((-1, 0, 0) : Row) ∈ _ by simp)
  have v2 := kp _ (show ((1, -2 * k, 0) : Row) ∈ _ by simp)
  have v3 := kp _ (show ((1, 2 * k, 2 * k) : Row) ∈ _ by simp)
  unfold val at v1 v2 v3
  simp only [Rat.intCast_mul, Rat.intCast_neg, Rat.intCast_zero, Rat.intCast_one, Rat.intCast_ofNat] at v1 v2 v3
  have y0 : 0 ≤ p.2 := by
    apply Classical.byContradiction
    intro h
    have := Rat.mul_pos (show 0 < - p.2 by grind) (show (0 : Rat) < k by grind)
    grind
  have y1 : p.2 ≤ 1 := by
    apply Classical.byContradiction
    intro h
    have := Rat.mul_pos (show 0 < p.2 - 1 by grind) (show (0 : Rat) < k by grind)
    grind
  exact ⟨⟨by grind, by grind⟩, by grind, by grind⟩
theorem tri1 (a b c : Int) (ha : 0 ≤ a ∧ a < 8) (hb : 0 ≤ b ∧ b < 8) (hc : 0 ≤ c ∧ c < 8) : Pre [(-2, 1, a), (1, -3, b), (2, 3, c)] := by
  have g1 := cast_le7 (show a ≤ 7 by omega)
  have g2 := cast_le7 (show b ≤ 7 by omega)
  have g3 := cast_le7 (show c ≤ 7 by omega)
  refine pre_three ⟨by simp [nz], by simp [Bd], by simp [Bd], by unfold Bd; simp only; omega⟩ ⟨by simp [nz], by simp [Bd], by simp [Bd], by unfold Bd; simp only; omega⟩ ⟨by simp [nz], by simp [Bd], by simp [Bd], by unfold Bd; simp only; omega⟩ (by simp [twR, tw]) (by simp [twR, tw]) (by simp [twR, tw]) fun p kp => ?_
  have v1 := kp _ (show ((-2, 1, a) : Row) ∈ _ by simp)
  have v2 := kp _ (show ((1, -3, b) : Row) ∈ _ by simp)
  have v3 := kp _ (show ((2, 3, c) : Row) ∈ _ by simp)
  unfold val at v1 v2 v3
  simp only [Rat.intCast_neg, Rat.intCast_zero, Rat.intCast_one, Rat.intCast_ofNat] at v1 v2 v3
  exact ⟨⟨by grind, by grind⟩, by grind, by grind⟩
theorem tri2 (a b c : Int) (ha : 0 ≤ a ∧ a < 8) (hb : 0 ≤ b ∧ b < 8) (hc : 0 ≤ c ∧ c < 8) : Pre [(-3, -2, a), (3, -1, b), (1, 4, c)] := by
  have g1 := cast_le7 (show a ≤ 7 by omega)
  have g2 := cast_le7 (show b ≤ 7 by omega)
  have g3 := cast_le7 (show c ≤ 7 by omega)
  refine pre_three ⟨by simp [nz], by simp [Bd], by simp [Bd], by unfold Bd; simp only; omega⟩ ⟨by simp [nz], by simp [Bd], by simp [Bd], by unfold Bd; simp only; omega⟩ ⟨by simp [nz], by simp [Bd], by simp [Bd], by unfold Bd; simp only; omega⟩ (by simp [twR, tw]) (by simp [twR, tw]) (by simp [twR, tw]) fun p kp => ?_
  have v1 := kp _ (show ((-3, -2, a) : Row) ∈ _ by simp)
  have v2 := kp _ (show ((3, -1, b) : Row) ∈ _ by simp)
  have v3 := kp _ (show ((1, 4, c) : Row) ∈ _ by simp)
  unfold val at v1 v2 v3
  simp only [Rat.intCast_neg, Rat.intCast_zero, Rat.intCast_one, Rat.intCast_ofNat] at v1 v2 v3
  exact ⟨⟨by grind, by grind⟩, by grind, by grind⟩
end A
end Rc

set_option maxRecDepth 100000
set_option maxHeartbeats 4000000
/-! The fields that laws draw: moved, their rows turned about. -/
namespace Rc
open PySem
namespace A
/-- a row moved -/
def mv (u v : Int) (r : Row) : Row := (r.1, r.2.1, r.2.2 + r.1 * u + r.2.1 * v)
theorem val_mv (u v : Int) (r : Row) (p : Place) : val (mv u v r) p ≤ ((mv u v r).2.2 : Rat) ↔ val r (p.1 - u, p.2 - v) ≤ (r.2.2 : Rat) := by
  unfold val mv
  simp only [Rat.intCast_add, Rat.intCast_mul]
  constructor <;> intro h <;> grind
theorem twR_mv (u v : Int) (r s : Row) : twR (mv u v r) (mv u v s) = twR r s := rfl
/-- a field as drawn -/
structure Dr (rs : List Row) : Prop where
  f : Fld rs
  row : ∀ r ∈ rs, Rw 14 142 r
theorem dr_of {rs rs' : List Row} {u v : Int} (h : Pre rs) (hu : Bd 3 u) (hv : Bd 3 v) (hl : rs'.length = rs.length) (hm : ∀ x, x ∈ rs' ↔ ∃ r ∈ rs, x = mv u v r) : Dr rs' := by
  have row : ∀ x ∈ rs', Rw 14 142 x := fun x hx => by
    obtain ⟨r, hr, rfl⟩ := (hm x).mp hx
    obtain ⟨a, b, c, d⟩ := h.row r hr
    have e1 := b.mul hu
    have e2 := c.mul hv
    exact ⟨a, b, c, by unfold Bd at *; unfold mv; simp only; omega⟩
  refine ⟨⟨by rw [hl]; exact h.lo, by rw [hl]; exact h.hi, fun x hx => ?_, fun x hx => ?_, fun c hc => ?_⟩, row⟩
  · obtain ⟨a, b, c, d⟩ := row x hx
    exact ⟨a, by unfold Bd at *; omega, by unfold Bd at *; omega, by unfold Bd at *; omega⟩
  · obtain ⟨r, hr, rfl⟩ := (hm x).mp hx
    obtain ⟨⟨q, hq, w⟩, ⟨q', hq', w'⟩⟩ := h.rnd r hr
    exact ⟨⟨mv u v q, (hm _).mpr ⟨q, hq, rfl⟩, w⟩, ⟨mv u v q', (hm _).mpr ⟨q', hq', rfl⟩, w'⟩⟩
  · have k : Kp rs (c.1 - u, c.2 - v) := fun r hr => (val_mv u v r c).mp (hc.1 _ ((hm _).mpr ⟨r, hr, rfl⟩))
    obtain ⟨⟨a, b⟩, a', b'⟩ := h.bnd _ k
    simp only at a b a' b'
    have u1 : (-3 : Rat) ≤ u := Rat.intCast_le_intCast.mpr hu.1
    have u2 : (u : Rat) ≤ 3 := Rat.intCast_le_intCast.mpr hu.2
    have v1 : (-3 : Rat) ≤ v := Rat.intCast_le_intCast.mpr hv.1
    have v2 : (v : Rat) ≤ 3 := Rat.intCast_le_intCast.mpr hv.2
    exact ⟨⟨by grind, by grind⟩, by grind, by grind⟩
theorem mv_lc (st : D) (w : Int) (rs : List Row) (u v : Int) (hr : ∀ r ∈ rs, Rw 14 58 r) (hl : rs.length ≤ 8) (hu : Bd 3 u) (hv : Bd 3 v) :
    ev (.lc V1_law_field [3, 4, 12] (.sq (.var 2)) (.con (.bool true)) [3, 4, 12]) [some (true, st), some (false, .int w), some (true, .list (rs.map rowD)), none, none, none, none, none, none, none, some (false, .int u), some (false, .int v), none] = .ok ((true, .list ((rs.map (mv u v)).map rowD)), [some (true, st), some (false, .int w), some (true, .list (rs.map rowD)), none, none, none, none, none, none, none, some (false, .int u), some (false, .int v), none]) := by
  have e := ev_lcm (e := V1_law_field) (g := [3, 4, 12]) (own := [3, 4, 12]) (it := .sq (.var 2)) (m := [some (true, st), some (false, .int w), some (true, .list (rs.map rowD)), none, none, none, none, none, none, none, some (false, .int u), some (false, .int v), none]) (srcs := [(2, rs.map rowD)]) rowD (fun r => rowD (mv u v r)) rs (by simp [srcsOf]) ⟨⟨true, rfl⟩, trivial⟩ (by simp) (by simp) (by simp [backE]) (len_ok (by omega)) fun r hrs => by
    obtain ⟨a, b, c, d⟩ := hr r hrs
    have m1 := b.ok hu (by decide) (by decide)
    have m2 := c.ok hv (by decide) (by decide)
    exact ⟨_, rfl, ⟨false, by simp [V1_law_field, m1, m2, rowD, mv]⟩, by simp [V1_law_field]⟩
  rw [e, List.map_map]
  rfl
theorem ending (w : Int) (st : Rc.St) (rs : List Row) (h : Pre rs) : ∃ rs' st' m, exSs B_law_field.tl.tl.tl.tl.tl (enc w (st, rs)) = .ok (.rt false (fieldD rs') m) ∧ geti m 0 = some (true, stD st') ∧ Dr rs' := by
  have t1 := take_eq st 7 (by decide) (by decide)
  have c1 := tk_bd st 7 (by decide)
  have t2 := take_eq (tkS st 7) 7 (by decide) (by decide)
  have c2 := tk_bd (tkS st 7) 7 (by decide)
  have lo := h.lo
  have hi := h.hi
  have t3 := take_eq (tkS (tkS st 7) 7) rs.length (by omega) (by omega)
  have c3 := tk_bd (tkS (tkS st 7) 7) rs.length (by omega)
  have bu : Bd 3 (tkV st 7 - 3) := ⟨by omega, by omega⟩
  have bv : Bd 3 (tkV (tkS st 7) 7 - 3) := ⟨by omega, by omega⟩
  have lc := mv_lc (stD (tkS (tkS st 7) 7)) w rs _ _ h.row h.hi bu bv
  generalize hU : tkV st 7 - 3 = u at *
  generalize hV : tkV (tkS st 7) 7 - 3 = v at *
  generalize hT : tkV (tkS (tkS st 7) 7) rs.length = t at *
  have e1 := cut_from ((rs.map (mv u v)).map rowD) t (by omega) (by simp; omega)
  have e2 := cut_to ((rs.map (mv u v)).map rowD) t (by omega) (by simp; omega)
  have len : lenOk (((rs.map (mv u v)).map rowD).drop t.toNat ++ ((rs.map (mv u v)).map rowD).take t.toNat).length := len_ok (by simp; omega)
  have ln : ((rs.map (mv u v)).map rowD).length = rs.length := by simp
  rw [List.length_append] at len
  refine ⟨(rs.map (mv u v)).drop t.toNat ++ (rs.map (mv u v)).take t.toNat, tkS (tkS (tkS st 7) 7) rs.length, [some (true, stD (tkS (tkS (tkS st 7) 7) rs.length)), some (false, .int w), some (true, .list ((rs.map (mv u v)).map rowD)), none, none, none, some (false, .int t), none, none, none, some (false, .int u), some (false, .int v), none], ?_, rfl, ?_⟩
  · have e4 : fieldD ((rs.map (mv u v)).drop t.toNat ++ (rs.map (mv u v)).take t.toNat) = .tuple (((rs.map (mv u v)).map rowD).drop t.toNat ++ ((rs.map (mv u v)).map rowD).take t.toNat) := by
      unfold fieldD
      rw [List.map_append, List.map_drop, List.map_take]
    rw [e4]
    generalize hz : (rs.map (mv u v)).map rowD = zs at *
    simp only [B_law_field, Ss.tl, enc]
    rw [List.length_drop, List.length_take, ln] at len
    simp [x_ss1, t1, t2, hU, hV, lc, ln, t3, hT, e1, e2, len]
  · refine dr_of h bu bv (by simp; omega) fun x => ?_
    rw [List.mem_append, Or.comm, ← List.mem_append, List.take_append_drop, List.mem_map]
    constructor
    · rintro ⟨r, hr, rfl⟩
      exact ⟨r, hr, rfl⟩
    · rintro ⟨r, hr, rfl⟩
      exact ⟨r, hr, rfl⟩
theorem neg_last {rs : List Row} (h : P2 7 [] (st, rs)) : ∃ x ∈ rs, (rs.map rowD).getLast? = some (rowD x) ∧ ∃ ys, rs = ys ++ [x] := by
  have l := h.2.2.1
  obtain ⟨ys, y, e⟩ := snoc_of (show rs ≠ [] by rintro rfl; simp at l)
  exact ⟨y, by simp [e], by simp [e], ys, e⟩
/-- the box -/
theorem front1 (w : Int) (hw : w < 4) (st : Rc.St) : ∃ st' rs, Pre rs ∧ exSs B_law_field.tl.tl (enc w (st, [])) = exSs B_law_field.tl.tl.tl.tl.tl (enc w (st', rs)) := by
  obtain ⟨⟨s1, r1⟩, e1, p1⟩ := loop1 w st
  have t1 := take_eq s1 4 (by decide) (by decide)
  have c1 := tk_bd s1 4 (by decide)
  obtain ⟨⟨s2, r2⟩, e2, p2⟩ := loop2 w (tkS s1 4, r1) (tkV s1 4) c1.1 (by omega) p1
  have t2 := take_eq s2 8 (by decide) (by decide)
  have sm : smallI (tkV s1 4) := by unfold smallI; omega
  have w4 : ¬ w = 4 := by omega
  have w5 : ¬ w = 5 := by omega
  obtain ⟨q1, q2, q3, q4⟩ := p2
  simp only [List.length_nil] at q1 q2 q3 q4
  have e3 : exS (.sfor [6] (.rg (.call M_law_take [true, false] (.cons (.var 0) (.cons (.con (.int 4)) .nil)))) L1_law_field) (enc w (s1, r1)) = .ok (.nx (enc w (s2, r2))) := by
    simp only [enc] at e2 ⊢
    simp [x_sfor, t1, sm, e2]
  simp only [enc, List.map_nil] at e1 e3
  by_cases z : tkV s2 8 = 0
  · obtain ⟨ys, ⟨a, b, c⟩, e⟩ := snoc_of (show r2 ≠ [] by rintro rfl; simp at q3)
    have lo : lenOk (r2.length + 1) := len_ok (by omega)
    have al : L2.atI (r2.map rowD) (-1) = some (rowD (a, b, c)) := by rw [e, List.map_append]; exact L2.atI_last _ _
    have hx : Rw 6 58 (a, b, c) := q4 _ (by rw [e]; simp)
    refine ⟨tkS s2 8, r2 ++ [(0 - a, 0 - b, 0 - c)], pre_box (fun d hd => ?_) (by simp; omega) (by simp; omega) (fun x hx' => ?_), ?_⟩
    · obtain ⟨x, hx, hb⟩ := q1 d hd
      exact ⟨x, List.mem_append_left _ hx, hb⟩
    · rcases List.mem_append.mp hx' with h | h
      · exact q4 x h
      · simp only [List.mem_cons, List.not_mem_nil, or_false] at h
        subst h
        obtain ⟨h1, h2, h3, h4⟩ := hx
        unfold Rw nz Bd at *
        simp only at *
        omega
    · simp only [B_law_field, Ss.tl, enc]
      simp [x_ss1 (.blk _ _ _), x_ss1 (.sif _ _ _), x_ss1 (.mth _ _ _), x_ss1 (.sfor _ _ _), hw, w4, w5, e1, e3, t2, z, al, mthF, lo]
      simp [rowD]
  · refine ⟨tkS s2 8, r2, pre_box q1 q3 (by omega) q4, ?_⟩
    simp only [B_law_field, Ss.tl, enc]
    simp [x_ss1 (.blk _ _ _), x_ss1 (.sif _ _ _), x_ss1 (.mth _ _ _), x_ss1 (.sfor _ _ _), hw, w4, w5, e1, e3, t2, z]
theorem front2 (st : Rc.St) : ∃ st' rs, Pre rs ∧ exSs B_law_field.tl.tl (enc 4 (st, [])) = exSs B_law_field.tl.tl.tl.tl.tl (enc 4 (st', rs)) := by
  have t1 := take_eq st 7 (by decide) (by decide)
  have c1 := tk_bd st 7 (by decide)
  generalize hk : 1 + tkV st 7 = k at *
  have m1 : mulOk (-2) k := mulOk_small (by decide) (by omega)
  have m2 : mulOk 2 k := mulOk_small (by decide) (by omega)
  refine ⟨tkS st 7, _, spike k (by omega) (by omega), ?_⟩
  simp only [B_law_field, Ss.tl, enc]
  simp [x_ss1 (.blk _ _ _), x_ss1 (.sif _ _ _), x_ss1 (.asg 8 _), x_ss1 (.asg 2 (.lst _)), t1, hk, m1, m2, rowD]
theorem tri_lc (st : Rc.St) (d1 d2 d3 : Dir) : ∃ s a b c, (0 ≤ a ∧ a < 8) ∧ (0 ≤ b ∧ b < 8) ∧ (0 ≤ c ∧ c < 8) ∧ ev (.lc V2_law_field [3, 4] (.sq (.var 9)) (.con (.bool true)) [3, 4]) [some (true, stD st), some (false, .int 5), some (true, .list []), none, none, none, none, none, none, some (false, .list [dirD d1, dirD d2, dirD d3]), none, none, none] = .ok ((true, .list [rowD (d1.1, d1.2, a), rowD (d2.1, d2.2, b), rowD (d3.1, d3.2, c)]), [some (true, stD s), some (false, .int 5), some (true, .list []), none, none, none, none, none, none, some (false, .list [dirD d1, dirD d2, dirD d3]), none, none, none]) := by
  have c1 := tk_bd st 8 (by decide)
  have c2 := tk_bd (tkS st 8) 8 (by decide)
  have c3 := tk_bd (tkS (tkS st 8) 8) 8 (by decide)
  refine ⟨tkS (tkS (tkS st 8) 8) 8, tkV st 8, tkV (tkS st 8) 8, tkV (tkS (tkS st 8) 8) 8, c1, c2, c3, ?_⟩
  have q := lc_acc (srcs := []) (own := [3, 4]) (g := [3, 4]) (cnd := evC (.con (.bool true))) (elt := evT V2_law_field) (fun s : Rc.St => [some (true, stD s), some (false, .int 5), some (true, .list []), none, none, none, none, none, none, some (false, .list [dirD d1, dirD d2, dirD d3]), none, none, none]) dirD (fun s d => (rowD (d.1, d.2, tkV s 8), tkS s 8)) (fun _ => trivial) [d1, d2, d3] st fun d _ s => by
    have t := take_eq s 8 (by decide) (by decide)
    exact ⟨_, [some (true, stD s), some (false, .int 5), some (true, .list []), some (false, .int d.1), some (false, .int d.2), none, none, none, none, some (false, .list [dirD d1, dirD d2, dirD d3]), none, none, none], [some (true, stD (tkS s 8)), some (false, .int 5), some (true, .list []), some (false, .int d.1), some (false, .int d.2), none, none, none, none, some (false, .list [dirD d1, dirD d2, dirD d3]), none, none, none], rfl, by simp, by simp [evT, V2_law_field, t, rowD], by simp⟩
  simp [accum] at q
  rw [x_lc (p := ([dirD d1, dirD d2, dirD d3], [], [some (true, stD st), some (false, .int 5), some (true, .list []), none, none, none, none, none, none, some (false, .list [dirD d1, dirD d2, dirD d3]), none, none, none])) (by simp [srcsOf]) (by simp) (by simpa using q) (by simp)]
  simp [backE]
theorem front3 (st : Rc.St) : ∃ st' rs, Pre rs ∧ exSs B_law_field.tl.tl (enc 5 (st, [])) = exSs B_law_field.tl.tl.tl.tl.tl (enc 5 (st', rs)) := by
  have t1 := take_eq st 2 (by decide) (by decide)
  have c1 := tk_bd st 2 (by decide)
  rcases (show tkV st 2 = 0 ∨ tkV st 2 = 1 by omega) with z | z
  · obtain ⟨s, a, b, c, ha, hb, hc, e⟩ := tri_lc (tkS st 2) (-2, 1) (1, -3) (2, 3)
    refine ⟨s, _, tri1 a b c ha hb hc, ?_⟩
    simp only [B_law_field, Ss.tl, enc]
    simp only [dirD] at e
    simp [x_ss1 (.blk _ _ _), x_ss1 (.sif _ _ _), x_ss1 (.asg 9 _), x_ss1 (.asg 2 (.lc _ [3, 4] _ _ _)), t1, z, e]
  · obtain ⟨s, a, b, c, ha, hb, hc, e⟩ := tri_lc (tkS st 2) (-3, -2) (3, -1) (1, 4)
    refine ⟨s, _, tri2 a b c ha hb hc, ?_⟩
    simp only [B_law_field, Ss.tl, enc]
    simp only [dirD] at e
    simp [x_ss1 (.blk _ _ _), x_ss1 (.sif _ _ _), x_ss1 (.asg 9 _), x_ss1 (.asg 2 (.lc _ [3, 4] _ _ _)), t1, z, e]
theorem field_eq (st : Rc.St) : ∃ rs st', M_law_field [(true, stD st)] = .ok (false, fieldD rs, [(true, stD st')]) ∧ Dr rs := by
  have t1 := take_eq st 6 (by decide) (by decide)
  have c1 := tk_bd st 6 (by decide)
  have fr : ∃ st' rs, Pre rs ∧ exSs B_law_field.tl.tl (enc (tkV st 6) (tkS st 6, [])) = exSs B_law_field.tl.tl.tl.tl.tl (enc (tkV st 6) (st', rs)) := by
    by_cases w : tkV st 6 < 4
    · exact front1 _ w _
    · rcases (show tkV st 6 = 4 ∨ tkV st 6 = 5 by omega) with z | z <;> rw [z]
      · exact front2 _
      · exact front3 _
  obtain ⟨s1, rs, h, e⟩ := fr
  obtain ⟨rs', st', m, e2, g, d⟩ := ending (tkV st 6) s1 rs h
  refine ⟨rs', st', ?_, d⟩
  rw [e2] at e
  simp only [B_law_field, Ss.tl, enc, List.map_nil] at e
  simp [M_law_field, mkM, flg, runFn, B_law_field, x_ss1 (.asg 1 _), x_ss1 (.asg 2 (.lst .nil)), t1, e, g]
end A
end Rc

set_option maxRecDepth 100000
set_option maxHeartbeats 4000000
/-! Fractions: the program's and the laws' sums, products, less. -/
namespace Rc
open PySem
theorem sub_num (a b : Rat) : Rat.divInt (a.num * b.den - b.num * a.den) (a.den * b.den) = a - b := by
  rw [← Rat.divInt_sub_divInt _ _ (den_ne a) (den_ne b), Rat.num_divInt_den, Rat.num_divInt_den]
theorem prod_num (a b : Rat) : Rat.divInt (a.num * b.num) (a.den * b.den) = a * b := by
  rw [← Rat.divInt_mul_divInt, Rat.num_divInt_den, Rat.num_divInt_den]
theorem over_num (a b : Rat) : Rat.divInt (a.num * b.den) (a.den * b.num) = a / b := by
  rw [← Rat.divInt_mul_divInt, Rat.num_divInt_den, Rat.div_def, ← Rat.inv_divInt, Rat.num_divInt_den]
theorem num_ne {b : Rat} (h : b ≠ 0) : b.num ≠ 0 := fun z => h (Rat.num_eq_zero.mp z)
theorem Sz.add' {m n : Nat} {a b : Rat} (ha : Sz m a) (hb : Sz n b) : Sz (m + n + 1) (a + b) := by
  rw [← add_num]
  refine Sz.divInt ?_ ((ha.den.mul hb.den).mono (by omega)) (mul_ne (den_ne a) (den_ne b))
  have h2 := hb.num.mul ha.den
  rw [Nat.add_comm n m] at h2
  exact (ha.num.mul hb.den).add h2
theorem Sz.sub' {m n : Nat} {a b : Rat} (ha : Sz m a) (hb : Sz n b) : Sz (m + n + 1) (a - b) := by
  rw [← sub_num]
  refine Sz.divInt ?_ ((ha.den.mul hb.den).mono (by omega)) (mul_ne (den_ne a) (den_ne b))
  have h2 := hb.num.mul ha.den
  rw [Nat.add_comm n m] at h2
  exact (ha.num.mul hb.den).sub h2
theorem Sz.mul' {m n : Nat} {a b : Rat} (ha : Sz m a) (hb : Sz n b) : Sz (m + n) (a * b) := by
  rw [← prod_num]
  exact Sz.divInt (ha.num.mul hb.num) (ha.den.mul hb.den) (mul_ne (den_ne a) (den_ne b))
theorem Sz.div' {m n : Nat} {a b : Rat} (ha : Sz m a) (hb : Sz n b) (z : b ≠ 0) : Sz (m + n) (a / b) := by
  rw [← over_num]
  exact Sz.divInt (ha.num.mul hb.den) (ha.den.mul hb.num) (mul_ne (den_ne a) (num_ne z))
section
variable {a b : Rat} {m n : Nat} (ha : Sz m a) (hb : Sz n b) (h : m + n ≤ 8000)
include ha hb h
theorem plus_q : M_plus [(false, fracD a), (false, fracD b)] = .ok (false, fracD (a + b), [(false, fracD a), (false, fracD b)]) := by
  have m1 := ha.num.ok hb.den (by omega)
  have m2 := hb.num.ok ha.den (by omega)
  have m3 := ha.den.ok hb.den (by omega)
  have r := ratio_eq (a.num * b.den + b.num * a.den) (a.den * b.den) (mul_ne (den_ne a) (den_ne b)) ((ha.den.mul hb.den).small (by omega))
  rw [add_num] at r
  simp only [fracD] at r
  simp [M_plus, mkM, flg, runFn, B_plus, x_ss1, fracD, m1, m2, m3, r]
theorem lplus_q : M_law_plus [(false, fracD a), (false, fracD b)] = .ok (false, fracD (a + b), [(false, fracD a), (false, fracD b)]) := by
  have m1 := ha.num.ok hb.den (by omega)
  have m2 := hb.num.ok ha.den (by omega)
  have m3 := ha.den.ok hb.den (by omega)
  have r := low_eq (a.num * b.den + b.num * a.den) (a.den * b.den) (mul_ne (den_ne a) (den_ne b)) ((ha.den.mul hb.den).small (by omega))
  rw [add_num] at r
  simp only [fracD] at r
  simp [M_law_plus, mkM, flg, runFn, B_law_plus, x_ss1, fracD, m1, m2, m3, r]
theorem minus_q : M_minus [(false, fracD a), (false, fracD b)] = .ok (false, fracD (a - b), [(false, fracD a), (false, fracD b)]) := by
  have m1 := ha.num.ok hb.den (by omega)
  have m2 := hb.num.ok ha.den (by omega)
  have m3 := ha.den.ok hb.den (by omega)
  have r := ratio_eq (a.num * b.den - b.num * a.den) (a.den * b.den) (mul_ne (den_ne a) (den_ne b)) ((ha.den.mul hb.den).small (by omega))
  rw [sub_num] at r
  simp only [fracD] at r
  simp [M_minus, mkM, flg, runFn, B_minus, x_ss1, fracD, m1, m2, m3, r]
theorem lminus_q : M_law_minus [(false, fracD a), (false, fracD b)] = .ok (false, fracD (a - b), [(false, fracD a), (false, fracD b)]) := by
  have m1 := ha.num.ok hb.den (by omega)
  have m2 := hb.num.ok ha.den (by omega)
  have m3 := ha.den.ok hb.den (by omega)
  have r := low_eq (a.num * b.den - b.num * a.den) (a.den * b.den) (mul_ne (den_ne a) (den_ne b)) ((ha.den.mul hb.den).small (by omega))
  rw [sub_num] at r
  simp only [fracD] at r
  simp [M_law_minus, mkM, flg, runFn, B_law_minus, x_ss1, fracD, m1, m2, m3, r]
theorem product_q : M_product [(false, fracD a), (false, fracD b)] = .ok (false, fracD (a * b), [(false, fracD a), (false, fracD b)]) := by
  have m1 := ha.num.ok hb.num (by omega)
  have m3 := ha.den.ok hb.den (by omega)
  have r := ratio_eq (a.num * b.num) (a.den * b.den) (mul_ne (den_ne a) (den_ne b)) ((ha.den.mul hb.den).small (by omega))
  rw [prod_num] at r
  simp only [fracD] at r
  simp [M_product, mkM, flg, runFn, B_product, x_ss1, fracD, m1, m3, r]
theorem ltimes_q : M_law_times [(false, fracD a), (false, fracD b)] = .ok (false, fracD (a * b), [(false, fracD a), (false, fracD b)]) := by
  have m1 := ha.num.ok hb.num (by omega)
  have m3 := ha.den.ok hb.den (by omega)
  have r := low_eq (a.num * b.num) (a.den * b.den) (mul_ne (den_ne a) (den_ne b)) ((ha.den.mul hb.den).small (by omega))
  rw [prod_num] at r
  simp only [fracD] at r
  simp [M_law_times, mkM, flg, runFn, B_law_times, x_ss1, fracD, m1, m3, r]
theorem over_q (z : b ≠ 0) : M_over [(false, fracD a), (false, fracD b)] = .ok (false, fracD (a / b), [(false, fracD a), (false, fracD b)]) := by
  have m1 := ha.num.ok hb.den (by omega)
  have m3 := ha.den.ok hb.num (by omega)
  have r := ratio_eq (a.num * b.den) (a.den * b.num) (mul_ne (den_ne a) (num_ne z)) ((ha.den.mul hb.num).small (by omega))
  rw [over_num] at r
  simp only [fracD] at r
  simp [M_over, mkM, flg, runFn, B_over, x_ss1, fracD, m1, m3, r]
theorem lover_q (z : b ≠ 0) : M_law_over [(false, fracD a), (false, fracD b)] = .ok (false, fracD (a / b), [(false, fracD a), (false, fracD b)]) := by
  have m1 := ha.num.ok hb.den (by omega)
  have m3 := ha.den.ok hb.num (by omega)
  have r := low_eq (a.num * b.den) (a.den * b.num) (mul_ne (den_ne a) (num_ne z)) ((ha.den.mul hb.num).small (by omega))
  rw [over_num] at r
  simp only [fracD] at r
  simp [M_law_over, mkM, flg, runFn, B_law_over, x_ss1, fracD, m1, m3, r]
theorem less_q : M_is_less [(false, fracD a), (false, fracD b)] = .ok (false, .bool (decide (a < b)), [(false, fracD a), (false, fracD b)]) := by
  have m1 := ha.num.ok hb.den (by omega)
  have m2 := hb.num.ok ha.den (by omega)
  have e : (a < b) = (a.num * b.den < b.num * a.den) := propext (Rat.lt_iff a b)
  simp [M_is_less, mkM, flg, runFn, B_is_less, x_ss1, fracD, m1, m2, e]
theorem lless_q : M_law_less [(false, fracD a), (false, fracD b)] = .ok (false, .bool (decide (a < b)), [(false, fracD a), (false, fracD b)]) := by
  have m1 := ha.num.ok hb.den (by omega)
  have m2 := hb.num.ok ha.den (by omega)
  have e : (a < b) = (a.num * b.den < b.num * a.den) := propext (Rat.lt_iff a b)
  simp [M_law_less, mkM, flg, runFn, B_law_less, x_ss1, fracD, m1, m2, e]
end
theorem times_q {a : Rat} {k : Int} {m n : Nat} (ha : Sz m a) (hk : Ib n k) (h : m + n ≤ 9000) : M_times [(false, fracD a), (false, .int k)] = .ok (false, fracD (a * k), [(false, fracD a), (false, .int k)]) := by
  have m1 := ha.num.ok hk (by omega)
  have r := ratio_eq (a.num * k) a.den (den_ne a) (ha.den.small (by omega))
  rw [mul_num] at r
  simp only [fracD] at r
  simp [M_times, mkM, flg, runFn, B_times, x_ss1, fracD, m1, r]
theorem floor_fdiv (a : Rat) : a.num.fdiv a.den = a.floor := by
  rw [Rat.floor_def, Int.fdiv_eq_ediv_of_nonneg _ (Int.le_of_lt (den_pos a))]
theorem floor_q {a : Rat} {m : Nat} (ha : Sz m a) (h : m ≤ 9000) : M_floor_of [(false, fracD a)] = .ok (false, .int a.floor, [(false, fracD a)]) := by
  have d : divOk (a.den : Int) := ⟨den_ne a, by
    have := bits_le (k := 8999) (i := (a.den : Int)) (ha.den.mono h)
    omega⟩
  simp [M_floor_of, mkM, flg, runFn, B_floor_of, x_ss1, d, floor_fdiv]
/-! ### the laws' values at places -/
theorem val_num (r : Row) (p : Place) : Rat.divInt (r.1 * p.1.num * p.2.den + r.2.1 * p.2.num * p.1.den) (p.1.den * p.2.den) = val r p := by
  have h1 := Rat.mul_inv_cancel _ (castI_ne (den_ne p.1))
  have h2 := Rat.mul_inv_cancel _ (castI_ne (den_ne p.2))
  have e1 : p.1 = (p.1.num : Rat) * ((p.1.den : Int) : Rat)⁻¹ := by
    have := Rat.num_divInt_den p.1
    rw [Rat.divInt_eq_div, Rat.div_def] at this
    exact this.symm
  have e2 : p.2 = (p.2.num : Rat) * ((p.2.den : Int) : Rat)⁻¹ := by
    have := Rat.num_divInt_den p.2
    rw [Rat.divInt_eq_div, Rat.div_def] at this
    exact this.symm
  unfold val
  rw [Rat.divInt_eq_div, Rat.div_def]
  simp only [Rat.intCast_add, Rat.intCast_mul, Rat.inv_mul_rev]
  generalize ((p.1.den : Int) : Rat)⁻¹ = w1 at *
  generalize ((p.2.den : Int) : Rat)⁻¹ = w2 at *
  generalize ((p.1.den : Int) : Rat) = d1 at *
  generalize ((p.2.den : Int) : Rat) = d2 at *
  generalize ((p.1.num : Int) : Rat) = n1 at *
  generalize ((p.2.num : Int) : Rat) = n2 at *
  rw [e1, e2]
  grind
theorem lvalue_q {a b : Int} {r' : List D} {p : Place} {m n : Nat} (h1 : Ib m a) (h2 : Ib m b) (hp : SzP n p) (h : m + 2 * n ≤ 8000) :
    M_law_value [(false, ab a b r'), (false, placeD p)] = .ok (false, fracD (val (a, b, 0) p), [(false, ab a b r'), (false, placeD p)]) := by
  have m1 := h1.ok hp.1.num (by omega)
  have m2 := (h1.mul hp.1.num).ok hp.2.den (by omega)
  have m3 := h2.ok hp.2.num (by omega)
  have m4 := (h2.mul hp.2.num).ok hp.1.den (by omega)
  have m5 := hp.1.den.ok hp.2.den (by omega)
  have e := low_eq (a * p.1.num * p.2.den + b * p.2.num * p.1.den) (p.1.den * p.2.den) (mul_ne (den_ne _) (den_ne _)) ((hp.1.den.mul hp.2.den).small (by omega))
  have v := val_num (a, b, 0) p
  simp only at v
  rw [v] at e
  simp [M_law_value, mkM, flg, runFn, B_law_value, x_ss1, placeD, bindT, m1, m2, m3, m4, m5, e]
theorem val_dir (r : Row) (p : Place) : val (r.1, r.2.1, 0) p = val r p := rfl
theorem val_sz' {r : Row} {p : Place} {m n : Nat} (h1 : Ib m r.1) (h2 : Ib m r.2.1) (hp : SzP n p) : Sz (2 * n + 2 * m + 1) (val r p) := by
  have s1 := hp.1.mulI h1
  have s2 := hp.2.mulI h2
  exact (s1.add' s2).mono (by omega)
theorem le_num (q : Rat) (c : Int) : (q.num ≤ c * q.den) = (q ≤ c) := by
  rw [Rat.le_iff]
  simp
theorem lkeeps_q {r : Row} {p : Place} {m n : Nat} (hr : SzR m r) (hp : SzP n p) (h : 3 * m + 3 * n ≤ 8000) : M_law_keeps [(false, rowD r), (false, placeD p)] = .ok (false, .bool (decide (val r p ≤ r.2.2)), [(false, rowD r), (false, placeD p)]) := by
  have e := lvalue_q (r' := [.int r.2.2]) hr.1 hr.2.1 hp (by omega)
  rw [val_dir] at e
  have s := val_sz' hr.1 hr.2.1 hp
  have m1 := hr.2.2.ok s.den (by omega)
  have l := le_num (val r p) r.2.2
  simp [M_law_keeps, mkM, flg, runFn, B_law_keeps, x_ss1, rowD, e, m1, l]
theorem value_q {a b : Int} {r' : List D} {p : Place} {m n : Nat} (h1 : Ib m a) (h2 : Ib m b) (hp : SzP n p) (h : 2 * m + 2 * n ≤ 8000) :
    M_value [(false, ab a b r'), (false, placeD p)] = .ok (false, fracD (val (a, b, 0) p), [(false, ab a b r'), (false, placeD p)]) := by
  have e1 := times_q hp.1 h1 (by omega)
  have e2 := times_q hp.2 h2 (by omega)
  have e3 := plus_q (hp.1.mulI h1) (hp.2.mulI h2) (by omega)
  simp [M_value, mkM, flg, runFn, B_value, x_ss1, placeD, e1, e2, e3, val]
/-! ### parts of lists -/
theorem cut_m1 (xs : List D) : cutD xs none (some (-1)) = xs.take (xs.length - 1) := by
  unfold cutD
  rw [HT.sIx_none]
  have e : HT.sIx xs.length xs.length (some (-1)) = xs.length - 1 := by
    show (if (-1 : Int) < 0 then ((-1 : Int) + (xs.length : Int)).toNat else min (-1 : Int).toNat xs.length) = _
    rw [if_pos (by decide)]
    omega
  rw [e]
  simp
theorem at_mem (xs : List D) (i : Int) (h0 : 0 ≤ i) (h1 : i < xs.length) : ∃ o ∈ xs, L2.atI xs i = some o := by
  have hl : i.toNat < xs.length := by omega
  have e : L2.ixN xs.length i = some i.toNat := by
    unfold L2.ixN
    simp [h0, h1, hl]
  refine ⟨xs[i.toNat], List.getElem_mem _, ?_⟩
  unfold L2.atI
  rw [e]
  simp [hl]
theorem cut_to' (xs : List D) (t : Int) (h0 : 0 ≤ t) : cutD xs none (some t) = xs.take t.toNat := by
  by_cases h1 : t ≤ xs.length
  · exact cut_to xs t h0 h1
  · have e : HT.sIx xs.length xs.length (some t) = xs.length := by
      show (if t < 0 then (t + (xs.length : Int)).toNat else min t.toNat xs.length) = _
      rw [if_neg (by omega)]
      omega
    unfold cutD
    rw [e, HT.sIx_none, List.drop_zero, Nat.sub_zero, List.take_length, List.take_of_length_le (by omega)]
theorem len_field (rs : List Row) : bltF .len [fieldD rs] = some (false, .int rs.length) := by
  show some (false, PyData.int ((rs.map rowD).length : Int)) = _
  rw [List.length_map]
theorem idx_field (rs : List Row) (i : Int) (h0 : 0 ≤ i) (h1 : i < rs.length) : ∃ r ∈ rs, idxF (fieldD rs) (.int i) = some (rowD r) ∧ rs[i.toNat]? = some r := by
  have hl : i.toNat < rs.length := by omega
  have e : L2.ixN (rs.map rowD).length i = some i.toNat := by
    unfold L2.ixN
    rw [List.length_map]
    simp [h0, h1, hl]
  refine ⟨rs[i.toNat], List.getElem_mem _, ?_, by simp [hl]⟩
  show L2.atI (rs.map rowD) i = _
  unfold L2.atI
  rw [e]
  simp [hl]
theorem rep_flat {α : Type} (x : α) : ∀ n : Nat, (List.replicate n [x]).flatten = List.replicate n x
  | 0 => rfl
  | n + 1 => by rw [List.replicate_succ, List.flatten_cons, rep_flat x n]; rfl
theorem mul_rep (x : D) (n : Nat) (h : n ≤ 1000000) : bop .mul (.list [x]) (.int n) = some (true, .list (List.replicate n x)) := by
  have e : (List.replicate ((n : Int)).toNat [x]).flatten = List.replicate n x := by rw [Int.toNat_natCast, rep_flat]
  have p : (2 : Int) ^ 63 = 9223372036854775808 := by rfl
  have l : lenOk ([x].length * ((n : Int)).toNat) := by
    rw [Int.toNat_natCast, List.length_singleton, Nat.one_mul]
    exact len_ok h
  rw [b_mulL, if_pos (show repOk [x].length (n : Int) from ⟨by rw [p]; omega, by rw [p]; omega, l⟩), e]
/-- a comprehension that draws, of which only something is told -/
theorem lc_ex {σ α : Type} {srcs : List (Nat × List D)} {own g : List Nat} {cnd : Env → Res (Bool × Env)} {elt : Env → Res (D × Env)} (enc : σ → Env) (item : α → D) (P : D → Prop) (hs : ∀ s, srcOk (enc s) srcs) : ∀ (xs : List α) (s : σ),
    (∀ x ∈ xs, ∀ s, ∃ d s' m1 m2 m3, bindT g (item x) (enc s) = some m1 ∧ cnd m1 = .ok (true, m2) ∧ elt m2 = .ok (d, m3) ∧ wipeE m3 own = enc s' ∧ P d) → ∃ ds s', lcL srcs own g cnd elt (xs.map item) (enc s) = .ok (ds, enc s') ∧ ds.length = xs.length ∧ ∀ d ∈ ds, P d
  | [], s, _ => ⟨[], s, by simp only [List.map_nil]; rw [lcL, if_pos (hs s)], rfl, fun d h => by simp at h⟩
  | x :: xs, s, h => by
    obtain ⟨d, s1, m1, m2, m3, a, b, c, e, p⟩ := h x List.mem_cons_self s
    obtain ⟨ds, s2, q1, q2, q3⟩ := lc_ex enc item P hs xs s1 fun y hy => h y (List.mem_cons_of_mem _ hy)
    refine ⟨d :: ds, s2, ?_, by simp [q2], fun y hy => ?_⟩
    · rw [List.map_cons, lcL, if_pos (hs s), a, ofO_some, bind_ok, b, bind_ok, if_pos rfl, c, bind_ok, e, q1]
      rfl
    · rcases List.mem_cons.mp hy with rfl | hy
      · exact p
      · exact q3 y hy
/-- things of which each is told by a value -/
theorem enc_all_of {β : Type} (f : β → D) (Q : β → Prop) : ∀ ds : List D, (∀ d ∈ ds, ∃ b, d = f b ∧ Q b) → ∃ bs : List β, ds = bs.map f ∧ ∀ b ∈ bs, Q b
  | [], _ => ⟨[], rfl, fun b h => by simp at h⟩
  | d :: ds, h => by
    obtain ⟨b, e, q⟩ := h d List.mem_cons_self
    obtain ⟨bs, e2, q2⟩ := enc_all_of f Q ds fun y hy => h y (List.mem_cons_of_mem _ hy)
    refine ⟨b :: bs, by simp [e, e2], fun y hy => ?_⟩
    rcases List.mem_cons.mp hy with rfl | hy
    · exact q
    · exact q2 y hy
/-- a comprehension over things of which nothing is asked, that draws -/
theorem ev_lcx {σ α : Type} {e : E} {g own : List Nat} {it : It} {m0 : Env} {srcs : List (Nat × List D)} (enc : σ → Env) (item : α → D) (P : D → Prop) (xs : List α) (s : σ)
    (hit : evI it m0 = .ok (xs.map item, srcs, enc s)) (hs : ∀ s, srcOk (enc s) srcs) (ho : (own.all fun i => shO (geti (enc s) i)) = true) (hw : wipeE (enc s) own = enc s) (hb : ∀ s', backE (enc s) (enc s') own = enc s') (hl : lenOk xs.length)
    (h : ∀ x ∈ xs, ∀ s, ∃ d s' m1 m2, bindT g (item x) (enc s) = some m1 ∧ (∃ b, ev e m1 = .ok ((b, d), m2)) ∧ wipeE (tkm e m2) own = enc s' ∧ P d) :
    ∃ ds s', ev (.lc e g it (.con (.bool true)) own) m0 = .ok ((true, .list ds), enc s') ∧ ds.length = xs.length ∧ ∀ d ∈ ds, P d := by
  obtain ⟨ds, s', q1, q2, q3⟩ := lc_ex (srcs := srcs) (own := own) (g := g) (cnd := evC (.con (.bool true))) (elt := evT e) enc item P hs xs s fun x hx s => by
    obtain ⟨d, s', m1, m2, a, ⟨b, c⟩, w, p⟩ := h x hx s
    exact ⟨d, s', m1, m1, tkm e m2, a, by simp, by unfold evT; rw [c, bind_ok], w, p⟩
  refine ⟨ds, s', ?_, q2, q3⟩
  have := x_lc (e := e) (c := .con (.bool true)) (g := g) (own := own) hit ho (by rw [hw]; exact q1) (by rw [q2]; exact hl)
  rw [this, hb]
end Rc

set_option maxRecDepth 100000
set_option maxHeartbeats 4000000
/-! Places in convex position, and their ring. -/
namespace Rc
open PySem
/-- above 0 where the third place lies to the left of the way from the first to the second -/
def cr (p q r : Place) : Rat := (q.1 - p.1) * (r.2 - p.2) - (q.2 - p.2) * (r.1 - p.1)
def LexLt (p q : Place) : Prop := p.1 < q.1 ∨ (p.1 = q.1 ∧ p.2 < q.2)
instance (p q : Place) : Decidable (LexLt p q) := inferInstanceAs (Decidable (_ ∨ _))
theorem LexLt.irr (p : Place) : ¬ LexLt p p := by unfold LexLt; grind
theorem LexLt.trans {p q r : Place} (h1 : LexLt p q) (h2 : LexLt q r) : LexLt p r := by unfold LexLt at *; grind
theorem LexLt.tri (p q : Place) : LexLt p q ∨ p = q ∨ LexLt q p := by
  unfold LexLt
  rw [Prod.ext_iff]
  grind
theorem LexLt.asymm {p q : Place} (h1 : LexLt p q) (h2 : LexLt q p) : False := LexLt.irr _ (h1.trans h2)
theorem cr_cyc (p q r : Place) : cr q r p = cr p q r := by unfold cr; grind
theorem cr_sw (p q r : Place) : cr p r q = - cr p q r := by unfold cr; grind
theorem cr_sw2 (p q r : Place) : cr q p r = - cr p q r := by unfold cr; grind
/-- some direction is greatest at p alone, of the places q -/
def Top (p : Place) (qs : List Place) : Prop := ∃ u v : Rat, ∀ q ∈ qs, q ≠ p → u * q.1 + v * q.2 < u * p.1 + v * p.2
def Ext (ps : List Place) : Prop := ∀ p ∈ ps, Top p ps
/-- four places -/
theorem four {o a b c : Place} {u v : Rat} (h1 : 0 < cr o a b) (h2 : 0 < cr o b c) (h3 : 0 < cr o a c) (ho : u * o.1 + v * o.2 < u * b.1 + v * b.2) (ha : u * a.1 + v * a.2 < u * b.1 + v * b.2) (hc : u * c.1 + v * c.2 < u * b.1 + v * b.2) : 0 < cr a b c := by
  apply Classical.byContradiction
  intro h
  have e : cr a b c = cr o a b + cr o b c - cr o a c := by unfold cr; grind
  have p1 := Rat.mul_pos h2 (show 0 < (u * b.1 + v * b.2) - (u * a.1 + v * a.2) by grind)
  have p2 := Rat.mul_pos h1 (show 0 < (u * b.1 + v * b.2) - (u * c.1 + v * c.2) by grind)
  have p3 := Rat.mul_nonneg (show 0 ≤ cr o a c - cr o a b - cr o b c by grind) (show 0 ≤ (u * b.1 + v * b.2) - (u * o.1 + v * o.2) by grind)
  have id : cr o b c * ((u * b.1 + v * b.2) - (u * a.1 + v * a.2)) + cr o a b * ((u * b.1 + v * b.2) - (u * c.1 + v * c.2)) + (cr o a c - cr o a b - cr o b c) * ((u * b.1 + v * b.2) - (u * o.1 + v * o.2)) = 0 := by
    unfold cr
    grind
  grind
/-- in a triangle -/
theorem in_tri {a b c p : Place} {u v : Rat} (h : 0 < cr a b c) (h1 : 0 ≤ cr a b p) (h2 : 0 ≤ cr b c p) (h3 : 0 ≤ cr c a p) (ha : u * a.1 + v * a.2 < u * p.1 + v * p.2) (hb : u * b.1 + v * b.2 < u * p.1 + v * p.2) (hc : u * c.1 + v * c.2 < u * p.1 + v * p.2) : False := by
  have p1 := Rat.mul_nonneg h1 (show 0 ≤ (u * p.1 + v * p.2) - (u * c.1 + v * c.2) by grind)
  have p2 := Rat.mul_nonneg h2 (show 0 ≤ (u * p.1 + v * p.2) - (u * a.1 + v * a.2) by grind)
  have p3 := Rat.mul_nonneg h3 (show 0 ≤ (u * p.1 + v * p.2) - (u * b.1 + v * b.2) by grind)
  have s : cr a b p + cr b c p + cr c a p = cr a b c := by unfold cr; grind
  have id : cr a b p * ((u * p.1 + v * p.2) - (u * c.1 + v * c.2)) + cr b c p * ((u * p.1 + v * p.2) - (u * a.1 + v * a.2)) + cr c a p * ((u * p.1 + v * p.2) - (u * b.1 + v * b.2)) = 0 := by
    unfold cr
    grind
  -- one of the three is above 0
  have z1 : cr a b p * ((u * p.1 + v * p.2) - (u * c.1 + v * c.2)) = 0 := by grind
  have z2 : cr b c p * ((u * p.1 + v * p.2) - (u * a.1 + v * a.2)) = 0 := by grind
  have z3 : cr c a p * ((u * p.1 + v * p.2) - (u * b.1 + v * b.2)) = 0 := by grind
  rcases Rat.mul_eq_zero.mp z1 with z | z
  · rcases Rat.mul_eq_zero.mp z2 with y | y
    · rcases Rat.mul_eq_zero.mp z3 with x | x <;> grind
    · grind
  · grind
/-- around the least place -/
theorem ang_trans {o a b c : Place} (ha : LexLt o a) (hb : LexLt o b) (hc : LexLt o c) (h1 : 0 < cr o a b) (h2 : 0 < cr o b c) : 0 < cr o a c := by
  have id : (b.1 - o.1) * cr o a c = (a.1 - o.1) * cr o b c + (c.1 - o.1) * cr o a b := by unfold cr; grind
  have xa : 0 ≤ a.1 - o.1 := by unfold LexLt at ha; grind
  have xb : 0 ≤ b.1 - o.1 := by unfold LexLt at hb; grind
  have xc : 0 ≤ c.1 - o.1 := by unfold LexLt at hc; grind
  have pb : 0 < b.1 - o.1 := by
    apply Classical.byContradiction
    intro h
    have e : b.1 = o.1 := by grind
    have yb : 0 < b.2 - o.2 := by unfold LexLt at hb; grind
    have : 0 ≤ (b.2 - o.2) * (c.1 - o.1) := Rat.mul_nonneg (by grind) xc
    unfold cr at h2
    rw [e] at h2
    grind
  have q1 := Rat.mul_nonneg xa (Rat.le_of_lt h2)
  have q2 := Rat.mul_nonneg xc (Rat.le_of_lt h1)
  have pac : 0 < (a.1 - o.1) * cr o b c + (c.1 - o.1) * cr o a b := by
    by_cases za : 0 < a.1 - o.1
    · have := Rat.mul_pos za h2
      grind
    · have e : a.1 = o.1 := by grind
      have ya : 0 < a.2 - o.2 := by unfold LexLt at ha; grind
      have := Rat.mul_pos ya pb
      unfold cr at h1
      rw [e] at h1
      grind
  rw [← id] at pac
  exact (Rat.mul_pos_iff_of_pos_left pb).mp pac
/-- below the way from the first to the last, one behind the other -/
theorem low_turn {f b c l : Place} {u v : Rat} (h1 : LexLt f b) (h2 : LexLt b c) (h3 : LexLt c l) (hb : cr f l b < 0) (hc : cr f l c < 0) (uf : u * f.1 + v * f.2 < u * b.1 + v * b.2) (uc : u * c.1 + v * c.2 < u * b.1 + v * b.2) (ul : u * l.1 + v * l.2 < u * b.1 + v * b.2) : 0 < cr f b c := by
  apply Classical.byContradiction
  intro h
  have k1 : 0 ≤ cr f c b := by rw [cr_sw]; grind
  have k2 : 0 < cr f c l := by rw [cr_sw]; grind
  have k3 : 0 ≤ cr l f b := by
    have : cr l f b = - cr f l b := cr_sw2 _ _ _
    grind
  have k4 : 0 ≤ cr c l b := by
    have idx : (c.1 - f.1) * cr c l b = (l.1 - c.1) * cr f c b + (c.1 - b.1) * cr f c l := by unfold cr; grind
    have idy : (c.2 - f.2) * cr c l b = (l.2 - c.2) * cr f c b + (c.2 - b.2) * cr f c l := by unfold cr; grind
    by_cases x : 0 < c.1 - f.1
    · have q1 := Rat.mul_nonneg (show 0 ≤ l.1 - c.1 by unfold LexLt at h3; grind) k1
      have q2 := Rat.mul_nonneg (show 0 ≤ c.1 - b.1 by unfold LexLt at h2; grind) (Rat.le_of_lt k2)
      apply Classical.byContradiction
      intro w
      have := Rat.mul_pos x (show 0 < - cr c l b by grind)
      grind
    · have e1 : c.1 = f.1 := by unfold LexLt at h1 h2; grind
      have e2 : b.1 = f.1 := by unfold LexLt at h1 h2; grind
      have y1 : 0 < c.2 - b.2 := by unfold LexLt at h2; grind
      have y2 : 0 < c.2 - f.2 := by unfold LexLt at h1 h2; grind
      have z : cr f c b = 0 := by
        unfold cr
        rw [e1, e2]
        grind
      rw [z] at idy
      have q2 := Rat.mul_pos y1 k2
      apply Classical.byContradiction
      intro w
      have := Rat.mul_pos y2 (show 0 < - cr c l b by grind)
      grind
  exact in_tri k2 k1 k4 k3 uf uc ul
/-- turned half about -/
def ng (p : Place) : Place := (-p.1, -p.2)
theorem cr_ng (a b c : Place) : cr (ng a) (ng b) (ng c) = cr a b c := by unfold cr ng; grind
theorem lex_ng {a b : Place} (h : LexLt a b) : LexLt (ng b) (ng a) := by unfold LexLt ng at *; grind
/-- above the way, one behind the other on the way back -/
theorem high_turn {f b c l : Place} {u v : Rat} (h1 : LexLt f c) (h2 : LexLt c b) (h3 : LexLt b l) (hb : 0 < cr f l b) (hc : 0 < cr f l c) (uf : u * f.1 + v * f.2 < u * b.1 + v * b.2) (uc : u * c.1 + v * c.2 < u * b.1 + v * b.2) (ul : u * l.1 + v * l.2 < u * b.1 + v * b.2) : 0 < cr l b c := by
  have := low_turn (f := ng l) (b := ng b) (c := ng c) (l := ng f) (u := -u) (v := -v) (lex_ng h3) (lex_ng h2) (lex_ng h1) (by rw [cr_ng, cr_sw2]; grind) (by rw [cr_ng, cr_sw2]; grind) (by unfold ng; grind) (by unfold ng; grind) (by unfold ng; grind)
  rwa [cr_ng] at this
/-- all three, one behind the other, turn left -/
def Ccw : List Place → Prop
  | [] => True
  | a :: l => l.Pairwise (fun b c => 0 < cr a b c) ∧ Ccw l
theorem ccw_sub : ∀ {l l' : List Place}, l'.Sublist l → Ccw l → Ccw l'
  | _, _, .slnil, _ => trivial
  | _, _, .cons _ h, c => ccw_sub h c.2
  | _, _, .cons₂ _ h, c => ⟨c.1.sublist h, ccw_sub h c.2⟩
/-- the ring from the least place on, by its angles -/
theorem ccw_of {o : Place} : ∀ {l : List Place}, (∀ b ∈ l, Top b (o :: l)) → (∀ b ∈ l, b ≠ o) → l.Nodup → l.Pairwise (fun b c => 0 < cr o b c) → Ccw (o :: l) := by
  intro l ht hn nd hp
  refine ⟨hp, ?_⟩
  have key : ∀ m : List Place, m.Sublist l → Ccw m := by
    intro m
    induction m with
    | nil => exact fun _ => trivial
    | cons a m ih =>
      intro hs
      refine ⟨?_, ih ((List.sublist_cons_self a m).trans hs)⟩
      have hp' := hp.sublist hs
      have nd' := nd.sublist hs
      rw [List.pairwise_cons] at hp'
      rw [List.nodup_cons] at nd'
      refine List.Pairwise.imp_of_mem (fun {b c} hb hc h => ?_) hp'.2
      obtain ⟨u, v, t⟩ := ht b (hs.subset (List.mem_cons_of_mem _ hb))
      have bo := hn b (hs.subset (List.mem_cons_of_mem _ hb))
      have bc : c ≠ b := by
        rintro rfl
        have e : cr o c c = 0 := by unfold cr; grind
        grind
      exact four (hp'.1 b hb) h (hp'.1 c hc) (t o List.mem_cons_self bo.symm) (t a (List.mem_cons_of_mem _ (hs.subset List.mem_cons_self)) (by rintro rfl; exact nd'.1 hb)) (t c (List.mem_cons_of_mem _ (hs.subset (List.mem_cons_of_mem _ hc))) bc)
  exact key l (List.Sublist.refl l)
end Rc

set_option maxRecDepth 100000
set_option maxHeartbeats 4000000
/-! Places sorted; the ring by what lies below and above; gift wrapping. -/
namespace Rc
open PySem
theorem pw_unique {α : Type} {R : α → α → Prop} (irr : ∀ a, ¬ R a a) (asy : ∀ a b, R a b → R b a → False) : ∀ {l1 l2 : List α}, l1.Pairwise R → l2.Pairwise R → (∀ x, x ∈ l1 ↔ x ∈ l2) → l1 = l2
  | [], [], _, _, _ => rfl
  | [], b :: l2, _, _, h => by have := (h b).mpr List.mem_cons_self; simp at this
  | a :: l1, [], _, _, h => by have := (h a).mp List.mem_cons_self; simp at this
  | a :: l1, b :: l2, h1, h2, h => by
    rw [List.pairwise_cons] at h1 h2
    have e : a = b := by
      apply Classical.byContradiction
      intro ne
      have m1 := (h a).mp List.mem_cons_self
      have m2 := (h b).mpr List.mem_cons_self
      rcases List.mem_cons.mp m1 with z | z
      · exact ne z
      · rcases List.mem_cons.mp m2 with y | y
        · exact ne y.symm
        · exact asy _ _ (h1.1 b y) (h2.1 a z)
    subst e
    rw [pw_unique irr asy h1.2 h2.2 fun x => ?_]
    have n1 : a ∉ l1 := fun z => irr _ (h1.1 a z)
    have n2 : a ∉ l2 := fun z => irr _ (h2.1 a z)
    constructor
    · intro hx
      rcases List.mem_cons.mp ((h x).mp (List.mem_cons_of_mem _ hx)) with rfl | z
      · exact absurd hx n1
      · exact z
    · intro hx
      rcases List.mem_cons.mp ((h x).mpr (List.mem_cons_of_mem _ hx)) with rfl | z
      · exact absurd hx n2
      · exact z
theorem pw_nodup {α : Type} {R : α → α → Prop} (irr : ∀ a, ¬ R a a) {l : List α} (h : l.Pairwise R) : l.Nodup := h.imp fun {a b} r e => by subst e; exact irr _ r
abbrev Srt (ps : List Place) : Prop := ps.Pairwise LexLt
theorem srt_unique {l1 l2 : List Place} (h1 : Srt l1) (h2 : Srt l2) (h : ∀ x, x ∈ l1 ↔ x ∈ l2) : l1 = l2 := pw_unique LexLt.irr (fun _ _ => LexLt.asymm) h1 h2 h
/-- put in where it belongs -/
def insS (acc : List Place) (p : Place) : List Place := acc.take (acc.filter fun q => decide (LexLt q p)).length ++ p :: acc.drop (acc.filter fun q => decide (LexLt q p)).length
theorem srt_split (p : Place) : ∀ {acc : List Place}, Srt acc → ∃ A B, acc = A ++ B ∧ (acc.filter fun q => decide (LexLt q p)) = A ∧ (∀ b ∈ B, ¬ LexLt b p) ∧ ∀ a ∈ A, LexLt a p
  | [], _ => ⟨[], [], rfl, rfl, by simp, by simp⟩
  | x :: acc, h => by
    rw [Srt, List.pairwise_cons] at h
    by_cases c : LexLt x p
    · obtain ⟨A, B, e, f, hb, ha⟩ := srt_split p h.2
      refine ⟨x :: A, B, by simp [e], by rw [List.filter_cons_of_pos (by simpa using c), f], hb, fun a z => ?_⟩
      rcases List.mem_cons.mp z with rfl | z
      · exact c
      · exact ha a z
    · refine ⟨[], x :: acc, rfl, ?_, fun b hb => ?_, by simp⟩
      · rw [List.filter_cons_of_neg (by simpa using c), List.filter_eq_nil_iff]
        intro b hb
        simp only [decide_eq_true_eq]
        exact fun z => c ((h.1 b hb).trans z)
      · rcases List.mem_cons.mp hb with rfl | hb
        · exact c
        · exact fun z => c ((h.1 b hb).trans z)
theorem ins_split {p : Place} {acc : List Place} (h : Srt acc) : ∃ A B, acc = A ++ B ∧ insS acc p = A ++ p :: B ∧ (∀ b ∈ B, ¬ LexLt b p) ∧ ∀ a ∈ A, LexLt a p := by
  obtain ⟨A, B, e, f, hb, ha⟩ := srt_split p h
  refine ⟨A, B, e, ?_, hb, ha⟩
  unfold insS
  rw [f, e]
  simp
theorem ins_mem {p x : Place} {acc : List Place} : x ∈ insS acc p ↔ x = p ∨ x ∈ acc := by
  unfold insS
  rw [List.mem_append, List.mem_cons]
  have : x ∈ acc ↔ x ∈ acc.take (acc.filter fun q => decide (LexLt q p)).length ∨ x ∈ acc.drop (acc.filter fun q => decide (LexLt q p)).length := by
    rw [← List.mem_append, List.take_append_drop]
  rw [this]
  constructor
  · rintro (h | h | h)
    · exact .inr (.inl h)
    · exact .inl h
    · exact .inr (.inr h)
  · rintro (h | h | h)
    · exact .inr (.inl h)
    · exact .inl h
    · exact .inr (.inr h)
theorem ins_srt {p : Place} {acc : List Place} (h : Srt acc) (n : p ∉ acc) : Srt (insS acc p) := by
  obtain ⟨A, B, e, f, hb, ha⟩ := ins_split (p := p) h
  rw [f]
  rw [e] at h n
  rw [Srt, List.pairwise_append] at h ⊢
  obtain ⟨h1, h2, h3⟩ := h
  have gb : ∀ b ∈ B, LexLt p b := fun b z => by
    rcases LexLt.tri b p with w | w | w
    · exact absurd w (hb b z)
    · subst w
      exact absurd (List.mem_append_right A z) n
    · exact w
  refine ⟨h1, List.pairwise_cons.mpr ⟨gb, h2⟩, fun a ha' b hb' => ?_⟩
  rcases List.mem_cons.mp hb' with rfl | hb'
  · exact ha a ha'
  · exact h3 a ha' b hb'
theorem ins_len (acc : List Place) (p : Place) : (insS acc p).length = acc.length + 1 := by
  unfold insS
  have := List.length_filter_le (fun q => decide (LexLt q p)) acc
  simp
  omega
/-- sorted -/
def srtO (ps : List Place) : List Place := ps.foldl insS []
theorem srtO_aux : ∀ (ps acc : List Place), Srt acc → ps.Nodup → (∀ p ∈ ps, p ∉ acc) → Srt (ps.foldl insS acc) ∧ (∀ x, x ∈ ps.foldl insS acc ↔ x ∈ acc ∨ x ∈ ps) ∧ (ps.foldl insS acc).length = acc.length + ps.length
  | [], acc, h, _, _ => ⟨h, by simp, by simp⟩
  | p :: ps, acc, h, nd, n => by
    rw [List.nodup_cons] at nd
    obtain ⟨a, b, c⟩ := srtO_aux ps (insS acc p) (ins_srt h (n p List.mem_cons_self)) nd.2 fun q hq z => by
      rcases ins_mem.mp z with rfl | z
      · exact nd.1 hq
      · exact n q (List.mem_cons_of_mem _ hq) z
    refine ⟨a, fun x => ?_, ?_⟩
    · rw [List.foldl_cons, b, ins_mem, List.mem_cons]
      constructor
      · rintro ((h | h) | h)
        · exact .inr (.inl h)
        · exact .inl h
        · exact .inr (.inr h)
      · rintro (h | h | h)
        · exact .inl (.inr h)
        · exact .inl (.inl h)
        · exact .inr h
    · rw [List.foldl_cons, c, ins_len, List.length_cons]
      omega
theorem srtO_ok {ps : List Place} (nd : ps.Nodup) : Srt (srtO ps) ∧ (∀ x, x ∈ srtO ps ↔ x ∈ ps) ∧ (srtO ps).length = ps.length := by
  obtain ⟨a, b, c⟩ := srtO_aux ps [] List.Pairwise.nil nd (by simp)
  exact ⟨a, fun x => by rw [srtO, b]; simp, by rw [srtO, c]; simp⟩
/-- sorted, each once -/
def insU (acc : List Place) (p : Place) : List Place := if p ∉ acc then insS acc p else acc
def srtU (ps : List Place) : List Place := ps.foldl insU []
theorem srtU_aux : ∀ (ps acc : List Place), Srt acc → Srt (ps.foldl insU acc) ∧ (∀ x, x ∈ ps.foldl insU acc ↔ x ∈ acc ∨ x ∈ ps) ∧ (ps.foldl insU acc).length ≤ acc.length + ps.length
  | [], acc, h => ⟨h, by simp, by simp⟩
  | p :: ps, acc, h => by
    unfold insU
    rw [List.foldl_cons]
    split
    · rename_i n
      obtain ⟨a, b, c⟩ := srtU_aux ps (insS acc p) (ins_srt h n)
      refine ⟨a, fun x => ?_, ?_⟩
      · have := b x
        unfold insU at this
        rw [this, ins_mem, List.mem_cons]
        constructor
        · rintro ((h | h) | h)
          · exact .inr (.inl h)
          · exact .inl h
          · exact .inr (.inr h)
        · rintro (h | h | h)
          · exact .inl (.inr h)
          · exact .inl (.inl h)
          · exact .inr h
      · unfold insU at c
        rw [ins_len] at c
        simp only [List.length_cons]
        omega
    · rename_i n
      have n := Classical.not_not.mp n
      obtain ⟨a, b, c⟩ := srtU_aux ps acc h
      refine ⟨a, fun x => ?_, ?_⟩
      · have := b x
        unfold insU at this
        rw [this, List.mem_cons]
        constructor
        · rintro (h | h)
          · exact .inl h
          · exact .inr (.inr h)
        · rintro (h | rfl | h)
          · exact .inl h
          · exact .inl n
          · exact .inr h
      · unfold insU at c
        simp only [List.length_cons]
        omega
theorem srtU_ok (ps : List Place) : Srt (srtU ps) ∧ (∀ x, x ∈ srtU ps ↔ x ∈ ps) ∧ (srtU ps).length ≤ ps.length := by
  obtain ⟨a, b, c⟩ := srtU_aux ps [] List.Pairwise.nil
  exact ⟨a, fun x => by rw [srtU, b]; simp, by simpa [srtU] using c⟩
theorem srt_same {ps qs : List Place} (nd : ps.Nodup) (h : ∀ x, x ∈ ps ↔ x ∈ qs) : srtO ps = srtU qs := by
  obtain ⟨a, b, _⟩ := srtO_ok nd
  obtain ⟨c, d, _⟩ := srtU_ok qs
  exact srt_unique a c fun x => by rw [b, d, h]
/-! ### the ring -/
theorem not_between {f p l : Place} {u v : Rat} (h1 : LexLt f p) (h2 : LexLt p l) (z : cr f l p = 0) (uf : u * f.1 + v * f.2 < u * p.1 + v * p.2) (ul : u * l.1 + v * l.2 < u * p.1 + v * p.2) : False := by
  by_cases x : f.1 < l.1
  · have idx : (l.1 - f.1) * (u * p.1 + v * p.2) = (l.1 - p.1) * (u * f.1 + v * f.2) + (p.1 - f.1) * (u * l.1 + v * l.2) + v * cr f l p := by unfold cr; grind
    rw [z] at idx
    have q1 := Rat.mul_nonneg (show 0 ≤ l.1 - p.1 by unfold LexLt at h2; grind) (show 0 ≤ (u * p.1 + v * p.2) - (u * f.1 + v * f.2) by grind)
    have q2 := Rat.mul_nonneg (show 0 ≤ p.1 - f.1 by unfold LexLt at h1; grind) (show 0 ≤ (u * p.1 + v * p.2) - (u * l.1 + v * l.2) by grind)
    have s1 : (l.1 - p.1) * ((u * p.1 + v * p.2) - (u * f.1 + v * f.2)) + (p.1 - f.1) * ((u * p.1 + v * p.2) - (u * l.1 + v * l.2)) = 0 := by grind
    rcases Rat.mul_eq_zero.mp (show (l.1 - p.1) * ((u * p.1 + v * p.2) - (u * f.1 + v * f.2)) = 0 by grind) with w | w
    · rcases Rat.mul_eq_zero.mp (show (p.1 - f.1) * ((u * p.1 + v * p.2) - (u * l.1 + v * l.2)) = 0 by grind) with w2 | w2 <;> grind
    · grind
  · have e1 : p.1 = f.1 := by unfold LexLt at h1 h2; grind
    have e2 : l.1 = f.1 := by unfold LexLt at h1 h2; grind
    have y1 : 0 < p.2 - f.2 := by unfold LexLt at h1; grind
    have y2 : 0 < l.2 - p.2 := by unfold LexLt at h2; grind
    have p1 := Rat.mul_pos y2 (show 0 < (u * p.1 + v * p.2) - (u * f.1 + v * f.2) by grind)
    have p2 := Rat.mul_pos y1 (show 0 < (u * p.1 + v * p.2) - (u * l.1 + v * l.2) by grind)
    rw [e1] at p1
    rw [e1, e2] at p2
    grind
def lowB (f l : Place) (p : Place) : Bool := decide (0 < cr l f p)
def highB (f l : Place) (p : Place) : Bool := decide (0 < cr f l p)
def ringOf (f : Place) (m : List Place) (l : Place) : List Place := f :: (m.filter (lowB f l) ++ l :: (m.filter (highB f l)).reverse)
theorem lowB_iff {f l p : Place} : lowB f l p = true ↔ cr f l p < 0 := by
  unfold lowB
  rw [decide_eq_true_eq, cr_sw2]
  grind
theorem highB_iff {f l p : Place} : highB f l p = true ↔ 0 < cr f l p := by unfold highB; simp
section
variable {f l : Place} {m : List Place} (hs : Srt (f :: (m ++ [l]))) (he : Ext (f :: (m ++ [l])))
include hs he
theorem ring_side {p : Place} (hp : p ∈ m) : cr f l p ≠ 0 := by
  rw [Srt, List.pairwise_cons, List.pairwise_append] at hs
  obtain ⟨u, v, t⟩ := he p (by simp [hp])
  have h1 := hs.1 p (by simp [hp])
  have h2 := hs.2.2.2 p hp l (by simp)
  exact fun z => not_between h1 h2 z (t f (by simp) (by rintro rfl; exact LexLt.irr _ h1)) (t l (by simp) (by rintro rfl; exact LexLt.irr _ h2))
theorem ring_mem (x : Place) : x ∈ ringOf f m l ↔ x ∈ f :: (m ++ [l]) := by
  unfold ringOf
  simp only [List.mem_cons, List.mem_append, List.mem_reverse, List.mem_filter, lowB_iff, highB_iff, List.not_mem_nil, or_false]
  constructor
  · rintro (h | ⟨h, _⟩ | h | ⟨h, _⟩)
    · exact .inl h
    · exact .inr (.inl h)
    · exact .inr (.inr h)
    · exact .inr (.inl h)
  · rintro (h | h | h)
    · exact .inl h
    · have := ring_side hs he h
      by_cases w : cr f l x < 0
      · exact .inr (.inl ⟨h, w⟩)
      · exact .inr (.inr (.inr ⟨h, by grind⟩))
    · exact .inr (.inr (.inl h))
theorem ring_ccw : Ccw (ringOf f m l) ∧ (ringOf f m l).Nodup := by
  have hs' := hs
  rw [Srt, List.pairwise_cons, List.pairwise_append] at hs'
  obtain ⟨hf, hm, _, hl⟩ := hs'
  have fl : LexLt f l := hf l (by simp)
  have fm : ∀ p ∈ m, LexLt f p := fun p hp => hf p (by simp [hp])
  have ml : ∀ p ∈ m, LexLt p l := fun p hp => hl p hp l (by simp)
  have top : ∀ p ∈ f :: (m ++ [l]), Top p (f :: (m ++ [l])) := he
  have pw : (m.filter (lowB f l) ++ l :: (m.filter (highB f l)).reverse).Pairwise (fun b c => 0 < cr f b c) := by
    rw [List.pairwise_append, List.pairwise_cons]
    refine ⟨?_, ⟨fun c hc => ?_, ?_⟩, fun b hb c hc => ?_⟩
    · refine List.Pairwise.imp_of_mem (fun {b c} hb hc h => ?_) (hm.filter _)
      rw [List.mem_filter, lowB_iff] at hb hc
      obtain ⟨u, v, t⟩ := top b (by simp [hb.1])
      exact low_turn (fm b hb.1) h (ml c hc.1) hb.2 hc.2 (t f (by simp) (by rintro rfl; exact LexLt.irr _ (fm _ hb.1))) (t c (by simp [hc.1]) (by rintro rfl; exact LexLt.irr _ h)) (t l (by simp) (by rintro rfl; exact LexLt.irr _ (ml _ hb.1)))
    · rw [List.mem_reverse, List.mem_filter, highB_iff] at hc
      exact hc.2
    · rw [List.pairwise_reverse]
      refine List.Pairwise.imp_of_mem (fun {c b} hc hb h => ?_) (hm.filter _)
      rw [List.mem_filter, highB_iff] at hb hc
      obtain ⟨u, v, t⟩ := top b (by simp [hb.1])
      have k1 := high_turn (fm c hc.1) h (ml b hb.1) hb.2 hc.2 (t f (by simp) (by rintro rfl; exact LexLt.irr _ (fm _ hb.1))) (t c (by simp [hc.1]) (by rintro rfl; exact LexLt.irr _ h)) (t l (by simp) (by rintro rfl; exact LexLt.irr _ (ml _ hb.1)))
      obtain ⟨u, v, t⟩ := top c (by simp [hc.1])
      have k2 : 0 < cr l c f := by rw [cr_cyc]; exact hc.2
      have k3 : 0 < cr l b f := by rw [cr_cyc]; exact hb.2
      have := four k1 k2 k3 (t l (by simp) (by rintro rfl; exact LexLt.irr _ (ml _ hc.1))) (t b (by simp [hb.1]) (by rintro rfl; exact LexLt.irr _ h)) (t f (by simp) (by rintro rfl; exact LexLt.irr _ (fm _ hc.1)))
      rwa [cr_cyc] at this
    · rw [List.mem_filter, lowB_iff] at hb
      have bl : 0 < cr f b l := by rw [cr_sw]; grind
      rcases List.mem_cons.mp hc with rfl | hc
      · exact bl
      · rw [List.mem_reverse, List.mem_filter, highB_iff] at hc
        exact ang_trans (fm b hb.1) fl (fm c hc.1) bl hc.2
  have nd : (m.filter (lowB f l) ++ l :: (m.filter (highB f l)).reverse).Nodup := pw_nodup (fun a z => by unfold cr at z; grind) pw
  have ne : ∀ b ∈ m.filter (lowB f l) ++ l :: (m.filter (highB f l)).reverse, LexLt f b := fun b hb => by
    have := (ring_mem hs he b).mp (List.mem_cons_of_mem _ hb)
    rcases List.mem_cons.mp this with z | z
    · subst z
      exfalso
      simp only [List.mem_append, List.mem_cons, List.mem_reverse, List.mem_filter] at hb
      rcases hb with hb | hb | hb
      · exact LexLt.irr _ (fm _ hb.1)
      · subst hb
        exact LexLt.irr _ fl
      · exact LexLt.irr _ (fm _ hb.1)
    · exact hf b z
  refine ⟨ccw_of (fun b hb => ?_) (fun b hb z => ?_) nd pw, List.nodup_cons.mpr ⟨fun z => LexLt.irr _ (ne f z), nd⟩⟩
  · obtain ⟨u, v, t⟩ := top b ((ring_mem hs he b).mp (List.mem_cons_of_mem _ hb))
    exact ⟨u, v, fun q hq => t q ((ring_mem hs he q).mp hq)⟩
  · subst z
    exact LexLt.irr _ (ne b hb)
end
/-- rings of the same places from the same one on are one -/
theorem ccw_unique {a : Place} {l l' : List Place} (h : Ccw (a :: l)) (h' : Ccw (a :: l')) (m : ∀ x, x ∈ l ↔ x ∈ l') : l = l' :=
  pw_unique (fun b z => by unfold cr at z; grind) (fun b c z w => by rw [cr_sw] at w; grind) h.1 h'.1 m
end Rc

set_option maxRecDepth 100000
set_option maxHeartbeats 4000000
/-! The program's ring. -/
namespace Rc
open PySem
/-- a comprehension whose test may change what is owned -/
theorem lc_fs {σ α : Type} {srcs : List (Nat × List D)} {own g : List Nat} {cnd : Env → Res (Bool × Env)} {elt : Env → Res (D × Env)} (enc : σ → Env) (item : α → D) (p : α → Bool) (f : α → D) (hs : ∀ s, srcOk (enc s) srcs) : ∀ (xs : List α) (s : σ),
    (∀ x ∈ xs, ∀ s, ∃ m1 m2 s', bindT g (item x) (enc s) = some m1 ∧ cnd m1 = .ok (p x, m2) ∧ (p x = true → ∃ m3, elt m2 = .ok (f x, m3) ∧ wipeE m3 own = enc s') ∧ (p x = false → wipeE m2 own = enc s')) →
    ∃ s', lcL srcs own g cnd elt (xs.map item) (enc s) = .ok ((xs.filter p).map f, enc s')
  | [], s, _ => ⟨s, by simp only [List.map_nil]; rw [lcL, if_pos (hs s)]; rfl⟩
  | x :: xs, s, h => by
    obtain ⟨m1, m2, s1, a, b, c, d⟩ := h x List.mem_cons_self s
    obtain ⟨s2, q⟩ := lc_fs enc item p f hs xs s1 fun y hy => h y (List.mem_cons_of_mem _ hy)
    refine ⟨s2, ?_⟩
    rw [List.map_cons, lcL, if_pos (hs s), a, ofO_some, bind_ok, b, bind_ok]
    cases hp : p x with
    | true =>
      obtain ⟨m3, e, w⟩ := c hp
      rw [if_pos rfl, e, bind_ok, w, q, bind_ok, List.filter_cons_of_pos hp, List.map_cons]
    | false =>
      rw [if_neg (by simp), d hp, q, List.filter_cons_of_neg (by simp [hp])]
section
variable {p q r : Place} {n : Nat} (hp : SzP n p) (hq : SzP n q) (hr : SzP n r) (hn : n ≤ 900)
include hp hq hn
theorem less_place_eq : M_less_place [(false, placeD p), (false, placeD q)] = .ok (false, .bool (decide (LexLt p q)), [(false, placeD p), (false, placeD q)]) := by
  have e1 := less_q hp.1 hq.1 (by omega)
  have e2 := less_q hp.2 hq.2 (by omega)
  have e3 := ne_frac p.1 q.1
  by_cases h : p.1 = q.1
  · have : LexLt p q ↔ p.2 < q.2 := by unfold LexLt; grind
    simp [M_less_place, mkM, flg, runFn, B_less_place, x_ss1, e2, e3, h, this]
  · have : LexLt p q ↔ p.1 < q.1 := by unfold LexLt; grind
    simp [M_less_place, mkM, flg, runFn, B_less_place, x_ss1, e1, e3, h, this]
include hr
theorem is_left_eq : M_is_left [(false, placeD p), (false, placeD q), (false, placeD r)] = .ok (false, .bool (decide (0 < cr p q r)), [(false, placeD p), (false, placeD q), (false, placeD r)]) := by
  have e1 := minus_q hq.1 hp.1 (by omega)
  have e2 := minus_q hr.2 hp.2 (by omega)
  have e3 := minus_q hq.2 hp.2 (by omega)
  have e4 := minus_q hr.1 hp.1 (by omega)
  have e5 := product_q (hq.1.sub' hp.1) (hr.2.sub' hp.2) (by omega)
  have e6 := product_q (hq.2.sub' hp.2) (hr.1.sub' hp.1) (by omega)
  have e7 := less_q ((hq.2.sub' hp.2).mul' (hr.1.sub' hp.1)) ((hq.1.sub' hp.1).mul' (hr.2.sub' hp.2)) (by omega)
  have e8 : ((q.2 - p.2) * (r.1 - p.1) < (q.1 - p.1) * (r.2 - p.2)) ↔ 0 < cr p q r := by unfold cr; grind
  simp only [e8] at e7
  simp [M_is_left, mkM, flg, runFn, B_is_left, x_ss1, e1, e2, e3, e4, e5, e6, e7]
theorem law_cross_eq : M_law_cross [(false, placeD p), (false, placeD q), (false, placeD r)] = .ok (false, .int (cr p q r).num, [(false, placeD p), (false, placeD q), (false, placeD r)]) := by
  have e1 := lminus_q hq.1 hp.1 (by omega)
  have e2 := lminus_q hr.2 hp.2 (by omega)
  have e3 := lminus_q hq.2 hp.2 (by omega)
  have e4 := lminus_q hr.1 hp.1 (by omega)
  have e5 := ltimes_q (hq.1.sub' hp.1) (hr.2.sub' hp.2) (by omega)
  have e6 := ltimes_q (hq.2.sub' hp.2) (hr.1.sub' hp.1) (by omega)
  have e7 := lminus_q ((hq.1.sub' hp.1).mul' (hr.2.sub' hp.2)) ((hq.2.sub' hp.2).mul' (hr.1.sub' hp.1)) (by omega)
  have e8 : (q.1 - p.1) * (r.2 - p.2) - (q.2 - p.2) * (r.1 - p.1) = cr p q r := rfl
  rw [e8] at e7
  simp [M_law_cross, mkM, flg, runFn, B_law_cross, x_ss1, e1, e2, e3, e4, e5, e6, e7]
end
def SzPs (n : Nat) (ps : List Place) : Prop := ps.length ≤ 100000 ∧ ∀ p ∈ ps, SzP n p
def placesD (ps : List Place) : D := .list (ps.map placeD)
theorem len_places (ps : List Place) : bltF .len [.list (ps.map placeD)] = some (false, .int ps.length) := by
  rw [l_list, List.length_map]
/-- one place more -/
theorem io_turn (f : D) (acc : List Place) (p : Place) (n : Nat) (hp : SzP n p) (ha : SzPs n acc) (hn : n ≤ 900) :
    exSs L1_in_order [some (false, f), some (true, .list (acc.map placeD)), some (false, placeD p), none, none] = .ok (.nx [some (false, f), some (true, .list ((insS acc p).map placeD)), none, none, none]) := by
  have e := ev_lc (e := .var 4) (c := C1_in_order) (g := [4]) (own := [4]) (it := .sq (.var 1)) (m := [some (false, f), some (true, .list (acc.map placeD)), some (false, placeD p), none, none]) (srcs := [(1, acc.map placeD)]) placeD (fun q => decide (LexLt q p)) placeD acc (by simp [srcsOf]) ⟨⟨true, rfl⟩, trivial⟩ (by simp) (by simp) (by simp [backE]) (len_ok (by have := ha.1; omega)) fun q hq => ⟨_, rfl, ⟨false, by simp [C1_in_order, less_place_eq (ha.2 q hq) hp hn]⟩, by simp, fun _ => ⟨false, [some (false, f), some (true, .list (acc.map placeD)), some (false, placeD p), none, some (false, placeD q)], by simp, by simp⟩⟩
  have fl := List.length_filter_le (fun q => decide (LexLt q p)) acc
  have al := ha.1
  have m := mth_ins (i := 1) (es := .cons (.var 3) (.cons (.var 2) .nil)) (m := [some (false, f), some (true, .list (acc.map placeD)), some (false, placeD p), some (false, .int (acc.filter fun q => decide (LexLt q p)).length), none]) (m1 := [some (false, f), some (true, .list (acc.map placeD)), some (false, placeD p), some (false, .int (acc.filter fun q => decide (LexLt q p)).length), none]) (xs := acc.map placeD) (ys := acc.map placeD) (k := (acc.filter fun q => decide (LexLt q p)).length) (y := placeD p) rfl (by simp) rfl (by omega) (len_ok (by simp; omega))
  have ie : (acc.map placeD).take (acc.filter fun q => decide (LexLt q p)).length ++ placeD p :: (acc.map placeD).drop (acc.filter fun q => decide (LexLt q p)).length = (insS acc p).map placeD := by
    unfold insS
    rw [List.map_append, List.map_cons, List.map_take, List.map_drop]
  rw [ie] at m
  have lm := len_places (acc.filter fun q => decide (LexLt q p))
  generalize (acc.filter fun q => decide (LexLt q p)) = fl at *
  generalize (insS acc p).map placeD = res at *
  simp [L1_in_order, x_ss1 (.blk _ _ _), x_ss1 (.asg _ _), x_ss1 (.mth _ _ _), -x_mth, e, lm, m]
theorem SzPs.ins {n : Nat} {acc : List Place} {p : Place} (ha : SzPs n acc) (hp : SzP n p) (hl : acc.length < 100000) : SzPs n (insS acc p) := ⟨by rw [ins_len]; omega, fun q hq => by
  rcases ins_mem.mp hq with rfl | h
  · exact hp
  · exact ha.2 q h⟩
theorem in_order_eq (ps : List Place) (n : Nat) (hp : SzPs n ps) (hn : n ≤ 900) : M_in_order [(false, .list (ps.map placeD))] = .ok (true, .list ((srtO ps).map placeD), [(false, .list (ps.map placeD))]) := by
  obtain ⟨q1, q2⟩ := for_eq (it := .sq (.var 0)) (g := [2]) (b := L1_in_order) (srcs := []) (fun acc : List Place => [some (false, .list (ps.map placeD)), some (true, .list (acc.map placeD)), none, none, none]) placeD insS (fun l acc => (∀ p ∈ l, SzP n p) ∧ (∀ p ∈ acc, SzP n p) ∧ acc.length + l.length ≤ 100000) (xs := ps) (s0 := [])
    (by simp [srcsOf]) (fun _ _ _ => trivial) ⟨hp.2, by simp, by simpa using hp.1⟩ (fun p l acc ⟨h1, h2, h3⟩ => by
      simp only [List.length_cons] at h3
      refine ⟨_, rfl, io_turn _ acc p n (h1 p List.mem_cons_self) ⟨by omega, h2⟩ hn, fun q hq => h1 q (List.mem_cons_of_mem _ hq), fun q hq => ?_, by rw [ins_len]; omega⟩
      rcases ins_mem.mp hq with rfl | h
      · exact h1 _ List.mem_cons_self
      · exact h2 q h)
  simp only [List.map_nil] at q1
  simp [M_in_order, mkM, flg, runFn, B_in_order, x_ss1, q1]
  rfl
/-- the ring of sorted places -/
def rngP (s : List Place) : List Place := match s with
  | [] => []
  | [a] => [a]
  | f :: x :: t => if t = [] then [f, x] else ringOf f ((x :: t).dropLast) ((x :: t).getLast (by simp))
theorem rngP_of (f : Place) (m : List Place) (l : Place) (h : m ≠ []) : rngP (f :: (m ++ [l])) = ringOf f m l := by
  obtain ⟨x, t, rfl⟩ := List.exists_cons_of_ne_nil h
  have e1 : (x :: (t ++ [l])).dropLast = x :: t := by
    rw [← List.cons_append, List.dropLast_concat]
  have e2 : (x :: (t ++ [l])).getLast (by simp) = l := by
    have : x :: (t ++ [l]) = (x :: t) ++ [l] := rfl
    simp only [this, List.getLast_concat]
  simp only [List.cons_append, rngP]
  rw [if_neg (by simp)]
  simp only [e1, e2]
theorem big_split (s : List Place) (h : 3 ≤ s.length) : ∃ f m l, s = f :: (m ++ [l]) ∧ m ≠ [] := by
  match s, h with
  | f :: t, h =>
    obtain ⟨m, l, e⟩ := snoc_of (show t ≠ [] by rintro rfl; simp at h)
    subst e
    exact ⟨f, m, l, rfl, by rintro rfl; simp at h⟩
theorem rngP_small {s : List Place} (h : s.length < 3) : rngP s = s := by
  match s, h with
  | [], _ => rfl
  | [a], _ => rfl
  | [a, b], _ => simp [rngP]
  | a :: b :: c :: t, h => simp at h; omega
end Rc

set_option maxRecDepth 100000
set_option maxHeartbeats 4000000
/-! The program's corners; the law's ring by gift wrapping. -/
namespace Rc
open PySem
theorem cut_mid (a b : D) (m : List D) : cutD (a :: (m ++ [b])) (some 1) (some (-1)) = m := by
  have e1 : HT.sIx (a :: (m ++ [b])).length 0 (some 1) = 1 := by
    show (if (1 : Int) < 0 then ((1 : Int) + ((a :: (m ++ [b])).length : Int)).toNat else min (1 : Int).toNat (a :: (m ++ [b])).length) = _
    rw [if_neg (by decide)]
    simp
  have e2 : HT.sIx (a :: (m ++ [b])).length (a :: (m ++ [b])).length (some (-1)) = m.length + 1 := by
    show (if (-1 : Int) < 0 then ((-1 : Int) + ((a :: (m ++ [b])).length : Int)).toNat else min (-1 : Int).toNat (a :: (m ++ [b])).length) = _
    rw [if_pos (by decide)]
    simp
    omega
  unfold cutD
  rw [e1, e2]
  simp
theorem at_last2 (a b : D) (m : List D) : L2.atI (a :: (m ++ [b])) (-1) = some b := a_last (a :: m) b
theorem ring_eq (ps : List Place) (n : Nat) (hp : SzPs n ps) (nd : ps.Nodup) (hn : n ≤ 900) : M_ring [(false, .list (ps.map placeD))] = .ok (true, .list ((rngP (srtO ps)).map placeD), [(false, .list (ps.map placeD))]) := by
  have e0 := in_order_eq ps n hp hn
  obtain ⟨_, mem, len⟩ := srtO_ok nd
  have sz : ∀ p ∈ srtO ps, SzP n p := fun p h => hp.2 p ((mem p).mp h)
  have hl := hp.1
  generalize srtO ps = s at *
  by_cases h : s.length < 3
  · have h' : (s.length : Int) < 3 := by omega
    have ls := len_places s
    rw [rngP_small h]
    generalize hx : s.map placeD = xs at *
    simp [M_ring, mkM, flg, runFn, B_ring, x_ss1, e0, ls, h']
  · obtain ⟨f, m, l, rfl, hm⟩ := big_split s (by omega)
    rw [rngP_of f m l hm]
    have h' : ¬ ((f :: (m ++ [l])).length : Int) < 3 := by omega
    have ls := len_places (f :: (m ++ [l]))
    have xe : (f :: (m ++ [l])).map placeD = placeD f :: (m.map placeD ++ [placeD l]) := by simp
    rw [xe] at e0 ls
    have sf := sz f (by simp)
    have sl := sz l (by simp)
    have ml : m.length ≤ 100000 := by
      simp at len
      omega
    have lo := ev_lc (e := .var 3) (c := C2_ring) (g := [3]) (own := [3]) (it := .sq (.slc (.var 1) (.con (.int 1)) (.neg (.con (.int 1))))) (m := [some (false, .list (ps.map placeD)), some (true, .list (placeD f :: (m.map placeD ++ [placeD l]))), none, none, none]) (srcs := []) placeD (lowB f l) placeD m (by simp [srcsOf, partI, cut_mid]) trivial (by simp) (by simp) (by simp [backE]) (len_ok (by omega)) fun p hpm => ⟨_, rfl, ⟨false, by simp [C2_ring, at_last2, is_left_eq sl sf (sz p (by simp [hpm])) hn, lowB]⟩, by simp, fun _ => ⟨false, [some (false, .list (ps.map placeD)), some (true, .list (placeD f :: (m.map placeD ++ [placeD l]))), none, some (false, placeD p), none], by simp, by simp⟩⟩
    have hi := ev_lc (e := .var 3) (c := C1_ring) (g := [3]) (own := [3]) (it := .sq (.slc (.var 1) (.con (.int 1)) (.neg (.con (.int 1))))) (m := [some (false, .list (ps.map placeD)), some (true, .list (placeD f :: (m.map placeD ++ [placeD l]))), some (true, .list ((m.filter (lowB f l)).map placeD)), none, none]) (srcs := []) placeD (highB f l) placeD m (by simp [srcsOf, partI, cut_mid]) trivial (by simp) (by simp) (by simp [backE]) (len_ok (by omega)) fun p hpm => ⟨_, rfl, ⟨false, by simp [C1_ring, at_last2, is_left_eq sf sl (sz p (by simp [hpm])) hn, highB]⟩, by simp, fun _ => ⟨false, [some (false, .list (ps.map placeD)), some (true, .list (placeD f :: (m.map placeD ++ [placeD l]))), some (true, .list ((m.filter (lowB f l)).map placeD)), some (false, placeD p), none], by simp, by simp⟩⟩
    have f1 := List.length_filter_le (lowB f l) m
    have f2 := List.length_filter_le (highB f l) m
    have re : (ringOf f m l).map placeD = placeD f :: ((m.filter (lowB f l)).map placeD ++ placeD l :: ((m.filter (highB f l)).map placeD).reverse) := by
      simp [ringOf]
    have g1 : ((m.filter (lowB f l)).map placeD).length ≤ 100000 := by simp; omega
    have g2 : ((m.filter (highB f l)).map placeD).length ≤ 100000 := by simp; omega
    rw [re]
    generalize (m.filter (lowB f l)).map placeD = L at *
    generalize (m.filter (highB f l)).map placeD = Hh at *
    generalize m.map placeD = M at *
    have l1 : lenOk (L.length + 1) := len_ok (by omega)
    have l2 : lenOk (1 + L.length) := len_ok (by omega)
    have l3 : lenOk (L.length + 1 + 1) := len_ok (by omega)
    have l4 : lenOk (L.length + 1 + 1 + Hh.length) := len_ok (by omega)
    simp only [List.length_cons, List.length_append, List.length_nil] at h' ls
    have h'' : ¬ ((m.length : Int) + (0 + 1) + 1 < 3) := by simpa using h'
    have ls' : bltF .len [.list (placeD f :: (M ++ [placeD l]))] = some (false, .int ((m.length : Int) + 1 + 1)) := by simpa using ls
    have h3 : ¬ ((m.length : Int) + 1 + 1 < 3) := by omega
    simp [M_ring, mkM, flg, runFn, B_ring, x_ss1, -l_list, e0, ls', h3, lo, hi, at_last2, l1, l2, l3, l4, rvsF]
/-- the corners of what rows leave, in order -/
def cnr (rs : List Row) : List Place := rngP (srtO (fc rs))
theorem fc_szs {rs : List Row} {n : Nat} (hr : SzRs n rs) (hl : rs.length ≤ 300) : SzPs (2 * n + 1) (fc rs) := ⟨by
  have := fc_len rs
  have m : rs.length * rs.length ≤ 300 * 300 := Nat.mul_le_mul hl hl
  omega, fun c hc => fc_sz hr (mem_fc.mp hc)⟩
theorem corners_of_eq (rs : List Row) (n : Nat) (hr : SzRs n rs) (hn : n ≤ 400) (hl : rs.length ≤ 300) : M_corners_of [(false, fieldD rs)] = .ok (true, .list ((cnr rs).map placeD), [(false, fieldD rs)]) := by
  have e1 := found_corners_eq rs n hr hn (by omega)
  have e2 := ring_eq (fc rs) (2 * n + 1) (fc_szs hr hl) (fc_nodup rs) (by omega)
  have ce : rngP (srtO (fc rs)) = cnr rs := rfl
  rw [ce] at e2
  simp [M_corners_of, mkM, flg, runFn, B_corners_of, x_ss1, e1, e2]
theorem corners_eq (rs : List Row) (hf : Fld rs) : M_corners [(false, fieldD rs)] = .ok (true, .list ((cnr rs).map placeD), [(false, fieldD rs)]) := by
  have e1 := hf.need
  have e2 := corners_of_eq rs 10 hf.sz (by decide) (by have := hf.hi; omega)
  simp [M_corners, mkM, flg, runFn, B_corners, x_ss1, e1, e2]
/-! ### what the ring has -/
theorem ext_cn (rs : List Row) {ps : List Place} (h : ∀ p ∈ ps, Cn rs p) : Ext ps := fun p hp => by
  obtain ⟨u, v, t⟩ := corner_ext (h p hp)
  exact ⟨u, v, fun q hq ne => t q (h q hq).1 ne⟩
theorem rng_ok {s : List Place} (hs : Srt s) (he : Ext s) : (∀ x, x ∈ rngP s ↔ x ∈ s) ∧ (rngP s).Nodup ∧ Ccw (rngP s) ∧ ∀ a t, s = a :: t → ∃ t', rngP s = a :: t' := by
  by_cases h : s.length < 3
  · rw [rngP_small h]
    refine ⟨fun _ => Iff.rfl, pw_nodup LexLt.irr hs, ?_, fun a t e => ⟨t, e⟩⟩
    match s, h with
    | [], _ => trivial
    | [a], _ => exact ⟨List.Pairwise.nil, trivial⟩
    | [a, b], _ => exact ⟨by simp, List.Pairwise.nil, trivial⟩
    | a :: b :: c :: t, h => simp at h; omega
  · obtain ⟨f, m, l, rfl, hm⟩ := big_split s (by omega)
    rw [rngP_of f m l hm]
    obtain ⟨c, d⟩ := ring_ccw hs he
    exact ⟨ring_mem hs he, d, c, fun a t e => by
      simp only [List.cons.injEq] at e
      exact ⟨_, by rw [ringOf, e.1]⟩⟩
theorem cnr_ok (rs : List Row) : (∀ x, x ∈ cnr rs ↔ Cn rs x) ∧ (cnr rs).Nodup ∧ Ccw (cnr rs) := by
  obtain ⟨a, b, _⟩ := srtO_ok (fc_nodup rs)
  have he : Ext (srtO (fc rs)) := ext_cn rs fun p hp => mem_fc.mp ((b p).mp hp)
  obtain ⟨c, d, e, _⟩ := rng_ok a he
  exact ⟨fun x => by rw [cnr, c, b, mem_fc], d, e⟩
theorem cnr_sz {rs : List Row} {n : Nat} (hr : SzRs n rs) (hl : rs.length ≤ 300) : SzPs (2 * n + 1) (cnr rs) := by
  obtain ⟨a, b, c⟩ := srtO_ok (fc_nodup rs)
  obtain ⟨m, nd, _⟩ := cnr_ok rs
  have z := fc_szs hr hl
  refine ⟨?_, fun p hp => fc_sz hr ((m p).mp hp)⟩
  have he : Ext (srtO (fc rs)) := ext_cn rs fun p hp => mem_fc.mp ((b p).mp hp)
  have le : (cnr rs).length ≤ (srtO (fc rs)).length := by
    refine (List.Nodup.length_le_of_subset nd ?_)
    intro x hx
    exact (b x).mpr (mem_fc.mpr ((m x).mp hx))
  have := z.1
  omega
end Rc

set_option maxRecDepth 100000
set_option maxHeartbeats 4000000
/-! The laws' ring by gift wrapping, and their corners. -/
namespace Rc
open PySem
/-! ### gift wrapping -/
def allL (s : List Place) (h p : Place) : Bool := decide ((s.filter fun q => decide (cr h p q < 0)) = [])
theorem allL_iff {s : List Place} {h p : Place} : allL s h p = true ↔ ∀ q ∈ s, 0 ≤ cr h p q := by
  unfold allL
  rw [decide_eq_true_eq, List.filter_eq_nil_iff]
  simp only [decide_eq_true_eq, Rat.not_lt]
def wrapS (s found : List Place) : List Place := match found.getLast? with
  | some h => found ++ (s.filter fun p => decide (p ∉ found) && allL s h p).take 1
  | none => found
theorem filter_single {α : Type} {s : List α} {f : α → Bool} {x : α} (nd : s.Nodup) (hx : x ∈ s) (h : ∀ p ∈ s, f p = true ↔ p = x) : s.filter f = [x] := by
  induction s with
  | nil => simp at hx
  | cons a s ih =>
    rw [List.nodup_cons] at nd
    by_cases e : a = x
    · subst e
      rw [List.filter_cons_of_pos ((h a List.mem_cons_self).mpr rfl)]
      rw [List.filter_eq_nil_iff.mpr fun p hp z => ?_]
      have := (h p (List.mem_cons_of_mem _ hp)).mp z
      subst this
      exact nd.1 hp
    · rw [List.filter_cons_of_neg fun z => e ((h a List.mem_cons_self).mp z)]
      exact ih nd.2 ((List.mem_cons.mp hx).resolve_left fun z => e z.symm) fun p hp => h p (List.mem_cons_of_mem _ hp)
theorem ccw3 {L : List Place} {a b c : Place} (h : Ccw L) (s : [a, b, c].Sublist L) : 0 < cr a b c := by
  have := (ccw_sub s h).1
  rw [List.pairwise_cons] at this
  exact this.1 c List.mem_cons_self
theorem wrap_step {s L pre post : List Place} {h x : Place} (c : Ccw L) (nd : L.Nodup) (sn : s.Nodup) (m : ∀ p, p ∈ L ↔ p ∈ s) (e : L = pre ++ h :: x :: post) : wrapS s (pre ++ [h]) = pre ++ [h] ++ [x] := by
  unfold wrapS
  rw [List.getLast?_concat]
  have sub3 : ∀ q ∈ post, 0 < cr h x q := fun q hq => ccw3 c (by
    rw [e]
    exact (((List.singleton_sublist.mpr hq).cons₂ x).cons₂ h).trans (List.sublist_append_right _ _))
  have subp : ∀ q ∈ pre, 0 < cr q h x := fun q hq => ccw3 c (by
    rw [e]
    have : [q, h, x] = [q] ++ [h, x] := rfl
    rw [this]
    exact (List.singleton_sublist.mpr hq).append (((List.nil_sublist _).cons₂ x).cons₂ h))
  have f : (s.filter fun p => decide (p ∉ pre ++ [h]) && allL s h p) = [x] := by
    refine filter_single sn ((m x).mp (by rw [e]; simp)) fun p hp => ?_
    rw [Bool.and_eq_true, decide_eq_true_eq, allL_iff]
    rw [e] at nd
    rw [List.nodup_append] at nd
    obtain ⟨_, nd2, nd3⟩ := nd
    constructor
    · rintro ⟨h1, h2⟩
      have hL := (m p).mpr hp
      rw [e] at hL
      simp only [List.mem_append, List.mem_cons] at hL h1
      rcases hL with z | z | z | z
      · exact absurd (.inl z) h1
      · exact absurd (.inr (.inl z)) h1
      · exact z
      · have k1 := sub3 p z
        have k2 := h2 x ((m x).mp (by rw [e]; simp))
        rw [cr_sw] at k2
        grind
    · rintro rfl
      refine ⟨fun z => ?_, fun q hq => ?_⟩
      · simp only [List.mem_append, List.mem_cons, List.not_mem_nil, or_false] at z
        rcases z with z | z
        · exact nd3 p z p (by simp) rfl
        · subst z
          simp at nd2
      · have hL := (m q).mpr hq
        rw [e] at hL
        simp only [List.mem_append, List.mem_cons] at hL
        rcases hL with z | z | z | z
        · have := subp q z
          rw [cr_cyc]
          exact Rat.le_of_lt this
        · subst z
          unfold cr
          grind
        · subst z
          unfold cr
          grind
        · exact Rat.le_of_lt (sub3 q z)
  simp only [f]
  rfl
theorem wrap_all {s L : List Place} (c : Ccw L) (nd : L.Nodup) (sn : s.Nodup) (m : ∀ p, p ∈ L ↔ p ∈ s) : ∀ (post pre : List Place) (h : Place) (ks : List Int), L = pre ++ h :: post → ks.length = post.length → ks.foldl (fun f _ => wrapS s f) (pre ++ [h]) = L
  | [], pre, h, [], e, _ => by rw [e]; rfl
  | [], pre, h, k :: ks, e, hl => by simp at hl
  | x :: post, pre, h, [], e, hl => by simp at hl
  | x :: post, pre, h, k :: ks, e, hl => by
    rw [List.foldl_cons, wrap_step c nd sn m e]
    exact wrap_all c nd sn m post (pre ++ [h]) x ks (by rw [e]; simp) (by simpa using hl)
/-! ### the law's ring -/
theorem law_all_left_eq (s : List Place) (h p : Place) (n : Nat) (hs : SzPs n s) (hh : SzP n h) (hp : SzP n p) (hn : n ≤ 900) : M_law_all_left [(false, placeD h), (false, placeD p), (false, .list (s.map placeD))] = .ok (false, .bool (allL s h p), [(false, placeD h), (false, placeD p), (false, .list (s.map placeD))]) := by
  have e := ev_lc (e := .var 3) (c := C1_law_all_left) (g := [3]) (own := [3]) (it := .sq (.var 2)) (m := [some (false, placeD h), some (false, placeD p), some (false, .list (s.map placeD)), none]) (srcs := []) placeD (fun q => decide (cr h p q < 0)) placeD s (by simp [srcsOf]) trivial (by simp) (by simp) (by simp [backE]) (len_ok (by have := hs.1; omega)) fun q hq => ⟨_, rfl, ⟨false, by
    have s0 : ((cr h p q).num < 0) = (cr h p q < 0) := by
      rw [Rat.lt_iff]
      simp
    simp [C1_law_all_left, law_cross_eq hh hp (hs.2 q hq) hn, s0]⟩, by simp, fun _ => ⟨false, [some (false, placeD h), some (false, placeD p), some (false, .list (s.map placeD)), some (false, placeD q)], by simp, by simp⟩⟩
  have q := encL_eq (s.filter fun q => decide (cr h p q < 0)) []
  simp only [List.map_nil] at q
  have q' : cop .eq (.list ((s.filter fun q => decide (cr h p q < 0)).map placeD)) (.list []) = some (allL s h p) := q
  generalize (s.filter fun q => decide (cr h p q < 0)).map placeD = fl at *
  simp [M_law_all_left, mkM, flg, runFn, B_law_all_left, x_ss1, e, q']
/-- counted as the law does -/
theorem count_two (p : Place) : ∀ acc : List Place, (acc.filter fun q => decide (q.1 < p.1)).length + (acc.filter fun q => decide (q.1 = p.1) && decide (q.2 < p.2)).length = (acc.filter fun q => decide (LexLt q p)).length
  | [] => rfl
  | q :: acc => by
    have ih := count_two p acc
    by_cases h1 : q.1 < p.1
    · have h2 : ¬ q.1 = p.1 := by grind
      rw [List.filter_cons_of_pos (by simpa using h1), List.filter_cons_of_neg (by simp [h2]), List.filter_cons_of_pos (by simp [LexLt, h1])]
      simp only [List.length_cons]
      omega
    · by_cases h2 : q.1 = p.1 ∧ q.2 < p.2
      · rw [List.filter_cons_of_neg (by simpa using h1), List.filter_cons_of_pos (by simp [h2]), List.filter_cons_of_pos (by simp [LexLt, h2])]
        simp only [List.length_cons]
        omega
      · have h3 : ¬ LexLt q p := by unfold LexLt; grind
        rw [List.filter_cons_of_neg (by simpa using h1), List.filter_cons_of_neg (by simpa using h2), List.filter_cons_of_neg (by simpa using h3)]
        exact ih
theorem lr_turn (f : D) (acc : List Place) (p : Place) (n : Nat) (hp : SzP n p) (ha : SzPs n acc) (hl : acc.length < 50000) (hn : n ≤ 900) :
    exSs L2_law_ring_v2 [some (false, f), some (true, .list (acc.map placeD)), some (false, placeD p), none, none, none, none, none] = .ok (.nx [some (false, f), some (true, .list ((insU acc p).map placeD)), none, none, none, none, none, none]) := by
  have e1 := ev_lc (e := .var 4) (c := C3_law_ring_v2) (g := [4]) (own := [4]) (it := .sq (.var 1)) (m := [some (false, f), some (true, .list (acc.map placeD)), some (false, placeD p), none, none, none, none, none]) (srcs := [(1, acc.map placeD)]) placeD (fun q => decide (q.1 < p.1)) placeD acc (by simp [srcsOf]) ⟨⟨true, rfl⟩, trivial⟩ (by simp) (by simp) (by simp [backE]) (len_ok (by omega)) fun q hq => ⟨_, rfl, ⟨false, by simp [C3_law_ring_v2, lless_q (ha.2 q hq).1 hp.1 (by omega)]⟩, by simp, fun _ => ⟨false, [some (false, f), some (true, .list (acc.map placeD)), some (false, placeD p), none, some (false, placeD q), none, none, none], by simp, by simp⟩⟩
  generalize hA : (acc.filter fun q => decide (q.1 < p.1)) = A at *
  have e2 := ev_lc (e := .var 4) (c := C2_law_ring_v2) (g := [4]) (own := [4]) (it := .sq (.var 1)) (m := [some (false, f), some (true, .list (acc.map placeD)), some (false, placeD p), some (true, .list (A.map placeD)), none, none, none, none]) (srcs := [(1, acc.map placeD)]) placeD (fun q => decide (q.1 = p.1) && decide (q.2 < p.2)) placeD acc (by simp [srcsOf]) ⟨⟨true, rfl⟩, trivial⟩ (by simp) (by simp) (by simp [backE]) (len_ok (by omega)) fun q hq => ⟨_, rfl, ⟨false, by
    by_cases h : q.1 = p.1
    · simp [C2_law_ring_v2, h, lless_q (ha.2 q hq).2 hp.2 (by omega)]
    · simp [C2_law_ring_v2, h]⟩, by simp, fun _ => ⟨false, [some (false, f), some (true, .list (acc.map placeD)), some (false, placeD p), some (true, .list (A.map placeD)), some (false, placeD q), none, none, none], by simp, by simp⟩⟩
  have ct := count_two p acc
  rw [hA] at ct
  have fl := List.length_filter_le (fun q => decide (LexLt q p)) acc
  have fb := List.length_filter_le (fun q : Place => decide (q.1 = p.1) && decide (q.2 < p.2)) acc
  have fa : A.length ≤ acc.length := by rw [← hA]; exact List.length_filter_le _ _
  generalize hB : (acc.filter fun q => decide (q.1 = p.1) && decide (q.2 < p.2)) = B at *
  have m := mth_ins (i := 1) (es := .cons (.blt .len (.cons (.var 3) .nil)) (.cons (.var 2) .nil)) (m := [some (false, f), some (true, .list (acc.map placeD)), some (false, placeD p), some (true, .list (A.map placeD ++ B.map placeD)), none, none, none, none]) (m1 := [some (false, f), some (true, .list (acc.map placeD)), some (false, placeD p), some (true, .list (A.map placeD ++ B.map placeD)), none, none, none, none]) (xs := acc.map placeD) (ys := acc.map placeD) (k := (acc.filter fun q => decide (LexLt q p)).length) (y := placeD p) rfl (by
      rw [← ct]
      simp) rfl (by omega) (len_ok (by simp; omega))
  have ie : (acc.map placeD).take (acc.filter fun q => decide (LexLt q p)).length ++ placeD p :: (acc.map placeD).drop (acc.filter fun q => decide (LexLt q p)).length = (insS acc p).map placeD := by
    unfold insS
    rw [List.map_append, List.map_cons, List.map_take, List.map_drop]
  rw [ie] at m
  have lo : lenOk ((A.map placeD).length + (B.map placeD).length) := len_ok (by simp; omega)
  have nin := nin_place p acc
  generalize A.map placeD = A' at *
  generalize B.map placeD = B' at *
  by_cases h : p ∈ acc
  · have ie : insU acc p = acc := by unfold insU; rw [if_neg (by simpa using h)]
    rw [ie]
    simp [L2_law_ring_v2, x_ss1 (.blk _ _ _), x_ss1 (.asg _ _), x_ss1 (.sif _ _ _), e1, e2, lo, h]
  · have ie : insU acc p = insS acc p := by unfold insU; rw [if_pos h]
    rw [ie]
    generalize (insS acc p).map placeD = res at *
    simp [L2_law_ring_v2, x_ss1 (.blk _ _ _), x_ss1 (.asg _ _), x_ss1 (.sif _ _ _), x_ss1 (.mth _ _ _), -x_mth, e1, e2, lo, h, m]
theorem ring_lc (s F : List Place) (h : Place) (n : Nat) (hs : SzPs n s) (hh : SzP n h) (hn : n ≤ 900) (x6 : Option (Bool × D)) (b : Bool) : ∃ b', ev (.lc (.var 2) [2] (.sq (.var 1)) C1_law_ring_v2 [2]) [none, some (b, .list (s.map placeD)), none, none, none, some (true, .list (F.map placeD)), x6, some (false, placeD h)] = .ok ((true, .list ((s.filter fun p => decide (p ∉ F) && allL s h p).map placeD)), [none, some (b', .list (s.map placeD)), none, none, none, some (true, .list (F.map placeD)), x6, some (false, placeD h)]) := by
  have srcs : ∃ sr, evI (.sq (.var 1)) [none, some (b, .list (s.map placeD)), none, none, none, some (true, .list (F.map placeD)), x6, some (false, placeD h)] = .ok (s.map placeD, sr, [none, some (b, .list (s.map placeD)), none, none, none, some (true, .list (F.map placeD)), x6, some (false, placeD h)]) ∧ ∀ b', srcOk [none, some (b', .list (s.map placeD)), none, none, none, some (true, .list (F.map placeD)), x6, some (false, placeD h)] sr := by
    cases b with
    | true => exact ⟨[(1, s.map placeD)], by simp [srcsOf], fun b' => ⟨⟨b', rfl⟩, trivial⟩⟩
    | false => exact ⟨[], by simp [srcsOf], fun _ => trivial⟩
  obtain ⟨sr, e1, so⟩ := srcs
  obtain ⟨b', q⟩ := lc_fs (srcs := sr) (own := [2]) (g := [2]) (cnd := evC C1_law_ring_v2) (elt := evT (.var 2)) (fun b : Bool => [none, some (b, .list (s.map placeD)), none, none, none, some (true, .list (F.map placeD)), x6, some (false, placeD h)]) placeD (fun p => decide (p ∉ F) && allL s h p) placeD so s b fun p hp b => by
    have al := law_all_left_eq s h p n hs hh (hs.2 p hp) hn
    by_cases hf : p ∈ F
    · refine ⟨_, [none, some (b, .list (s.map placeD)), some (false, placeD p), none, none, some (true, .list (F.map placeD)), x6, some (false, placeD h)], b, rfl, by simp [C1_law_ring_v2, hf], fun z => by simp [hf] at z, fun _ => by simp⟩
    · refine ⟨_, [none, some (false, .list (s.map placeD)), some (false, placeD p), none, none, some (true, .list (F.map placeD)), x6, some (false, placeD h)], false, rfl, ?_, fun z => ⟨_, by simp [evT]; rfl, by simp⟩, fun _ => by simp⟩
      cases b <;> simp [C1_law_ring_v2, hf, al]
  refine ⟨b', ?_⟩
  have fl := List.length_filter_le (fun p => decide (p ∉ F) && allL s h p) s
  have lo : lenOk ((s.filter fun p => decide (p ∉ F) && allL s h p).map placeD).length := len_ok (by have := hs.1; simp at fl ⊢; omega)
  rw [x_lc (e := .var 2) (c := C1_law_ring_v2) (g := [2]) (own := [2]) e1 (by simp) (by simpa using q) lo]
  simp [backE]
theorem wrap_turn (s pre : List Place) (h : Place) (k : Int) (n : Nat) (hs : SzPs n s) (hh : SzP n h) (hn : n ≤ 900) (hl : pre.length ≤ 100000) (b : Bool) : ∃ b', exSs L1_law_ring_v2 [none, some (b, .list (s.map placeD)), none, none, none, some (true, .list ((pre ++ [h]).map placeD)), some (false, .int k), none] = .ok (.nx [none, some (b', .list (s.map placeD)), none, none, none, some (true, .list ((wrapS s (pre ++ [h])).map placeD)), none, none]) := by
  obtain ⟨b', e⟩ := ring_lc s (pre ++ [h]) h n hs hh hn (some (false, .int k)) b
  refine ⟨b', ?_⟩
  have we : (wrapS s (pre ++ [h])).map placeD = (pre ++ [h]).map placeD ++ ((s.filter fun p => decide (p ∉ pre ++ [h]) && allL s h p).map placeD).take 1 := by
    unfold wrapS
    rw [List.getLast?_concat]
    simp
  rw [we]
  have fl := List.length_filter_le (fun p => decide (p ∉ pre ++ [h]) && allL s h p) s
  have la : L2.atI ((pre ++ [h]).map placeD) (-1) = some (placeD h) := by rw [List.map_append]; exact a_last _ _
  have ct := cut_to' ((s.filter fun p => decide (p ∉ pre ++ [h]) && allL s h p).map placeD) 1 (by decide)
  have t1 : (1 : Int).toNat = 1 := rfl
  rw [t1] at ct
  have lo : lenOk (((pre ++ [h]).map placeD).length + (((s.filter fun p => decide (p ∉ pre ++ [h]) && allL s h p).map placeD).take 1).length) := len_ok (by simp; omega)
  rw [List.length_take] at lo
  generalize (s.filter fun p => decide (p ∉ pre ++ [h]) && allL s h p).map placeD = fs at *
  generalize (pre ++ [h]).map placeD = ph at *
  simp [L1_law_ring_v2, x_ss1, -x_lcE, la, e, partI, ct, lo]
theorem law_ring_eq (ps : List Place) (n : Nat) (hp : SzPs n ps) (hl : ps.length ≤ 40000) (hn : n ≤ 900) (he : Ext (srtU ps)) : M_law_ring_v2 [(false, .list (ps.map placeD))] = .ok (true, .list ((rngP (srtU ps)).map placeD), [(false, .list (ps.map placeD))]) := by
  obtain ⟨so, mem, len⟩ := srtU_ok ps
  obtain ⟨q1, q2⟩ := for_eq (it := .sq (.var 0)) (g := [2]) (b := L2_law_ring_v2) (srcs := []) (fun acc : List Place => [some (false, .list (ps.map placeD)), some (true, .list (acc.map placeD)), none, none, none, none, none, none]) placeD insU (fun l acc => (∀ p ∈ l, SzP n p) ∧ (∀ p ∈ acc, SzP n p) ∧ acc.length + l.length ≤ 40000) (xs := ps) (s0 := [])
    (by simp [srcsOf]) (fun _ _ _ => trivial) ⟨hp.2, by simp, by simpa using hl⟩ (fun p l acc ⟨h1, h2, h3⟩ => by
      simp only [List.length_cons] at h3
      refine ⟨_, rfl, lr_turn _ acc p n (h1 p List.mem_cons_self) ⟨by omega, h2⟩ (by omega) hn, fun q hq => h1 q (List.mem_cons_of_mem _ hq), fun q hq => ?_, ?_⟩
      · unfold insU at hq
        split at hq
        · rcases ins_mem.mp hq with rfl | h
          · exact h1 _ List.mem_cons_self
          · exact h2 q h
        · exact h2 q hq
      · unfold insU
        split
        · rw [ins_len]; omega
        · omega)
  have fe : ps.foldl insU [] = srtU ps := rfl
  rw [fe] at q1
  simp only [List.map_nil] at q1
  have sz : SzPs n (srtU ps) := ⟨by omega, fun p h => hp.2 p ((mem p).mp h)⟩
  generalize srtU ps = s at *
  have ls := len_places s
  by_cases h : s.length < 3
  · have h' : (s.length : Int) < 3 := by omega
    rw [rngP_small h]
    generalize hx : s.map placeD = xs at *
    simp [M_law_ring_v2, mkM, flg, runFn, B_law_ring_v2, x_ss1, -l_list, q1, ls, h']
  · obtain ⟨m, nd, cc, hd⟩ := rng_ok so he
    obtain ⟨f, t, m', rfl, hm⟩ : ∃ f t m', s = f :: t ∧ m' = t := by
      cases s with
      | nil => simp at h
      | cons f t => exact ⟨f, t, t, rfl, rfl⟩
    obtain ⟨L', eL⟩ := hd f t rfl
    have sn := pw_nodup LexLt.irr so
    have lenL : L'.length = t.length := by
      have p1 := List.Nodup.length_le_of_subset nd fun x hx => (m x).mp hx
      have p2 := List.Nodup.length_le_of_subset sn fun x hx => (m x).mpr hx
      rw [eL] at p1 p2
      simp only [List.length_cons] at p1 p2
      omega
    have h' : ¬ ((f :: t).length : Int) < 3 := by omega
    have i1 : smallI (((f :: t).length : Int) - 1) := by
      have := sz.1
      unfold smallI
      omega
    have rl : (rngI 0 (((f :: t).length : Int) - 1)).length = L'.length := by
      simp [rngI]
      omega
    have tlen : t.length = L'.length := lenL.symm
    obtain ⟨N, hN⟩ : ∃ N, N = (f :: t).length := ⟨_, rfl⟩
    rw [← hN] at ls h' i1 rl
    obtain ⟨s', w1, ⟨pre, hh, post, w2, w3, w4⟩⟩ := for_is (it := .rg (.bin .sub (.blt .len (.cons (.var 1) .nil)) (.con (.int 1)))) (g := [6]) (b := L1_law_ring_v2) (srcs := []) (fun z : Bool × List Place => [none, some (z.1, .list ((f :: t).map placeD)), none, none, none, some (true, .list (z.2.map placeD)), none, none]) PyData.int
      (fun ks z => ∃ pre h post, z.2 = pre ++ [h] ∧ rngP (f :: t) = pre ++ h :: post ∧ ks.length = post.length) (xs := rngI 0 ((N : Int) - 1)) (s0 := (true, [f]))
      (m0 := [none, some (true, .list ((f :: t).map placeD)), none, none, none, some (true, .list ([f].map placeD)), none, none]) (by
        rw [← rngD_eq]
        generalize hx : (f :: t).map placeD = xs at *
        simp [-l_list, ls, i1]) (fun _ _ _ => trivial) ⟨[], f, L', rfl, eL, rl⟩ (fun k ks z ⟨pre, h, post, z1, z2, z3⟩ => by
        cases post with
        | nil => simp at z3
        | cons x post =>
          have hm : h ∈ f :: t := (m h).mp (by rw [z2]; simp)
          have pl : pre.length ≤ 100000 := by
            have p1 := List.Nodup.length_le_of_subset nd fun x hx => (m x).mp hx
            rw [z2] at p1
            have := sz.1
            simp at p1 this
            omega
          obtain ⟨b', e⟩ := wrap_turn (f :: t) pre h k n sz (sz.2 h hm) hn pl z.1
          rw [wrap_step cc nd sn m z2] at e
          refine ⟨_, (b', pre ++ [h] ++ [x]), rfl, ?_, pre ++ [h], x, post, rfl, by rw [z2]; simp, by simpa using z3⟩
          rw [z1]
          exact e)
    have post0 : post = [] := by
      simp only [List.length_nil] at w4
      exact List.eq_nil_of_length_eq_zero w4.symm
    subst post0
    rw [w2, ← w3] at w1
    have ct := cut_to' ((f :: t).map placeD) 1 (by decide)
    have t1 : (1 : Int).toNat = 1 := rfl
    rw [t1] at ct
    have te : ((f :: t).map placeD).take 1 = [f].map placeD := rfl
    rw [te] at ct
    generalize (rngP (f :: t)).map placeD = res at *
    generalize hx : (f :: t).map placeD = xs at *
    simp only [List.map_cons, List.map_nil] at w1 ct
    simp [M_law_ring_v2, mkM, flg, runFn, B_law_ring_v2, x_ss1, -l_list, q1, ls, h', partI, ct, w1]
end Rc

set_option maxRecDepth 100000
set_option maxHeartbeats 4000000
/-! The laws' corners. -/
namespace Rc
open PySem
theorem law_crossing_eq (r s : Row) (n : Nat) (h1 : SzR n r) (h2 : SzR n s) (hn : n ≤ 4000) : M_law_crossing [(false, rowD r), (false, rowD s)] = .ok (false, if twR r s = 0 then .none else placeD (cross r s), [(false, rowD r), (false, rowD s)]) := by
  have m1 := h1.2.2.ok h2.2.1 (by omega)
  have m2 := h1.2.1.ok h2.2.2 (by omega)
  have m3 := h1.1.ok h2.2.2 (by omega)
  have m4 := h1.2.2.ok h2.1 (by omega)
  have m5 := h1.1.ok h2.2.1 (by omega)
  have m6 := h1.2.1.ok h2.1 (by omega)
  have te : r.1 * s.2.1 - r.2.1 * s.1 = twR r s := rfl
  by_cases z : twR r s = 0
  · rw [if_pos z]
    simp [M_law_crossing, mkM, flg, runFn, B_law_crossing, x_ss1, m5, m6, te, z]
  · rw [if_neg z]
    have sm : small9 (twR r s) := (twR_ib h1 h2).small (by omega)
    have e2 := low_eq (r.2.2 * s.2.1 - r.2.1 * s.2.2) (twR r s) z sm
    have e3 := low_eq (r.1 * s.2.2 - r.2.2 * s.1) (twR r s) z sm
    simp [M_law_crossing, mkM, flg, runFn, B_law_crossing, x_ss1, e2, e3, m1, m2, m3, m4, m5, m6, te, z, placeD, cross]
def lfS (rs : List Row) (acc : List Place) (p : Row × Row) : List Place := if twR p.1 p.2 ≠ 0 ∧ kpB rs (cross p.1 p.2) = true then acc ++ [cross p.1 p.2] else acc
def lfc (rs : List Row) : List Place := (prsOf rs).foldl (lfS rs) []
theorem lf_mem (rs : List Row) (c : Place) : ∀ (l : List (Row × Row)) (acc : List Place), c ∈ l.foldl (lfS rs) acc ↔ c ∈ acc ∨ ∃ q ∈ l, twR q.1 q.2 ≠ 0 ∧ Kp rs (cross q.1 q.2) ∧ cross q.1 q.2 = c
  | [], acc => by simp
  | q :: l, acc => by
    rw [List.foldl_cons, lf_mem rs c l]
    unfold lfS
    split
    · rename_i h
      rw [kpB_iff] at h
      simp only [List.mem_append, List.mem_cons, List.not_mem_nil, or_false, exists_eq_or_imp]
      constructor
      · rintro ((h1 | h1) | h1)
        · exact .inl h1
        · exact .inr (.inl ⟨h.1, h.2, h1.symm⟩)
        · exact .inr (.inr h1)
      · rintro (h1 | h1 | h1)
        · exact .inl (.inl h1)
        · exact .inl (.inr h1.2.2.symm)
        · exact .inr h1
    · rename_i h
      rw [kpB_iff] at h
      simp only [List.mem_cons, exists_eq_or_imp]
      constructor
      · rintro (h1 | h1)
        · exact .inl h1
        · exact .inr (.inr h1)
      · rintro (h1 | ⟨h1, h2, h3⟩ | h1)
        · exact .inl h1
        · exact absurd ⟨h1, h2⟩ h
        · exact .inr h1
theorem lfc_mem {rs : List Row} {c : Place} : c ∈ lfc rs ↔ Cn rs c := by
  rw [← mem_fc]
  unfold lfc fc
  rw [lf_mem, mem_fold]
theorem lfS_len (rs : List Row) (acc : List Place) (p : Row × Row) : (lfS rs acc p).length ≤ acc.length + 1 := by
  unfold lfS
  split <;> simp
theorem lf_len (rs : List Row) : ∀ (l : List (Row × Row)) (acc : List Place), (l.foldl (lfS rs) acc).length ≤ acc.length + l.length
  | [], acc => by simp
  | q :: l, acc => by
    have := lf_len rs l (lfS rs acc q)
    have := lfS_len rs acc q
    simp only [List.foldl_cons, List.length_cons]
    omega
theorem lfc_len (rs : List Row) : (lfc rs).length ≤ rs.length * rs.length := by
  have := lf_len rs (prsOf rs) []
  have := prs_len rs
  unfold lfc
  simp at *
  omega
theorem lbad_lc (rs : List Row) (p : Place) (n : Nat) (hr : SzRs n rs) (hp : SzP n p) (hn : n ≤ 900) (x1 x2 x3 : Option (Bool × D)) :
    ev (.lc (.var 5) [5] (.sq (.var 0)) C1_law_corners_v2 [5]) [some (false, fieldD rs), x1, x2, x3, some (false, placeD p), none] = .ok ((true, .list ((rs.filter fun r => !decide (val r p ≤ r.2.2)).map rowD)), [some (false, fieldD rs), x1, x2, x3, some (false, placeD p), none]) := by
  refine ev_lc (srcs := []) rowD (fun r => !decide (val r p ≤ r.2.2)) rowD rs (by simp [fieldD, srcsOf]) trivial (by simp) (by simp) (by simp [backE]) (len_ok (by have := hr.1; omega)) fun r hrs => ?_
  have e := lkeeps_q (hr.2 r hrs) hp (by omega)
  exact ⟨_, rfl, ⟨false, by simp [C1_law_corners_v2, e]⟩, by simp, fun _ => ⟨false, [some (false, fieldD rs), x1, x2, x3, some (false, placeD p), some (false, rowD r)], by simp, by simp⟩⟩
theorem bad_nil (rs : List Row) (p : Place) : (rs.filter fun r => !decide (val r p ≤ r.2.2)) = [] ↔ kpB rs p = true := by
  rw [List.filter_eq_nil_iff, kpB_iff]
  simp [Kp]
theorem lfc_inner (rs : List Row) (n : Nat) (hr : SzRs n rs) (hn : n ≤ 400) (k : Int) (r s : Row) (acc : List Place) (hk : idxF (fieldD rs) (.int k) = some (rowD r)) (hrr : r ∈ rs) (hs : s ∈ rs) (hl : acc.length < 1000000) :
    exSs L1_law_corners_v2 [some (false, fieldD rs), some (true, .list (acc.map placeD)), some (false, .int k), some (false, rowD s), none, none] = .ok (.nx [some (false, fieldD rs), some (true, .list ((lfS rs acc (r, s)).map placeD)), some (false, .int k), none, none, none]) := by
  have e1 := law_crossing_eq r s n (hr.2 r hrr) (hr.2 s hs) (by omega)
  by_cases z : twR r s = 0
  · rw [if_pos z] at e1
    simp [L1_law_corners_v2, x_ss1, hk, e1, z, lfS]
  · rw [if_neg z] at e1
    have sz := cross_sz (hr.2 r hrr) (hr.2 s hs) z
    have e3 := lbad_lc rs (cross r s) (2 * n + 1) (hr.mono (by omega)) sz (by omega) (some (true, .list (acc.map placeD))) (some (false, .int k)) (some (false, rowD s))
    have q := encL_eq (rs.filter fun q => !decide (val q (cross r s) ≤ q.2.2)) []
    have q' : cop .eq (.list ((rs.filter fun q => !decide (val q (cross r s) ≤ q.2.2)).map rowD)) (.list []) = some (decide ((rs.filter fun q => !decide (val q (cross r s) ≤ q.2.2)) = [])) := q
    have lo : lenOk (acc.length + 1) := len_ok (by omega)
    have np : cop .isnot (placeD (cross r s)) .none = some true := rfl
    have bn := bad_nil rs (cross r s)
    have lfe : lfS rs acc (r, s) = if (rs.filter fun q => !decide (val q (cross r s) ≤ q.2.2)) = [] then acc ++ [cross r s] else acc := by
      unfold lfS
      simp only [bn, z, ne_eq, not_false_eq_true, true_and]
    rw [lfe]
    generalize (rs.filter fun q => !decide (val q (cross r s) ≤ q.2.2)) = fl at *
    by_cases hk2 : fl = []
    · subst hk2
      rw [decide_eq_true rfl] at q'
      rw [if_pos rfl]
      simp only [List.map_nil] at e3 q'
      simp [L1_law_corners_v2, x_ss1, hk, e1, z, np, mthF, lo, e3, q']
    · rw [decide_eq_false hk2] at q'
      rw [if_neg hk2]
      generalize fl.map rowD = fd at *
      simp [L1_law_corners_v2, x_ss1, hk, e1, z, np, e3, q']
theorem fst_zip (rs : List Row) : ((List.range rs.length).zip rs).map (fun p => PyData.int (p.1 : Int)) = rngD 0 rs.length := by
  have : ((List.range rs.length).zip rs).map (fun p => PyData.int (p.1 : Int)) = (((List.range rs.length).zip rs).map Prod.fst).map fun (k : Nat) => PyData.int (k : Int) := by
    rw [List.map_map]
    rfl
  rw [this, List.map_fst_zip (by simp)]
  simp [rngD]
theorem idx_zip {rs : List Row} {p : Nat × Row} (h : p ∈ (List.range rs.length).zip rs) : idxF (fieldD rs) (.int p.1) = some (rowD p.2) := by
  obtain ⟨k, hk, e⟩ := List.mem_iff_getElem.mp h
  simp only [List.getElem_zip, List.getElem_range] at e
  subst e
  have hl : k < rs.length := by simpa using hk
  have e : L2.ixN (rs.map rowD).length (k : Int) = some k := by
    unfold L2.ixN
    rw [List.length_map]
    simp [hl]
  show L2.atI (rs.map rowD) (k : Int) = _
  unfold L2.atI
  rw [e]
  simp [hl]
theorem lfc_step (rs : List Row) (n : Nat) (hr : SzRs n rs) (hn : n ≤ 400) (hl : rs.length ≤ 200) (R : Nat) (k : Nat) (r : Row) (acc : List Place) (hk : idxF (fieldD rs) (.int (k : Int)) = some (rowD r)) (kl : k < rs.length) (hrr : r ∈ rs) (h : acc.length + (R + 1) * rs.length ≤ rs.length * rs.length) :
    exSs L2_law_corners_v2 [some (false, fieldD rs), some (true, .list (acc.map placeD)), some (false, .int (k : Int)), none, none, none] = .ok (.nx [some (false, fieldD rs), some (true, .list (((rs.drop (k + 1)).foldl (fun a s => lfS rs a (r, s)) acc).map placeD)), none, none, none, none]) ∧
      ((rs.drop (k + 1)).foldl (fun a s => lfS rs a (r, s)) acc).length + R * rs.length ≤ rs.length * rs.length := by
  have ct := cut_from (rs.map rowD) (k + 1) (by omega) (by simp; omega)
  rw [show ((k : Int) + 1).toNat = k + 1 by omega, ← List.map_drop] at ct
  have big : rs.length * rs.length ≤ 40000 := Nat.mul_le_mul hl hl
  obtain ⟨q1, q2⟩ := for_eq (it := .sq (.slc (.var 0) (.bin .add (.var 2) (.con (.int 1))) (.con .none))) (g := [3]) (b := L1_law_corners_v2) (srcs := []) (fun acc : List Place => [some (false, fieldD rs), some (true, .list (acc.map placeD)), some (false, .int (k : Int)), none, none, none]) rowD (fun a s => lfS rs a (r, s)) (fun (l : List Row) a => (∀ s ∈ l, s ∈ rs) ∧ a.length + l.length + R * rs.length ≤ rs.length * rs.length) (xs := rs.drop (k + 1)) (s0 := acc)
    (by simp [fieldD, srcsOf, ct, partI]) (fun _ _ _ => trivial) ⟨fun s hs => List.mem_of_mem_drop hs, by rw [Nat.succ_mul] at h; simp only [List.length_drop]; omega⟩ (fun s l a ⟨i1, i2⟩ => ⟨_, rfl, lfc_inner rs n hr hn k r s a hk hrr (i1 s List.mem_cons_self) (by simp at i2; omega), fun s hs => i1 s (List.mem_cons_of_mem _ hs), by
      have := lfS_len rs a (r, s)
      simp at i2
      omega⟩)
  generalize (rs.drop (k + 1)).foldl (fun a s => lfS rs a (r, s)) acc = acc' at *
  refine ⟨?_, by have := q2.2; simp at this; exact this⟩
  simp [L2_law_corners_v2, x_ss1, q1]
theorem law_corners_eq (rs : List Row) (n : Nat) (hr : SzRs n rs) (hn : n ≤ 400) (hl : rs.length ≤ 200) : M_law_corners_v2 [(false, fieldD rs)] = .ok (true, .list ((cnr rs).map placeD), [(false, fieldD rs)]) := by
  have lf := len_field rs
  have sl : smallI rs.length := by unfold smallI; omega
  obtain ⟨q1, q2⟩ := for_eq (it := .rg (.blt .len (.cons (.var 0) .nil))) (g := [2]) (b := L2_law_corners_v2) (srcs := []) (fun acc : List Place => [some (false, fieldD rs), some (true, .list (acc.map placeD)), none, none, none, none]) (fun p : Nat × Row => .int (p.1 : Int)) (fun a p => (rs.drop (p.1 + 1)).foldl (fun a s => lfS rs a (p.2, s)) a) (fun l a => (∀ p ∈ l, p ∈ (List.range rs.length).zip rs) ∧ a.length + l.length * rs.length ≤ rs.length * rs.length) (xs := (List.range rs.length).zip rs) (s0 := [])
    (by simp [lf, sl]; exact (fst_zip rs).symm) (fun _ _ _ => trivial) ⟨fun p hp => hp, by simp⟩ (fun p l a ⟨i1, i2⟩ => by
      have hp := i1 p List.mem_cons_self
      obtain ⟨a1, a2⟩ := mem_zipR hp
      rw [List.length_cons] at i2
      obtain ⟨b1, b2⟩ := lfc_step rs n hr hn hl l.length p.1 p.2 a (idx_zip hp) a1 a2 i2
      exact ⟨_, rfl, b1, fun s hs => i1 s (List.mem_cons_of_mem _ hs), b2⟩)
  rw [foldl_prs rs (lfS rs)] at q1
  have fe : (prsOf rs).foldl (lfS rs) [] = lfc rs := rfl
  rw [fe] at q1
  have big : rs.length * rs.length ≤ 40000 := Nat.mul_le_mul hl hl
  have ll := lfc_len rs
  have mem : ∀ x, x ∈ srtU (lfc rs) ↔ Cn rs x := fun x => by rw [(srtU_ok (lfc rs)).2.1, lfc_mem]
  have e := law_ring_eq (lfc rs) (2 * n + 1) ⟨by omega, fun c hc => fc_sz hr (lfc_mem.mp hc)⟩ (by omega) (by omega) (ext_cn rs fun p hp => (mem p).mp hp)
  have se : srtU (lfc rs) = srtO (fc rs) := (srt_same (fc_nodup rs) fun x => by rw [mem_fc, lfc_mem]).symm
  have ce : rngP (srtU (lfc rs)) = cnr rs := by rw [se]; rfl
  rw [ce] at e
  simp only [List.map_nil] at q1
  simp [M_law_corners_v2, mkM, flg, runFn, B_law_corners_v2, x_ss1, q1, e]
end Rc

set_option maxRecDepth 100000
set_option maxHeartbeats 4000000
/-! What is no field. -/
namespace Rc
open PySem
def NoF (d : D) : Prop := M_is_field [(false, d)] = .ok (false, .bool false, [(false, d)])
theorem noF_need {d : D} (h : NoF d) : M_need_field [(false, d)] = .exc (Str.ofString "NoField") := by
  unfold NoF at h
  simp [M_need_field, mkM, flg, runFn, B_need_field, x_ss1, h]
theorem noF_kind {d : D} (h : isiD d ["tuple"] = some false) : NoF d := by
  simp [NoF, M_is_field, mkM, flg, runFn, B_is_field, x_ss1, h]
theorem isT (xs : List D) : isiD (.tuple xs) ["tuple"] = some true := rfl
theorem noF_len {xs : List D} (h : ¬ (3 ≤ xs.length ∧ xs.length ≤ 8)) : NoF (.tuple xs) := by
  by_cases g1 : 3 ≤ xs.length
  · have g2 : ¬ (xs.length : Int) ≤ 8 := by omega
    have g1' : (3 : Int) ≤ xs.length := by omega
    simp [NoF, M_is_field, mkM, flg, runFn, B_is_field, x_ss1, isT, g1', g2]
  · have g1' : ¬ (3 : Int) ≤ xs.length := by omega
    simp [NoF, M_is_field, mkM, flg, runFn, B_is_field, x_ss1, isT, g1']
def RwK (d : D) (b : Bool) : Prop := M_is_row [(false, d)] = .ok (false, .bool b, [(false, d)])
theorem noF_ent {xs : List D} (p : D → Bool) (hp : ∀ x ∈ xs, RwK x (p x)) (h : ∃ x ∈ xs, p x = false) : NoF (.tuple xs) := by
  by_cases hl : 3 ≤ xs.length ∧ xs.length ≤ 8
  · have g1 : (3 : Int) ≤ xs.length := by omega
    have g2 : (xs.length : Int) ≤ 8 := by omega
    have e1 := ev_lcm (e := V2_is_field) (g := [1]) (own := [1]) (it := .sq (.var 0)) (m := [some (false, .tuple xs), none, none, none, none, none]) (srcs := []) id (fun r => PyData.bool (p r)) xs (by simp [srcsOf]) trivial (by simp) (by simp) (by simp [backE]) (len_ok (by omega)) fun r hr => ⟨_, rfl, ⟨false, by
      have := hp r hr
      unfold RwK at this
      simp [V2_is_field, this]⟩, by simp [V2_is_field]⟩
    have a1 := all_map p xs
    have a2 : xs.all p = false := by
      rw [List.all_eq_false]
      obtain ⟨x, hx, e⟩ := h
      exact ⟨x, hx, by simp [e]⟩
    rw [a2] at a1
    simp [NoF, M_is_field, mkM, flg, runFn, B_is_field, x_ss1, isT, g1, g2, e1, a1]
  · exact noF_len hl
theorem noF_rows {rs : List Row} {n : Nat} (hr : SzRs n rs) (hn : n ≤ 400) (h : ¬ Fld rs) : NoF (fieldD rs) := by
  have e := is_field_eq rs n hr hn
  have : fieldB rs = false := by
    cases b : fieldB rs with
    | false => rfl
    | true => exact absurd (fieldB_iff.mp b) h
  rw [this] at e
  exact e
theorem rwK_row (r : Row) : RwK (rowD r) (decide (nz r)) := is_row_eq r
theorem rwK_kind {d : D} (h : isiD d ["tuple"] = some false) : RwK d false := by
  simp [RwK, M_is_row, mkM, flg, runFn, B_is_row, x_ss1, h]
theorem rwK_len {xs : List D} (h : xs.length ≠ 3) : RwK (.tuple xs) false := by
  have h' : ¬ (xs.length : Int) = 3 := by omega
  simp [RwK, M_is_row, mkM, flg, runFn, B_is_row, x_ss1, isT, h']
/-- of like places -/
theorem nice_place (n : Nat) (p : Place) : Nice (n + 3) (placeD p) := .tup (fun x hx => by
  simp only [List.mem_cons, List.not_mem_nil, or_false] at hx
  rcases hx with rfl | rfl <;> exact nice_frac n _) (len_ok (by simp))
theorem nice_places (n : Nat) (ps : List Place) (h : ps.length ≤ 100000) : Nice (n + 4) (.list (ps.map placeD)) := .lst (fun x hx => by
  obtain ⟨p, _, rfl⟩ := List.mem_map.mp hx
  exact nice_place n p) (len_ok (by simp; omega))
end Rc

set_option maxRecDepth 100000
set_option maxHeartbeats 4000000
/-! Tight rows, broken corners, greatest values. -/
namespace Rc
open PySem
section
variable {r : Row} {p : Place} {m n : Nat} (hr : SzR m r) (hp : SzP n p) (h : 3 * m + 3 * n ≤ 8000)
include hr hp h
theorem is_tight_eq : M_is_tight [(false, rowD r), (false, placeD p)] = .ok (false, .bool (decide (val r p = r.2.2)), [(false, rowD r), (false, placeD p)]) := by
  have e1 := value_q (r' := [.int r.2.2]) hr.1 hr.2.1 hp (by omega)
  rw [val_dir] at e1
  have e2 := eq_frac (val r p) (r.2.2 : Rat)
  rw [frac_int] at e2
  have re : ab r.1 r.2.1 [.int r.2.2] = rowD r := rfl
  rw [re] at e1
  simp [M_is_tight, mkM, flg, runFn, B_is_tight, x_ss1, e1, e2]
theorem law_is_tight_eq : M_law_is_tight [(false, rowD r), (false, placeD p)] = .ok (false, .bool (decide (val r p = r.2.2)), [(false, rowD r), (false, placeD p)]) := by
  have e1 := lvalue_q (r' := [.int r.2.2]) hr.1 hr.2.1 hp (by omega)
  rw [val_dir] at e1
  have e2 := eq_frac (val r p) (r.2.2 : Rat)
  rw [frac_int] at e2
  have re : ab r.1 r.2.1 [.int r.2.2] = rowD r := rfl
  rw [re] at e1
  simp [M_law_is_tight, mkM, flg, runFn, B_law_is_tight, x_ss1, e1, e2]
theorem keeps_q : M_keeps [(false, rowD r), (false, placeD p)] = .ok (false, .bool (decide (val r p ≤ r.2.2)), [(false, rowD r), (false, placeD p)]) := by
  have e1 := value_q (r' := [.int r.2.2]) hr.1 hr.2.1 hp (by omega)
  rw [val_dir] at e1
  have s := val_sz' hr.1 hr.2.1 hp
  have e2 := less_q (Sz.int (hr.2.2.mono (show m ≤ m + 1 by omega)) (by omega)) s (by omega)
  rw [frac_int] at e2
  have re : ab r.1 r.2.1 [.int r.2.2] = rowD r := rfl
  rw [re] at e1
  have e3 : (!decide ((r.2.2 : Rat) < val r p)) = decide (val r p ≤ r.2.2) := by
    rw [Bool.eq_iff_iff]
    simp [Rat.not_lt]
  rw [← e3]
  simp [M_keeps, mkM, flg, runFn, B_keeps, x_ss1, e1, e2]
end
def wholeB (p : Place) : Bool := decide (p.1.den = 1) && decide (p.2.den = 1)
theorem is_whole_place_eq (p : Place) : M_is_whole_place [(false, placeD p)] = .ok (false, .bool (wholeB p), [(false, placeD p)]) := by
  by_cases h : p.1.den = 1
  · by_cases h2 : p.2.den = 1
    · simp [M_is_whole_place, mkM, flg, runFn, B_is_whole_place, x_ss1, h, h2, wholeB]
    · have : ¬ (p.2.den : Int) = 1 := by omega
      simp [M_is_whole_place, mkM, flg, runFn, B_is_whole_place, x_ss1, h, h2, wholeB, this]
  · have : ¬ (p.1.den : Int) = 1 := by omega
    simp [M_is_whole_place, mkM, flg, runFn, B_is_whole_place, x_ss1, h, wholeB, this]
/-- the numbers of the rows tight at a place -/
def tightN (rs : List Row) (p : Place) : List Int := (((List.range rs.length).zip rs).filter fun q => decide (val q.2 p = q.2.2.2)).map fun q => (q.1 : Int)
theorem tight_eq {rs : List Row} (hf : Fld rs) {p : Place} {n : Nat} (hp : SzP n p) (hn : n ≤ 2000) : M_tight [(false, fieldD rs), (false, placeD p)] = .ok (false, .tuple ((tightN rs p).map PyData.int), [(false, fieldD rs), (false, placeD p)]) := by
  have e1 := hf.need
  have hi := hf.hi
  have e := ev_lc (e := .var 2) (c := C1_tight) (g := [2, 3]) (own := [2, 3]) (it := .en (.var 0)) (m := [some (false, fieldD rs), some (false, placeD p), none, none]) (srcs := []) (fun q : Nat × Row => .tuple [.int q.1, rowD q.2]) (fun q => decide (val q.2 p = q.2.2.2)) (fun q => .int q.1) ((List.range rs.length).zip rs) (by simp [fieldD, srcsOf]; exact enum_zip rs) trivial (by simp) (by simp) (by simp [backE]) (len_ok (by simp; omega)) fun q hq => ⟨_, rfl, ⟨false, by
    have hz := hf.sz.2 q.2 (mem_zipR hq).2
    simp [C1_tight, is_tight_eq hz hp (by omega)]⟩, by simp, fun _ => ⟨false, [some (false, fieldD rs), some (false, placeD p), some (false, .int q.1), some (false, rowD q.2)], by simp, by simp⟩⟩
  have te : (tightN rs p).map PyData.int = (((List.range rs.length).zip rs).filter fun q => decide (val q.2 p = q.2.2.2)).map fun q => PyData.int (q.1 : Int) := by
    unfold tightN
    rw [List.map_map]
    rfl
  rw [te]
  generalize (((List.range rs.length).zip rs).filter fun q => decide (val q.2 p = q.2.2.2)).map (fun q => PyData.int (q.1 : Int)) = xs at *
  simp [M_tight, mkM, flg, runFn, B_tight, x_ss1, e1, e]
theorem broken_eq {rs : List Row} (hf : Fld rs) : M_broken [(false, fieldD rs)] = .ok (true, .list (((cnr rs).filter fun p => !wholeB p).map placeD), [(false, fieldD rs)]) := by
  have e1 := corners_eq rs hf
  have l := (cnr_sz hf.sz (by have := hf.hi; omega)).1
  have e := ev_lc (e := .var 1) (c := C1_broken) (g := [1]) (own := [1]) (it := .sq (.call M_corners [false] (.cons (.var 0) .nil))) (m := [some (false, fieldD rs), none]) (srcs := []) placeD (fun p => !wholeB p) placeD (cnr rs) (by simp [e1, srcsOf]) trivial (by simp) (by simp) (by simp [backE]) (len_ok (by omega)) fun p _ => ⟨_, rfl, ⟨false, by simp [C1_broken, is_whole_place_eq]⟩, by simp, fun _ => ⟨false, [some (false, fieldD rs), some (false, placeD p)], by simp, by simp⟩⟩
  simp [M_broken, mkM, flg, runFn, B_broken, x_ss1, e]
/-! ### greatest values -/
/-- a x + b y -/
def lin (a b : Int) (p : Place) : Rat := val (a, b, 0) p
theorem lin_row (r : Row) (p : Place) : lin r.1 r.2.1 p = val r p := rfl
/-- the greatest value, and the first place that has it -/
def gS (a b : Int) (acc : Option (Rat × Place)) (p : Place) : Option (Rat × Place) := match acc with
  | none => some (lin a b p, p)
  | some q => if q.1 < lin a b p then some (lin a b p, p) else some q
def gAt (a b : Int) (ps : List Place) : Option (Rat × Place) := ps.foldl (gS a b) none
def gD : Option (Rat × Place) → D
  | none => .none
  | some q => .tuple [fracD q.1, placeD q.2]
def gVal : Option (Rat × Place) → D
  | none => .none
  | some q => fracD q.1
theorem gS_sz {a b : Int} {m n : Nat} (ha : Ib m a) (hb : Ib m b) {acc : Option (Rat × Place)} {p : Place} (hp : SzP n p) (h : ∀ q, acc = some q → Sz (2 * n + 2 * m + 1) q.1) : ∀ q, gS a b acc p = some q → Sz (2 * n + 2 * m + 1) q.1 := fun q e => by
  have s := val_sz' (r := (a, b, 0)) ha hb hp
  unfold gS at e
  cases acc with
  | none =>
    cases e
    exact s
  | some w =>
    simp only at e
    split at e
    · cases e
      exact s
    · cases e
      exact h _ rfl
theorem ga_turn (a b : Int) (acc : Option (Rat × Place)) (p : Place) (m n : Nat) (ha : Ib m a) (hb : Ib m b) (hp : SzP n p) (h : ∀ q, acc = some q → Sz (2 * n + 2 * m + 1) q.1) (hn : 4 * n + 4 * m + 2 ≤ 8000) (f : D) :
    exSs L1_greatest_at [some (false, f), some (false, .int a), some (false, .int b), some (false, gD acc), some (false, placeD p), none] = .ok (.nx [some (false, f), some (false, .int a), some (false, .int b), some (false, gD (gS a b acc p)), none, none]) := by
  have e1 := value_q (r' := []) ha hb hp (by omega)
  have s := val_sz' (r := (a, b, 0)) ha hb hp
  cases acc with
  | none => simp [L1_greatest_at, x_ss1, e1, gD, gS, lin]
  | some q =>
    have e2 := less_q (h q rfl) s (by omega)
    have le : lin a b p = val (a, b, 0) p := rfl
    by_cases c : q.1 < val (a, b, 0) p
    · simp [L1_greatest_at, x_ss1, e1, gD, gS, le, e2, c]
    · simp [L1_greatest_at, x_ss1, e1, gD, gS, le, e2, c]
theorem greatest_at_eq (a b : Int) (ps : List Place) (m n : Nat) (ha : Ib m a) (hb : Ib m b) (hp : SzPs n ps) (hn : 4 * n + 4 * m + 2 ≤ 8000) :
    M_greatest_at [(false, .list (ps.map placeD)), (false, .int a), (false, .int b)] = .ok (false, gD (gAt a b ps), [(false, .list (ps.map placeD)), (false, .int a), (false, .int b)]) := by
  obtain ⟨q1, q2⟩ := for_eq (it := .sq (.var 0)) (g := [4]) (b := L1_greatest_at) (srcs := []) (fun acc => [some (false, .list (ps.map placeD)), some (false, .int a), some (false, .int b), some (false, gD acc), none, none]) placeD (gS a b) (fun l acc => (∀ p ∈ l, SzP n p) ∧ ∀ q, acc = some q → Sz (2 * n + 2 * m + 1) q.1) (xs := ps) (s0 := none)
    (by simp [srcsOf]) (fun _ _ _ => trivial) ⟨hp.2, fun _ h => by cases h⟩ (fun p l acc ⟨h1, h2⟩ => ⟨_, rfl, ga_turn a b acc p m n ha hb (h1 p List.mem_cons_self) h2 hn _, fun q hq => h1 q (List.mem_cons_of_mem _ hq), gS_sz ha hb (h1 p List.mem_cons_self) h2⟩)
  simp only [gD] at q1
  have ge : ps.foldl (gS a b) none = gAt a b ps := rfl
  rw [ge] at q1
  cases hg : gAt a b ps with
  | none => rw [hg] at q1; simp [M_greatest_at, mkM, flg, runFn, B_greatest_at, x_ss1, q1, gD]
  | some q => rw [hg] at q1; simp [M_greatest_at, mkM, flg, runFn, B_greatest_at, x_ss1, q1, gD]
theorem gAt_some {a b : Int} : ∀ (ps : List Place) (acc : Option (Rat × Place)), (acc ≠ none ∨ ps ≠ []) → ∃ q, ps.foldl (gS a b) acc = some q
  | [], none, h => by simp at h
  | [], some q, _ => ⟨q, rfl⟩
  | p :: ps, acc, _ => by
    rw [List.foldl_cons]
    exact gAt_some ps _ (.inl (by unfold gS; split <;> (try split) <;> simp))
theorem gAt_none {a b : Int} {ps : List Place} : gAt a b ps = none ↔ ps = [] := by
  constructor
  · intro h
    apply Classical.byContradiction
    intro n
    obtain ⟨q, e⟩ := gAt_some (a := a) (b := b) ps none (.inr n)
    unfold gAt at h
    rw [e] at h
    cases h
  · rintro rfl
    rfl
theorem gAt_aux {a b : Int} : ∀ (ps : List Place) (acc : Option (Rat × Place)) (q : Rat × Place), (∀ w, acc = some w → w.1 = lin a b w.2) → ps.foldl (gS a b) acc = some q → q.1 = lin a b q.2 ∧ (q.2 ∈ ps ∨ acc = some q) ∧ (∀ p ∈ ps, lin a b p ≤ q.1) ∧ ∀ w, acc = some w → w.1 ≤ q.1
  | [], acc, q, h, e => by
    rw [List.foldl_nil] at e
    exact ⟨h q e, .inr e, by simp, fun w hw => by rw [e] at hw; cases hw; exact Rat.le_refl⟩
  | p :: ps, acc, q, h, e => by
    rw [List.foldl_cons] at e
    have h' : ∀ w, gS a b acc p = some w → w.1 = lin a b w.2 := fun w hw => by
      unfold gS at hw
      cases acc with
      | none => cases hw; rfl
      | some z =>
        simp only at hw
        split at hw
        · cases hw; rfl
        · cases hw; exact h _ rfl
    obtain ⟨i1, i2, i3, i4⟩ := gAt_aux ps _ q h' e
    have up : lin a b p ≤ q.1 ∧ ∀ w, acc = some w → w.1 ≤ q.1 := by
      unfold gS at i4
      cases acc with
      | none => exact ⟨i4 _ rfl, fun w hw => by cases hw⟩
      | some z =>
        simp only at i4
        split at i4
        · rename_i c
          have := i4 _ rfl
          exact ⟨this, fun w hw => by cases hw; grind⟩
        · rename_i c
          have := i4 _ rfl
          exact ⟨by grind, fun w hw => by cases hw; exact this⟩
    refine ⟨i1, ?_, fun x hx => ?_, up.2⟩
    · rcases i2 with i2 | i2
      · exact .inl (List.mem_cons_of_mem _ i2)
      · unfold gS at i2
        cases acc with
        | none => cases i2; exact .inl List.mem_cons_self
        | some z =>
          simp only at i2
          split at i2
          · cases i2; exact .inl List.mem_cons_self
          · exact .inr i2
    · rcases List.mem_cons.mp hx with rfl | hx
      · exact up.1
      · exact i3 x hx
theorem gAt_ok {a b : Int} {ps : List Place} {q : Rat × Place} (h : gAt a b ps = some q) : q.1 = lin a b q.2 ∧ q.2 ∈ ps ∧ ∀ p ∈ ps, lin a b p ≤ q.1 := by
  obtain ⟨h1, h2, h3, _⟩ := gAt_aux ps none q (fun _ w => by cases w) h
  exact ⟨h1, h2.resolve_right (by simp), h3⟩
theorem eq_nil_places (ps : List Place) : cop .eq (.list (ps.map placeD)) (.list []) = some (decide (ps = [])) := encL_eq ps []
theorem greatest_eq {rs : List Row} (hf : Fld rs) (a b : Int) (m : Nat) (ha : Ib m a) (hb : Ib m b) (hm : m ≤ 1500) : M_greatest [(false, fieldD rs), (false, .int a), (false, .int b)] = .ok (false, gVal (gAt a b (cnr rs)), [(false, fieldD rs), (false, .int a), (false, .int b)]) := by
  have e1 := corners_eq rs hf
  have e2 := greatest_at_eq a b (cnr rs) m 21 ha hb (cnr_sz hf.sz (by have := hf.hi; omega)) (by omega)
  have e3 := eq_nil_places (cnr rs)
  by_cases h : cnr rs = []
  · rw [h] at e1 e3 ⊢
    simp only [List.map_nil] at e1 e3
    simp [M_greatest, mkM, flg, runFn, B_greatest, x_ss1, e1, e3, gAt, gVal]
  · rw [decide_eq_false h] at e3
    obtain ⟨q, hq⟩ := gAt_some (a := a) (b := b) (cnr rs) none (.inr h)
    have hq : gAt a b (cnr rs) = some q := hq
    rw [hq] at e2 ⊢
    generalize (cnr rs).map placeD = xs at *
    simp [M_greatest, mkM, flg, runFn, B_greatest, x_ss1, e1, e3, e2, gD, gVal]
/-- all that is left keeps a row -/
def holdsB (r : Row) : Option (Rat × Place) → Bool
  | none => true
  | some q => decide (q.1 ≤ r.2.2)
theorem holds_eq {rs : List Row} (hf : Fld rs) (r : Row) (m : Nat) (hr : SzR m r) (hm : m ≤ 1000) : M_holds [(false, fieldD rs), (false, rowD r)] = .ok (false, .bool (holdsB r (gAt r.1 r.2.1 (cnr rs))), [(false, fieldD rs), (false, rowD r)]) := by
  have e1 := hf.need
  have e2 := greatest_eq hf r.1 r.2.1 m hr.1 hr.2.1 (by omega)
  cases hg : gAt r.1 r.2.1 (cnr rs) with
  | none =>
    rw [hg] at e2
    simp [M_holds, mkM, flg, runFn, B_holds, x_ss1, e1, e2, gVal, holdsB]
  | some q =>
    rw [hg] at e2
    have s : Sz (2 * 21 + 2 * m + 1) q.1 := by
      obtain ⟨g1, g2, _⟩ := gAt_ok hg
      rw [g1]
      exact val_sz' (r := (r.1, r.2.1, 0)) hr.1 hr.2.1 ((cnr_sz hf.sz (by have := hf.hi; omega)).2 _ g2)
    have e3 := less_q (Sz.int (hr.2.2.mono (show m ≤ m + 1 by omega)) (by omega)) s (by omega)
    rw [frac_int] at e3
    have e4 : (!decide ((r.2.2 : Rat) < q.1)) = decide (q.1 ≤ r.2.2) := by
      rw [Bool.eq_iff_iff]
      simp [Rat.not_lt]
    have n : cop .is (fracD q.1) .none = some false := rfl
    simp only [holdsB]
    rw [← e4]
    simp [M_holds, mkM, flg, runFn, B_holds, x_ss1, e1, e2, gVal, n, e3]
end Rc

set_option maxRecDepth 100000
set_option maxHeartbeats 4000000
/-! What lies within its corners. -/
namespace Rc
open PySem
/-- each with the next -/
def Edges (P : Place → Place → Prop) : Place → List Place → Prop
  | _, [] => True
  | a, b :: l => P a b ∧ Edges P b l
/-- left of, or on, each way from one to the next, and from the last to the first -/
def LeftOf (ps : List Place) (p : Place) : Prop := match ps with
  | [] => False
  | o :: t => Edges (fun a b => 0 ≤ cr a b p) o t ∧ 0 ≤ cr (t.getLastD o) o p
theorem edges_ccw {o : Place} : ∀ {t : List Place} {h : Place} {pre : List Place}, Ccw (pre ++ h :: t) → ∀ q ∈ pre ++ h :: t, Edges (fun a b => 0 ≤ cr a b q) h t
  | [], h, pre, _, _, _ => trivial
  | x :: t, h, pre, c, q, hq => by
    refine ⟨?_, ?_⟩
    · rw [List.mem_append, List.mem_cons, List.mem_cons] at hq
      rcases hq with z | z | z | z
      · rw [cr_cyc q h x]
        refine Rat.le_of_lt (ccw3 c ?_)
        have : [q, h, x] = [q] ++ [h, x] := rfl
        rw [this]
        exact (List.singleton_sublist.mpr z).append (((List.nil_sublist _).cons₂ x).cons₂ h)
      · subst z
        unfold cr
        grind
      · subst z
        unfold cr
        grind
      · exact Rat.le_of_lt (ccw3 c ((((List.singleton_sublist.mpr z).cons₂ x).cons₂ h).trans (List.sublist_append_right _ _)))
    · have e : pre ++ h :: x :: t = (pre ++ [h]) ++ x :: t := by simp
      rw [e] at c hq
      exact edges_ccw (o := o) c q hq
theorem edges_imp {P Q : Place → Place → Prop} (h : ∀ a b, P a b → Q a b) : ∀ {a : Place} {l : List Place}, Edges P a l → Edges Q a l
  | _, [], _ => trivial
  | _, _ :: _, ⟨x, y⟩ => ⟨h _ _ x, edges_imp h y⟩
/-- an edge is told by all its pairs -/
theorem edges_all {P : Place → Place → Prop} : ∀ {a : Place} {l : List Place}, Edges P a l ↔ ∀ q ∈ (a :: l).zip l, P q.1 q.2
  | _, [] => by simp [Edges]
  | a, b :: l => by
    rw [Edges, edges_all (a := b) (l := l), List.zip_cons_cons]
    simp
theorem cr_lin (a b p : Place) : cr a b p = (-(b.2 - a.2)) * p.1 + (b.1 - a.1) * p.2 - ((-(b.2 - a.2)) * a.1 + (b.1 - a.1) * a.2) := by
  unfold cr
  grind
/-- what keeps the rows is left of a way of which all corners are left -/
theorem left_of_all {rs : List Row} (R : Round rs) (ne : rs ≠ []) {p a b : Place} (k : Kp rs p) (h : ∀ c, Cn rs c → 0 ≤ cr a b c) : 0 ≤ cr a b p := by
  obtain ⟨c, hc, le⟩ := corner_max R ne k (b.2 - a.2) (-(b.1 - a.1))
  have := h c hc
  rw [cr_lin] at this ⊢
  grind
/-- a mean of three keeps what the three keep -/
theorem keep_tri {rs : List Row} {a b c p : Place} (ha : Kp rs a) (hb : Kp rs b) (hc : Kp rs c) (d : 0 < cr a b c) (h1 : 0 ≤ cr a b p) (h2 : 0 ≤ cr b c p) (h3 : 0 ≤ cr c a p) : Kp rs p := by
  intro r hr
  have va := ha r hr
  have vb := hb r hr
  have vc := hc r hr
  have q1 := Rat.mul_nonneg h1 (show 0 ≤ (r.2.2 : Rat) - val r c by grind)
  have q2 := Rat.mul_nonneg h2 (show 0 ≤ (r.2.2 : Rat) - val r a by grind)
  have q3 := Rat.mul_nonneg h3 (show 0 ≤ (r.2.2 : Rat) - val r b by grind)
  have id : cr a b c * ((r.2.2 : Rat) - val r p) = cr a b p * ((r.2.2 : Rat) - val r c) + cr b c p * ((r.2.2 : Rat) - val r a) + cr c a p * ((r.2.2 : Rat) - val r b) := by
    unfold cr val
    grind
  apply Classical.byContradiction
  intro w
  have := Rat.mul_pos d (show 0 < val r p - (r.2.2 : Rat) by grind)
  grind
/-- a mean of two -/
theorem keep_two {rs : List Row} {a b p : Place} (ha : Kp rs a) (hb : Kp rs b) {t : Rat} (t0 : 0 ≤ t) (t1 : t ≤ 1) (e1 : p.1 = a.1 * (1 - t) + b.1 * t) (e2 : p.2 = a.2 * (1 - t) + b.2 * t) : Kp rs p := by
  intro r hr
  have va := ha r hr
  have vb := hb r hr
  have q1 := Rat.mul_nonneg (show 0 ≤ 1 - t by grind) (show 0 ≤ (r.2.2 : Rat) - val r a by grind)
  have q2 := Rat.mul_nonneg t0 (show 0 ≤ (r.2.2 : Rat) - val r b by grind)
  unfold val at *
  rw [e1, e2]
  grind
/-- the fan -/
theorem fan {rs : List Row} {o p : Place} (ho : Kp rs o) : ∀ {t : List Place} {h : Place}, (∀ c ∈ h :: t, Kp rs c) → (h :: t).Pairwise (fun b c => 0 < cr o b c) → t ≠ [] → 0 ≤ cr o h p → Edges (fun a b => 0 ≤ cr a b p) h t → 0 ≤ cr (t.getLastD h) o p → Kp rs p
  | [], _, _, _, ne, _, _, _ => absurd rfl ne
  | x :: t, h, hk, pw, _, h0, he, hl => by
    by_cases c : 0 ≤ cr o x p
    · cases t with
      | nil =>
        -- p lies on the way from o to x
        have z : cr x o p = - cr o x p := cr_sw2 _ _ _
        simp only [List.getLastD_cons, List.getLastD_nil] at hl
        rw [List.pairwise_cons] at pw
        have d : 0 < cr o h x := pw.1 x List.mem_cons_self
        exact keep_tri ho (hk h List.mem_cons_self) (hk x (by simp)) d h0 he.1 hl
      | cons y t =>
        rw [List.pairwise_cons] at pw
        refine fan ho (fun c hc => hk c (List.mem_cons_of_mem _ hc)) pw.2 (by simp) c he.2 ?_
        simpa [List.getLastD] using hl
    · rw [List.pairwise_cons] at pw
      have d : 0 < cr o h x := pw.1 x List.mem_cons_self
      have z : cr x o p = - cr o x p := cr_sw2 _ _ _
      exact keep_tri ho (hk h List.mem_cons_self) (hk x (by simp)) d h0 he.1 (by grind)
section
variable {rs : List Row} (hf : Fld rs)
include hf
theorem kp_none (h : cnr rs = []) (p : Place) : ¬ Kp rs p := fun k => by
  obtain ⟨c, hc, _⟩ := corner_max hf.rnd hf.ne k 0 0
  have := ((cnr_ok rs).1 c).mpr hc
  rw [h] at this
  simp at this
theorem kp_one {c : Place} (h : cnr rs = [c]) (p : Place) : Kp rs p ↔ p = c := by
  have only : ∀ x, Cn rs x → x = c := fun x hx => by
    have := ((cnr_ok rs).1 x).mpr hx
    rw [h] at this
    simpa using this
  constructor
  · intro k
    have f : ∀ u v : Rat, u * p.1 + v * p.2 ≤ u * c.1 + v * c.2 := fun u v => by
      obtain ⟨x, hx, le⟩ := corner_max hf.rnd hf.ne k u v
      rw [only x hx] at le
      exact le
    have a := f 1 0
    have b := f (-1) 0
    have d := f 0 1
    have e := f 0 (-1)
    exact Prod.ext (by grind) (by grind)
  · rintro rfl
    exact (((cnr_ok rs).1 p).mp (by rw [h]; simp)).1
def InBox (a b p : Place) : Prop := (min a.1 b.1 ≤ p.1 ∧ p.1 ≤ max a.1 b.1) ∧ (min a.2 b.2 ≤ p.2 ∧ p.2 ≤ max a.2 b.2)
theorem kp_two {a b : Place} (h : cnr rs = [a, b]) (p : Place) : Kp rs p ↔ 0 ≤ cr b a p ∧ 0 ≤ cr a b p ∧ InBox a b p := by
  have only : ∀ x, Cn rs x → x = a ∨ x = b := fun x hx => by
    have := ((cnr_ok rs).1 x).mpr hx
    rw [h] at this
    simpa using this
  have ka := (((cnr_ok rs).1 a).mp (by rw [h]; simp)).1
  have kb := (((cnr_ok rs).1 b).mp (by rw [h]; simp)).1
  constructor
  · intro k
    have f : ∀ u v : Rat, u * p.1 + v * p.2 ≤ u * a.1 + v * a.2 ∨ u * p.1 + v * p.2 ≤ u * b.1 + v * b.2 := fun u v => by
      obtain ⟨x, hx, le⟩ := corner_max hf.rnd hf.ne k u v
      rcases only x hx with rfl | rfl
      · exact .inl le
      · exact .inr le
    have z1 : cr a b a = 0 := by unfold cr; grind
    have z2 : cr a b b = 0 := by unfold cr; grind
    have z3 : cr b a a = 0 := by unfold cr; grind
    have z4 : cr b a b = 0 := by unfold cr; grind
    refine ⟨left_of_all hf.rnd hf.ne k fun c hc => ?_, left_of_all hf.rnd hf.ne k fun c hc => ?_, ⟨?_, ?_⟩, ?_, ?_⟩
    · rcases only c hc with rfl | rfl <;> grind
    · rcases only c hc with rfl | rfl <;> grind
    · have := f (-1) 0
      rw [Rat.min_def]
      grind
    · have := f 1 0
      rw [Rat.max_def]
      grind
    · have := f 0 (-1)
      rw [Rat.min_def]
      grind
    · have := f 0 1
      rw [Rat.max_def]
      grind
  · rintro ⟨h1, h2, ⟨x1, x2⟩, y1, y2⟩
    have z : cr a b p = 0 := by
      have : cr b a p = - cr a b p := cr_sw2 _ _ _
      grind
    have ab : a ≠ b := by
      rintro rfl
      have := (cnr_ok rs).2.1
      rw [h] at this
      simp at this
    rw [Rat.min_def] at x1 y1
    rw [Rat.max_def] at x2 y2
    by_cases hx : a.1 = b.1
    · have hy : b.2 - a.2 ≠ 0 := fun w => ab (Prod.ext hx (by grind))
      have inv := Rat.mul_inv_cancel _ hy
      have pe : p.1 = a.1 := by grind
      -- t by y
      have t0 : 0 ≤ (p.2 - a.2) * (b.2 - a.2)⁻¹ ∧ (p.2 - a.2) * (b.2 - a.2)⁻¹ ≤ 1 := by
        by_cases s : 0 < b.2 - a.2
        · have ip : 0 < (b.2 - a.2)⁻¹ := Rat.inv_pos.mpr s
          have q1 := Rat.mul_nonneg (show 0 ≤ p.2 - a.2 by grind) (Rat.le_of_lt ip)
          have q2 := Rat.mul_nonneg (show 0 ≤ b.2 - p.2 by grind) (Rat.le_of_lt ip)
          exact ⟨q1, by grind⟩
        · have sn : b.2 - a.2 < 0 := by grind
          have ip : (b.2 - a.2)⁻¹ < 0 := by
            apply Classical.byContradiction
            intro w
            have := Rat.mul_nonneg (show 0 ≤ -(b.2 - a.2) by grind) (show 0 ≤ (b.2 - a.2)⁻¹ by grind)
            grind
          have q1 := Rat.mul_nonneg (show 0 ≤ -(p.2 - a.2) by grind) (show 0 ≤ -(b.2 - a.2)⁻¹ by grind)
          have q2 := Rat.mul_nonneg (show 0 ≤ -(b.2 - p.2) by grind) (show 0 ≤ -(b.2 - a.2)⁻¹ by grind)
          exact ⟨by grind, by grind⟩
      refine keep_two ka kb t0.1 t0.2 ?_ ?_
      · grind
      · grind
    · have hx' : b.1 - a.1 ≠ 0 := fun w => hx (by grind)
      have inv := Rat.mul_inv_cancel _ hx'
      have t0 : 0 ≤ (p.1 - a.1) * (b.1 - a.1)⁻¹ ∧ (p.1 - a.1) * (b.1 - a.1)⁻¹ ≤ 1 := by
        by_cases s : 0 < b.1 - a.1
        · have ip : 0 < (b.1 - a.1)⁻¹ := Rat.inv_pos.mpr s
          have q1 := Rat.mul_nonneg (show 0 ≤ p.1 - a.1 by grind) (Rat.le_of_lt ip)
          have q2 := Rat.mul_nonneg (show 0 ≤ b.1 - p.1 by grind) (Rat.le_of_lt ip)
          exact ⟨q1, by grind⟩
        · have sn : b.1 - a.1 < 0 := by grind
          have ip : (b.1 - a.1)⁻¹ < 0 := by
            apply Classical.byContradiction
            intro w
            have := Rat.mul_nonneg (show 0 ≤ -(b.1 - a.1) by grind) (show 0 ≤ (b.1 - a.1)⁻¹ by grind)
            grind
          have q1 := Rat.mul_nonneg (show 0 ≤ -(p.1 - a.1) by grind) (show 0 ≤ -(b.1 - a.1)⁻¹ by grind)
          have q2 := Rat.mul_nonneg (show 0 ≤ -(b.1 - p.1) by grind) (show 0 ≤ -(b.1 - a.1)⁻¹ by grind)
          exact ⟨by grind, by grind⟩
      refine keep_two ka kb t0.1 t0.2 ?_ ?_
      · grind
      · unfold cr at z
        have : p.2 - a.2 = (p.1 - a.1) * (b.1 - a.1)⁻¹ * (b.2 - a.2) := by grind
        grind
theorem kp_many {o x y : Place} {t : List Place} (h : cnr rs = o :: x :: y :: t) (p : Place) : Kp rs p ↔ LeftOf (cnr rs) p := by
  obtain ⟨mem, nd, cc⟩ := cnr_ok rs
  have kc : ∀ c ∈ cnr rs, Kp rs c := fun c hc => ((mem c).mp hc).1
  rw [h] at mem nd cc kc ⊢
  constructor
  · intro k
    refine ⟨edges_all.mpr fun q hq => left_of_all hf.rnd hf.ne k fun c hc => ?_, left_of_all hf.rnd hf.ne k fun c hc => ?_⟩
    · have := edges_ccw (o := o) (pre := []) cc c ((mem c).mpr hc)
      exact edges_all.mp this q hq
    · have hm := (mem c).mpr hc
      obtain ⟨m, l, e⟩ := snoc_of (show x :: y :: t ≠ [] by simp)
      have gl : (x :: y :: t).getLastD o = l := by rw [e]; simp
      rw [gl]
      rw [e] at hm cc
      rw [List.mem_cons, List.mem_append] at hm
      rcases hm with rfl | z | z
      · unfold cr
        grind
      · rw [← cr_cyc]
        refine Rat.le_of_lt (ccw3 cc ?_)
        exact List.Sublist.cons₂ o ((List.singleton_sublist.mpr z).append (List.Sublist.refl [l]))
      · simp only [List.mem_cons, List.not_mem_nil, or_false] at z
        subst z
        unfold cr
        grind
  · rintro ⟨h1, h2⟩
    refine fan (kc o (by simp)) (t := y :: t) (h := x) (fun c hc => kc c (List.mem_cons_of_mem _ hc)) cc.1 (by simp) h1.1 h1.2 ?_
    simpa [List.getLastD] using h2
end
theorem lg3_turn (a b : Int) (acc : Option (Rat × Place)) (p : Place) (m n : Nat) (ha : Ib m a) (hb : Ib m b) (hp : SzP n p) (h : ∀ q, acc = some q → Sz (2 * n + 2 * m + 1) q.1) (hn : 4 * n + 4 * m + 2 ≤ 8000) (f : D) :
    exSs L1_law_greatest_v3 [some (false, f), some (false, .int a), some (false, .int b), some (false, gVal acc), some (false, placeD p), none] = .ok (.nx [some (false, f), some (false, .int a), some (false, .int b), some (false, gVal (gS a b acc p)), none, none]) := by
  have e1 := lvalue_q (r' := []) ha hb hp (by omega)
  have s := val_sz' (r := (a, b, 0)) ha hb hp
  cases acc with
  | none => simp [L1_law_greatest_v3, x_ss1, e1, gVal, gS, lin]
  | some q =>
    have e2 := lless_q (h q rfl) s (by omega)
    have le : lin a b p = val (a, b, 0) p := rfl
    have n : cop .is (fracD q.1) .none = some false := rfl
    by_cases c : q.1 < val (a, b, 0) p
    · simp [L1_law_greatest_v3, x_ss1, e1, gVal, gS, le, e2, c, n]
    · simp [L1_law_greatest_v3, x_ss1, e1, gVal, gS, le, e2, c, n]
theorem law_greatest3_eq (a b : Int) (ps : List Place) (m n : Nat) (ha : Ib m a) (hb : Ib m b) (hp : SzPs n ps) (hn : 4 * n + 4 * m + 2 ≤ 8000) :
    M_law_greatest_v3 [(false, .list (ps.map placeD)), (false, .int a), (false, .int b)] = .ok (false, gVal (gAt a b ps), [(false, .list (ps.map placeD)), (false, .int a), (false, .int b)]) := by
  obtain ⟨q1, q2⟩ := for_eq (it := .sq (.var 0)) (g := [4]) (b := L1_law_greatest_v3) (srcs := []) (fun acc => [some (false, .list (ps.map placeD)), some (false, .int a), some (false, .int b), some (false, gVal acc), none, none]) placeD (gS a b) (fun l acc => (∀ p ∈ l, SzP n p) ∧ ∀ q, acc = some q → Sz (2 * n + 2 * m + 1) q.1) (xs := ps) (s0 := none)
    (by simp [srcsOf]) (fun _ _ _ => trivial) ⟨hp.2, fun _ h => by cases h⟩ (fun p l acc ⟨h1, h2⟩ => ⟨_, rfl, lg3_turn a b acc p m n ha hb (h1 p List.mem_cons_self) h2 hn _, fun q hq => h1 q (List.mem_cons_of_mem _ hq), gS_sz ha hb (h1 p List.mem_cons_self) h2⟩)
  simp only [gVal] at q1
  have ge : ps.foldl (gS a b) none = gAt a b ps := rfl
  rw [ge] at q1
  cases hg : gAt a b ps with
  | none => rw [hg] at q1; simp [M_law_greatest_v3, mkM, flg, runFn, B_law_greatest_v3, x_ss1, q1, gVal]
  | some q => rw [hg] at q1; simp [M_law_greatest_v3, mkM, flg, runFn, B_law_greatest_v3, x_ss1, q1, gVal]
theorem whole_place (u v : Int) : PyData.tuple [.tuple [.int u, .int 1], .tuple [.int v, .int 1]] = placeD ((u : Rat), (v : Rat)) := rfl
theorem law_place_eq (st : Rc.St) : ∃ p st', M_law_place [(true, stD st)] = .ok (false, placeD p, [(true, stD st')]) ∧ SzP 10 p := by
  have t1 := take_eq st 25 (by decide) (by decide)
  have c1 := tk_bd st 25 (by decide)
  have t2 := take_eq (tkS st 25) 4 (by decide) (by decide)
  have c2 := tk_bd (tkS st 25) 4 (by decide)
  have t3 := take_eq (tkS (tkS st 25) 4) 25 (by decide) (by decide)
  have c3 := tk_bd (tkS (tkS st 25) 4) 25 (by decide)
  have t4 := take_eq (tkS (tkS (tkS st 25) 4) 25) 4 (by decide) (by decide)
  have c4 := tk_bd (tkS (tkS (tkS st 25) 4) 25) 4 (by decide)
  have s1 : small9 (1 + tkV (tkS st 25) 4) := Ib.small (n := 10) (by unfold Ib; omega) (by decide)
  have s2 : small9 (1 + tkV (tkS (tkS (tkS st 25) 4) 25) 4) := Ib.small (n := 10) (by unfold Ib; omega) (by decide)
  have l1 := low_eq (tkV st 25 - 12) (1 + tkV (tkS st 25) 4) (by omega) s1
  have l2 := low_eq (tkV (tkS (tkS st 25) 4) 25 - 12) (1 + tkV (tkS (tkS (tkS st 25) 4) 25) 4) (by omega) s2
  refine ⟨(Rat.divInt (tkV st 25 - 12) (1 + tkV (tkS st 25) 4), Rat.divInt (tkV (tkS (tkS st 25) 4) 25 - 12) (1 + tkV (tkS (tkS (tkS st 25) 4) 25) 4)), tkS (tkS (tkS (tkS st 25) 4) 25) 4, ?_, Sz.divInt (by unfold Ib; omega) (by unfold Ib; omega) (by omega), Sz.divInt (by unfold Ib; omega) (by unfold Ib; omega) (by omega)⟩
  simp [M_law_place, mkM, flg, runFn, B_law_place, x_ss1, t1, t2, t3, t4, l1, l2, placeD]
theorem cnr_len {rs : List Row} (hf : Fld rs) : (cnr rs).length ≤ 64 := by
  obtain ⟨m, nd, _⟩ := cnr_ok rs
  have p := List.Nodup.length_le_of_subset nd fun x hx => mem_fc.mpr ((m x).mp hx)
  have q := fc_len rs
  have h := hf.hi
  have : rs.length * rs.length ≤ 8 * 8 := Nat.mul_le_mul h h
  omega
end Rc

set_option maxRecDepth 100000
set_option maxHeartbeats 4000000
namespace K03
open PySem L2 Rc
def N_law_cell_at : List Str := ["_law_script", "_law_k"]
def N_law_state : List Str := ["_law_script", "_law_k", "_law_cell"]
def N_law_take : List Str := ["_law_state_here", "_law_many", "_law_found", "_law_stirred"]
def N_law_field : List Str := ["_law_state_here", "_law_way", "_law_rows", "_law_a", "_law_b", "_law_by", "_law_turn", "_law_near", "_law_k", "_law_some", "_law_u", "_law_v", "_law_c"]
def N_go_round : List Str := ["rows", "a", "b", "c", "u", "v", "row"]
def N_is_whole : List Str := ["thing"]
def N_is_row : List Str := ["thing", "one"]
def N_is_less : List Str := ["one", "other"]
def N_is_near : List Str := ["place", "one"]
def N_twist : List Str := ["one", "other"]
def N_divisor : List Str := ["one", "other"]
def N_ratio : List Str := ["top", "bottom", "share"]
def N_crossing : List Str := ["one", "other", "by", "x"]
def N_plus : List Str := ["one", "other"]
def N_times : List Str := ["one", "number"]
def N_value : List Str := ["row", "place"]
def N_keeps : List Str := ["row", "place"]
def N_found_corners : List Str := ["rows", "found", "at", "one", "other", "place", "row"]
def N_is_field : List Str := ["thing", "row", "a", "b", "c", "place"]
def N_law_bent : List Str := ["_law_state_here", "_law_field_here", "_law_at", "_law_a", "_law_b", "_law_c", "_law_rows", "_law_row", "_law_changed", "_law_some"]
/- _law_bent(_law_state_here, _law_field_here): 0 _law_state_here 1 _law_field_here 2 _law_at 3 _law_a 4 _law_b 5 _law_c 6 _law_rows 7 _law_row 8 _law_changed 9 _law_some -/
noncomputable def B_law_bent : Ss := (.cons (.asg 2 (.call M_law_take [true, false] (.cons (.var 0) (.cons (.blt .len (.cons (.var 1) .nil)) .nil))))
    (.cons (.unp [3, 4, 5] (.idx (.var 1) (.var 2)))
    (.cons (.asg 6 (.lst (.cons (.tup (.cons (.var 3) (.cons (.var 4) (.cons (.bin .add (.var 5) (.con (.int 40))) .nil)))) (.cons (.tup (.cons (.var 3) (.cons (.var 4) (.cons (.bin .add (.var 5) (.con (.int 900))) .nil)))) (.cons (.tup (.cons (.var 3) (.cons (.var 4) (.cons (.con (.int 1001)) .nil)))) (.cons (.tup (.cons (.con (.int 31)) (.cons (.var 4) (.cons (.var 5) .nil)))) (.cons (.tup (.cons (.var 3) (.cons (.neg (.con (.int 31))) (.cons (.var 5) .nil)))) (.cons (.tup (.cons (.con (.int 0)) (.cons (.con (.int 0)) (.cons (.var 5) .nil)))) (.cons (.tup (.cons (.var 3) (.cons (.var 4) .nil))) (.cons (.lst (.cons (.var 3) (.cons (.var 4) (.cons (.var 5) .nil)))) (.cons (.con .none) .nil)))))))))))
    (.cons (.asg 6 (.bin .add (.var 6) (.lst (.cons (.tup (.cons (.var 3) (.cons (.var 4) (.cons (.var 5) (.cons (.con (.int 1)) .nil))))) (.cons (.tup (.cons (.con (.bool true)) (.cons (.var 4) (.cons (.var 5) .nil)))) (.cons (.tup (.cons (.var 3) (.cons (.var 4) (.cons (.tup (.cons (.var 5) (.cons (.con (.int 1)) .nil))) .nil)))) (.cons (.tup (.cons (.con (.int 30)) (.cons (.neg (.con (.int 30))) (.cons (.con (.int 0)) .nil)))) (.cons (.tup (.cons (.bin .sub (.con (.int 0)) (.var 3)) (.cons (.bin .sub (.con (.int 0)) (.var 4)) (.cons (.var 5) .nil)))) (.cons (.tup (.cons (.var 3) (.cons (.var 4) (.cons (.neg (.con (.int 1000))) .nil)))) .nil)))))))))
    (.cons (.asg 7 (.idx (.var 6) (.call M_law_take [true, false] (.cons (.var 0) (.cons (.con (.int 15)) .nil)))))
    (.cons (.asg 8 (.bin .add (.bin .add (.slc (.var 1) (.con .none) (.var 2)) (.tup (.cons (.var 7) .nil))) (.slc (.var 1) (.bin .add (.var 2) (.con (.int 1))) (.con .none))))
    (.cons (.asg 9 (.lst (.cons (.var 8) (.cons (.var 8) (.cons (.var 8) (.cons (.bin .add (.slc (.var 1) (.con .none) (.var 2)) (.slc (.var 1) (.bin .add (.var 2) (.con (.int 1))) (.con .none))) (.cons (.slc (.var 1) (.con .none) (.con (.int 2))) (.cons (.blt .list (.cons (.var 1) .nil)) (.cons (.con .none) (.cons .dct (.cons (.tup .nil) (.cons (.idx (.var 1) (.con (.int 0))) .nil))))))))))))
    (.cons (.asg 9 (.bin .add (.var 9) (.lst (.cons (.slc (.bin .mul (.var 1) (.con (.int 3))) (.con .none) (.con (.int 9))) (.cons (.bin .add (.var 1) (.tup (.cons (.idx (.var 1) (.con (.int 0))) .nil))) (.cons (.con (.str (Str.ofString "0 0 0"))) (.cons (.tup (.cons (.var 1) .nil)) (.cons (.bin .add (.bin .add (.slc (.var 1) (.con .none) (.var 2)) (.slc (.var 1) (.var 2) (.bin .add (.var 2) (.con (.int 1))))) (.slc (.var 1) (.var 2) (.con .none))) .nil))))))))
    (.cons (.mth 9 .append (.cons (.tup (.cons (.tup (.cons (.neg (.con (.int 1))) (.cons (.con (.int 0)) (.cons (.con (.int 12)) .nil)))) (.cons (.tup (.cons (.con (.int 1)) (.cons (.con (.int 0)) (.cons (.con (.int 12)) .nil)))) (.cons (.tup (.cons (.con (.int 0)) (.cons (.neg (.con (.int 1))) (.cons (.con (.int 12)) .nil)))) (.cons (.tup (.cons (.con (.int 0)) (.cons (.con (.int 5)) (.cons (.bin .add (.con (.int 60)) (.call M_law_take [true, false] (.cons (.var 0) (.cons (.con (.int 2)) .nil)))) .nil)))) .nil))))) .nil))
    (.cons (.ret (.idx (.var 9) (.call M_law_take [true, false] (.cons (.var 0) (.cons (.con (.int 16)) .nil)))))
    .nil))))))))))
noncomputable def M_law_bent : MF := mkM [true, false] 10 B_law_bent
def N_law_less : List Str := ["_law_one", "_law_other"]
def N_law_divisor : List Str := ["_law_one", "_law_other"]
def N_law_low : List Str := ["_law_top", "_law_bottom", "_law_by"]
def N_law_times : List Str := ["_law_one", "_law_other"]
def N_law_minus : List Str := ["_law_one", "_law_other"]
def N_law_cross : List Str := ["_law_one", "_law_other", "_law_third", "_law_first"]
def N_law_all_left : List Str := ["_law_here", "_law_place", "_law_some", "_law_one"]
def N_law_ring : List Str := ["_law_places", "_law_some", "_law_place", "_law_ahead", "_law_one", "_law_found", "_law_k", "_law_here"]
def N_law_crossing : List Str := ["_law_one", "_law_other", "_law_by", "_law_x"]
def N_law_value : List Str := ["_law_row", "_law_place", "_law_x", "_law_y"]
def N_law_keeps : List Str := ["_law_row", "_law_place", "_law_here"]
def N_law_corners : List Str := ["_law_rows", "_law_found", "_law_at", "_law_other", "_law_place", "_law_row"]
def N_law_round_all : List Str := ["_law_rows", "_law_a", "_law_b", "_law_c", "_law_u", "_law_v", "_law_row"]
/- _law_round_all(_law_rows): 0 _law_rows 1 _law_a 2 _law_b 3 _law_c 4 _law_u 5 _law_v 6 _law_row -/
noncomputable def V1_law_round_all : E := (.bin .add (.bin .mul (.idx (.var 6) (.con (.int 0))) (.var 4)) (.bin .mul (.idx (.var 6) (.con (.int 1))) (.var 5)))
noncomputable def L1_law_round_all : Ss := (.cons (.blk [] (.cons (.sif (.cmp .le (.blt .max1 (.cons (.lc V1_law_round_all [6] (.sq (.var 0)) (.con (.bool true)) [6]) .nil)) (.con (.int 0)))
      (.cons (.blk [] (.cons (.ret (.con (.bool false))) .nil) [0, 1, 2, 3, 4, 5, 6])
    .nil)
      .nil)
    .nil) [3, 4, 5, 6]) .nil)
noncomputable def L2_law_round_all : Ss := (.cons (.blk [] (.cons (.blk [3, 4, 5, 6] (.cons (.sfor [4, 5] (.sq (.lst (.cons (.tup (.cons (.var 2) (.cons (.bin .sub (.con (.int 0)) (.var 1)) .nil))) (.cons (.tup (.cons (.bin .sub (.con (.int 0)) (.var 2)) (.cons (.var 1) .nil))) .nil))))
      L1_law_round_all) .nil) [1, 2])
    .nil) [1, 2, 3, 4, 5, 6]) .nil)
noncomputable def B_law_round_all : Ss := (.cons (.blk [1, 2, 3, 4, 5, 6] (.cons (.sfor [1, 2, 3] (.sq (.var 0))
      L2_law_round_all) .nil) [0])
    (.cons (.ret (.con (.bool true)))
    .nil))
noncomputable def M_law_round_all : MF := mkM [false] 7 B_law_round_all
def N_law_whole : List Str := ["_law_thing"]
def N_law_is_row : List Str := ["_law_thing", "_law_one"]
/- _law_is_row(_law_thing): 0 _law_thing 1 _law_one -/
noncomputable def C1_law_is_row : E := (.nt (.call M_law_whole [false] (.cons (.var 1) .nil)))
noncomputable def B_law_is_row : Ss := (.cons (.sif (.or (.nt (.isi (.var 0) ["tuple"])) (.or (.cmp .ne (.blt .len (.cons (.var 0) .nil)) (.con (.int 3))) (.cmp .ne (.lc (.var 1) [1] (.sq (.var 0)) C1_law_is_row [1]) (.lst .nil))))
      (.cons (.ret (.con (.bool false)))
    .nil)
      .nil)
    (.cons (.ret (.or (.cmp .ne (.idx (.var 0) (.con (.int 0))) (.con (.int 0))) (.cmp .ne (.idx (.var 0) (.con (.int 1))) (.con (.int 0)))))
    .nil))
noncomputable def M_law_is_row : MF := mkM [false] 2 B_law_is_row
def N_law_due : List Str := ["_law_thing", "_law_row", "_law_a", "_law_b", "_law_c", "_law_place", "_law_one"]
/- _law_due(_law_thing): 0 _law_thing 1 _law_row 2 _law_a 3 _law_b 4 _law_c 5 _law_place 6 _law_one -/
noncomputable def C1_law_due : E := (.cmp .gt (.blt .abs (.cons (.idx (.var 6) (.con (.int 0))) .nil)) (.bin .mul (.con (.int 12)) (.idx (.var 6) (.con (.int 1)))))
noncomputable def L1_law_due : Ss := (.cons (.blk [] (.cons (.sif (.cmp .ne (.lc (.var 6) [6] (.sq (.var 5)) C1_law_due [6]) (.lst .nil))
      (.cons (.blk [] (.cons (.ret (.con (.bool false))) .nil) [0, 1, 2, 3, 4, 5, 6])
    .nil)
      .nil)
    .nil) [1, 2, 3, 4, 5, 6]) .nil)
noncomputable def L2_law_due : Ss := (.cons (.blk [] (.cons (.sif (.or (.cmp .gt (.blt .max2 (.cons (.blt .abs (.cons (.var 2) .nil)) (.cons (.blt .abs (.cons (.var 3) .nil)) .nil))) (.con (.int 30))) (.cmp .gt (.blt .abs (.cons (.var 4) .nil)) (.con (.int 1000))))
      (.cons (.blk [] (.cons (.ret (.con (.bool false))) .nil) [0, 1, 2, 3, 4, 5, 6])
    .nil)
      .nil)
    .nil) [1, 2, 3, 4, 5, 6]) .nil)
noncomputable def C2_law_due : E := (.nt (.call M_law_is_row [false] (.cons (.var 1) .nil)))
noncomputable def B_law_due : Ss := (.cons (.sif (.or (.nt (.isi (.var 0) ["tuple"])) (.or (.nt (.chn .le .le (.con (.int 3)) (.blt .len (.cons (.var 0) .nil)) (.con (.int 8)))) (.cmp .ne (.lc (.var 1) [1] (.sq (.var 0)) C2_law_due [1]) (.lst .nil))))
      (.cons (.ret (.con (.bool false)))
    .nil)
      .nil)
    (.cons (.blk [1, 2, 3, 4, 5, 6] (.cons (.sfor [2, 3, 4] (.sq (.var 0))
      L2_law_due) .nil) [])
    (.cons (.sif (.nt (.call M_law_round_all [false] (.cons (.var 0) .nil)))
      (.cons (.ret (.con (.bool false)))
    .nil)
      .nil)
    (.cons (.blk [1, 2, 3, 4, 5, 6] (.cons (.sfor [5] (.sq (.call M_law_corners_v2 [false] (.cons (.var 0) .nil)))
      L1_law_due) .nil) [0])
    (.cons (.ret (.con (.bool true)))
    .nil)))))
noncomputable def M_law_due : MF := mkM [false] 7 B_law_due
def N_law : List Str := ["_law_script", "_law_k", "_law_state_here", "_law_field_here", "_law_turn", "_law_thing", "_law_found"]
/- law(_law_script): 0 _law_script 1 _law_k 2 _law_state_here 3 _law_field_here 4 _law_turn 5 _law_thing 6 _law_found -/
noncomputable def L1_law : Ss := (.cons (.blk [] (.cons (.asg 5 (.call M_law_bent [true, false] (.cons (.var 2) (.cons (.var 3) .nil))))
    (.cons (.asg 6 (.call M_is_field [false] (.cons (.var 5) .nil)))
    (.cons (.sif (.or (.nt (.isi (.var 6) ["bool"])) (.cmp .ne (.var 6) (.call M_law_due [false] (.cons (.var 5) .nil))))
      (.cons (.blk [] (.cons (.ret (.con (.bool false))) .nil) [0, 1, 2, 3, 4, 5, 6])
    .nil)
      .nil)
    .nil))) [1, 4, 5, 6]) .nil)
noncomputable def L2_law : Ss := (.cons (.blk [] (.cons (.asg 2 (.call M_law_state [false, false] (.cons (.var 0) (.cons (.var 1) .nil))))
    (.cons (.asg 3 (.call M_law_field [true] (.cons (.var 2) .nil)))
    (.cons (.sif (.cmp .isnot (.call M_is_field [false] (.cons (.var 3) .nil)) (.con (.bool true)))
      (.cons (.blk [] (.cons (.ret (.con (.bool false))) .nil) [0, 1, 2, 3, 4, 5, 6])
    .nil)
      .nil)
    (.cons (.blk [1, 4, 5, 6] (.cons (.sfor [4] (.rg (.con (.int 5)))
      L1_law) .nil) [2, 3])
    .nil)))) [1, 2, 3, 4, 5, 6]) .nil)
noncomputable def B_law : Ss := (.cons (.blk [1, 2, 3, 4, 5, 6] (.cons (.sfor [1] (.rg (.blt .max2 (.cons (.con (.int 1)) (.cons (.blt .min2 (.cons (.blt .len (.cons (.var 0) .nil)) (.cons (.con (.int 8)) .nil))) .nil))))
      L2_law) .nil) [0])
    (.cons (.ret (.cmp .is (.call M_is_field [false] (.cons (.tup (.cons (.tup (.cons (.neg (.con (.int 1))) (.cons (.neg (.con (.int 1))) (.cons (.con (.int 0)) .nil)))) (.cons (.tup (.cons (.con (.int 1)) (.cons (.con (.int 0)) (.cons (.con (.int 12)) .nil)))) (.cons (.tup (.cons (.con (.int 0)) (.cons (.con (.int 1)) (.cons (.con (.int 0)) .nil)))) .nil)))) .nil)) (.con (.bool true))))
    .nil))
noncomputable def M_law : MF := mkM [false] 7 B_law
end K03

set_option maxRecDepth 100000
set_option maxHeartbeats 4000000
namespace K03
open PySem L2 Rc
abbrev Pl := Rc.Place
theorem lwh : M_law_whole = M_is_whole := rfl
/-! ### all round -/
theorem max_lc (rs : List Row) (n : Nat) (hr : SzRs n rs) (u v : Int) (hu : Ib (n + 1) u) (hv : Ib (n + 1) v) (hn : n ≤ 4000) (x1 x2 x3 : Option (Bool × D)) :
    ev (.lc V1_law_round_all [6] (.sq (.var 0)) (.con (.bool true)) [6]) [some (false, fieldD rs), x1, x2, x3, some (false, .int u), some (false, .int v), none] = .ok ((true, .list (rs.map fun q => .int (q.1 * u + q.2.1 * v))), [some (false, fieldD rs), x1, x2, x3, some (false, .int u), some (false, .int v), none]) := by
  refine ev_lcm (srcs := []) rowD _ rs (by simp [fieldD, srcsOf]) trivial (by simp) (by simp) (by simp [backE]) (len_ok (by have := hr.1; omega)) fun r hrs => ?_
  obtain ⟨a, b, _⟩ := hr.2 r hrs
  have m1 := a.ok hu (by omega)
  have m2 := b.ok hv (by omega)
  exact ⟨_, rfl, ⟨false, by simp [V1_law_round_all, m1, m2]⟩, by simp [V1_law_round_all]⟩
theorem max_pos (rs : List Row) (ne : rs ≠ []) (u v : Int) : ∃ m, maxL (rs.map fun q => q.1 * u + q.2.1 * v) = some m ∧ decide (m ≤ 0) = !posB rs u v := by
  obtain ⟨m, e, h⟩ := maxL_some (xs := rs.map fun q => q.1 * u + q.2.1 * v) (by simpa using ne)
  refine ⟨m, e, ?_⟩
  rw [Bool.eq_iff_iff, decide_eq_true_eq, h, Bool.not_eq_true', ← Bool.not_eq_true, posB_iff]
  simp only [List.mem_map, forall_exists_index, and_imp, forall_apply_eq_imp_iff₂]
  constructor
  · rintro h ⟨q, hq, w⟩
    have := h q hq
    omega
  · intro h q hq
    apply Int.not_lt.mp
    exact fun w => h ⟨q, hq, w⟩
theorem ra_turn (rs : List Row) (n : Nat) (hr : SzRs n rs) (ne : rs ≠ []) (r : Row) (h : SzR n r) (hn : n ≤ 4000) :
    exSs L2_law_round_all [some (false, fieldD rs), some (false, .int r.1), some (false, .int r.2.1), some (false, .int r.2.2), none, none, none] = if badR rs r = true then .ok (.rt false (.bool false) [none, none, none, none, none, none, none]) else .ok (.nx [some (false, fieldD rs), none, none, none, none, none, none]) := by
  obtain ⟨ha, hb, _⟩ := h
  have z : Ib n 0 := Nat.two_pow_pos n
  have f := for_first (it := .sq (.lst (.cons (.tup (.cons (.var 2) (.cons (.bin .sub (.con (.int 0)) (.var 1)) .nil))) (.cons (.tup (.cons (.bin .sub (.con (.int 0)) (.var 2)) (.cons (.var 1) .nil))) .nil)))) (g := [4, 5]) (b := L1_law_round_all) (srcs := [])
    (m := [some (false, fieldD rs), some (false, .int r.1), some (false, .int r.2.1), none, none, none, none]) (mr := [none, none, none, none, none, none, none]) (fr := false) (v := .bool false) dirD (fun d => !(posB rs d.1 d.2)) (xs := [(r.2.1, 0 - r.1), (0 - r.2.1, r.1)]) (by simp [srcsOf, dirD]) trivial fun d hd => ⟨_, rfl, by
      have s : Ib (n + 1) d.1 ∧ Ib (n + 1) d.2 := by
        simp only [List.mem_cons, List.not_mem_nil, or_false] at hd
        rcases hd with rfl | rfl
        · exact ⟨hb.mono (by omega), z.sub ha⟩
        · exact ⟨z.sub hb, ha.mono (by omega)⟩
      have e := max_lc rs n hr d.1 d.2 s.1 s.2 hn (some (false, .int r.1)) (some (false, .int r.2.1)) none
      have e2 := ints_map (fun q : Row => q.1 * d.1 + q.2.1 * d.2) rs
      obtain ⟨m, e3, e4⟩ := max_pos rs ne d.1 d.2
      have e5 : decide (m ≤ 0) = !posB rs d.1 d.2 := e4
      by_cases hm : m ≤ 0
      · have hp : posB rs d.1 d.2 = false := by simpa [hm] using e5
        simp [L1_law_round_all, x_ss1, e, e2, e3, hm, hp]
      · have hp : posB rs d.1 d.2 = true := by simpa [hm] using e5
        simp [L1_law_round_all, x_ss1, e, e2, e3, hm, hp]⟩
  have sx : ([(r.2.1, 0 - r.1), (0 - r.2.1, r.1)] : List Dir).any (fun d => !(posB rs d.1 d.2)) = badR rs r := by simp [badR]
  rw [sx] at f
  cases hb : badR rs r <;> rw [hb] at f <;> simp at f <;> simp [L2_law_round_all, x_ss1, f]
theorem round_all_eq (rs : List Row) (n : Nat) (hr : SzRs n rs) (ne : rs ≠ []) (hn : n ≤ 4000) : M_law_round_all [(false, fieldD rs)] = .ok (false, .bool (!(rs.any (badR rs))), [(false, fieldD rs)]) := by
  have f := for_first (it := .sq (.var 0)) (g := [1, 2, 3]) (b := L2_law_round_all) (srcs := []) (m := [some (false, fieldD rs), none, none, none, none, none, none]) (mr := [none, none, none, none, none, none, none]) (fr := false) (v := .bool false) rowD (badR rs) (xs := rs) (by simp [srcsOf, fieldD]) trivial fun r hrs => ⟨_, rfl, ra_turn rs n hr ne r (hr.2 r hrs) hn⟩
  cases hb : rs.any (badR rs) <;> rw [hb] at f <;> simp at f <;> simp [M_law_round_all, mkM, flg, runFn, B_law_round_all, x_ss1, f]
/-! ### rows, by the law -/
def RwL (d : D) (b : Bool) : Prop := M_law_is_row [(false, d)] = .ok (false, .bool b, [(false, d)])
theorem ne_emp (xs : List D) (hs : SeqAt.shaped (.list xs) = true) : cop .ne (.list xs) (.list []) = some (decide (xs ≠ [])) := by
  show (if SeqAt.shaped (.list xs) = true ∧ SeqAt.shaped (.list []) = true then some (!PyData.eqv (.list xs) (.list [])) else none) = _
  rw [if_pos ⟨hs, rfl⟩]
  cases xs <;> simp [PyData.eqv, PyData.eqvAll]
def LN (x : D) (b : Bool) : Prop := ∀ x0, ev C1_law_is_row [x0, some (false, x)] = .ok ((false, .bool b), [x0, some (false, x)])
theorem ln_of {x : D} {b : Bool} (h : M_is_whole [(false, x)] = .ok (false, .bool b, [(false, x)])) : LN x (!b) := fun x0 => by
  rw [← lwh] at h
  simp [C1_law_is_row, h]
theorem lr_lc (xs : List D) (p : D → Bool) (hp : ∀ x ∈ xs, LN x (p x)) (hl : xs.length ≤ 1000) : ev (.lc (.var 1) [1] (.sq (.var 0)) C1_law_is_row [1]) [some (false, .tuple xs), none] = .ok ((true, .list (xs.filter p)), [some (false, .tuple xs), none]) := by
  have e := ev_lc (e := .var 1) (c := C1_law_is_row) (g := [1]) (own := [1]) (it := .sq (.var 0)) (m := [some (false, .tuple xs), none]) (srcs := []) id p id xs (by simp [srcsOf]) trivial (by simp) (by simp) (by simp [backE]) (len_ok (by omega)) fun x hx => ⟨[some (false, .tuple xs), some (false, x)], rfl, ⟨false, hp x hx _⟩, by simp, fun _ => ⟨false, [some (false, .tuple xs), some (false, x)], by simp, by simp⟩⟩
  simpa using e
theorem rwL_row (r : Row) : RwL (rowD r) (decide (nz r)) := by
  have e := lr_lc [.int r.1, .int r.2.1, .int r.2.2] (fun _ => false) (fun x hx => by
    simp only [List.mem_cons, List.not_mem_nil, or_false] at hx
    rcases hx with rfl | rfl | rfl <;> exact ln_of (is_whole_int _)) (by simp)
  rw [List.filter_eq_nil_iff.mpr (by simp)] at e
  have rd : (PyData.tuple [.int r.1, .int r.2.1, .int r.2.2]) = rowD r := rfl
  rw [rd] at e
  have q0 : cop .ne (.list []) (.list []) = some false := rfl
  have l : bltF .len [rowD r] = some (false, .int 3) := rfl
  have i0 : isiD (rowD r) ["tuple"] = some true := rfl
  by_cases h1 : r.1 = 0
  · by_cases h2 : r.2.1 = 0
    · simp [RwL, M_law_is_row, mkM, flg, runFn, B_law_is_row, x_ss1, i0, l, e, q0, h1, h2, nz]
    · simp [RwL, M_law_is_row, mkM, flg, runFn, B_law_is_row, x_ss1, i0, l, e, q0, h1, h2, nz]
  · simp [RwL, M_law_is_row, mkM, flg, runFn, B_law_is_row, x_ss1, i0, l, e, q0, h1, nz]
theorem rwL_kind {d : D} (h : isiD d ["tuple"] = some false) : RwL d false := by
  simp [RwL, M_law_is_row, mkM, flg, runFn, B_law_is_row, x_ss1, h]
theorem rwL_len {xs : List D} (h : xs.length ≠ 3) : RwL (.tuple xs) false := by
  have h' : ¬ (xs.length : Int) = 3 := by omega
  simp [RwL, M_law_is_row, mkM, flg, runFn, B_law_is_row, x_ss1, isT, h']
/-- three things, not all whole -/
theorem row3 {x y z : D} {a b c : Bool} (ha : M_is_whole [(false, x)] = .ok (false, .bool a, [(false, x)])) (hb : M_is_whole [(false, y)] = .ok (false, .bool b, [(false, y)])) (hc : M_is_whole [(false, z)] = .ok (false, .bool c, [(false, z)])) (no : (a && (b && c)) = false)
    (hs : SeqAt.shaped (.list ((if a then [] else [x]) ++ ((if b then [] else [y]) ++ (if c then [] else [z])))) = true) : RwK (.tuple [x, y, z]) false ∧ RwL (.tuple [x, y, z]) false := by
  constructor
  · have e0 : lcL [] [1] [1] (evC (.con (.bool true))) (evT V1_is_row) [x, y, z] [some (false, .tuple [x, y, z]), none] = .ok ([.bool a, .bool b, .bool c], [some (false, .tuple [x, y, z]), none]) := by
      simp [lcL, srcOk, bindT, evT, V1_is_row, ha, hb, hc]
    have e1 : ev (.lc V1_is_row [1] (.sq (.var 0)) (.con (.bool true)) [1]) [some (false, .tuple [x, y, z]), none] = .ok ((true, .list [.bool a, .bool b, .bool c]), [some (false, .tuple [x, y, z]), none]) := by
      rw [x_lc (p := ([x, y, z], [], [some (false, .tuple [x, y, z]), none])) (by simp [srcsOf]) (by simp) (by simpa using e0) (by simp)]
      simp [backE]
    have l : bltF .len [.tuple [x, y, z]] = some (false, .int 3) := rfl
    have a1 : allB [.bool a, .bool b, .bool c] = some false := by
      simp only [allB, Option.map_some]
      rw [Bool.and_true, no]
    simp [RwK, M_is_row, mkM, flg, runFn, B_is_row, x_ss1, -l_tup, isT, l, e1, a1]
  · have e0 : lcL [] [1] [1] (evC C1_law_is_row) (evT (.var 1)) [x, y, z] [some (false, .tuple [x, y, z]), none] = .ok ((if a then [] else [x]) ++ ((if b then [] else [y]) ++ (if c then [] else [z])), [some (false, .tuple [x, y, z]), none]) := by
      have l1 := ln_of ha (some (false, .tuple [x, y, z]))
      have l2 := ln_of hb (some (false, .tuple [x, y, z]))
      have l3 := ln_of hc (some (false, .tuple [x, y, z]))
      cases a <;> cases b <;> cases c <;> simp [lcL, srcOk, bindT, evT] <;> simp at l1 l2 l3 <;> simp [l1, l2, l3]
    have e1 : ev (.lc (.var 1) [1] (.sq (.var 0)) C1_law_is_row [1]) [some (false, .tuple [x, y, z]), none] = .ok ((true, .list ((if a then [] else [x]) ++ ((if b then [] else [y]) ++ (if c then [] else [z])))), [some (false, .tuple [x, y, z]), none]) := by
      rw [x_lc (p := ([x, y, z], [], [some (false, .tuple [x, y, z]), none])) (by simp [srcsOf]) (by simp) (by simpa using e0) (by cases a <;> cases b <;> cases c <;> simp)]
      simp [backE]
    have l : bltF .len [.tuple [x, y, z]] = some (false, .int 3) := rfl
    have q := ne_emp _ hs
    rw [decide_eq_true (by cases a <;> cases b <;> cases c <;> simp at no ⊢)] at q
    generalize (if a then [] else [x]) ++ ((if b then [] else [y]) ++ (if c then [] else [z])) = fl at *
    simp [RwL, M_law_is_row, mkM, flg, runFn, B_law_is_row, x_ss1, -l_tup, isT, l, e1, q]
/-! ### fields, by both -/
def Both (d : D) : Prop := ∃ b, M_is_field [(false, d)] = .ok (false, .bool b, [(false, d)]) ∧ M_law_due [(false, d)] = .ok (false, .bool b, [(false, d)])
theorem both_kind {d : D} (h : isiD d ["tuple"] = some false) : Both d :=
  ⟨false, noF_kind h, by simp [M_law_due, mkM, flg, runFn, B_law_due, x_ss1, h]⟩
theorem due_len {xs : List D} (h : ¬ (3 ≤ xs.length ∧ xs.length ≤ 8)) : M_law_due [(false, .tuple xs)] = .ok (false, .bool false, [(false, .tuple xs)]) := by
  by_cases g1 : 3 ≤ xs.length
  · have g2 : ¬ (xs.length : Int) ≤ 8 := by omega
    have g1' : (3 : Int) ≤ xs.length := by omega
    simp [M_law_due, mkM, flg, runFn, B_law_due, x_ss1, isT, g1', g2]
  · have g1' : ¬ (3 : Int) ≤ xs.length := by omega
    simp [M_law_due, mkM, flg, runFn, B_law_due, x_ss1, isT, g1']
theorem both_len {xs : List D} (h : ¬ (3 ≤ xs.length ∧ xs.length ≤ 8)) : Both (.tuple xs) := ⟨false, noF_len h, due_len h⟩
theorem due_lc (xs : List D) (p : D → Bool) (hp : ∀ x ∈ xs, RwL x (p x)) (hl : xs.length ≤ 1000) (x2 x3 x4 x5 x6 : Option (Bool × D)) : ev (.lc (.var 1) [1] (.sq (.var 0)) C2_law_due [1]) [some (false, .tuple xs), none, x2, x3, x4, x5, x6] = .ok ((true, .list (xs.filter fun x => !p x)), [some (false, .tuple xs), none, x2, x3, x4, x5, x6]) := by
  have e := ev_lc (e := .var 1) (c := C2_law_due) (g := [1]) (own := [1]) (it := .sq (.var 0)) (m := [some (false, .tuple xs), none, x2, x3, x4, x5, x6]) (srcs := []) id (fun x => !p x) id xs (by simp [srcsOf]) trivial (by simp) (by simp) (by simp [backE]) (len_ok (by omega)) fun x hx => ⟨[some (false, .tuple xs), some (false, x), x2, x3, x4, x5, x6], rfl, ⟨false, by
    have h := hp x hx
    unfold RwL at h
    simp [C2_law_due, h]⟩, by simp, fun _ => ⟨false, [some (false, .tuple xs), some (false, x), x2, x3, x4, x5, x6], by simp, by simp⟩⟩
  simpa using e
theorem both_ent {xs : List D} (p : D → Bool) (hp : ∀ x ∈ xs, RwK x (p x) ∧ RwL x (p x)) (hs : SeqAt.shaped (.list (xs.filter fun x => !p x)) = true) (h : ∃ x ∈ xs, p x = false) : Both (.tuple xs) := by
  by_cases hl : 3 ≤ xs.length ∧ xs.length ≤ 8
  · refine ⟨false, noF_ent p (fun x hx => (hp x hx).1) h, ?_⟩
    have g1 : (3 : Int) ≤ xs.length := by omega
    have g2 : (xs.length : Int) ≤ 8 := by omega
    have e := due_lc xs p (fun x hx => (hp x hx).2) (by omega) none none none none none
    have q := ne_emp _ hs
    obtain ⟨x, hx, px⟩ := h
    have n : (xs.filter fun x => !p x) ≠ [] := fun z => by
      have : x ∈ xs.filter fun x => !p x := List.mem_filter.mpr ⟨hx, by simp [px]⟩
      rw [z] at this
      simp at this
    rw [decide_eq_true n] at q
    generalize (xs.filter fun x => !p x) = fl at *
    simp [M_law_due, mkM, flg, runFn, B_law_due, x_ss1, isT, g1, g2, e, q]
  · exact both_len hl
def farB (p : Pl) : Bool := !(nearB 12 p)
theorem far_turn (fd : Option (Bool × D)) (p : Pl) (n : Nat) (hp : SzP n p) (hn : n ≤ 3000) (h0 : fd = some (false, f)) : exSs L1_law_due [some (false, f), none, none, none, none, some (false, placeD p), none] = if farB p = true then .ok (.rt false (.bool false) [none, none, none, none, none, none, none]) else .ok (.nx [some (false, f), none, none, none, none, none, none]) := by
  have i12 : Ib 4 12 := by decide
  have num : ∀ q : Rat, (12 * (q.den : Int) < absI q.num) = (12 < absR q) := fun q => by
    obtain ⟨a1, a2⟩ := absR_num q
    rw [Rat.lt_iff, ← a1, ← a2]
    simp
  have e := ev_lc (e := .var 6) (c := C1_law_due) (g := [6]) (own := [6]) (it := .sq (.var 5)) (m := [some (false, f), none, none, none, none, some (false, placeD p), none]) (srcs := []) fracD (fun q => decide (12 < absR q)) fracD [p.1, p.2] (by simp [placeD, srcsOf]) trivial (by simp) (by simp) (by simp [backE]) (by simp) fun q hq => ⟨_, rfl, ⟨false, by
    have hd : mulOk 12 (q.den : Int) := by
      simp only [List.mem_cons, List.not_mem_nil, or_false] at hq
      rcases hq with rfl | rfl
      · exact i12.ok hp.1.den (by omega)
      · exact i12.ok hp.2.den (by omega)
    have nq := num q
    unfold absI at nq
    simp [C1_law_due, hd, nq]⟩, by simp, fun _ => ⟨false, [some (false, f), none, none, none, none, some (false, placeD p), some (false, fracD q)], by simp, by simp⟩⟩
  have q := encL_ne ([p.1, p.2].filter fun q => decide (12 < absR q)) []
  have q' : cop .ne (.list (([p.1, p.2].filter fun q => decide (12 < absR q)).map fracD)) (.list []) = some (farB p) := by
    rw [show farB p = decide (([p.1, p.2].filter fun q => decide (12 < absR q)) ≠ []) by
      unfold farB nearB
      rw [Bool.not_not, Bool.eq_iff_iff, List.any_eq_true, decide_eq_true_eq, Ne, List.filter_eq_nil_iff]
      simp
      exact Decidable.or_iff_not_imp_left]
    exact q
  generalize ([p.1, p.2].filter fun q => decide (12 < absR q)).map fracD = fl at *
  cases hb : farB p <;> rw [hb] at q' <;> simp [L1_law_due, x_ss1, e, q']
theorem due_rows (rs : List Row) (n : Nat) (hr : SzRs n rs) (hn : n ≤ 400) : M_law_due [(false, fieldD rs)] = .ok (false, .bool (fieldB rs), [(false, fieldD rs)]) := by
  by_cases h1 : 3 ≤ rs.length ∧ rs.length ≤ 8
  · have g1 : (3 : Int) ≤ rs.length := by omega
    have g2 : (rs.length : Int) ≤ 8 := by omega
    have lf := len_field rs
    have i0 : isiD (fieldD rs) ["tuple"] = some true := rfl
    have e1 := ev_lc (e := .var 1) (c := C2_law_due) (g := [1]) (own := [1]) (it := .sq (.var 0)) (m := [some (false, fieldD rs), none, none, none, none, none, none]) (srcs := []) rowD (fun r => !decide (nz r)) rowD rs (by simp [fieldD, srcsOf]) trivial (by simp) (by simp) (by simp [backE]) (len_ok (by omega)) fun r _ => ⟨_, rfl, ⟨false, by
      have h := rwL_row r
      unfold RwL at h
      simp [C2_law_due, h]⟩, by simp, fun _ => ⟨false, [some (false, fieldD rs), some (false, rowD r), none, none, none, none, none], by simp, by simp⟩⟩
    have q := encL_ne (rs.filter fun r => !decide (nz r)) []
    have b1e : (rs.all fun r => decide (nz r)) = !decide ((rs.filter fun r => !decide (nz r)) ≠ []) := by
      rw [Bool.eq_iff_iff, List.all_eq_true, Bool.not_eq_true', decide_eq_false_iff_not, Classical.not_not, List.filter_eq_nil_iff]
      simp
    have q' : cop .ne (.list ((rs.filter fun r => !decide (nz r)).map rowD)) (.list []) = some (!(rs.all fun r => decide (nz r))) := by
      rw [b1e, Bool.not_not]
      exact q
    have f := for_first (it := .sq (.var 0)) (g := [2, 3, 4]) (b := L2_law_due) (srcs := []) (m := [some (false, fieldD rs), none, none, none, none, none, none]) (mr := [none, none, none, none, none, none, none]) (fr := false) (v := .bool false) rowD outB (xs := rs) (by simp [srcsOf, fieldD]) trivial fun r _ => ⟨_, rfl, by
      cases b1 : decide (30 < maxI (absI r.1) (absI r.2.1)) with
      | true =>
        have c1 := of_decide_eq_true b1
        unfold maxI absI at c1
        simp [L2_law_due, x_ss1, outB, b1, c1]
      | false =>
        have c1 := of_decide_eq_false b1
        unfold maxI absI at c1
        cases b2 : decide (1000 < absI r.2.2) with
        | true =>
          have c2 := of_decide_eq_true b2
          unfold absI at c2
          simp [L2_law_due, x_ss1, outB, b1, b2, c1, c2]
        | false =>
          have c2 := of_decide_eq_false b2
          unfold absI at c2
          simp [L2_law_due, x_ss1, outB, b1, b2, c1, c2]⟩
    have ne : rs ≠ [] := by rintro rfl; simp at h1
    have e2 := round_all_eq rs n hr ne (by omega)
    have e3 := law_corners_eq rs n hr hn (by omega)
    have cz := cnr_sz hr (by omega)
    have f2 := for_first (it := .sq (.call M_law_corners_v2 [false] (.cons (.var 0) .nil))) (g := [5]) (b := L1_law_due) (srcs := []) (m := [some (false, fieldD rs), none, none, none, none, none, none]) (mr := [none, none, none, none, none, none, none]) (fr := false) (v := .bool false) placeD farB (xs := cnr rs) (by
      generalize (cnr rs).map placeD = cs at *
      simp [srcsOf, e3]) trivial fun p hp => ⟨_, rfl, far_turn _ p (2 * n + 1) (cz.2 p hp) (by omega) rfl⟩
    have fa : (cnr rs).any farB = !((fc rs).all (nearB 12)) := by
      have m := (cnr_ok rs).1
      rw [Bool.eq_iff_iff, List.any_eq_true, Bool.not_eq_true', List.all_eq_false]
      unfold farB
      constructor
      · rintro ⟨x, hx, h⟩
        exact ⟨x, mem_fc.mpr ((m x).mp hx), by simpa using h⟩
      · rintro ⟨x, hx, h⟩
        exact ⟨x, (m x).mpr (mem_fc.mp hx), by simpa using h⟩
    rw [fa] at f2
    have h1' : decide (3 ≤ rs.length ∧ rs.length ≤ 8) = true := decide_eq_true h1
    have rb : roundB rs = !(rs.any (badR rs)) := by unfold roundB; rw [decide_eq_true ne, Bool.and_true]
    generalize (rs.filter fun r => !decide (nz r)).map rowD = fl at *
    unfold fieldB
    rw [rb, h1']
    cases b1 : rs.all (fun r => decide (nz r)) with
    | false =>
      rw [b1] at q'
      simp [M_law_due, mkM, flg, runFn, B_law_due, x_ss1, i0, lf, g1, g2, e1, q']
    | true =>
      rw [b1] at q'
      cases b2 : rs.any outB with
      | true =>
        rw [b2] at f
        simp at f
        simp [M_law_due, mkM, flg, runFn, B_law_due, x_ss1, i0, lf, g1, g2, e1, q', f]
      | false =>
        rw [b2] at f
        simp at f
        cases b3 : rs.any (badR rs) with
        | true =>
          rw [b3] at e2
          simp [M_law_due, mkM, flg, runFn, B_law_due, x_ss1, i0, lf, g1, g2, e1, q', f, e2]
        | false =>
          rw [b3] at e2
          cases b4 : (fc rs).all (nearB 12) with
          | true =>
            rw [b4] at f2
            simp at f2
            simp [M_law_due, mkM, flg, runFn, B_law_due, x_ss1, i0, lf, g1, g2, e1, q', f, e2, f2]
          | false =>
            rw [b4] at f2
            simp at f2
            simp [M_law_due, mkM, flg, runFn, B_law_due, x_ss1, i0, lf, g1, g2, e1, q', f, e2, f2]
  · have n1 : fieldB rs = false := by
      unfold fieldB
      rw [decide_eq_false h1]
      rfl
    rw [n1]
    exact due_len (by simpa using h1)
theorem both_rows {rs : List Row} {n : Nat} (hr : SzRs n rs) (hn : n ≤ 400) : Both (fieldD rs) := ⟨fieldB rs, is_field_eq rs n hr hn, due_rows rs n hr hn⟩
theorem cut_in (xs : List D) (t : Int) (h0 : 0 ≤ t) (h1 : t + 1 ≤ xs.length) : cutD xs (some t) (some (t + 1)) = (xs.drop t.toNat).take 1 := by
  have e1 : HT.sIx xs.length 0 (some t) = t.toNat := by
    show (if t < 0 then (t + (xs.length : Int)).toNat else min t.toNat xs.length) = _
    rw [if_neg (by omega)]
    omega
  have e2 : HT.sIx xs.length xs.length (some (t + 1)) = t.toNat + 1 := by
    show (if t + 1 < 0 then (t + 1 + (xs.length : Int)).toNat else min (t + 1).toNat xs.length) = _
    rw [if_neg (by omega)]
    omega
  unfold cutD
  rw [e1, e2]
  congr 1
  omega
/-- a field with a row exchanged for a row -/
theorem szr_small {a b c : Int} (ha : Bd 100 a) (hb : Bd 100 b) (hc : Bd 3000 c) : SzR 20 (a, b, c) := by
  unfold Bd at *
  exact ⟨by unfold Ib; simp only; omega, by unfold Ib; simp only; omega, by unfold Ib; simp only; omega⟩
theorem both_x {rs : List Row} (hf : Fld rs) (t : Nat) (r : Row) (hr : SzR 20 r) : Both (.tuple ((rs.map rowD).take t ++ rowD r :: (rs.map rowD).drop (t + 1))) := by
  have e : PyData.tuple ((rs.map rowD).take t ++ rowD r :: (rs.map rowD).drop (t + 1)) = fieldD (rs.take t ++ r :: rs.drop (t + 1)) := by
    simp [fieldD]
  rw [e]
  have hi := hf.hi
  refine both_rows (n := 20) ⟨by simp; omega, fun q hq => ?_⟩ (by decide)
  have sz := hf.sz.mono (show 10 ≤ 20 by decide)
  rw [List.mem_append, List.mem_cons] at hq
  rcases hq with h | h | h
  · exact sz.2 q (List.mem_of_mem_take h)
  · rw [h]; exact hr
  · exact sz.2 q (List.mem_of_mem_drop h)
/-- .. for something that is no row -/
theorem both_y {rs : List Row} (hf : Fld rs) (t : Nat) {o : D} (h1 : RwK o false) (h2 : RwL o false) (hs : SeqAt.shaped (.list [o]) = true) (hn : ∀ r, rowD r ≠ o) : Both (.tuple ((rs.map rowD).take t ++ o :: (rs.map rowD).drop (t + 1))) := by
  have cl : ∀ x, Decidable (x = o) := fun _ => Classical.propDecidable _
  have rw1 : ∀ x ∈ rs.map rowD, x ≠ o ∧ RwK x true ∧ RwL x true := fun x hx => by
    obtain ⟨r, hr, rfl⟩ := List.mem_map.mp hx
    have a := rwK_row r
    have b := rwL_row r
    rw [decide_eq_true (hf.row r hr).1] at a b
    exact ⟨hn r, a, b⟩
  refine both_ent (fun x => !decide (x = o)) (fun x hx => ?_) ?_ ⟨o, by simp, by simp⟩
  · show RwK x (!decide (x = o)) ∧ RwL x (!decide (x = o))
    rw [List.mem_append, List.mem_cons] at hx
    rcases hx with z | z | z
    · obtain ⟨a, b⟩ := rw1 x (List.mem_of_mem_take z)
      rw [decide_eq_false a]
      exact b
    · rw [decide_eq_true z, z]
      exact ⟨h1, h2⟩
    · obtain ⟨a, b⟩ := rw1 x (List.mem_of_mem_drop z)
      rw [decide_eq_false a]
      exact b
  · have f1 : ((rs.map rowD).take t).filter (fun x => !(!decide (x = o))) = [] := List.filter_eq_nil_iff.mpr fun x hx => by simpa using (rw1 x (List.mem_of_mem_take hx)).1
    have f2 : ((rs.map rowD).drop (t + 1)).filter (fun x => !(!decide (x = o))) = [] := List.filter_eq_nil_iff.mpr fun x hx => by simpa using (rw1 x (List.mem_of_mem_drop hx)).1
    rw [List.filter_append, f1, List.filter_cons_of_pos (by simp), f2]
    exact hs
theorem whole_none : M_is_whole [(false, .none)] = .ok (false, .bool false, [(false, .none)]) := by
  simp [M_is_whole, mkM, flg, runFn, B_is_whole, x_ss1, isiD, tyOf, isiB]
theorem whole_bool (b : Bool) : M_is_whole [(false, .bool b)] = .ok (false, .bool false, [(false, .bool b)]) := by
  simp [M_is_whole, mkM, flg, runFn, B_is_whole, x_ss1, isiD, tyOf, isiB]
theorem whole_tup (xs : List D) : M_is_whole [(false, .tuple xs)] = .ok (false, .bool false, [(false, .tuple xs)]) := by
  simp [M_is_whole, mkM, flg, runFn, B_is_whole, x_ss1, isiD, tyOf, isiB]
/-- the rows that are laid in -/
def odds (a b c : Int) : List D := [.tuple [.int a, .int b, .int (c + 40)], .tuple [.int a, .int b, .int (c + 900)], .tuple [.int a, .int b, .int 1001], .tuple [.int 31, .int b, .int c], .tuple [.int a, .int (-31), .int c], .tuple [.int 0, .int 0, .int c], .tuple [.int a, .int b], .list [.int a, .int b, .int c], .none,
  .tuple [.int a, .int b, .int c, .int 1], .tuple [.bool true, .int b, .int c], .tuple [.int a, .int b, .tuple [.int c, .int 1]], .tuple [.int 30, .int (-30), .int 0], .tuple [.int (-a), .int (-b), .int c], .tuple [.int a, .int b, .int (-1000)]]
theorem both_odd {rs : List Row} (hf : Fld rs) (t : Nat) {a b c : Int} (ha : Bd 30 a) (hb : Bd 30 b) (hc : Bd 1000 c) : ∀ o ∈ odds a b c, Both (.tuple ((rs.map rowD).take t ++ o :: (rs.map rowD).drop (t + 1))) := by
  unfold Bd at ha hb hc
  have row : ∀ x y z : Int, Bd 100 x → Bd 100 y → Bd 3000 z → Both (.tuple ((rs.map rowD).take t ++ .tuple [.int x, .int y, .int z] :: (rs.map rowD).drop (t + 1))) := fun x y z h1 h2 h3 => both_x hf t (x, y, z) (szr_small h1 h2 h3)
  intro o ho
  simp only [odds, List.mem_cons, List.not_mem_nil, or_false] at ho
  rcases ho with rfl | rfl | rfl | rfl | rfl | rfl | rfl | rfl | rfl | rfl | rfl | rfl | rfl | rfl | rfl
  · exact row _ _ _ (by unfold Bd; omega) (by unfold Bd; omega) (by unfold Bd; omega)
  · exact row _ _ _ (by unfold Bd; omega) (by unfold Bd; omega) (by unfold Bd; omega)
  · exact row _ _ _ (by unfold Bd; omega) (by unfold Bd; omega) (by unfold Bd; omega)
  · exact row _ _ _ (by unfold Bd; omega) (by unfold Bd; omega) (by unfold Bd; omega)
  · exact row _ _ _ (by unfold Bd; omega) (by unfold Bd; omega) (by unfold Bd; omega)
  · exact row _ _ _ (by unfold Bd; omega) (by unfold Bd; omega) (by unfold Bd; omega)
  · exact both_y hf t (rwK_len (by simp)) (rwL_len (by simp)) (pint_sh (n := 8) rfl (by decide)) (fun r z => by simp [rowD] at z)
  · exact both_y hf t (rwK_kind rfl) (rwL_kind rfl) (pint_sh (n := 8) rfl (by decide)) (fun r z => by simp [rowD] at z)
  · exact both_y hf t (rwK_kind rfl) (rwL_kind rfl) rfl (fun r z => by simp [rowD] at z)
  · exact both_y hf t (rwK_len (by simp)) (rwL_len (by simp)) (pint_sh (n := 8) rfl (by decide)) (fun r z => by simp [rowD] at z)
  · obtain ⟨h1, h2⟩ := row3 (whole_bool true) (is_whole_int b) (is_whole_int c) rfl rfl
    exact both_y hf t h1 h2 (by
      simp [SeqAt.shaped, PyData.canLay0, PyData.canLayAll0, PyData.depth, PyData.depthAll]) (fun r z => by simp [rowD] at z)
  · obtain ⟨h1, h2⟩ := row3 (is_whole_int a) (is_whole_int b) (whole_tup [.int c, .int 1]) rfl (pint_sh (n := 8) rfl (by decide))
    exact both_y hf t h1 h2 (pint_sh (n := 8) rfl (by decide)) (fun r z => by simp [rowD] at z)
  · exact row _ _ _ (by unfold Bd; omega) (by unfold Bd; omega) (by unfold Bd; omega)
  · exact row _ _ _ (by unfold Bd; omega) (by unfold Bd; omega) (by unfold Bd; omega)
  · exact row _ _ _ (by unfold Bd; omega) (by unfold Bd; omega) (by unfold Bd; omega)
theorem sub_rows {rs rs' : List Row} (hf : Fld rs) (hl : rs'.length ≤ 100) (h : ∀ r ∈ rs', r ∈ rs) : Both (fieldD rs') := by
  have sz := hf.sz.mono (show 10 ≤ 20 by decide)
  exact both_rows (n := 20) ⟨by omega, fun q hq => sz.2 q (h q hq)⟩ (by decide)
theorem both_row {r : Row} : Both (rowD r) := by
  refine both_ent (xs := [.int r.1, .int r.2.1, .int r.2.2]) (fun _ => false) (fun x hx => ?_) ?_ ⟨.int r.1, by simp, rfl⟩
  · simp only [List.mem_cons, List.not_mem_nil, or_false] at hx
    rcases hx with rfl | rfl | rfl <;> exact ⟨rwK_kind rfl, rwL_kind rfl⟩
  · rw [List.filter_eq_self.mpr (by simp)]
    exact pint_sh (n := 8) rfl (by decide)
theorem both_box (u : Int) (h : 0 ≤ u ∧ u < 2) : Both (.tuple [.tuple [.int (-1), .int 0, .int 12], .tuple [.int 1, .int 0, .int 12], .tuple [.int 0, .int (-1), .int 12], .tuple [.int 0, .int 5, .int (60 + u)]]) := by
  have e : PyData.tuple [.tuple [.int (-1), .int 0, .int 12], .tuple [.int 1, .int 0, .int 12], .tuple [.int 0, .int (-1), .int 12], .tuple [.int 0, .int 5, .int (60 + u)]] = fieldD [(-1, 0, 12), (1, 0, 12), (0, -1, 12), (0, 5, 60 + u)] := rfl
  rw [e]
  refine both_rows (n := 20) ⟨by simp, fun q hq => ?_⟩ (by decide)
  simp only [List.mem_cons, List.not_mem_nil, or_false] at hq
  rcases hq with rfl | rfl | rfl | rfl
  · exact ⟨by decide, by decide, by decide⟩
  · exact ⟨by decide, by decide, by decide⟩
  · exact ⟨by decide, by decide, by decide⟩
  · exact ⟨by show Ib 20 0; decide, by show Ib 20 5; decide, by show Ib 20 _; unfold Ib; simp only; omega⟩
/-- a thing bent -/
theorem bent_eq (st : Rc.St) {rs : List Row} (hf : Fld rs) : ∃ d st', M_law_bent [(true, stD st), (false, fieldD rs)] = .ok (false, d, [(true, stD st'), (false, fieldD rs)]) ∧ Both d := by
  have lo := hf.lo
  have hi := hf.hi
  have lf := len_field rs
  have t1 := take_eq st rs.length (by omega) (by omega)
  have c1 := tk_bd st rs.length (by omega)
  obtain ⟨⟨a, b, c⟩, hr, ir, _⟩ := idx_field rs _ c1.1 c1.2
  obtain ⟨r0, hr0, ir0, _⟩ := idx_field rs 0 (by decide) (by omega)
  obtain ⟨_, ba, bb, bc⟩ := hf.row _ hr
  have t2 := take_eq (tkS st rs.length) 15 (by decide) (by decide)
  have c2 := tk_bd (tkS st rs.length) 15 (by decide)
  have t3 := take_eq (tkS (tkS st rs.length) 15) 2 (by decide) (by decide)
  have c3 := tk_bd (tkS (tkS st rs.length) 15) 2 (by decide)
  have t4 := take_eq (tkS (tkS (tkS st rs.length) 15) 2) 16 (by decide) (by decide)
  have c4 := tk_bd (tkS (tkS (tkS st rs.length) 15) 2) 16 (by decide)
  obtain ⟨o, ho, eo⟩ := at_mem (odds a b c) (tkV (tkS st rs.length) 15) c2.1 (by simp [odds]; omega)
  have n1 := both_odd hf (tkV st rs.length).toNat ba bb bc o ho
  have cf := cut_from (rs.map rowD) (tkV st rs.length + 1) (by omega) (by simp; omega)
  rw [show (tkV st rs.length + 1).toNat = (tkV st rs.length).toNat + 1 by omega] at cf
  have cf0 := cut_from (rs.map rowD) (tkV st rs.length) (by omega) (by simp; omega)
  have ct := cut_to (rs.map rowD) (tkV st rs.length) (by omega) (by simp; omega)
  have ci := cut_in (rs.map rowD) (tkV st rs.length) (by omega) (by simp; omega)
  have c22 := cut_to' (rs.map rowD) 2 (by decide)
  have m3 : bop .mul (.tuple (rs.map rowD)) (.int 3) = some (false, .tuple (List.replicate 3 (rs.map rowD)).flatten) := by
    rw [b_mulT, if_pos ⟨by intro z; rw [List.map_eq_nil_iff] at z; subst z; simp at lo, by decide, by decide, by simp; omega⟩]
    rfl
  have c9 := cut_to' (List.replicate 3 (rs.map rowD)).flatten 9 (by decide)
  have n3 : Both (.tuple ((rs.map rowD).take (tkV st rs.length).toNat ++ (rs.map rowD).drop ((tkV st rs.length).toNat + 1))) := by
    have := sub_rows (rs' := rs.take (tkV st rs.length).toNat ++ rs.drop ((tkV st rs.length).toNat + 1)) hf (by simp; omega) (fun r h => by
      rcases List.mem_append.mp h with z | z
      · exact List.mem_of_mem_take z
      · exact List.mem_of_mem_drop z)
    simpa [fieldD] using this
  have n4 : Both (.tuple ((rs.map rowD).take (2 : Int).toNat)) := both_len (by rw [List.length_take]; omega)
  have n5 : Both (.list (rs.map rowD)) := both_kind rfl
  have n9 : Both (.tuple []) := both_len (by simp)
  have n10 : Both (rowD r0) := both_row
  have n11 : Both (.tuple ((List.replicate 3 (rs.map rowD)).flatten.take (9 : Int).toNat)) := both_len (by simp; omega)
  have n12 : Both (.tuple (rs.map rowD ++ [rowD r0])) := by
    have := sub_rows (rs' := rs ++ [r0]) hf (by simp; omega) (fun r h => by
      rcases List.mem_append.mp h with z | z
      · exact z
      · simp only [List.mem_cons, List.not_mem_nil, or_false] at z
        rw [z]; exact hr0)
    simpa [fieldD] using this
  have n14 : Both (.tuple [.tuple (rs.map rowD)]) := both_len (by simp)
  have n15 : Both (.tuple ((rs.map rowD).take (tkV st rs.length).toNat ++ ((rs.map rowD).drop (tkV st rs.length).toNat).take 1 ++ (rs.map rowD).drop (tkV st rs.length).toNat)) := by
    have := sub_rows (rs' := rs.take (tkV st rs.length).toNat ++ (rs.drop (tkV st rs.length).toNat).take 1 ++ rs.drop (tkV st rs.length).toNat) hf (by simp; omega) (fun r h => by
      rcases List.mem_append.mp h with z | z
      · rcases List.mem_append.mp z with z | z
        · exact List.mem_of_mem_take z
        · exact List.mem_of_mem_drop (List.mem_of_mem_take z)
      · exact List.mem_of_mem_drop z)
    simpa [fieldD] using this
  have n16 := both_box (tkV (tkS (tkS st rs.length) 15) 2) c3
  have l1 : lenOk (((rs.map rowD).take (tkV st rs.length).toNat).length + 1) := len_ok (by simp; omega)
  have l2 : lenOk (((rs.map rowD).take (tkV st rs.length).toNat).length + 1 + ((rs.map rowD).drop ((tkV st rs.length).toNat + 1)).length) := len_ok (by simp; omega)
  have l3 : lenOk (((rs.map rowD).take (tkV st rs.length).toNat).length + ((rs.map rowD).drop ((tkV st rs.length).toNat + 1)).length) := len_ok (by simp; omega)
  have l4 : lenOk ((rs.map rowD).length + 1) := len_ok (by simp; omega)
  have l5 : lenOk (((rs.map rowD).take (tkV st rs.length).toNat).length + (((rs.map rowD).drop (tkV st rs.length).toNat).take 1).length) := len_ok (by simp; omega)
  have l6 : lenOk (((rs.map rowD).take (tkV st rs.length).toNat).length + (((rs.map rowD).drop (tkV st rs.length).toNat).take 1).length + ((rs.map rowD).drop (tkV st rs.length).toNat).length) := len_ok (by simp; omega)
  have l15 : lenOk 15 := by decide
  have l16 : lenOk 16 := by decide
  have fe : fieldD rs = .tuple (rs.map rowD) := rfl
  have re : rowD (a, b, c) = .tuple [.int a, .int b, .int c] := rfl
  rw [re, fe] at ir
  rw [fe] at ir0 lf ⊢
  simp only [odds] at eo
  generalize rs.map rowD = xs at *
  generalize xs.take (tkV st rs.length).toNat = x1 at *
  generalize xs.drop ((tkV st rs.length).toNat + 1) = x2 at *
  generalize xs.drop (tkV st rs.length).toNat = x3 at *
  generalize x3.take 1 = x4 at *
  generalize xs.take (2 : Int).toNat = x5 at *
  generalize (List.replicate 3 xs).flatten = x6 at *
  generalize x6.take (9 : Int).toNat = x7 at *
  generalize rowD r0 = w0 at *
  obtain ⟨d, hd, ed⟩ := at_mem [.tuple (x1 ++ o :: x2), .tuple (x1 ++ o :: x2), .tuple (x1 ++ o :: x2), .tuple (x1 ++ x2), .tuple x5, .list xs, .none, .dict [], .tuple [], w0, .tuple x7, .tuple (xs ++ [w0]), .str (Str.ofString "0 0 0"), .tuple [.tuple xs], .tuple (x1 ++ (x4 ++ x3)),
    .tuple [.tuple [.int (-1), .int 0, .int 12], .tuple [.int 1, .int 0, .int 12], .tuple [.int 0, .int (-1), .int 12], .tuple [.int 0, .int 5, .int (60 + tkV (tkS (tkS st rs.length) 15) 2)]]] (tkV (tkS (tkS (tkS st rs.length) 15) 2) 16) c4.1 (by simp; omega)
  refine ⟨d, tkS (tkS (tkS (tkS st rs.length) 15) 2) 16, ?_, ?_⟩
  · clear hd n1 n3 n4 n5 n9 n10 n11 n12 n14 n15 n16
    simp [M_law_bent, mkM, flg, runFn, B_law_bent, x_ss1, bindT, -b_mulT, -i_tup, -l_tup, lf, t1, ir, t2, t3, t4, ir0, eo, partI, ct, cf, cf0, ci, c22, m3, c9, l1, l2, l3, l4, l5, l6, l15, l16, mthF, ed]


  · rw [List.append_assoc] at n15
    simp only [List.mem_cons, List.not_mem_nil, or_false] at hd
    rcases hd with rfl | rfl | rfl | rfl | rfl | rfl | rfl | rfl | rfl | rfl | rfl | rfl | rfl | rfl | rfl | rfl
    · exact n1
    · exact n1
    · exact n1
    · exact n3
    · exact n4
    · exact n5
    · exact both_kind rfl
    · exact both_kind rfl
    · exact n9
    · exact n10
    · exact n11
    · exact n12
    · exact both_kind rfl
    · exact n14
    · exact n15
    · exact n16
theorem ask (scr : D) (st : Rc.St) {rs : List Row} (hf : Fld rs) (j : Int) : ∃ st', exSs L1_law [some (false, scr), none, some (true, stD st), some (false, fieldD rs), some (false, .int j), none, none] = .ok (.nx [some (false, scr), none, some (true, stD st'), some (false, fieldD rs), none, none, none]) := by
  obtain ⟨d, st', e, b, h1, h2⟩ := bent_eq st hf
  refine ⟨st', ?_⟩
  have i : isiD (.bool b) ["bool"] = some true := by cases b <;> rfl
  cases b <;> simp [L1_law, x_ss1, e, h1, h2, i]
theorem turn (ns : List Int) (k : Int) (hk : 0 ≤ k) :
    exSs L2_law [some (false, scrD ns), some (false, .int k), none, none, none, none, none] = .ok (.nx [some (false, scrD ns), none, none, none, none, none, none]) := by
  have e0 := state_eq ns k hk
  generalize mkSt (ns.getD k.toNat 0) = a at e0
  obtain ⟨rs, s1, e1, hd⟩ := A.field_eq a
  have hf := hd.f
  have e2 := is_field_eq rs 10 hf.sz (by decide)
  rw [fieldB_iff.mpr hf] at e2
  have i5 : smallI 5 := by decide
  obtain ⟨s3, q1, _⟩ := for_is (it := .rg (.con (.int 5))) (g := [4]) (b := L1_law) (srcs := []) (fun s : Rc.St => [some (false, scrD ns), none, some (true, stD s), some (false, fieldD rs), none, none, none]) PyData.int (fun _ _ => True) (xs := rngI 0 5) (s0 := s1)
    (m0 := [some (false, scrD ns), none, some (true, stD s1), some (false, fieldD rs), none, none, none]) (by simp [i5, rngD_eq]) (fun _ _ _ => trivial) trivial (fun x l s _ => by
      obtain ⟨st', e⟩ := ask (scrD ns) s hf x
      exact ⟨_, st', rfl, e, trivial⟩)
  simp [L2_law, x_ss1 (.asg _ _), x_ss1 (.blk _ _ _), x_ss1 (.sif _ _ _), x_ss1 (.sfor _ _ _), e0, e1, e2, q1]
theorem tri : fieldB [(-1, -1, 0), (1, 0, 12), (0, 1, 0)] = true := by decide +kernel
theorem says : Says M_law := by
  intro ns _ _
  have e := law_turns (L := L2_law) (m := [some (false, scrD ns), none, none, none, none, none, none]) (if (if 8 < (ns.length : Int) then 8 else (ns.length : Int)) > 1 then (if 8 < (ns.length : Int) then 8 else (ns.length : Int)) else 1) fun k hk => turn ns k hk
  have sm := turns_small ns.length 8 (by decide)
  have e2 := is_field_eq [(-1, -1, 0), (1, 0, 12), (0, 1, 0)] 10 (fieldB_iff.mp tri).sz (by decide)
  rw [tri] at e2
  simp only [fieldD, rowD, List.map_cons, List.map_nil] at e2
  simp only [M_law, mkM, flg]
  simp [runFn, B_law, x_ss1 (.blk _ _ _), x_ss1 (.sfor _ _ _), x_ss1 (.ret _), x_sfor, e, sm, e2]
end K03

set_option maxRecDepth 100000
set_option maxHeartbeats 4000000
namespace K03
open PySem L2 Rc
def top (i : Nat) : Stmt := PySem.Challenge.pw_roundcuts_k03_fields_known.main.body.getD i (.Pass ⟨0, 0, 0, 0⟩)
def CNS : List (Str × D) := [("MOST_PLACE", (.int 12)), ("LEAST_ROWS", (.int 3)), ("MOST_ROWS", (.int 8)), ("MOST_STEP", (.int 30)), ("MOST_SIDE", (.int 1000))]
def XCS : List Str := []
abbrev s_law_cell_at : Stmt := top 25
def P_law_cell_at : List Str := ["_law_script", "_law_k"]
theorem sc_law_cell_at : FnScope N_law_cell_at P_law_cell_at (defScope s_law_cell_at) := ⟨rfl, rfl, rfl, by decide +kernel, rfl, by decide +kernel, by decide +kernel⟩
def K_law_cell_at : List (Nat × List Nat × List Nat) := []
theorem t_law_cell_at : trSs 60 ⟨N_law_cell_at, defScope s_law_cell_at, [], CNS, K_law_cell_at, none, none⟩ (pmOf 0 [false, false]) XCS (defBody s_law_cell_at) = some (B_law_cell_at) := by with_unfolding_all rfl
abbrev s_law_state : Stmt := top 26
def P_law_state : List Str := ["_law_script", "_law_k"]
theorem sc_law_state : FnScope N_law_state P_law_state (defScope s_law_state) := ⟨rfl, rfl, rfl, by decide +kernel, rfl, by decide +kernel, by decide +kernel⟩
def K_law_state : List (Nat × List Nat × List Nat) := []
theorem t_law_state : trSs 60 ⟨N_law_state, defScope s_law_state, [("_law_cell_at", (⟨2, M_law_cell_at, [false, false]⟩ : FnE))], CNS, K_law_state, none, none⟩ (pmOf 0 [false, false]) XCS (defBody s_law_state) = some (B_law_state) := by with_unfolding_all rfl
abbrev s_law_take : Stmt := top 27
def P_law_take : List Str := ["_law_state_here", "_law_many"]
theorem sc_law_take : FnScope N_law_take P_law_take (defScope s_law_take) := ⟨rfl, rfl, rfl, by decide +kernel, rfl, by decide +kernel, by decide +kernel⟩
def K_law_take : List (Nat × List Nat × List Nat) := [(78, [], [2])]
theorem t_law_take : trSs 60 ⟨N_law_take, defScope s_law_take, [], CNS, K_law_take, none, none⟩ (pmOf 0 [true, false]) XCS (defBody s_law_take) = some (B_law_take) := by with_unfolding_all rfl
abbrev s_law_field : Stmt := top 28
def P_law_field : List Str := ["_law_state_here"]
theorem sc_law_field : FnScope N_law_field P_law_field (defScope s_law_field) := ⟨rfl, rfl, rfl, by decide +kernel, rfl, by decide +kernel, by decide +kernel⟩
def K_law_field : List (Nat × List Nat × List Nat) := [(89, [], [3, 4, 5, 6, 7]), (90, [3, 4, 5, 6, 7, 8, 9, 10, 11, 12], []), (93, [3, 4, 5, 6, 7, 8, 9, 10, 11, 12], []), (101, [], [8]), (104, [], [9])]
theorem t_law_field : trSs 60 ⟨N_law_field, defScope s_law_field, [("_law_take", (⟨2, M_law_take, [true, false]⟩ : FnE))], CNS, K_law_field, none, none⟩ (pmOf 0 [true]) XCS (defBody s_law_field) = some (B_law_field) := by with_unfolding_all rfl
abbrev s_go_round : Stmt := top 12
def P_go_round : List Str := ["rows"]
theorem sc_go_round : FnScope N_go_round P_go_round (defScope s_go_round) := ⟨rfl, rfl, rfl, by decide +kernel, rfl, by decide +kernel, by decide +kernel⟩
def K_go_round : List (Nat × List Nat × List Nat) := [(31, [1, 2, 3, 4, 5, 6], []), (32, [3, 4, 5, 6], [1, 2]), (34, [], [0, 1, 2, 3, 4, 5, 6])]
theorem t_go_round : trSs 60 ⟨N_go_round, defScope s_go_round, [], CNS, K_go_round, none, none⟩ (pmOf 0 [false]) XCS (defBody s_go_round) = some (B_go_round) := by with_unfolding_all rfl
abbrev s_is_whole : Stmt := top 1
def P_is_whole : List Str := ["thing"]
theorem sc_is_whole : FnScope N_is_whole P_is_whole (defScope s_is_whole) := ⟨rfl, rfl, rfl, by decide +kernel, rfl, by decide +kernel, by decide +kernel⟩
def K_is_whole : List (Nat × List Nat × List Nat) := []
theorem t_is_whole : trSs 60 ⟨N_is_whole, defScope s_is_whole, [], CNS, K_is_whole, none, none⟩ (pmOf 0 [false]) XCS (defBody s_is_whole) = some (B_is_whole) := by with_unfolding_all rfl
abbrev s_is_row : Stmt := top 8
def P_is_row : List Str := ["thing"]
theorem sc_is_row : FnScope N_is_row P_is_row (defScope s_is_row) := ⟨rfl, rfl, rfl, by decide +kernel, rfl, by decide +kernel, by decide +kernel⟩
def K_is_row : List (Nat × List Nat × List Nat) := []
theorem t_is_row : trSs 60 ⟨N_is_row, defScope s_is_row, [("is_whole", (⟨1, M_is_whole, [false]⟩ : FnE))], CNS, K_is_row, none, none⟩ (pmOf 0 [false]) XCS (defBody s_is_row) = some (B_is_row) := by with_unfolding_all rfl
abbrev s_is_less : Stmt := top 6
def P_is_less : List Str := ["one", "other"]
theorem sc_is_less : FnScope N_is_less P_is_less (defScope s_is_less) := ⟨rfl, rfl, rfl, by decide +kernel, rfl, by decide +kernel, by decide +kernel⟩
def K_is_less : List (Nat × List Nat × List Nat) := []
theorem t_is_less : trSs 60 ⟨N_is_less, defScope s_is_less, [], CNS, K_is_less, none, none⟩ (pmOf 0 [false, false]) XCS (defBody s_is_less) = some (B_is_less) := by with_unfolding_all rfl
abbrev s_is_near : Stmt := top 23
def P_is_near : List Str := ["place"]
theorem sc_is_near : FnScope N_is_near P_is_near (defScope s_is_near) := ⟨rfl, rfl, rfl, by decide +kernel, rfl, by decide +kernel, by decide +kernel⟩
def K_is_near : List (Nat × List Nat × List Nat) := []
theorem t_is_near : trSs 60 ⟨N_is_near, defScope s_is_near, [("is_less", (⟨2, M_is_less, [false, false]⟩ : FnE))], CNS, K_is_near, none, none⟩ (pmOf 0 [false]) XCS (defBody s_is_near) = some (B_is_near) := by with_unfolding_all rfl
abbrev s_twist : Stmt := top 11
def P_twist : List Str := ["one", "other"]
theorem sc_twist : FnScope N_twist P_twist (defScope s_twist) := ⟨rfl, rfl, rfl, by decide +kernel, rfl, by decide +kernel, by decide +kernel⟩
def K_twist : List (Nat × List Nat × List Nat) := []
theorem t_twist : trSs 60 ⟨N_twist, defScope s_twist, [], CNS, K_twist, none, none⟩ (pmOf 0 [false, false]) XCS (defBody s_twist) = some (B_twist) := by with_unfolding_all rfl
abbrev s_divisor : Stmt := top 2
def P_divisor : List Str := ["one", "other"]
theorem sc_divisor : FnScope N_divisor P_divisor (defScope s_divisor) := ⟨rfl, rfl, rfl, by decide +kernel, rfl, by decide +kernel, by decide +kernel⟩
def K_divisor : List (Nat × List Nat × List Nat) := [(5, [], [1])]
theorem t_divisor : trSs 60 ⟨N_divisor, defScope s_divisor, [], CNS, K_divisor, none, none⟩ (pmOf 0 [false, false]) XCS (defBody s_divisor) = some (B_divisor) := by with_unfolding_all rfl
abbrev s_ratio : Stmt := top 3
def P_ratio : List Str := ["top", "bottom"]
theorem sc_ratio : FnScope N_ratio P_ratio (defScope s_ratio) := ⟨rfl, rfl, rfl, by decide +kernel, rfl, by decide +kernel, by decide +kernel⟩
def K_ratio : List (Nat × List Nat × List Nat) := []
theorem t_ratio : trSs 60 ⟨N_ratio, defScope s_ratio, [("divisor", (⟨2, M_divisor, [false, false]⟩ : FnE))], CNS, K_ratio, none, none⟩ (pmOf 0 [false, false]) XCS (defBody s_ratio) = some (B_ratio) := by with_unfolding_all rfl
abbrev s_crossing : Stmt := top 14
def P_crossing : List Str := ["one", "other"]
theorem sc_crossing : FnScope N_crossing P_crossing (defScope s_crossing) := ⟨rfl, rfl, rfl, by decide +kernel, rfl, by decide +kernel, by decide +kernel⟩
def K_crossing : List (Nat × List Nat × List Nat) := []
theorem t_crossing : trSs 60 ⟨N_crossing, defScope s_crossing, [("twist", (⟨2, M_twist, [false, false]⟩ : FnE)), ("ratio", (⟨2, M_ratio, [false, false]⟩ : FnE))], CNS, K_crossing, none, none⟩ (pmOf 0 [false, false]) XCS (defBody s_crossing) = some (B_crossing) := by with_unfolding_all rfl
abbrev s_plus : Stmt := top 4
def P_plus : List Str := ["one", "other"]
theorem sc_plus : FnScope N_plus P_plus (defScope s_plus) := ⟨rfl, rfl, rfl, by decide +kernel, rfl, by decide +kernel, by decide +kernel⟩
def K_plus : List (Nat × List Nat × List Nat) := []
theorem t_plus : trSs 60 ⟨N_plus, defScope s_plus, [("ratio", (⟨2, M_ratio, [false, false]⟩ : FnE))], CNS, K_plus, none, none⟩ (pmOf 0 [false, false]) XCS (defBody s_plus) = some (B_plus) := by with_unfolding_all rfl
abbrev s_times : Stmt := top 5
def P_times : List Str := ["one", "number"]
theorem sc_times : FnScope N_times P_times (defScope s_times) := ⟨rfl, rfl, rfl, by decide +kernel, rfl, by decide +kernel, by decide +kernel⟩
def K_times : List (Nat × List Nat × List Nat) := []
theorem t_times : trSs 60 ⟨N_times, defScope s_times, [("ratio", (⟨2, M_ratio, [false, false]⟩ : FnE))], CNS, K_times, none, none⟩ (pmOf 0 [false, false]) XCS (defBody s_times) = some (B_times) := by with_unfolding_all rfl
abbrev s_value : Stmt := top 9
def P_value : List Str := ["row", "place"]
theorem sc_value : FnScope N_value P_value (defScope s_value) := ⟨rfl, rfl, rfl, by decide +kernel, rfl, by decide +kernel, by decide +kernel⟩
def K_value : List (Nat × List Nat × List Nat) := []
theorem t_value : trSs 60 ⟨N_value, defScope s_value, [("plus", (⟨2, M_plus, [false, false]⟩ : FnE)), ("times", (⟨2, M_times, [false, false]⟩ : FnE))], CNS, K_value, none, none⟩ (pmOf 0 [false, false]) XCS (defBody s_value) = some (B_value) := by with_unfolding_all rfl
abbrev s_keeps : Stmt := top 10
def P_keeps : List Str := ["row", "place"]
theorem sc_keeps : FnScope N_keeps P_keeps (defScope s_keeps) := ⟨rfl, rfl, rfl, by decide +kernel, rfl, by decide +kernel, by decide +kernel⟩
def K_keeps : List (Nat × List Nat × List Nat) := []
theorem t_keeps : trSs 60 ⟨N_keeps, defScope s_keeps, [("is_less", (⟨2, M_is_less, [false, false]⟩ : FnE)), ("value", (⟨2, M_value, [false, false]⟩ : FnE))], CNS, K_keeps, none, none⟩ (pmOf 0 [false, false]) XCS (defBody s_keeps) = some (B_keeps) := by with_unfolding_all rfl
abbrev s_found_corners : Stmt := top 15
def P_found_corners : List Str := ["rows"]
theorem sc_found_corners : FnScope N_found_corners P_found_corners (defScope s_found_corners) := ⟨rfl, rfl, rfl, by decide +kernel, rfl, by decide +kernel, by decide +kernel⟩
def K_found_corners : List (Nat × List Nat × List Nat) := [(43, [2, 3, 4, 5, 6], [0]), (44, [4, 5, 6], [2, 3]), (45, [], [5])]
theorem t_found_corners : trSs 60 ⟨N_found_corners, defScope s_found_corners, [("twist", (⟨2, M_twist, [false, false]⟩ : FnE)), ("crossing", (⟨2, M_crossing, [false, false]⟩ : FnE)), ("keeps", (⟨2, M_keeps, [false, false]⟩ : FnE))], CNS, K_found_corners, none, none⟩ (pmOf 0 [false]) XCS (defBody s_found_corners) = some (B_found_corners) := by with_unfolding_all rfl
abbrev s_is_field : Stmt := top 22
def P_is_field : List Str := ["thing"]
theorem sc_is_field : FnScope N_is_field P_is_field (defScope s_is_field) := ⟨rfl, rfl, rfl, by decide +kernel, rfl, by decide +kernel, by decide +kernel⟩
def K_is_field : List (Nat × List Nat × List Nat) := [(61, [1, 2, 3, 4, 5], []), (63, [], [0, 1, 2, 3, 4, 5])]
theorem t_is_field : trSs 60 ⟨N_is_field, defScope s_is_field, [("go_round", (⟨1, M_go_round, [false]⟩ : FnE)), ("is_row", (⟨1, M_is_row, [false]⟩ : FnE)), ("is_near", (⟨1, M_is_near, [false]⟩ : FnE)), ("found_corners", (⟨1, M_found_corners, [false]⟩ : FnE))], CNS, K_is_field, none, none⟩ (pmOf 0 [false]) XCS (defBody s_is_field) = some (B_is_field) := by with_unfolding_all rfl
abbrev s_law_bent : Stmt := top 45
def P_law_bent : List Str := ["_law_state_here", "_law_field_here"]
theorem sc_law_bent : FnScope N_law_bent P_law_bent (defScope s_law_bent) := ⟨rfl, rfl, rfl, by decide +kernel, rfl, by decide +kernel, by decide +kernel⟩
def K_law_bent : List (Nat × List Nat × List Nat) := []
theorem t_law_bent : trSs 60 ⟨N_law_bent, defScope s_law_bent, [("_law_take", (⟨2, M_law_take, [true, false]⟩ : FnE))], CNS, K_law_bent, none, none⟩ (pmOf 0 [true, false]) XCS (defBody s_law_bent) = some (B_law_bent) := by with_unfolding_all rfl
abbrev s_law_less : Stmt := top 34
def P_law_less : List Str := ["_law_one", "_law_other"]
theorem sc_law_less : FnScope N_law_less P_law_less (defScope s_law_less) := ⟨rfl, rfl, rfl, by decide +kernel, rfl, by decide +kernel, by decide +kernel⟩
def K_law_less : List (Nat × List Nat × List Nat) := []
theorem t_law_less : trSs 60 ⟨N_law_less, defScope s_law_less, [], CNS, K_law_less, none, none⟩ (pmOf 0 [false, false]) XCS (defBody s_law_less) = some (B_law_less) := by with_unfolding_all rfl
abbrev s_law_divisor : Stmt := top 29
def P_law_divisor : List Str := ["_law_one", "_law_other"]
theorem sc_law_divisor : FnScope N_law_divisor P_law_divisor (defScope s_law_divisor) := ⟨rfl, rfl, rfl, by decide +kernel, rfl, by decide +kernel, by decide +kernel⟩
def K_law_divisor : List (Nat × List Nat × List Nat) := [(112, [], [1])]
theorem t_law_divisor : trSs 60 ⟨N_law_divisor, defScope s_law_divisor, [], CNS, K_law_divisor, none, none⟩ (pmOf 0 [false, false]) XCS (defBody s_law_divisor) = some (B_law_divisor) := by with_unfolding_all rfl
abbrev s_law_low : Stmt := top 30
def P_law_low : List Str := ["_law_top", "_law_bottom"]
theorem sc_law_low : FnScope N_law_low P_law_low (defScope s_law_low) := ⟨rfl, rfl, rfl, by decide +kernel, rfl, by decide +kernel, by decide +kernel⟩
def K_law_low : List (Nat × List Nat × List Nat) := []
theorem t_law_low : trSs 60 ⟨N_law_low, defScope s_law_low, [("_law_divisor", (⟨2, M_law_divisor, [false, false]⟩ : FnE))], CNS, K_law_low, none, none⟩ (pmOf 0 [false, false]) XCS (defBody s_law_low) = some (B_law_low) := by with_unfolding_all rfl
abbrev s_law_times : Stmt := top 36
def P_law_times : List Str := ["_law_one", "_law_other"]
theorem sc_law_times : FnScope N_law_times P_law_times (defScope s_law_times) := ⟨rfl, rfl, rfl, by decide +kernel, rfl, by decide +kernel, by decide +kernel⟩
def K_law_times : List (Nat × List Nat × List Nat) := []
theorem t_law_times : trSs 60 ⟨N_law_times, defScope s_law_times, [("_law_low", (⟨2, M_law_low, [false, false]⟩ : FnE))], CNS, K_law_times, none, none⟩ (pmOf 0 [false, false]) XCS (defBody s_law_times) = some (B_law_times) := by with_unfolding_all rfl
abbrev s_law_minus : Stmt := top 35
def P_law_minus : List Str := ["_law_one", "_law_other"]
theorem sc_law_minus : FnScope N_law_minus P_law_minus (defScope s_law_minus) := ⟨rfl, rfl, rfl, by decide +kernel, rfl, by decide +kernel, by decide +kernel⟩
def K_law_minus : List (Nat × List Nat × List Nat) := []
theorem t_law_minus : trSs 60 ⟨N_law_minus, defScope s_law_minus, [("_law_low", (⟨2, M_law_low, [false, false]⟩ : FnE))], CNS, K_law_minus, none, none⟩ (pmOf 0 [false, false]) XCS (defBody s_law_minus) = some (B_law_minus) := by with_unfolding_all rfl
abbrev s_law_cross : Stmt := top 37
def P_law_cross : List Str := ["_law_one", "_law_other", "_law_third"]
theorem sc_law_cross : FnScope N_law_cross P_law_cross (defScope s_law_cross) := ⟨rfl, rfl, rfl, by decide +kernel, rfl, by decide +kernel, by decide +kernel⟩
def K_law_cross : List (Nat × List Nat × List Nat) := []
theorem t_law_cross : trSs 60 ⟨N_law_cross, defScope s_law_cross, [("_law_times", (⟨2, M_law_times, [false, false]⟩ : FnE)), ("_law_minus", (⟨2, M_law_minus, [false, false]⟩ : FnE))], CNS, K_law_cross, none, none⟩ (pmOf 0 [false, false, false]) XCS (defBody s_law_cross) = some (B_law_cross) := by with_unfolding_all rfl
abbrev s_law_all_left : Stmt := top 39
def P_law_all_left : List Str := ["_law_here", "_law_place", "_law_some"]
theorem sc_law_all_left : FnScope N_law_all_left P_law_all_left (defScope s_law_all_left) := ⟨rfl, rfl, rfl, by decide +kernel, rfl, by decide +kernel, by decide +kernel⟩
def K_law_all_left : List (Nat × List Nat × List Nat) := []
theorem t_law_all_left : trSs 60 ⟨N_law_all_left, defScope s_law_all_left, [("_law_cross", (⟨3, M_law_cross, [false, false, false]⟩ : FnE))], CNS, K_law_all_left, none, none⟩ (pmOf 0 [false, false, false]) XCS (defBody s_law_all_left) = some (B_law_all_left) := by with_unfolding_all rfl
abbrev s_law_ring : Stmt := top 38
def P_law_ring : List Str := ["_law_places"]
theorem sc_law_ring : FnScope N_law_ring P_law_ring (defScope s_law_ring) := ⟨rfl, rfl, rfl, by decide +kernel, rfl, by decide +kernel, by decide +kernel⟩
def K_law_ring : List (Nat × List Nat × List Nat) := [(143, [2, 3, 4, 5, 6, 7], [0]), (151, [0, 2, 3, 4, 6, 7], [1])]
theorem t_law_ring : trSs 60 ⟨N_law_ring, defScope s_law_ring, [("_law_less", (⟨2, M_law_less, [false, false]⟩ : FnE)), ("_law_all_left", (⟨3, M_law_all_left, [false, false, false]⟩ : FnE))], CNS, K_law_ring, none, none⟩ (pmOf 0 [false]) XCS (defBody s_law_ring) = some (B_law_ring_v2) := by with_unfolding_all rfl
abbrev s_law_crossing : Stmt := top 31
def P_law_crossing : List Str := ["_law_one", "_law_other"]
theorem sc_law_crossing : FnScope N_law_crossing P_law_crossing (defScope s_law_crossing) := ⟨rfl, rfl, rfl, by decide +kernel, rfl, by decide +kernel, by decide +kernel⟩
def K_law_crossing : List (Nat × List Nat × List Nat) := []
theorem t_law_crossing : trSs 60 ⟨N_law_crossing, defScope s_law_crossing, [("_law_low", (⟨2, M_law_low, [false, false]⟩ : FnE))], CNS, K_law_crossing, none, none⟩ (pmOf 0 [false, false]) XCS (defBody s_law_crossing) = some (B_law_crossing) := by with_unfolding_all rfl
abbrev s_law_value : Stmt := top 32
def P_law_value : List Str := ["_law_row", "_law_place"]
theorem sc_law_value : FnScope N_law_value P_law_value (defScope s_law_value) := ⟨rfl, rfl, rfl, by decide +kernel, rfl, by decide +kernel, by decide +kernel⟩
def K_law_value : List (Nat × List Nat × List Nat) := []
theorem t_law_value : trSs 60 ⟨N_law_value, defScope s_law_value, [("_law_low", (⟨2, M_law_low, [false, false]⟩ : FnE))], CNS, K_law_value, none, none⟩ (pmOf 0 [false, false]) XCS (defBody s_law_value) = some (B_law_value) := by with_unfolding_all rfl
abbrev s_law_keeps : Stmt := top 33
def P_law_keeps : List Str := ["_law_row", "_law_place"]
theorem sc_law_keeps : FnScope N_law_keeps P_law_keeps (defScope s_law_keeps) := ⟨rfl, rfl, rfl, by decide +kernel, rfl, by decide +kernel, by decide +kernel⟩
def K_law_keeps : List (Nat × List Nat × List Nat) := []
theorem t_law_keeps : trSs 60 ⟨N_law_keeps, defScope s_law_keeps, [("_law_value", (⟨2, M_law_value, [false, false]⟩ : FnE))], CNS, K_law_keeps, none, none⟩ (pmOf 0 [false, false]) XCS (defBody s_law_keeps) = some (B_law_keeps) := by with_unfolding_all rfl
abbrev s_law_corners : Stmt := top 40
def P_law_corners : List Str := ["_law_rows"]
theorem sc_law_corners : FnScope N_law_corners P_law_corners (defScope s_law_corners) := ⟨rfl, rfl, rfl, by decide +kernel, rfl, by decide +kernel, by decide +kernel⟩
def K_law_corners : List (Nat × List Nat × List Nat) := [(159, [2, 3, 4, 5], [0]), (160, [3, 4, 5], [2])]
theorem t_law_corners : trSs 60 ⟨N_law_corners, defScope s_law_corners, [("_law_ring", (⟨1, M_law_ring_v2, [false]⟩ : FnE)), ("_law_crossing", (⟨2, M_law_crossing, [false, false]⟩ : FnE)), ("_law_keeps", (⟨2, M_law_keeps, [false, false]⟩ : FnE))], CNS, K_law_corners, none, none⟩ (pmOf 0 [false]) XCS (defBody s_law_corners) = some (B_law_corners_v2) := by with_unfolding_all rfl
abbrev s_law_round_all : Stmt := top 43
def P_law_round_all : List Str := ["_law_rows"]
theorem sc_law_round_all : FnScope N_law_round_all P_law_round_all (defScope s_law_round_all) := ⟨rfl, rfl, rfl, by decide +kernel, rfl, by decide +kernel, by decide +kernel⟩
def K_law_round_all : List (Nat × List Nat × List Nat) := [(172, [1, 2, 3, 4, 5, 6], [0]), (173, [3, 4, 5, 6], [1, 2]), (175, [], [0, 1, 2, 3, 4, 5, 6])]
theorem t_law_round_all : trSs 60 ⟨N_law_round_all, defScope s_law_round_all, [], CNS, K_law_round_all, none, none⟩ (pmOf 0 [false]) XCS (defBody s_law_round_all) = some (B_law_round_all) := by with_unfolding_all rfl
abbrev s_law_whole : Stmt := top 41
def P_law_whole : List Str := ["_law_thing"]
theorem sc_law_whole : FnScope N_law_whole P_law_whole (defScope s_law_whole) := ⟨rfl, rfl, rfl, by decide +kernel, rfl, by decide +kernel, by decide +kernel⟩
def K_law_whole : List (Nat × List Nat × List Nat) := []
theorem t_law_whole : trSs 60 ⟨N_law_whole, defScope s_law_whole, [], CNS, K_law_whole, none, none⟩ (pmOf 0 [false]) XCS (defBody s_law_whole) = some (B_law_whole) := by with_unfolding_all rfl
abbrev s_law_is_row : Stmt := top 42
def P_law_is_row : List Str := ["_law_thing"]
theorem sc_law_is_row : FnScope N_law_is_row P_law_is_row (defScope s_law_is_row) := ⟨rfl, rfl, rfl, by decide +kernel, rfl, by decide +kernel, by decide +kernel⟩
def K_law_is_row : List (Nat × List Nat × List Nat) := []
theorem t_law_is_row : trSs 60 ⟨N_law_is_row, defScope s_law_is_row, [("_law_whole", (⟨1, M_law_whole, [false]⟩ : FnE))], CNS, K_law_is_row, none, none⟩ (pmOf 0 [false]) XCS (defBody s_law_is_row) = some (B_law_is_row) := by with_unfolding_all rfl
abbrev s_law_due : Stmt := top 44
def P_law_due : List Str := ["_law_thing"]
theorem sc_law_due : FnScope N_law_due P_law_due (defScope s_law_due) := ⟨rfl, rfl, rfl, by decide +kernel, rfl, by decide +kernel, by decide +kernel⟩
def K_law_due : List (Nat × List Nat × List Nat) := [(180, [1, 2, 3, 4, 5, 6], []), (182, [], [0, 1, 2, 3, 4, 5, 6]), (185, [1, 2, 3, 4, 5, 6], [0]), (187, [], [0, 1, 2, 3, 4, 5, 6])]
theorem t_law_due : trSs 60 ⟨N_law_due, defScope s_law_due, [("_law_corners", (⟨1, M_law_corners_v2, [false]⟩ : FnE)), ("_law_round_all", (⟨1, M_law_round_all, [false]⟩ : FnE)), ("_law_is_row", (⟨1, M_law_is_row, [false]⟩ : FnE))], CNS, K_law_due, none, none⟩ (pmOf 0 [false]) XCS (defBody s_law_due) = some (B_law_due) := by with_unfolding_all rfl
abbrev s_law : Stmt := top 46
def P_law : List Str := ["_law_script"]
theorem sc_law : FnScope N_law P_law (defScope s_law) := ⟨rfl, rfl, rfl, by decide +kernel, rfl, by decide +kernel, by decide +kernel⟩
def K_law : List (Nat × List Nat × List Nat) := [(201, [1, 2, 3, 4, 5, 6], [0]), (205, [], [0, 1, 2, 3, 4, 5, 6]), (206, [1, 4, 5, 6], [2, 3]), (210, [], [0, 1, 2, 3, 4, 5, 6])]
theorem t_law : trSs 60 ⟨N_law, defScope s_law, [("_law_state", (⟨2, M_law_state, [false, false]⟩ : FnE)), ("_law_field", (⟨1, M_law_field, [true]⟩ : FnE)), ("is_field", (⟨1, M_is_field, [false]⟩ : FnE)), ("_law_bent", (⟨2, M_law_bent, [true, false]⟩ : FnE)), ("_law_due", (⟨1, M_law_due, [false]⟩ : FnE))], CNS, K_law, none, none⟩ (pmOf 0 [false]) XCS (defBody s_law) = some (B_law) := by with_unfolding_all rfl
section
variable {P : Program} {w : World} {K : PySem.W.Frag} {mg : Str → Option Value} {base : Heap} [Tbs]
set_option maxHeartbeats 0 in
theorem chain (gl : Glob K mg CNS XCS) (D_law_cell_at : Dfd K mg "_law_cell_at" s_law_cell_at P_law_cell_at) (D_law_state : Dfd K mg "_law_state" s_law_state P_law_state) (D_law_take : Dfd K mg "_law_take" s_law_take P_law_take) (D_law_field : Dfd K mg "_law_field" s_law_field P_law_field) (D_go_round : Dfd K mg "go_round" s_go_round P_go_round) (D_is_whole : Dfd K mg "is_whole" s_is_whole P_is_whole) (D_is_row : Dfd K mg "is_row" s_is_row P_is_row) (D_is_less : Dfd K mg "is_less" s_is_less P_is_less) (D_is_near : Dfd K mg "is_near" s_is_near P_is_near) (D_twist : Dfd K mg "twist" s_twist P_twist) (D_divisor : Dfd K mg "divisor" s_divisor P_divisor) (D_ratio : Dfd K mg "ratio" s_ratio P_ratio) (D_crossing : Dfd K mg "crossing" s_crossing P_crossing) (D_plus : Dfd K mg "plus" s_plus P_plus) (D_times : Dfd K mg "times" s_times P_times) (D_value : Dfd K mg "value" s_value P_value) (D_keeps : Dfd K mg "keeps" s_keeps P_keeps) (D_found_corners : Dfd K mg "found_corners" s_found_corners P_found_corners) (D_is_field : Dfd K mg "is_field" s_is_field P_is_field) (D_law_bent : Dfd K mg "_law_bent" s_law_bent P_law_bent) (D_law_less : Dfd K mg "_law_less" s_law_less P_law_less) (D_law_divisor : Dfd K mg "_law_divisor" s_law_divisor P_law_divisor) (D_law_low : Dfd K mg "_law_low" s_law_low P_law_low) (D_law_times : Dfd K mg "_law_times" s_law_times P_law_times) (D_law_minus : Dfd K mg "_law_minus" s_law_minus P_law_minus) (D_law_cross : Dfd K mg "_law_cross" s_law_cross P_law_cross) (D_law_all_left : Dfd K mg "_law_all_left" s_law_all_left P_law_all_left) (D_law_ring : Dfd K mg "_law_ring" s_law_ring P_law_ring) (D_law_crossing : Dfd K mg "_law_crossing" s_law_crossing P_law_crossing) (D_law_value : Dfd K mg "_law_value" s_law_value P_law_value) (D_law_keeps : Dfd K mg "_law_keeps" s_law_keeps P_law_keeps) (D_law_corners : Dfd K mg "_law_corners" s_law_corners P_law_corners) (D_law_round_all : Dfd K mg "_law_round_all" s_law_round_all P_law_round_all) (D_law_whole : Dfd K mg "_law_whole" s_law_whole P_law_whole) (D_law_is_row : Dfd K mg "_law_is_row" s_law_is_row P_law_is_row) (D_law_due : Dfd K mg "_law_due" s_law_due P_law_due) {f fa : Addr} {fd : FuncData}
    (F : Fun K "law" "law" s_law f fd) (h1 : mg "law" = some (.ref fa)) (h2 : mg "law" = some (.ref f)) (says : Says M_law) : FnOk P w K mg base (L2.CX P w) 9 fa fd P_law (spLaw K) := by
  have E_law_cell_at : Ent P w K mg base 1 "_law_cell_at" ⟨2, M_law_cell_at, [false, false]⟩ := ent_ok (k := 0) D_law_cell_at sc_law_cell_at t_law_cell_at ents_nil gl
  have E_law_state : Ent P w K mg base 2 "_law_state" ⟨2, M_law_state, [false, false]⟩ := ent_ok (k := 1) D_law_state sc_law_state t_law_state (ents_cons E_law_cell_at (by decide) ents_nil) gl
  have E_law_take : Ent P w K mg base 1 "_law_take" ⟨2, M_law_take, [true, false]⟩ := ent_ok (k := 0) D_law_take sc_law_take t_law_take ents_nil gl
  have E_law_field : Ent P w K mg base 2 "_law_field" ⟨1, M_law_field, [true]⟩ := ent_ok (k := 1) D_law_field sc_law_field t_law_field (ents_cons E_law_take (by decide) ents_nil) gl
  have E_go_round : Ent P w K mg base 1 "go_round" ⟨1, M_go_round, [false]⟩ := ent_ok (k := 0) D_go_round sc_go_round t_go_round ents_nil gl
  have E_is_whole : Ent P w K mg base 1 "is_whole" ⟨1, M_is_whole, [false]⟩ := ent_ok (k := 0) D_is_whole sc_is_whole t_is_whole ents_nil gl
  have E_is_row : Ent P w K mg base 2 "is_row" ⟨1, M_is_row, [false]⟩ := ent_ok (k := 1) D_is_row sc_is_row t_is_row (ents_cons E_is_whole (by decide) ents_nil) gl
  have E_is_less : Ent P w K mg base 1 "is_less" ⟨2, M_is_less, [false, false]⟩ := ent_ok (k := 0) D_is_less sc_is_less t_is_less ents_nil gl
  have E_is_near : Ent P w K mg base 2 "is_near" ⟨1, M_is_near, [false]⟩ := ent_ok (k := 1) D_is_near sc_is_near t_is_near (ents_cons E_is_less (by decide) ents_nil) gl
  have E_twist : Ent P w K mg base 1 "twist" ⟨2, M_twist, [false, false]⟩ := ent_ok (k := 0) D_twist sc_twist t_twist ents_nil gl
  have E_divisor : Ent P w K mg base 1 "divisor" ⟨2, M_divisor, [false, false]⟩ := ent_ok (k := 0) D_divisor sc_divisor t_divisor ents_nil gl
  have E_ratio : Ent P w K mg base 2 "ratio" ⟨2, M_ratio, [false, false]⟩ := ent_ok (k := 1) D_ratio sc_ratio t_ratio (ents_cons E_divisor (by decide) ents_nil) gl
  have E_crossing : Ent P w K mg base 3 "crossing" ⟨2, M_crossing, [false, false]⟩ := ent_ok (k := 2) D_crossing sc_crossing t_crossing (ents_cons E_twist (by decide) (ents_cons E_ratio (by decide) ents_nil)) gl
  have E_plus : Ent P w K mg base 3 "plus" ⟨2, M_plus, [false, false]⟩ := ent_ok (k := 2) D_plus sc_plus t_plus (ents_cons E_ratio (by decide) ents_nil) gl
  have E_times : Ent P w K mg base 3 "times" ⟨2, M_times, [false, false]⟩ := ent_ok (k := 2) D_times sc_times t_times (ents_cons E_ratio (by decide) ents_nil) gl
  have E_value : Ent P w K mg base 4 "value" ⟨2, M_value, [false, false]⟩ := ent_ok (k := 3) D_value sc_value t_value (ents_cons E_plus (by decide) (ents_cons E_times (by decide) ents_nil)) gl
  have E_keeps : Ent P w K mg base 5 "keeps" ⟨2, M_keeps, [false, false]⟩ := ent_ok (k := 4) D_keeps sc_keeps t_keeps (ents_cons E_is_less (by decide) (ents_cons E_value (by decide) ents_nil)) gl
  have E_found_corners : Ent P w K mg base 6 "found_corners" ⟨1, M_found_corners, [false]⟩ := ent_ok (k := 5) D_found_corners sc_found_corners t_found_corners (ents_cons E_twist (by decide) (ents_cons E_crossing (by decide) (ents_cons E_keeps (by decide) ents_nil))) gl
  have E_is_field : Ent P w K mg base 7 "is_field" ⟨1, M_is_field, [false]⟩ := ent_ok (k := 6) D_is_field sc_is_field t_is_field (ents_cons E_go_round (by decide) (ents_cons E_is_row (by decide) (ents_cons E_is_near (by decide) (ents_cons E_found_corners (by decide) ents_nil)))) gl
  have E_law_bent : Ent P w K mg base 2 "_law_bent" ⟨2, M_law_bent, [true, false]⟩ := ent_ok (k := 1) D_law_bent sc_law_bent t_law_bent (ents_cons E_law_take (by decide) ents_nil) gl
  have E_law_less : Ent P w K mg base 1 "_law_less" ⟨2, M_law_less, [false, false]⟩ := ent_ok (k := 0) D_law_less sc_law_less t_law_less ents_nil gl
  have E_law_divisor : Ent P w K mg base 1 "_law_divisor" ⟨2, M_law_divisor, [false, false]⟩ := ent_ok (k := 0) D_law_divisor sc_law_divisor t_law_divisor ents_nil gl
  have E_law_low : Ent P w K mg base 2 "_law_low" ⟨2, M_law_low, [false, false]⟩ := ent_ok (k := 1) D_law_low sc_law_low t_law_low (ents_cons E_law_divisor (by decide) ents_nil) gl
  have E_law_times : Ent P w K mg base 3 "_law_times" ⟨2, M_law_times, [false, false]⟩ := ent_ok (k := 2) D_law_times sc_law_times t_law_times (ents_cons E_law_low (by decide) ents_nil) gl
  have E_law_minus : Ent P w K mg base 3 "_law_minus" ⟨2, M_law_minus, [false, false]⟩ := ent_ok (k := 2) D_law_minus sc_law_minus t_law_minus (ents_cons E_law_low (by decide) ents_nil) gl
  have E_law_cross : Ent P w K mg base 4 "_law_cross" ⟨3, M_law_cross, [false, false, false]⟩ := ent_ok (k := 3) D_law_cross sc_law_cross t_law_cross (ents_cons E_law_times (by decide) (ents_cons E_law_minus (by decide) ents_nil)) gl
  have E_law_all_left : Ent P w K mg base 5 "_law_all_left" ⟨3, M_law_all_left, [false, false, false]⟩ := ent_ok (k := 4) D_law_all_left sc_law_all_left t_law_all_left (ents_cons E_law_cross (by decide) ents_nil) gl
  have E_law_ring : Ent P w K mg base 6 "_law_ring" ⟨1, M_law_ring_v2, [false]⟩ := ent_ok (k := 5) D_law_ring sc_law_ring t_law_ring (ents_cons E_law_less (by decide) (ents_cons E_law_all_left (by decide) ents_nil)) gl
  have E_law_crossing : Ent P w K mg base 3 "_law_crossing" ⟨2, M_law_crossing, [false, false]⟩ := ent_ok (k := 2) D_law_crossing sc_law_crossing t_law_crossing (ents_cons E_law_low (by decide) ents_nil) gl
  have E_law_value : Ent P w K mg base 3 "_law_value" ⟨2, M_law_value, [false, false]⟩ := ent_ok (k := 2) D_law_value sc_law_value t_law_value (ents_cons E_law_low (by decide) ents_nil) gl
  have E_law_keeps : Ent P w K mg base 4 "_law_keeps" ⟨2, M_law_keeps, [false, false]⟩ := ent_ok (k := 3) D_law_keeps sc_law_keeps t_law_keeps (ents_cons E_law_value (by decide) ents_nil) gl
  have E_law_corners : Ent P w K mg base 7 "_law_corners" ⟨1, M_law_corners_v2, [false]⟩ := ent_ok (k := 6) D_law_corners sc_law_corners t_law_corners (ents_cons E_law_ring (by decide) (ents_cons E_law_crossing (by decide) (ents_cons E_law_keeps (by decide) ents_nil))) gl
  have E_law_round_all : Ent P w K mg base 1 "_law_round_all" ⟨1, M_law_round_all, [false]⟩ := ent_ok (k := 0) D_law_round_all sc_law_round_all t_law_round_all ents_nil gl
  have E_law_whole : Ent P w K mg base 1 "_law_whole" ⟨1, M_law_whole, [false]⟩ := ent_ok (k := 0) D_law_whole sc_law_whole t_law_whole ents_nil gl
  have E_law_is_row : Ent P w K mg base 2 "_law_is_row" ⟨1, M_law_is_row, [false]⟩ := ent_ok (k := 1) D_law_is_row sc_law_is_row t_law_is_row (ents_cons E_law_whole (by decide) ents_nil) gl
  have E_law_due : Ent P w K mg base 8 "_law_due" ⟨1, M_law_due, [false]⟩ := ent_ok (k := 7) D_law_due sc_law_due t_law_due (ents_cons E_law_corners (by decide) (ents_cons E_law_round_all (by decide) (ents_cons E_law_is_row (by decide) ents_nil))) gl
  exact law_at (k := 8) F h1 h2 sc_law t_law (ents_cons E_law_state (by decide) (ents_cons E_law_field (by decide) (ents_cons E_is_field (by decide) (ents_cons E_law_bent (by decide) (ents_cons E_law_due (by decide) ents_nil))))) gl says (fun _ _ h => by cases h)
end
end K03

set_option maxRecDepth 100000
set_option maxHeartbeats 4000000
namespace K03
open PySem L2 Rc
theorem fin [Tbs] {P : Program} {w : World} {K : PySem.W.Frag} {mg : Str → Option Value} {h : Heap} {f fa : Addr} (X : K.In h) (G : h.Ns mainGlobals mg) (hfa : mg "law" = some (.ref fa)) (gl : Glob K mg CNS XCS) (D_law_cell_at : Dfd K mg "_law_cell_at" s_law_cell_at P_law_cell_at) (D_law_state : Dfd K mg "_law_state" s_law_state P_law_state) (D_law_take : Dfd K mg "_law_take" s_law_take P_law_take) (D_law_field : Dfd K mg "_law_field" s_law_field P_law_field) (D_go_round : Dfd K mg "go_round" s_go_round P_go_round) (D_is_whole : Dfd K mg "is_whole" s_is_whole P_is_whole) (D_is_row : Dfd K mg "is_row" s_is_row P_is_row) (D_is_less : Dfd K mg "is_less" s_is_less P_is_less) (D_is_near : Dfd K mg "is_near" s_is_near P_is_near) (D_twist : Dfd K mg "twist" s_twist P_twist) (D_divisor : Dfd K mg "divisor" s_divisor P_divisor) (D_ratio : Dfd K mg "ratio" s_ratio P_ratio) (D_crossing : Dfd K mg "crossing" s_crossing P_crossing) (D_plus : Dfd K mg "plus" s_plus P_plus) (D_times : Dfd K mg "times" s_times P_times) (D_value : Dfd K mg "value" s_value P_value) (D_keeps : Dfd K mg "keeps" s_keeps P_keeps) (D_found_corners : Dfd K mg "found_corners" s_found_corners P_found_corners) (D_is_field : Dfd K mg "is_field" s_is_field P_is_field) (D_law_bent : Dfd K mg "_law_bent" s_law_bent P_law_bent) (D_law_less : Dfd K mg "_law_less" s_law_less P_law_less) (D_law_divisor : Dfd K mg "_law_divisor" s_law_divisor P_law_divisor) (D_law_low : Dfd K mg "_law_low" s_law_low P_law_low) (D_law_times : Dfd K mg "_law_times" s_law_times P_law_times) (D_law_minus : Dfd K mg "_law_minus" s_law_minus P_law_minus) (D_law_cross : Dfd K mg "_law_cross" s_law_cross P_law_cross) (D_law_all_left : Dfd K mg "_law_all_left" s_law_all_left P_law_all_left) (D_law_ring : Dfd K mg "_law_ring" s_law_ring P_law_ring) (D_law_crossing : Dfd K mg "_law_crossing" s_law_crossing P_law_crossing) (D_law_value : Dfd K mg "_law_value" s_law_value P_law_value) (D_law_keeps : Dfd K mg "_law_keeps" s_law_keeps P_law_keeps) (D_law_corners : Dfd K mg "_law_corners" s_law_corners P_law_corners) (D_law_round_all : Dfd K mg "_law_round_all" s_law_round_all P_law_round_all) (D_law_whole : Dfd K mg "_law_whole" s_law_whole P_law_whole) (D_law_is_row : Dfd K mg "_law_is_row" s_law_is_row P_law_is_row) (D_law_due : Dfd K mg "_law_due" s_law_due P_law_due)
    {oc : Value} {od an : Option Addr} {osl : Array (Option Value)} {kV doc pm cdv ct : Value} (a : PySem.W.nsIn K mainGlobals "law" = some (some (.ref f))) (l : K.lookup f = some ⟨oc, od, .func (PySem.W.fnOf "law" "law" (defArgs s_law) (defBody s_law) (defScope s_law) .none kV doc pm an cdv ct), osl⟩) (c : PySem.W.codeIn K cdv "law" = true) (k : PySem.W.keepIn K (.ref f) = true) :
    ∃ fd : FuncData, (∀ (s : Shared) (u : Value), BindsTo s fd ⟨[u], []⟩ [("_law_script", u)]) ∧ ∀ base : Heap, K.In base → base.Ns mainGlobals mg → FnOk P w K mg base (L2.CX P w) 9 fa fd ["_law_script"] (spLaw K) :=
  ⟨_, fun _ _ => .of_eq rfl, fun base _ _ => chain gl D_law_cell_at D_law_state D_law_take D_law_field D_go_round D_is_whole D_is_row D_is_less D_is_near D_twist D_divisor D_ratio D_crossing D_plus D_times D_value D_keeps D_found_corners D_is_field D_law_bent D_law_less D_law_divisor D_law_low D_law_times D_law_minus D_law_cross D_law_all_left D_law_ring D_law_crossing D_law_value D_law_keeps D_law_corners D_law_round_all D_law_whole D_law_is_row D_law_due (fun_mk l c k) hfa (PySem.W.mg_of X G a) says⟩
end K03
open PySem PySem.W PyProof.Rows
set_option maxHeartbeats 0 in
theorem PySem.Challenge.cw_roundcuts_k03_fields_known_holds : PySem.Challenge.rw_roundcuts_k03_fields_known.Holds := by
  w_on; o_law; k_head; (case hw => w_witness2)
  k_fill
  letI : Rc.Tbs := ⟨[]⟩
  refine L2.walk_ofB (l := PySem.Challenge.rw_roundcuts_k03_fields_known) (n := 63) (k := 9) (x := "_law_script") (CX := fun w => L2.CX PySem.Challenge.pw_roundcuts_k03_fields_known w) (sp := fun w => Rc.spLaw _) rfl (by decide) rfl ⟨rfl, by decide, by decide⟩ (fun w h Y => PySem.W.kIn_of Y) ?F (fun _ _ a ns hl hb _ hS => ⟨(fun _ z => by cases z), a, ns, rfl, hS, hl, hb, fun _ => rfl⟩) ?X
  case X =>
    intro w H s e s1 h
    obtain ⟨_, _, _, _, _, _, _, _, _, _, _, _, z⟩ := h
    exact z.elim
  case F =>
    intro w mg fa h KX G hmg
    refine' Rc.cut (Rc.dfd_mk KX G (x := "_law_cell_at") (st := K03.s_law_cell_at) (ps := K03.P_law_cell_at) (fun _ _ _ _ _ _ us hl => match us, hl with | [_, _], _ => rfl) ?a25_1 ?l25_1 ?c25_1 ?k25_1) ?n25_1; (case a25_1 => k_is); (case l25_1 => k_is); (case c25_1 => k_is); (case k25_1 => k_is); intro D_law_cell_at
    refine' Rc.cut (Rc.dfd_mk KX G (x := "_law_state") (st := K03.s_law_state) (ps := K03.P_law_state) (fun _ _ _ _ _ _ us hl => match us, hl with | [_, _], _ => rfl) ?a26_2 ?l26_2 ?c26_2 ?k26_2) ?n26_2; (case a26_2 => k_is); (case l26_2 => k_is); (case c26_2 => k_is); (case k26_2 => k_is); intro D_law_state
    refine' Rc.cut (Rc.dfd_mk KX G (x := "_law_take") (st := K03.s_law_take) (ps := K03.P_law_take) (fun _ _ _ _ _ _ us hl => match us, hl with | [_, _], _ => rfl) ?a27_3 ?l27_3 ?c27_3 ?k27_3) ?n27_3; (case a27_3 => k_is); (case l27_3 => k_is); (case c27_3 => k_is); (case k27_3 => k_is); intro D_law_take
    refine' Rc.cut (Rc.dfd_mk KX G (x := "_law_field") (st := K03.s_law_field) (ps := K03.P_law_field) (fun _ _ _ _ _ _ us hl => match us, hl with | [_], _ => rfl) ?a28_4 ?l28_4 ?c28_4 ?k28_4) ?n28_4; (case a28_4 => k_is); (case l28_4 => k_is); (case c28_4 => k_is); (case k28_4 => k_is); intro D_law_field
    refine' Rc.cut (Rc.dfd_mk KX G (x := "go_round") (st := K03.s_go_round) (ps := K03.P_go_round) (fun _ _ _ _ _ _ us hl => match us, hl with | [_], _ => rfl) ?a12_5 ?l12_5 ?c12_5 ?k12_5) ?n12_5; (case a12_5 => k_is); (case l12_5 => k_is); (case c12_5 => k_is); (case k12_5 => k_is); intro D_go_round
    refine' Rc.cut (Rc.dfd_mk KX G (x := "is_whole") (st := K03.s_is_whole) (ps := K03.P_is_whole) (fun _ _ _ _ _ _ us hl => match us, hl with | [_], _ => rfl) ?a1_6 ?l1_6 ?c1_6 ?k1_6) ?n1_6; (case a1_6 => k_is); (case l1_6 => k_is); (case c1_6 => k_is); (case k1_6 => k_is); intro D_is_whole
    refine' Rc.cut (Rc.dfd_mk KX G (x := "is_row") (st := K03.s_is_row) (ps := K03.P_is_row) (fun _ _ _ _ _ _ us hl => match us, hl with | [_], _ => rfl) ?a8_7 ?l8_7 ?c8_7 ?k8_7) ?n8_7; (case a8_7 => k_is); (case l8_7 => k_is); (case c8_7 => k_is); (case k8_7 => k_is); intro D_is_row
    refine' Rc.cut (Rc.dfd_mk KX G (x := "is_less") (st := K03.s_is_less) (ps := K03.P_is_less) (fun _ _ _ _ _ _ us hl => match us, hl with | [_, _], _ => rfl) ?a6_8 ?l6_8 ?c6_8 ?k6_8) ?n6_8; (case a6_8 => k_is); (case l6_8 => k_is); (case c6_8 => k_is); (case k6_8 => k_is); intro D_is_less
    refine' Rc.cut (Rc.dfd_mk KX G (x := "is_near") (st := K03.s_is_near) (ps := K03.P_is_near) (fun _ _ _ _ _ _ us hl => match us, hl with | [_], _ => rfl) ?a23_9 ?l23_9 ?c23_9 ?k23_9) ?n23_9; (case a23_9 => k_is); (case l23_9 => k_is); (case c23_9 => k_is); (case k23_9 => k_is); intro D_is_near
    refine' Rc.cut (Rc.dfd_mk KX G (x := "twist") (st := K03.s_twist) (ps := K03.P_twist) (fun _ _ _ _ _ _ us hl => match us, hl with | [_, _], _ => rfl) ?a11_10 ?l11_10 ?c11_10 ?k11_10) ?n11_10; (case a11_10 => k_is); (case l11_10 => k_is); (case c11_10 => k_is); (case k11_10 => k_is); intro D_twist
    refine' Rc.cut (Rc.dfd_mk KX G (x := "divisor") (st := K03.s_divisor) (ps := K03.P_divisor) (fun _ _ _ _ _ _ us hl => match us, hl with | [_, _], _ => rfl) ?a2_11 ?l2_11 ?c2_11 ?k2_11) ?n2_11; (case a2_11 => k_is); (case l2_11 => k_is); (case c2_11 => k_is); (case k2_11 => k_is); intro D_divisor
    refine' Rc.cut (Rc.dfd_mk KX G (x := "ratio") (st := K03.s_ratio) (ps := K03.P_ratio) (fun _ _ _ _ _ _ us hl => match us, hl with | [_, _], _ => rfl) ?a3_12 ?l3_12 ?c3_12 ?k3_12) ?n3_12; (case a3_12 => k_is); (case l3_12 => k_is); (case c3_12 => k_is); (case k3_12 => k_is); intro D_ratio
    refine' Rc.cut (Rc.dfd_mk KX G (x := "crossing") (st := K03.s_crossing) (ps := K03.P_crossing) (fun _ _ _ _ _ _ us hl => match us, hl with | [_, _], _ => rfl) ?a14_13 ?l14_13 ?c14_13 ?k14_13) ?n14_13; (case a14_13 => k_is); (case l14_13 => k_is); (case c14_13 => k_is); (case k14_13 => k_is); intro D_crossing
    refine' Rc.cut (Rc.dfd_mk KX G (x := "plus") (st := K03.s_plus) (ps := K03.P_plus) (fun _ _ _ _ _ _ us hl => match us, hl with | [_, _], _ => rfl) ?a4_14 ?l4_14 ?c4_14 ?k4_14) ?n4_14; (case a4_14 => k_is); (case l4_14 => k_is); (case c4_14 => k_is); (case k4_14 => k_is); intro D_plus
    refine' Rc.cut (Rc.dfd_mk KX G (x := "times") (st := K03.s_times) (ps := K03.P_times) (fun _ _ _ _ _ _ us hl => match us, hl with | [_, _], _ => rfl) ?a5_15 ?l5_15 ?c5_15 ?k5_15) ?n5_15; (case a5_15 => k_is); (case l5_15 => k_is); (case c5_15 => k_is); (case k5_15 => k_is); intro D_times
    refine' Rc.cut (Rc.dfd_mk KX G (x := "value") (st := K03.s_value) (ps := K03.P_value) (fun _ _ _ _ _ _ us hl => match us, hl with | [_, _], _ => rfl) ?a9_16 ?l9_16 ?c9_16 ?k9_16) ?n9_16; (case a9_16 => k_is); (case l9_16 => k_is); (case c9_16 => k_is); (case k9_16 => k_is); intro D_value
    refine' Rc.cut (Rc.dfd_mk KX G (x := "keeps") (st := K03.s_keeps) (ps := K03.P_keeps) (fun _ _ _ _ _ _ us hl => match us, hl with | [_, _], _ => rfl) ?a10_17 ?l10_17 ?c10_17 ?k10_17) ?n10_17; (case a10_17 => k_is); (case l10_17 => k_is); (case c10_17 => k_is); (case k10_17 => k_is); intro D_keeps
    refine' Rc.cut (Rc.dfd_mk KX G (x := "found_corners") (st := K03.s_found_corners) (ps := K03.P_found_corners) (fun _ _ _ _ _ _ us hl => match us, hl with | [_], _ => rfl) ?a15_18 ?l15_18 ?c15_18 ?k15_18) ?n15_18; (case a15_18 => k_is); (case l15_18 => k_is); (case c15_18 => k_is); (case k15_18 => k_is); intro D_found_corners
    refine' Rc.cut (Rc.dfd_mk KX G (x := "is_field") (st := K03.s_is_field) (ps := K03.P_is_field) (fun _ _ _ _ _ _ us hl => match us, hl with | [_], _ => rfl) ?a22_19 ?l22_19 ?c22_19 ?k22_19) ?n22_19; (case a22_19 => k_is); (case l22_19 => k_is); (case c22_19 => k_is); (case k22_19 => k_is); intro D_is_field
    refine' Rc.cut (Rc.dfd_mk KX G (x := "_law_bent") (st := K03.s_law_bent) (ps := K03.P_law_bent) (fun _ _ _ _ _ _ us hl => match us, hl with | [_, _], _ => rfl) ?a45_20 ?l45_20 ?c45_20 ?k45_20) ?n45_20; (case a45_20 => k_is); (case l45_20 => k_is); (case c45_20 => k_is); (case k45_20 => k_is); intro D_law_bent
    refine' Rc.cut (Rc.dfd_mk KX G (x := "_law_less") (st := K03.s_law_less) (ps := K03.P_law_less) (fun _ _ _ _ _ _ us hl => match us, hl with | [_, _], _ => rfl) ?a34_21 ?l34_21 ?c34_21 ?k34_21) ?n34_21; (case a34_21 => k_is); (case l34_21 => k_is); (case c34_21 => k_is); (case k34_21 => k_is); intro D_law_less
    refine' Rc.cut (Rc.dfd_mk KX G (x := "_law_divisor") (st := K03.s_law_divisor) (ps := K03.P_law_divisor) (fun _ _ _ _ _ _ us hl => match us, hl with | [_, _], _ => rfl) ?a29_22 ?l29_22 ?c29_22 ?k29_22) ?n29_22; (case a29_22 => k_is); (case l29_22 => k_is); (case c29_22 => k_is); (case k29_22 => k_is); intro D_law_divisor
    refine' Rc.cut (Rc.dfd_mk KX G (x := "_law_low") (st := K03.s_law_low) (ps := K03.P_law_low) (fun _ _ _ _ _ _ us hl => match us, hl with | [_, _], _ => rfl) ?a30_23 ?l30_23 ?c30_23 ?k30_23) ?n30_23; (case a30_23 => k_is); (case l30_23 => k_is); (case c30_23 => k_is); (case k30_23 => k_is); intro D_law_low
    refine' Rc.cut (Rc.dfd_mk KX G (x := "_law_times") (st := K03.s_law_times) (ps := K03.P_law_times) (fun _ _ _ _ _ _ us hl => match us, hl with | [_, _], _ => rfl) ?a36_24 ?l36_24 ?c36_24 ?k36_24) ?n36_24; (case a36_24 => k_is); (case l36_24 => k_is); (case c36_24 => k_is); (case k36_24 => k_is); intro D_law_times
    refine' Rc.cut (Rc.dfd_mk KX G (x := "_law_minus") (st := K03.s_law_minus) (ps := K03.P_law_minus) (fun _ _ _ _ _ _ us hl => match us, hl with | [_, _], _ => rfl) ?a35_25 ?l35_25 ?c35_25 ?k35_25) ?n35_25; (case a35_25 => k_is); (case l35_25 => k_is); (case c35_25 => k_is); (case k35_25 => k_is); intro D_law_minus
    refine' Rc.cut (Rc.dfd_mk KX G (x := "_law_cross") (st := K03.s_law_cross) (ps := K03.P_law_cross) (fun _ _ _ _ _ _ us hl => match us, hl with | [_, _, _], _ => rfl) ?a37_26 ?l37_26 ?c37_26 ?k37_26) ?n37_26; (case a37_26 => k_is); (case l37_26 => k_is); (case c37_26 => k_is); (case k37_26 => k_is); intro D_law_cross
    refine' Rc.cut (Rc.dfd_mk KX G (x := "_law_all_left") (st := K03.s_law_all_left) (ps := K03.P_law_all_left) (fun _ _ _ _ _ _ us hl => match us, hl with | [_, _, _], _ => rfl) ?a39_27 ?l39_27 ?c39_27 ?k39_27) ?n39_27; (case a39_27 => k_is); (case l39_27 => k_is); (case c39_27 => k_is); (case k39_27 => k_is); intro D_law_all_left
    refine' Rc.cut (Rc.dfd_mk KX G (x := "_law_ring") (st := K03.s_law_ring) (ps := K03.P_law_ring) (fun _ _ _ _ _ _ us hl => match us, hl with | [_], _ => rfl) ?a38_28 ?l38_28 ?c38_28 ?k38_28) ?n38_28; (case a38_28 => k_is); (case l38_28 => k_is); (case c38_28 => k_is); (case k38_28 => k_is); intro D_law_ring
    refine' Rc.cut (Rc.dfd_mk KX G (x := "_law_crossing") (st := K03.s_law_crossing) (ps := K03.P_law_crossing) (fun _ _ _ _ _ _ us hl => match us, hl with | [_, _], _ => rfl) ?a31_29 ?l31_29 ?c31_29 ?k31_29) ?n31_29; (case a31_29 => k_is); (case l31_29 => k_is); (case c31_29 => k_is); (case k31_29 => k_is); intro D_law_crossing
    refine' Rc.cut (Rc.dfd_mk KX G (x := "_law_value") (st := K03.s_law_value) (ps := K03.P_law_value) (fun _ _ _ _ _ _ us hl => match us, hl with | [_, _], _ => rfl) ?a32_30 ?l32_30 ?c32_30 ?k32_30) ?n32_30; (case a32_30 => k_is); (case l32_30 => k_is); (case c32_30 => k_is); (case k32_30 => k_is); intro D_law_value
    refine' Rc.cut (Rc.dfd_mk KX G (x := "_law_keeps") (st := K03.s_law_keeps) (ps := K03.P_law_keeps) (fun _ _ _ _ _ _ us hl => match us, hl with | [_, _], _ => rfl) ?a33_31 ?l33_31 ?c33_31 ?k33_31) ?n33_31; (case a33_31 => k_is); (case l33_31 => k_is); (case c33_31 => k_is); (case k33_31 => k_is); intro D_law_keeps
    refine' Rc.cut (Rc.dfd_mk KX G (x := "_law_corners") (st := K03.s_law_corners) (ps := K03.P_law_corners) (fun _ _ _ _ _ _ us hl => match us, hl with | [_], _ => rfl) ?a40_32 ?l40_32 ?c40_32 ?k40_32) ?n40_32; (case a40_32 => k_is); (case l40_32 => k_is); (case c40_32 => k_is); (case k40_32 => k_is); intro D_law_corners
    refine' Rc.cut (Rc.dfd_mk KX G (x := "_law_round_all") (st := K03.s_law_round_all) (ps := K03.P_law_round_all) (fun _ _ _ _ _ _ us hl => match us, hl with | [_], _ => rfl) ?a43_33 ?l43_33 ?c43_33 ?k43_33) ?n43_33; (case a43_33 => k_is); (case l43_33 => k_is); (case c43_33 => k_is); (case k43_33 => k_is); intro D_law_round_all
    refine' Rc.cut (Rc.dfd_mk KX G (x := "_law_whole") (st := K03.s_law_whole) (ps := K03.P_law_whole) (fun _ _ _ _ _ _ us hl => match us, hl with | [_], _ => rfl) ?a41_34 ?l41_34 ?c41_34 ?k41_34) ?n41_34; (case a41_34 => k_is); (case l41_34 => k_is); (case c41_34 => k_is); (case k41_34 => k_is); intro D_law_whole
    refine' Rc.cut (Rc.dfd_mk KX G (x := "_law_is_row") (st := K03.s_law_is_row) (ps := K03.P_law_is_row) (fun _ _ _ _ _ _ us hl => match us, hl with | [_], _ => rfl) ?a42_35 ?l42_35 ?c42_35 ?k42_35) ?n42_35; (case a42_35 => k_is); (case l42_35 => k_is); (case c42_35 => k_is); (case k42_35 => k_is); intro D_law_is_row
    refine' Rc.cut (Rc.dfd_mk KX G (x := "_law_due") (st := K03.s_law_due) (ps := K03.P_law_due) (fun _ _ _ _ _ _ us hl => match us, hl with | [_], _ => rfl) ?a44_36 ?l44_36 ?c44_36 ?k44_36) ?n44_36; (case a44_36 => k_is); (case l44_36 => k_is); (case c44_36 => k_is); (case k44_36 => k_is); intro D_law_due
    refine' Rc.cut (PySem.W.mg_none_of KX G ?zlen_37 : mg "len" = none) ?mlen_37; (case zlen_37 => k_is); intro z_len
    refine' Rc.cut (PySem.W.mg_none_of KX G ?zabs_38 : mg "abs" = none) ?mabs_38; (case zabs_38 => k_is); intro z_abs
    refine' Rc.cut (PySem.W.mg_none_of KX G ?zall_39 : mg "all" = none) ?mall_39; (case zall_39 => k_is); intro z_all
    refine' Rc.cut (PySem.W.mg_none_of KX G ?zany_40 : mg "any" = none) ?many_40; (case zany_40 => k_is); intro z_any
    refine' Rc.cut (PySem.W.mg_none_of KX G ?zmax_41 : mg "max" = none) ?mmax_41; (case zmax_41 => k_is); intro z_max
    refine' Rc.cut (PySem.W.mg_none_of KX G ?zmin_42 : mg "min" = none) ?mmin_42; (case zmin_42 => k_is); intro z_min
    refine' Rc.cut (PySem.W.mg_none_of KX G ?ztuple_43 : mg "tuple" = none) ?mtuple_43; (case ztuple_43 => k_is); intro z_tuple
    refine' Rc.cut (PySem.W.mg_none_of KX G ?zlist_44 : mg "list" = none) ?mlist_44; (case zlist_44 => k_is); intro z_list
    refine' Rc.cut (PySem.W.mg_none_of KX G ?zint_45 : mg "int" = none) ?mint_45; (case zint_45 => k_is); intro z_int
    refine' Rc.cut (PySem.W.mg_none_of KX G ?zisinstance_46 : mg "isinstance" = none) ?misinstance_46; (case zisinstance_46 => k_is); intro z_isinstance
    refine' Rc.cut (PySem.W.mg_none_of KX G ?zrange_47 : mg "range" = none) ?mrange_47; (case zrange_47 => k_is); intro z_range
    refine' Rc.cut (PySem.W.mg_none_of KX G ?zzip_48 : mg "zip" = none) ?mzip_48; (case zzip_48 => k_is); intro z_zip
    refine' Rc.cut (PySem.W.mg_none_of KX G ?zenumerate_49 : mg "enumerate" = none) ?menumerate_49; (case zenumerate_49 => k_is); intro z_enumerate
    refine' Rc.cut (PySem.W.mg_none_of KX G ?zreversed_50 : mg "reversed" = none) ?mreversed_50; (case zreversed_50 => k_is); intro z_reversed
    refine' Rc.cut (PySem.W.mg_none_of KX G ?zbool_51 : mg "bool" = none) ?mbool_51; (case zbool_51 => k_is); intro z_bool
    refine' Rc.cut (PySem.W.mg_none_of KX G ?zstr_52 : mg "str" = none) ?mstr_52; (case zstr_52 => k_is); intro z_str
    refine' Rc.cut (PySem.W.mg_none_of KX G ?zdict_53 : mg "dict" = none) ?mdict_53; (case zdict_53 => k_is); intro z_dict
    have bl : ∀ x ∈ Rc.blts, mg x = none := by
      intro x hx
      simp only [Rc.blts, List.mem_cons, List.not_mem_nil, or_false] at hx
      rcases hx with rfl | rfl | rfl | rfl | rfl | rfl | rfl | rfl | rfl | rfl | rfl | rfl | rfl | rfl | rfl | rfl | rfl
      all_goals assumption
    refine' Rc.cut (Rc.cst_int KX G (x := "MOST_PLACE") ?a_54) ?n_54; (case a_54 => k_is); intro c_MOST_PLACE
    refine' Rc.cut (Rc.cst_int KX G (x := "LEAST_ROWS") ?a_55) ?n_55; (case a_55 => k_is); intro c_LEAST_ROWS
    refine' Rc.cut (Rc.cst_int KX G (x := "MOST_ROWS") ?a_56) ?n_56; (case a_56 => k_is); intro c_MOST_ROWS
    refine' Rc.cut (Rc.cst_int KX G (x := "MOST_STEP") ?a_57) ?n_57; (case a_57 => k_is); intro c_MOST_STEP
    refine' Rc.cut (Rc.cst_int KX G (x := "MOST_SIDE") ?a_58) ?n_58; (case a_58 => k_is); intro c_MOST_SIDE
    have gl : Rc.Glob _ mg K03.CNS K03.XCS := Rc.glob_mk ⟨c_MOST_PLACE, c_LEAST_ROWS, c_MOST_ROWS, c_MOST_STEP, c_MOST_SIDE, trivial⟩ trivial bl
    refine' K03.fin KX G hmg gl D_law_cell_at D_law_state D_law_take D_law_field D_go_round D_is_whole D_is_row D_is_less D_is_near D_twist D_divisor D_ratio D_crossing D_plus D_times D_value D_keeps D_found_corners D_is_field D_law_bent D_law_less D_law_divisor D_law_low D_law_times D_law_minus D_law_cross D_law_all_left D_law_ring D_law_crossing D_law_value D_law_keeps D_law_corners D_law_round_all D_law_whole D_law_is_row D_law_due ?a ?l ?c ?k; (case a => k_is); (case l => k_is); (case c => k_is); (case k => k_is)

