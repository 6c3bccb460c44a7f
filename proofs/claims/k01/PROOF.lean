import PyProof.Rows.All
import HandS.ForMost
import HandS.TupAny
import HandS.Style
import HandS.ForExc
import HandS.Deep
import HandS.Wide
import HandS.IsInst
import HandS.Rev
import HandS.Zip
import HandS.Iter
import HandS.TryOnly
import HandS.More
import HandS.EndBits
import HandS.Words
import PySem.Challenge.RW_roundcuts_k01_rows_and_places
set_option Elab.async false
set_option linter.all false
/-! A small language of values: what the program's defs compute, without a heap. -/
namespace Rc
open PySem
abbrev D := PyData
abbrev Env := List (Option (Bool × D))

inductive Res (α : Type) where
  | ok (a : α)
  | exc (x : Str)
  | bad
def Res.bind {α β : Type} : Res α → (α → Res β) → Res β
  | .ok a, f => f a
  | .exc x, _ => .exc x
  | .bad, _ => .bad
@[simp] theorem bind_ok {α β : Type} (a : α) (f : α → Res β) : (Res.ok a).bind f = f a := rfl
@[simp] theorem bind_exc {α β : Type} (x : Str) (f : α → Res β) : (Res.exc x : Res α).bind f = .exc x := rfl
@[simp] theorem bind_bad {α β : Type} (f : α → Res β) : (Res.bad : Res α).bind f = .bad := rfl
def Res.ofO {α : Type} : Option α → Res α
  | some a => .ok a
  | none => .bad
@[simp] theorem ofO_some {α : Type} (a : α) : Res.ofO (some a) = .ok a := rfl
@[simp] theorem ofO_none {α : Type} : Res.ofO (none : Option α) = .bad := rfl

def geti : Env → Nat → Option (Bool × D)
  | [], _ => none
  | x :: _, 0 => x
  | _ :: m, i + 1 => geti m i
theorem geti_eq : ∀ (m : Env) (i : Nat), geti m i = (m[i]?).join
  | [], _ => by simp [geti]
  | x :: m, 0 => by simp [geti]
  | x :: m, i + 1 => by rw [geti, geti_eq m i]; simp

/-- what a def makes of its arguments: a new object or not, its value, the arguments behind it -/
abbrev MF := List (Bool × D) → Res (Bool × D × List (Bool × D))

inductive Bop | add | sub | mul | fdiv | mod | pow
inductive Cop | eq | ne | lt | le | gt | ge | isin | notin | is | isnot
inductive Blt | len | abs | all | any | max2 | min2 | max1 | min1 | tuple | list | int

mutual
inductive E where
  | var (i : Nat)
  | con (d : PyData)
  | bin (o : Bop) (a b : E)
  | neg (a : E)
  | nt (a : E)
  | and (a b : E)
  | or (a b : E)
  | cmp (o : Cop) (a b : E)
  | chn (o p : Cop) (a b c : E)
  | ite (c a b : E)
  | tup (es : Es)
  | lst (es : Es)
  | dct
  | idx (a b : E)
  | slc (a lo hi : E)
  | rvs (a : E)
  | call (f : MF) (ms : List Bool) (es : Es)
  | blt (b : Blt) (es : Es)
  | isi (a : E) (ts : List String)
  | lc (e : E) (g : List Nat) (it : It) (c : E) (own : List Nat)
inductive Es where
  | nil
  | cons (e : E) (es : Es)
inductive It where
  | sq (e : E)
  | rg (a : E)
  | rg2 (a b : E)
  | zp (a b : E)
  | en (a : E)
  | rv (a : E)
end

/-! ### operations on data -/
def bits (i : Int) : Nat := i.natAbs.log2
def mulOk (i j : Int) : Prop := bits i + bits j < 1000000
instance (i j : Int) : Decidable (mulOk i j) := inferInstanceAs (Decidable (_ < _))
def divOk (j : Int) : Prop := j ≠ 0 ∧ bits j < 9000
instance (j : Int) : Decidable (divOk j) := inferInstanceAs (Decidable (_ ∧ _))
def lenOk (n : Nat) : Prop := n ≤ sizeLine
instance (n : Nat) : Decidable (lenOk n) := inferInstanceAs (Decidable (_ ≤ _))

def bop : Bop → D → D → Option (Bool × D)
  | .add, .int i, .int j => some (false, .int (i + j))
  | .add, .list xs, .list ys => if lenOk (xs.length + ys.length) then some (true, .list (xs ++ ys)) else none
  | .add, .tuple xs, .tuple ys => if xs ≠ [] ∧ lenOk (xs.length + ys.length) then some (false, .tuple (xs ++ ys)) else none
  | .sub, .int i, .int j => some (false, .int (i - j))
  | .mul, .int i, .int j => if mulOk i j then some (false, .int (i * j)) else none
  | .mul, .list xs, .int k => if k < 2 ^ 63 ∧ -(2 ^ 63) ≤ k ∧ lenOk (xs.length * k.toNat) then some (true, .list (List.replicate k.toNat xs).flatten) else none
  | .fdiv, .int i, .int j => if divOk j then some (false, .int (i.fdiv j)) else none
  | .mod, .int i, .int j => if j ≠ 0 then some (false, .int (i.fmod j)) else none
  | .pow, .int i, .int j => if 0 ≤ j ∧ j ≤ 1000000 ∧ i.natAbs < 2 ^ 64 then some (false, .int (i ^ j.toNat)) else none
  | _, _, _ => none

def cop : Cop → D → D → Option Bool
  | .eq, x, y => if SeqAt.shaped x = true ∧ SeqAt.shaped y = true then some (PyData.eqv x y) else none
  | .ne, x, y => if SeqAt.shaped x = true ∧ SeqAt.shaped y = true then some (!PyData.eqv x y) else none
  | .lt, .int i, .int j => some (decide (i < j))
  | .le, .int i, .int j => some (decide (i ≤ j))
  | .gt, .int i, .int j => some (decide (j < i))
  | .ge, .int i, .int j => some (decide (j ≤ i))
  | .isin, x, .list ys => if SeqAt.shaped x = true ∧ SeqAt.shaped (.list ys) = true then some (ys.any fun z => PyData.eqv z x) else none
  | .notin, x, .list ys => if SeqAt.shaped x = true ∧ SeqAt.shaped (.list ys) = true then some (!ys.any fun z => PyData.eqv z x) else none
  | .is, x, .none => some (match x with | .none => true | _ => false)
  | .isnot, x, .none => some (match x with | .none => false | _ => true)
  | .is, .bool a, .bool b => some (a == b)
  | .isnot, .bool a, .bool b => some (!(a == b))
  | _, _, _ => none

def tyOf : D → Option String
  | .none => some "NoneType" | .bool _ => some "bool" | .int _ => some "int" | .str _ => some "str" | .list _ => some "list" | .tuple _ => some "tuple"
  | .dict [] => some "dict"
  | .dict ((.tuple _, _) :: _) => some "dict"
  | _ => none
def isiB (a t : String) : Bool := a == t || (a == "bool" && t == "int")
def isiD (d : D) (ts : List String) : Option Bool := (tyOf d).map fun a => ts.any (isiB a)

def allB : List D → Option Bool
  | [] => some true
  | .bool b :: xs => (allB xs).map (b && ·)
  | _ :: _ => none
def anyB : List D → Option Bool
  | [] => some false
  | .bool b :: xs => (anyB xs).map (b || ·)
  | _ :: _ => none
def intsOf : List D → Option (List Int)
  | [] => some []
  | .int i :: xs => (intsOf xs).map (i :: ·)
  | _ :: _ => none
def maxL : List Int → Option Int
  | [] => none
  | x :: xs => some (xs.foldl max x)
def minL : List Int → Option Int
  | [] => none
  | x :: xs => some (xs.foldl min x)

def bltF : Blt → List D → Option (Bool × D)
  | .len, [.list xs] => some (false, .int xs.length)
  | .len, [.tuple xs] => some (false, .int xs.length)
  | .len, [.dict [(.list xs, .none)]] => some (false, .int xs.length)
  | .abs, [.int i] => some (false, .int (if i < 0 then -i else i))
  | .all, [.list xs] => (allB xs).map fun b => (false, .bool b)
  | .any, [.list xs] => (anyB xs).map fun b => (false, .bool b)
  | .max2, [.int i, .int j] => some (false, .int (if j > i then j else i))
  | .min2, [.int i, .int j] => some (false, .int (if j < i then j else i))
  | .max1, [.list xs] => (intsOf xs).bind fun ns => (maxL ns).map fun i => (false, .int i)
  | .min1, [.list xs] => (intsOf xs).bind fun ns => (minL ns).map fun i => (false, .int i)
  | .tuple, [.list xs] => some (false, .tuple xs)
  | .tuple, [.tuple xs] => some (false, .tuple xs)
  | .list, [.list xs] => some (true, .list xs)
  | .list, [.tuple xs] => some (true, .list xs)
  | .int, [.int i] => some (false, .int i)
  | .int, [.bool b] => some (false, .int (if b then 1 else 0))
  | _, _ => none

def atD (xs : List D) (i : Int) : Option D := L2.atI xs i
def idxF : D → D → Option D
  | .list xs, .int i => atD xs i
  | .tuple xs, .int i => atD xs i
  | .dict [(.list xs, .none)], .int i => atD xs i
  | _, _ => none
def cutD (xs : List D) (lo hi : Option Int) : List D := (xs.drop (HT.sIx xs.length 0 lo)).take (HT.sIx xs.length xs.length hi - HT.sIx xs.length 0 lo)
def slcF : D → Option Int → Option Int → Option (Bool × D)
  | .list xs, lo, hi => some (true, .list (cutD xs lo hi))
  | .tuple xs, lo, hi => some (false, .tuple (cutD xs lo hi))
  | _, _, _ => none
def rvsF : D → Option (Bool × D)
  | .list xs => some (true, .list xs.reverse)
  | _ => none

/-! ### names -/
/-- a part of a slice -/
def partI : E → D → Option (Option Int)
  | .con .none, _ => some none
  | _, .int i => some (some i)
  | _, _ => none
def E.vr : E → Option Nat
  | .var i => some i
  | _ => none
/-- the operand's value at the time of the operation -/
def rd : E → D → Env → Option D
  | .var i, _, m => (geti m i).map (·.2)
  | _, d, _ => some d
@[simp] theorem rd_var (i : Nat) (d : D) (m : Env) : rd (.var i) d m = (geti m i).map (·.2) := rfl
def rds : List (E × D) → Env → Option (List D)
  | [], _ => some []
  | (e, d) :: r, m => (rd e d m).bind fun x => (rds r m).map (x :: ·)
/-- a place of the environment that is told of from now on -/
def leak (m : Env) (i : Nat) : Env := match geti m i with
  | some (true, d) => m.set i (some (false, d))
  | _ => m
/-- the environment behind the taking of an operand -/
def tkm : E → Env → Env
  | .var i, m => leak m i
  | _, m => m

def wipeE (m : Env) : List Nat → Env
  | [] => m
  | v :: vs => (wipeE m vs).set v none
def shO : Option (Bool × D) → Bool
  | some (true, _) => false
  | _ => true
/-- the places own as in m₀ -/
def backE (m₀ m : Env) : List Nat → Env
  | [] => m
  | v :: vs => (backE m₀ m vs).set v (geti m₀ v)
/-- the sources of a loop stand as they stood -/
def srcOk (m : Env) : List (Nat × List D) → Prop
  | [] => True
  | (i, xs) :: r => (∃ b, geti m i = some (b, .list xs)) ∧ srcOk m r
/-- nothing is raised in it -/
def Res.noX {α : Type} : Res α → Res α
  | .exc _ => .bad
  | r => r
@[simp] theorem noX_ok {α : Type} (a : α) : (Res.ok a).noX = .ok a := rfl
/-- a target: one name, or several -/
def bindT : List Nat → D → Env → Option Env
  | [i], d, m => some (m.set i (some (false, d)))
  | is, .tuple ds, m => if ds.length = is.length then some ((is.zip ds).foldl (fun m p => m.set p.1 (some (false, p.2))) m) else none
  | is, .list ds, m => if ds.length = is.length then some ((is.zip ds).foldl (fun m p => m.set p.1 (some (false, p.2))) m) else none
  | _, _, _ => none

abbrev Arg := Sum Nat D
/-- the arguments at the call -/
def fetch : List Arg → Env → Option (List (Bool × D) × Env)
  | [], m => some ([], m)
  | .inr d :: r, m => (fetch r m).map fun (as, m') => ((false, d) :: as, m')
  | .inl i :: r, m => match geti m i with
    | some (true, d) => (fetch r (m.set i none)).map fun (as, m') => ((true, d) :: as, m')
    | some (false, d) => (fetch r m).map fun (as, m') => ((false, d) :: as, m')
    | none => none
/-- .. and behind it -/
def back : List Arg → List (Bool × D) → List (Bool × D) → Env → Env
  | .inl i :: r, (true, _) :: as, f :: fs, m => (back r as fs m).set i (some f)
  | _ :: r, _ :: as, _ :: fs, m => back r as fs m
  | _, _, _, m => m

section
open Classical
noncomputable def lcL (srcs : List (Nat × List D)) (own : List Nat) (g : List Nat) (cnd : Env → Res (Bool × Env)) (elt : Env → Res (D × Env)) : List D → Env → Res (List D × Env)
  | [], m => if srcOk m srcs then .ok ([], m) else .bad
  | d :: ds, m => if srcOk m srcs then
      (Res.ofO (bindT g d m)).bind fun m1 => (cnd m1).bind fun p => if p.1 = true then (elt p.2).bind fun q => (lcL srcs own g cnd elt ds (wipeE q.2 own)).bind fun r => .ok (q.1 :: r.1, r.2)
        else lcL srcs own g cnd elt ds (wipeE p.2 own)
    else .bad
end

def asB : D → Option Bool
  | .bool b => some b
  | _ => none
def srcsOf : E → D → Env → List (Nat × List D)
  | .var i, .list xs, m => match geti m i with
    | some (true, _) => [(i, xs)]
    | _ => []
  | _, _, _ => []
def seqD : D → Option (List D)
  | .list xs => some xs
  | .tuple xs => some xs
  | _ => none
def isL : D → Bool
  | .list _ => true
  | _ => false
def rngD (lo hi : Int) : List D := (List.range (hi - lo).toNat).map fun (k : Nat) => .int (lo + k)
def smallI (i : Int) : Prop := -(2 ^ 62) ≤ i ∧ i < 2 ^ 62
instance (i : Int) : Decidable (smallI i) := inferInstanceAs (Decidable (_ ∧ _))

mutual
noncomputable def ev : E → Env → Res ((Bool × D) × Env)
  | .var i, m => match geti m i with | some (_, d) => .ok ((false, d), m) | none => .bad
  | .con d, m => .ok ((false, d), m)
  | .bin o a b, m => (ev a m).bind fun p => (ev b p.2).bind fun q => (Res.ofO ((rd a p.1.2 q.2).bind fun x => (rd b q.1.2 q.2).bind fun y => bop o x y)).bind fun r => .ok (r, q.2)
  | .neg a, m => (ev a m).bind fun p => match p.1.2 with | .int i => .ok ((false, .int (-i)), p.2) | _ => .bad
  | .nt a, m => (ev a m).bind fun p => match p.1.2 with | .bool b => .ok ((false, .bool (!b)), p.2) | _ => .bad
  | .and a b, m => (ev a m).bind fun p => match p.1.2 with | .bool true => ((ev b p.2).bind fun q => match q.1.2 with | .bool c => .ok ((false, .bool c), q.2) | _ => .bad) | .bool false => .ok ((false, .bool false), p.2) | _ => .bad
  | .or a b, m => (ev a m).bind fun p => match p.1.2 with | .bool false => ((ev b p.2).bind fun q => match q.1.2 with | .bool c => .ok ((false, .bool c), q.2) | _ => .bad) | .bool true => .ok ((false, .bool true), p.2) | _ => .bad
  | .cmp o a b, m => (ev a m).bind fun p => (ev b p.2).bind fun q => (Res.ofO ((rd a p.1.2 q.2).bind fun x => (rd b q.1.2 q.2).bind fun y => cop o x y)).bind fun r => .ok ((false, .bool r), q.2)
  | .chn o o' a b c, m => (ev a m).bind fun p => (ev b p.2).bind fun q => (Res.ofO ((rd a p.1.2 q.2).bind fun x => (rd b q.1.2 q.2).bind fun y => cop o x y)).bind fun r =>
      if r = true then (ev c q.2).bind fun t => (Res.ofO ((rd b q.1.2 t.2).bind fun x => (rd c t.1.2 t.2).bind fun y => cop o' x y)).bind fun r' => .ok ((false, .bool r'), t.2) else .ok ((false, .bool false), q.2)
  | .ite c a b, m => (ev c m).bind fun p => match p.1.2 with
      | .bool true => ((ev a p.2).bind fun q => .ok ((false, q.1.2), tkm a q.2))
      | .bool false => ((ev b p.2).bind fun q => .ok ((false, q.1.2), tkm b q.2))
      | _ => .bad
  | .tup es, m => (evs es m).bind fun p => if lenOk p.1.length then .ok ((false, .tuple p.1), p.2) else .bad
  | .lst es, m => (evs es m).bind fun p => if lenOk p.1.length then .ok ((true, .list p.1), p.2) else .bad
  | .dct, m => .ok ((true, .dict []), m)
  | .idx a b, m => (ev a m).bind fun p => (ev b p.2).bind fun q => (Res.ofO ((rd a p.1.2 q.2).bind fun x => (rd b q.1.2 q.2).bind fun y => idxF x y)).bind fun r => .ok ((false, r), q.2)
  | .slc a l h, m => (ev a m).bind fun p => (ev l p.2).bind fun q => (Res.ofO (partI l q.1.2)).bind fun lo => (ev h q.2).bind fun t => (Res.ofO (partI h t.1.2)).bind fun hi =>
      (Res.ofO ((rd a p.1.2 t.2).bind fun x => slcF x lo hi)).bind fun r => .ok (r, t.2)
  | .rvs a, m => (ev a m).bind fun p => (Res.ofO (rvsF p.1.2)).bind fun r => .ok (r, p.2)
  | .call f ms es, m => (evA ms es m).bind fun p => match fetch p.1 p.2 with
      | some (as, m1) => (f as).bind fun r => if r.2.2.length = as.length then .ok ((r.1, r.2.1), back p.1 as r.2.2 m1) else .bad
      | none => .bad
  | .blt b es, m => (evO es m).bind fun p => (Res.ofO ((rds p.1 p.2).bind fun xs => bltF b xs)).bind fun r => .ok (r, p.2)
  | .isi a ts, m => (ev a m).bind fun p => (Res.ofO ((rd a p.1.2 p.2).bind fun x => isiD x ts)).bind fun b => .ok ((false, .bool b), p.2)
  | .lc e g it c own, m => (evI it m).bind fun p =>
      if (own.all fun i => shO (geti p.2.2 i)) = true then
        ((lcL p.2.1 own g (fun m => (ev c m).bind fun q => match q.1.2 with | .bool b => .ok (b, q.2) | _ => .bad) (fun m => (ev e m).bind fun q => .ok (q.1.2, tkm e q.2)) p.1 (wipeE p.2.2 own)).noX).bind fun r =>
          if lenOk r.1.length then .ok ((true, .list r.1), backE p.2.2 r.2 own) else .bad
      else .bad
/-- displayed items -/
noncomputable def evs : Es → Env → Res (List D × Env)
  | .nil, m => .ok ([], m)
  | .cons e es, m => (ev e m).bind fun p => (evs es (tkm e p.2)).bind fun q => .ok (p.1.2 :: q.1, q.2)
/-- operands -/
noncomputable def evO : Es → Env → Res (List (E × D) × Env)
  | .nil, m => .ok ([], m)
  | .cons e es, m => (ev e m).bind fun p => (evO es p.2).bind fun q => .ok ((e, p.1.2) :: q.1, q.2)
/-- arguments -/
noncomputable def evA : List Bool → Es → Env → Res (List Arg × Env)
  | _, .nil, m => .ok ([], m)
  | ms, .cons e es, m => (ev e m).bind fun p => match e, ms with
      | .var i, true :: ms' => (evA ms' es p.2).bind fun q => .ok (.inl i :: q.1, q.2)
      | _, _ => (evA ms.tail es (tkm e p.2)).bind fun q => .ok (.inr p.1.2 :: q.1, q.2)
/-- what is walked: the items, the sources that must stand -/
noncomputable def evI : It → Env → Res (List D × List (Nat × List D) × Env)
  | .sq e, m => (ev e m).bind fun p => (Res.ofO (seqD p.1.2)).bind fun xs => .ok (xs, srcsOf e p.1.2 p.2, p.2)
  | .rg a, m => (ev a m).bind fun p => match p.1.2 with
      | .int j => if smallI j then .ok (rngD 0 j, [], p.2) else .bad
      | _ => .bad
  | .rg2 a b, m => (ev a m).bind fun p => (ev b p.2).bind fun q => match p.1.2, q.1.2 with
      | .int i, .int j => if smallI i ∧ smallI j then .ok (rngD i j, [], q.2) else .bad
      | _, _ => .bad
  | .zp a b, m => (ev a m).bind fun p => (ev b p.2).bind fun q =>
(Res.ofO (rd a p.1.2 q.2)).bind fun x => (Res.ofO (rd b q.1.2 q.2)).bind fun y =>
      if isL x = isL y then (Res.ofO (seqD x)).bind fun xs => (Res.ofO (seqD y)).bind fun ys => .ok (List.zipWith (fun u v => .tuple [u, v]) xs ys, srcsOf a x q.2 ++ srcsOf b y q.2, q.2) else .bad
  | .en a, m => (ev a m).bind fun p => if isL p.1.2 = true then (Res.ofO (seqD p.1.2)).bind fun xs => .ok ((List.range xs.length).zipWith (fun (k : Nat) v => .tuple [.int k, v]) xs, srcsOf a p.1.2 p.2, p.2) else .bad
  | .rv a, m => (ev a m).bind fun p => (Res.ofO (seqD p.1.2)).bind fun xs => .ok (xs.reverse, srcsOf a p.1.2 p.2, p.2)
end

/-! ### statements -/
inductive Mth | append | insert | pop | popAt | extend | clear
mutual
inductive S where
  | asg (i : Nat) (e : E)
  | unp (g : List Nat) (e : E)
  | par (g : List Nat) (es : Es)
  | sti (i : Nat) (x e : E)
  | mth (i : Nat) (k : Mth) (es : Es)
  | exp (e : E)
  | ret (e : E)
  | retv (i : Nat)
  | retn
  | sif (c : E) (a b : Ss)
  | sfor (g : List Nat) (it : It) (b : Ss)
  | whl (c : E) (b : Ss)
  | rais (x : Str)
  | brk
  | cnt
  | pass
inductive Ss where
  | nil
  | cons (s : S) (ss : Ss)
end
/-- how a statement ends -/
inductive Fw where
  | nx (m : Env)
  | rt (fr : Bool) (d : D) (m : Env)
  | bk (m : Env)
  | ct (m : Env)

/-- a method that changes a list (the items handed in) -/
def mthF : Mth → D → List D → Option D
  | .append, .list xs, [y] => if lenOk (xs.length + 1) then some (.list (xs ++ [y])) else none
  | .insert, .list xs, [.int i, y] => if 0 ≤ i ∧ i < 2 ^ 63 ∧ lenOk (xs.length + 1) then some (.list (xs.take i.toNat ++ y :: xs.drop i.toNat)) else none
  | .pop, .list xs, [] => if xs ≠ [] then some (.list xs.dropLast) else none
  | .popAt, .list xs, [.int i] => if -(2 ^ 63) ≤ i ∧ i < 2 ^ 63 then (L2.ixN xs.length i).map fun k => .list (xs.eraseIdx k) else none
  | .extend, .list xs, [.list ys] => if lenOk (xs.length + ys.length) then some (.list (xs ++ ys)) else none
  | .clear, .list _, [] => some (.list [])
  | _, _, _ => none
/-- keys of dicts: tuples of ints -/
def keyOf : D → Option (List Int)
  | .tuple xs => intsOf xs
  | _ => none
def putD : List (D × D) → List Int → D → List (D × D)
  | [], k, v => [(.tuple (k.map .int), v)]
  | (k', v') :: r, k, v => if keyOf k' = some k then (k', v) :: r else (k', v') :: putD r k v
def hasD (kvs : List (D × D)) (k : List Int) : Bool := kvs.any fun p => decide (keyOf p.1 = some k)
/-- x[i] = v -/
def stiF : D → D → D → Option D
  | .list xs, .int i, v => (L2.ixN xs.length i).map fun k => .list (xs.set k v)
  | _, _, _ => none

section
open Classical
noncomputable def forL (srcs : List (Nat × List D)) (g : List Nat) (body : Env → Res Fw) : List D → Env → Res Fw
  | [], m => if srcOk m srcs then .ok (.nx m) else .bad
  | d :: ds, m => if srcOk m srcs then
      (Res.ofO (bindT g d m)).bind fun m1 => (body m1).bind fun f => match f with
        | .nx m2 => forL srcs g body ds m2
        | .ct m2 => forL srcs g body ds m2
        | .bk m2 => .ok (.nx m2)
        | .rt fr d m2 => .ok (.rt fr d m2)
    else .bad
end
/-- a turn of a while -/
inductive Wt where
  | go (m : Env)
  | stop (r : Res Fw)
def wturn (c : Env → Res (Bool × Env)) (b : Env → Res Fw) (m : Env) : Wt :=
  match c m with
  | .ok (true, m1) => match b m1 with
    | .ok (.nx m2) => .go m2
    | .ok (.ct m2) => .go m2
    | .ok (.bk m2) => .stop (.ok (.nx m2))
    | .ok (.rt fr d m2) => .stop (.ok (.rt fr d m2))
    | .exc x => .stop (.exc x)
    | .bad => .stop .bad
  | .ok (false, m1) => .stop (.ok (.nx m1))
  | .exc x => .stop (.exc x)
  | .bad => .stop .bad
def whN (c : Env → Res (Bool × Env)) (b : Env → Res Fw) : Nat → Env → Option (Res Fw)
  | 0, _ => none
  | n + 1, m => match wturn c b m with
    | .go m2 => whN c b n m2
    | .stop r => some r
section
open Classical
noncomputable def wh (c : Env → Res (Bool × Env)) (b : Env → Res Fw) (m : Env) : Res Fw :=
  if h : ∃ p : Nat × Res Fw, whN c b p.1 m = some p.2 then (choose h).2 else .bad
end
theorem whN_mono {c b} : ∀ {n k : Nat} {m : Env} {r : Res Fw}, whN c b n m = some r → n ≤ k → whN c b k m = some r
  | 0, _, _, _, h, _ => by simp [whN] at h
  | n + 1, 0, _, _, _, h => by omega
  | n + 1, k + 1, m, r, h, hk => by
    unfold whN at h ⊢
    split at h
    · rename_i m2 e
      exact whN_mono h (by omega)
    · exact h
theorem wh_of {c b} {n : Nat} {m : Env} {r : Res Fw} (h : whN c b n m = some r) : wh c b m = r := by
  have ex : ∃ p : Nat × Res Fw, whN c b p.1 m = some p.2 := ⟨(n, r), h⟩
  unfold wh
  rw [dif_pos ex]
  have q := Classical.choose_spec ex
  have a := whN_mono q (Nat.le_max_left (Classical.choose ex).1 n)
  have b' := whN_mono h (Nat.le_max_right (Classical.choose ex).1 n)
  rw [a] at b'
  exact Option.some.inj b'
theorem wh_stop {c b} {m : Env} {r : Res Fw} (h : wturn c b m = .stop r) : wh c b m = r := wh_of (n := 1) (by unfold whN; rw [h])
theorem wh_go {c b} {m m2 : Env} (h : wturn c b m = .go m2) : wh c b m = wh c b m2 := by
  by_cases ex : ∃ p : Nat × Res Fw, whN c b p.1 m2 = some p.2
  · obtain ⟨⟨n, r⟩, q⟩ := ex
    rw [wh_of q]
    refine wh_of (n := n + 1) ?_
    unfold whN
    rw [h]
    exact q
  · have ex2 : ¬ ∃ p : Nat × Res Fw, whN c b p.1 m = some p.2 := fun ⟨⟨n, r⟩, q⟩ => by
      cases n with
      | zero => simp [whN] at q
      | succ n =>
        unfold whN at q
        rw [h] at q
        exact ex ⟨(n, r), q⟩
    unfold wh
    rw [dif_neg ex, dif_neg ex2]

def takeV : E → (Bool × D) → Bool × D
  | .var _, p => (false, p.2)
  | _, p => p
noncomputable def evC (c : E) (m : Env) : Res (Bool × Env) := (ev c m).bind fun q => match q.1.2 with | .bool b => .ok (b, q.2) | _ => .bad
mutual
noncomputable def exS : S → Env → Res Fw
  | .asg i e, m => (ev e m).bind fun p => .ok (.nx ((tkm e p.2).set i (some (takeV e p.1))))
  | .unp g e, m => (ev e m).bind fun p => (Res.ofO (bindT g p.1.2 (tkm e p.2))).bind fun m1 => .ok (.nx m1)
  | .par g es, m => (evs es m).bind fun p => if p.1.length = g.length then .ok (.nx ((g.zip p.1).foldl (fun m q => m.set q.1 (some (false, q.2))) p.2)) else .bad
  | .sti i x e, m => (ev e m).bind fun p => (match geti (tkm e p.2) i with
      | some (true, _) => (ev x (tkm e p.2)).bind fun q => (match geti q.2 i with
        | some (true, d) => (Res.ofO ((rd x q.1.2 q.2).bind fun k => stiF d k p.1.2)).bind fun d' => .ok (.nx (q.2.set i (some (true, d'))))
        | _ => .bad)
      | _ => .bad)
  | .mth i k es, m => match geti m i with
      | some (true, .list _) => (evs es m).bind fun p => (match geti p.2 i with
        | some (true, d) => (Res.ofO (mthF k d p.1)).bind fun d' => .ok (.nx (p.2.set i (some (true, d'))))
        | _ => .bad)
      | _ => .bad
  | .exp e, m => (ev e m).bind fun p => .ok (.nx p.2)
  | .ret e, m => (ev e m).bind fun p => .ok (.rt (takeV e p.1).1 p.1.2 (tkm e p.2))
  | .retv i, m => match geti m i with
      | some (f, d) => .ok (.rt f d (m.set i none))
      | none => .bad
  | .retn, m => .ok (.rt false .none m)
  | .sif c a b, m => (evC c m).bind fun p => if p.1 = true then exSs a p.2 else exSs b p.2
  | .sfor g it b, m => (evI it m).bind fun p => forL p.2.1 g (fun m => exSs b m) p.1 p.2.2
  | .whl c b, m => wh (evC c) (fun m => exSs b m) m
  | .rais x, _ => .exc x
  | .brk, m => .ok (.bk m)
  | .cnt, m => .ok (.ct m)
  | .pass, m => .ok (.nx m)
noncomputable def exSs : Ss → Env → Res Fw
  | .nil, m => .ok (.nx m)
  | .cons s ss, m => (exS s m).bind fun f => match f with
      | .nx m1 => exSs ss m1
      | .rt fr d m1 => .ok (.rt fr d m1)
      | .bk m1 => .ok (.bk m1)
      | .ct m1 => .ok (.ct m1)
end
/-- a def: how many names, its body -/
structure Fn where
  n : Nat
  body : Ss
/-- the arguments behind the body -/
def finsOf : Nat → List (Bool × D) → Env → Option (List (Bool × D))
  | _, [], _ => some []
  | k, (false, d) :: r, m => (finsOf (k + 1) r m).map ((false, d) :: ·)
  | k, (true, _) :: r, m => (geti m k).bind fun p => (finsOf (k + 1) r m).map (p :: ·)
noncomputable def runFn (F : Fn) (as : List (Bool × D)) : Res (Bool × D × List (Bool × D)) :=
  (exSs F.body (as.map some ++ List.replicate (F.n - as.length) none)).bind fun f => match f with
    | .nx m => (Res.ofO (finsOf 0 as m)).bind fun fs => .ok (false, .none, fs)
    | .rt fr d m => (Res.ofO (finsOf 0 as m)).bind fun fs => .ok (fr, d, fs)
    | _ => .bad
end Rc

set_option maxRecDepth 100000
/-! How the language's values lie in the layer's heap. -/
namespace Rc
open PySem L2

theorem Same.seqT {K : PySem.W.Frag} {H H' : Hp} {a : Addr} {xs : List V} (e : Same H H') (h : SqT K H a xs) : SqT K H' a xs := by
  rcases h with (h | ⟨o, h⟩) | h
  · exact .inl (.inl (e _ _ h))
  · exact .inl (.inr ⟨o, e _ _ h⟩)
  · exact .inr h

def keyD : Key → D
  | .inl i => .int i
  | .inr s => .str s
/-- the script, as a value -/
def scrD (ns : List Int) : D := .dict [(.list (ns.map .int), .none)]
mutual
inductive Rp (K : PySem.W.Frag) (H : Hp) : V → D → Prop
  | non : Rp K H .non .none
  | bl (b : Bool) : Rp K H (.bl b) (.bool b)
  | int (i : Int) : Rp K H (.int i) (.int i)
  | str (x : Str) : Rp K H (.str x) (.str x)
  | lst {a : Addr} {xs : List V} {ds : List D} : H a = some (.lst xs) → RpA K H xs ds → Rp K H (.ref a) (.list ds)
  | tup {a : Addr} {xs : List V} {ds : List D} : SqT K H a xs → RpA K H xs ds → Rp K H (.ref a) (.tuple ds)
  | dct {a : Addr} {kvs : List (List Key × V)} {ws : List (D × D)} {vs : List V} {ds : List D} : H a = some (.dT kvs) → RpA K H vs ds → vs = kvs.map (·.2) → ds = ws.map (·.2) → ws.map (·.1) = kvs.map (fun p => PyData.tuple (p.1.map keyD)) → Rp K H (.ref a) (.dict ws)
  | scr {a : Addr} {ns : List Int} {d : D} : SqL K H a (ns.map V.int) → d = scrD ns → Rp K H (.ref a) d
inductive RpA (K : PySem.W.Frag) (H : Hp) : List V → List D → Prop
  | nil : RpA K H [] []
  | cons {v : V} {vs : List V} {d : D} {ds : List D} : Rp K H v d → RpA K H vs ds → RpA K H (v :: vs) (d :: ds)
end
section
variable {K : PySem.W.Frag} {H H' : Hp}
mutual
theorem Rp.mono' (e : Same H H') : ∀ {v : V} {d : D}, Rp K H v d → Rp K H' v d
  | _, _, .non => .non
  | _, _, .bl b => .bl b
  | _, _, .int i => .int i
  | _, _, .str x => .str x
  | _, _, .lst h1 h2 => .lst (e _ _ h1) (RpA.mono' e h2)
  | _, _, .tup h1 h2 => .tup (Same.seqT e h1) (RpA.mono' e h2)
  | _, _, .dct h1 h2 h3 h4 h5 => .dct (e _ _ h1) (RpA.mono' e h2) h3 h4 h5
  | _, _, .scr h1 h2 => .scr (e.seq h1) h2
theorem RpA.mono' (e : Same H H') : ∀ {vs : List V} {ds : List D}, RpA K H vs ds → RpA K H' vs ds
  | _, _, .nil => .nil
  | _, _, .cons h1 h2 => .cons (Rp.mono' e h1) (RpA.mono' e h2)
end
theorem Rp.mono (e : Same H H') (d : D) (v : V) (h : Rp K H v d) : Rp K H' v d := Rp.mono' e h
theorem RpA.mono (e : Same H H') (ds : List D) (vs : List V) (h : RpA K H vs ds) : RpA K H' vs ds := RpA.mono' e h
mutual
theorem Rp.toDp : ∀ (d : D) (v : V), d.canLay0 = true → Rp K H v d → Dp K H v d
  | .none, _, _, h => by
    cases h with
    | non => exact .non
    | scr _ e => cases e
  | .bool _, _, _, h => by
    cases h with
    | bl => exact .bl _
    | scr _ e => cases e
  | .int _, _, _, h => by
    cases h with
    | int => exact .int _
    | scr _ e => cases e
  | .str _, _, _, h => by
    cases h with
    | str => exact .str _
    | scr _ e => cases e
  | .list ds, _, c, h => by
    cases h with
    | lst hs ha => exact .lst (SqL.of hs) (RpA.toDp ds _ (by simpa [PyData.canLay0] using c) ha)
    | scr _ e => cases e
  | .tuple ds, _, c, h => by
    cases h with
    | tup hs ha => exact .tup hs (RpA.toDp ds _ (by simpa [PyData.canLay0] using c) ha)
    | scr _ e => cases e
  | .dict _, _, c, _ => by simp [PyData.canLay0] at c
theorem RpA.toDp : ∀ (ds : List D) (vs : List V), PyData.canLayAll0 ds = true → RpA K H vs ds → DpAll K H vs ds
  | [], _, _, h => by cases h; exact .nil
  | d :: ds, _, c, h => by
    have c : (d.canLay0 && PyData.canLayAll0 ds) = true := by simpa [PyData.canLayAll0] using c
    rw [Bool.and_eq_true] at c
    cases h with
    | cons h1 h2 => exact .cons (Rp.toDp d _ c.1 h1) (RpA.toDp ds _ c.2 h2)
end
theorem RpA.length : ∀ {vs : List V} {ds : List D}, RpA K H vs ds → vs.length = ds.length
  | _, _, .nil => rfl
  | _, _, .cons _ t => by simp [RpA.length t]
theorem RpA.get : ∀ {vs : List V} {ds : List D} {i : Nat} {d : D}, RpA K H vs ds → ds[i]? = some d → ∃ v, vs[i]? = some v ∧ Rp K H v d
  | _, _, _, _, .nil, e => by simp at e
  | _, _, 0, _, .cons r _, e => by simp at e; subst e; exact ⟨_, rfl, r⟩
  | _, _, i + 1, d, .cons _ t, e => by
    obtain ⟨v, h1, h2⟩ := RpA.get (i := i) (d := d) t (by simpa using e)
    exact ⟨v, by simpa using h1, h2⟩
theorem RpA.getV : ∀ {vs : List V} {ds : List D} {i : Nat} {v : V}, RpA K H vs ds → vs[i]? = some v → ∃ d, ds[i]? = some d ∧ Rp K H v d
  | _, _, _, _, .nil, e => by simp at e
  | _, _, 0, _, .cons r _, e => by simp at e; subst e; exact ⟨_, rfl, r⟩
  | _, _, i + 1, d, .cons _ t, e => by
    obtain ⟨v, h1, h2⟩ := RpA.getV (i := i) (v := d) t (by simpa using e)
    exact ⟨v, by simpa using h1, h2⟩
theorem RpA.append : ∀ {vs ws : List V} {ds es : List D}, RpA K H vs ds → RpA K H ws es → RpA K H (vs ++ ws) (ds ++ es)
  | _, _, _, _, .nil, h => h
  | _, _, _, _, .cons r t, h => .cons r (RpA.append t h)
theorem RpA.take : ∀ {vs : List V} {ds : List D} (n : Nat), RpA K H vs ds → RpA K H (vs.take n) (ds.take n)
  | _, _, 0, _ => by simp; exact .nil
  | _, _, _ + 1, .nil => by simp; exact .nil
  | _, _, n + 1, .cons r t => .cons r (RpA.take n t)
theorem RpA.drop : ∀ {vs : List V} {ds : List D} (n : Nat), RpA K H vs ds → RpA K H (vs.drop n) (ds.drop n)
  | _, _, 0, h => h
  | _, _, _ + 1, .nil => by simp; exact .nil
  | _, _, n + 1, .cons _ t => RpA.drop n t
theorem RpA.reverse : ∀ {vs : List V} {ds : List D}, RpA K H vs ds → RpA K H vs.reverse ds.reverse
  | _, _, .nil => .nil
  | _, _, .cons r t => by simp only [List.reverse_cons]; exact (RpA.reverse t).append (.cons r .nil)
theorem RpA.set : ∀ {vs : List V} {ds : List D} (n : Nat) {v : V} {d : D}, RpA K H vs ds → Rp K H v d → RpA K H (vs.set n v) (ds.set n d)
  | _, _, _, _, _, .nil, _ => .nil
  | _, _, 0, _, _, .cons _ t, r => .cons r t
  | _, _, n + 1, _, _, .cons r' t, r => .cons r' (RpA.set n t r)
theorem RpA.erase : ∀ {vs : List V} {ds : List D} (n : Nat), RpA K H vs ds → RpA K H (vs.eraseIdx n) (ds.eraseIdx n)
  | _, _, _, .nil => .nil
  | _, _, 0, .cons _ t => t
  | _, _, n + 1, .cons r t => .cons r (RpA.erase n t)
theorem RpA.dropLast {vs : List V} {ds : List D} (h : RpA K H vs ds) : RpA K H vs.dropLast ds.dropLast := by
  rw [List.dropLast_eq_take, List.dropLast_eq_take, h.length]
  exact h.take _
theorem RpA.nil_iff {vs : List V} {ds : List D} (h : RpA K H vs ds) : vs = [] ↔ ds = [] := by
  cases h with
  | nil => simp
  | cons _ _ => simp
theorem RpA.cut {vs : List V} {ds : List D} (lo hi : Option Int) (h : RpA K H vs ds) : RpA K H (cutV vs lo hi) (cutD ds lo hi) := by
  unfold cutV cutD
  rw [h.length]
  exact (h.drop _).take _
theorem RpA.replicate {vs : List V} {ds : List D} (h : RpA K H vs ds) : ∀ n : Nat, RpA K H (List.replicate n vs).flatten (List.replicate n ds).flatten
  | 0 => by simp; exact .nil
  | n + 1 => by simp only [List.replicate_succ, List.flatten_cons]; exact h.append (RpA.replicate h n)
end

/-! ### what is owned -/
inductive Cont (K : PySem.W.Frag) (H : Hp) : HO → D → Prop
  | lst {vs : List V} {ds : List D} : RpA K H vs ds → Cont K H (.lst vs) (.list ds)
  | dT {kvs : List (List Key × V)} {ws : List (D × D)} : RpA K H (kvs.map (·.2)) (ws.map (·.2)) → ws.map (·.1) = kvs.map (fun p => PyData.tuple (p.1.map keyD)) → Cont K H (.dT kvs) (.dict ws)
theorem Cont.mono {K : PySem.W.Frag} {H H' : Hp} (e : Same H H') {o : HO} {d : D} (c : Cont K H o d) : Cont K H' o d := by
  cases c with
  | lst h => exact .lst (RpA.mono e _ _ h)
  | dT h h2 => exact .dT (RpA.mono e _ _ h) h2
def Own (σ : St) (m : Env) (a : Addr) : Prop := ∃ i d, σ[i]? = some (some (.ref a)) ∧ geti m i = some (true, d)
structure REnv (K : PySem.W.Frag) (Hs H : Hp) (σ : St) (m : Env) : Prop where
  sub : Same Hs H
  len : σ.length = m.length
  val : ∀ i d, geti m i = some (false, d) → ∃ v, σ[i]? = some (some v) ∧ Rp K Hs v d
  own : ∀ i d, geti m i = some (true, d) → ∃ a o, σ[i]? = some (some (.ref a)) ∧ H a = some o ∧ Cont K Hs o d ∧ Hs a = none
  inj : ∀ i j d e a, geti m i = some (true, d) → geti m j = some (true, e) → σ[i]? = some (some (.ref a)) → σ[j]? = some (some (.ref a)) → i = j
structure Fram (Hs H : Hp) (O : Addr → Prop) (Hs' H' : Hp) (O' : Addr → Prop) : Prop where
  same : Same Hs Hs'
  keep : ∀ b o, H b = some o → ¬ O b → H' b = some o
  news : ∀ b, Hs' b ≠ none → Hs b ≠ none ∨ H b = none ∨ O b
  owns : ∀ b, O' b → O b ∨ H b = none
theorem Fram.refl {Hs H : Hp} {O : Addr → Prop} : Fram Hs H O Hs H O := ⟨Same.refl _, fun _ _ h _ => h, fun _ h => .inl h, fun _ h => .inl h⟩
theorem Fram.trans {Hs H Hs1 H1 Hs2 H2 : Hp} {O O1 O2 : Addr → Prop} (a : Fram Hs H O Hs1 H1 O1) (b : Fram Hs1 H1 O1 Hs2 H2 O2) : Fram Hs H O Hs2 H2 O2 where
  same := a.same.trans b.same
  keep := fun c o h n => b.keep c o (a.keep c o h n) fun z => (a.owns c z).elim n fun q => by rw [h] at q; cases q
  news := fun c h => by
    by_cases hO : O c
    · exact .inr (.inr hO)
    cases e : H c with
    | none => exact .inr (.inl rfl)
    | some o =>
      rcases b.news c h with q | q | q
      · exact (a.news c q).elim .inl fun z => z.elim (fun z => by rw [e] at z; cases z) fun z => absurd z hO
      · rw [a.keep c o e hO] at q; cases q
      · rcases a.owns c q with z | z
        · exact absurd z hO
        · rw [e] at z; cases z
  owns := fun c h => by
    by_cases hO : O c
    · exact .inl hO
    cases e : H c with
    | none => exact .inr rfl
    | some o =>
      rcases b.owns c h with q | q
      · exact (a.owns c q).imp id fun z => by rw [e] at z; cases z
      · rw [a.keep c o e hO] at q; cases q
theorem Fram.weak {Hs H Hs1 H1 : Hp} {O O1 O2 : Addr → Prop} (a : Fram Hs H O Hs1 H1 O1) (h : ∀ b, O2 b → O1 b) : Fram Hs H O Hs1 H1 O2 :=
  ⟨a.same, a.keep, a.news, fun b z => a.owns b (h b z)⟩
/-- what an exception finds -/
def ExF (H : Hp) (O : Addr → Prop) (H' : Hp) : Prop := ∀ b o, H b = some o → ¬ O b → H' b = some o
theorem ExF.trans {Hs H Hs1 H1 H2 : Hp} {O O1 : Addr → Prop} (a : Fram Hs H O Hs1 H1 O1) (b : ExF H1 O1 H2) : ExF H O H2 := fun c o h n =>
  b c o (a.keep c o h n) fun z => (a.owns c z).elim n fun q => by rw [h] at q; cases q

/-! ### results -/
def OV (O : Addr → Prop) (fr : Bool) (v : V) : Addr → Prop := fun b => O b ∨ (fr = true ∧ v = .ref b)
/-- a value told: a new object that nothing else tells of, or shared -/
def RV (K : PySem.W.Frag) (Hs H : Hp) (O : Addr → Prop) (fr : Bool) (v : V) (d : D) : Prop :=
  match fr with
  | true => ∃ a o, v = .ref a ∧ H a = some o ∧ Cont K Hs o d ∧ Hs a = none ∧ ¬ O a
  | false => Rp K Hs v d
/-- .. of an expression: a name's is the name's -/
def RR (K : PySem.W.Frag) (e : E) (σ : St) (m : Env) (Hs H : Hp) (fr : Bool) (v : V) (d : D) : Prop :=
  match e.vr with
  | some i => σ[i]? = some (some v) ∧ ∃ f, geti m i = some (f, d)
  | none => RV K Hs H (Own σ m) fr v d
/-- an operand -/
def BR (K : PySem.W.Frag) (e : E) (σ : St) (Hs : Hp) (v : V) (d : D) : Prop :=
  match e.vr with
  | some i => σ[i]? = some (some v)
  | none => Rp K Hs v d
/-- a value that may be read -/
def RB (K : PySem.W.Frag) (Hs H : Hp) (v : V) (d : D) : Prop := Rp K Hs v d ∨ ∃ a o, v = .ref a ∧ H a = some o ∧ Cont K Hs o d

def PostR {α : Type} (P : α → Prop) (Xc : Str → Prop) : Res α → Prop
  | .ok a => P a
  | .exc x => Xc x
  | .bad => False
theorem PostR.bind {α β : Type} {P : β → Prop} {Xc : Str → Prop} {r : Res α} {f : α → Res β} (h : PostR P Xc (r.bind f)) : PostR (fun a => PostR P Xc (f a)) Xc r := by
  cases r <;> exact h
theorem PostR.imp {α : Type} {P P' : α → Prop} {Xc Xc' : Str → Prop} {r : Res α} (h : PostR P Xc r) (hp : ∀ a, P a → P' a) (hx : ∀ x, Xc x → Xc' x) : PostR P' Xc' r := by
  cases r with
  | ok a => exact hp a h
  | exc x => exact hx x h
  | bad => exact h
theorem PostR.ofO {α : Type} {P : α → Prop} {Xc : Str → Prop} {r : Option α} (h : PostR P Xc (Res.ofO r)) : ∃ a, r = some a ∧ P a := by
  cases r with
  | none => exact h.elim
  | some a => exact ⟨a, rfl, h⟩

section
variable {K : PySem.W.Frag} {Hs H Hs' H' : Hp} {σ : St} {m m' : Env}
theorem geti_set_same {m : Env} {i : Nat} {x : Option (Bool × D)} (h : i < m.length) : geti (m.set i x) i = x := by
  rw [geti_eq, List.getElem?_set_self h]; simp
theorem geti_set_ne {m : Env} {i j : Nat} {x : Option (Bool × D)} (h : i ≠ j) : geti (m.set i x) j = geti m j := by
  rw [geti_eq, geti_eq, List.getElem?_set_ne h]
theorem geti_lt {m : Env} {i : Nat} {p : Bool × D} (h : geti m i = some p) : i < m.length := by
  rw [geti_eq] at h
  by_cases q : i < m.length
  · exact q
  · rw [List.getElem?_eq_none (by omega)] at h; simp at h
theorem set_over {m : Env} {i : Nat} {x : Option (Bool × D)} (h : ¬ i < m.length) : m.set i x = m := List.set_eq_of_length_le (by omega)

theorem REnv.rb (R : REnv K Hs H σ m) {i : Nat} {f : Bool} {d : D} {v : V} (h : geti m i = some (f, d)) (e : σ[i]? = some (some v)) : RB K Hs H v d := by
  cases f with
  | false =>
    obtain ⟨v', e', r⟩ := R.val i d h
    rw [e] at e'; cases e'
    exact .inl r
  | true =>
    obtain ⟨a, o, e', h1, h2, _⟩ := R.own i d h
    rw [e] at e'; cases e'
    exact .inr ⟨a, o, rfl, h1, h2⟩
theorem rd_eq (e : E) (d : D) (m : Env) : rd e d m = match e.vr with | some i => (geti m i).map (·.2) | none => some d := by cases e <;> rfl
theorem tkm_eq (e : E) (m : Env) : tkm e m = match e.vr with | some i => leak m i | none => m := by cases e <;> rfl
theorem takeV_eq (e : E) (p : Bool × D) : takeV e p = match e.vr with | some _ => (false, p.2) | none => p := by cases e <;> rfl
/-- an operand at the operation -/
theorem REnv.op (R : REnv K Hs H σ m) {e : E} {d d' : D} {v : V} (b : BR K e σ Hs v d) (h : rd e d m = some d') : RB K Hs H v d' := by
  rw [rd_eq] at h
  unfold BR at b
  cases q : e.vr with
  | none =>
    rw [q] at b h
    have h := Option.some.inj h; subst h; exact .inl b
  | some i =>
    rw [q] at b h
    have h : (geti m i).map (·.2) = some d' := h
    cases q : geti m i with
    | none => rw [q] at h; simp at h
    | some p =>
      obtain ⟨f, x⟩ := p
      rw [q] at h
      have h : x = d' := Option.some.inj h
      subst h
      exact R.rb q b
theorem BR.mono {e : E} {v : V} {d : D} (s : Same Hs Hs') (b : BR K e σ Hs v d) : BR K e σ Hs' v d := by
  unfold BR at b ⊢
  cases q : e.vr with
  | none => rw [q] at b; exact Rp.mono s _ _ b
  | some i => rw [q] at b; exact b
theorem RB.seqL {v : V} {ds : List D} (b : RB K Hs H v (.list ds)) (s : Same Hs H) : ∃ a vs, v = .ref a ∧ H a = some (.lst vs) ∧ RpA K Hs vs ds := by
  rcases b with b | ⟨a, o, e, h, c⟩
  · cases b with
    | lst h1 h2 => exact ⟨_, _, rfl, s _ _ h1, h2⟩
    | scr _ e => cases e
  · cases c with
    | lst h2 => exact ⟨a, _, e, h, h2⟩
theorem RB.seqT {v : V} {ds : List D} (b : RB K Hs H v (.tuple ds)) (s : Same Hs H) : ∃ a vs, v = .ref a ∧ SqT K H a vs ∧ RpA K Hs vs ds := by
  rcases b with b | ⟨a, o, e, h, c⟩
  · cases b with
    | tup h1 h2 => exact ⟨_, _, rfl, Same.seqT s h1, h2⟩
    | scr _ e => cases e
  · cases c
theorem RB.int {v : V} {i : Int} (b : RB K Hs H v (.int i)) : v = .int i := by
  rcases b with b | ⟨a, o, e, h, c⟩
  · cases b with
    | int => rfl
    | scr _ e => cases e
  · cases c
theorem RB.bl {v : V} {i : Bool} (b : RB K Hs H v (.bool i)) : v = .bl i := by
  rcases b with b | ⟨a, o, e, h, c⟩
  · cases b with
    | bl => rfl
    | scr _ e => cases e
  · cases c
theorem RB.non {v : V} (b : RB K Hs H v .none) : v = .non := by
  rcases b with b | ⟨a, o, e, h, c⟩
  · cases b with
    | non => rfl
    | scr _ e => cases e
  · cases c
theorem RB.str {v : V} {x : Str} (b : RB K Hs H v (.str x)) : v = .str x := by
  rcases b with b | ⟨a, o, e, h, c⟩
  · cases b with
    | str => rfl
    | scr _ e => cases e
  · cases c
/-- None alone is None -/
theorem RB.isN {v : V} {d : D} (b : RB K Hs H v d) : decide (v = .non) = (match d with | .none => true | _ => false) := by
  rcases b with b | ⟨a, o, e, h, c⟩
  · cases b with
    | non => rfl
    | scr _ e => subst e; rfl
    | _ => rfl
  · subst e
    cases c <;> rfl
theorem RB.dp {v : V} {d : D} (b : RB K Hs H v d) (s : Same Hs H) (hs : SeqAt.shaped d = true) : Dp K H v d := by
  have c := SeqAt.canLay_of_shaped hs
  rcases b with b | ⟨a, o, e, h, k⟩
  · exact Rp.toDp _ _ c (Rp.mono s _ _ b)
  · cases k with
    | lst h2 =>
      subst e
      exact .lst (SqL.of h) (RpA.toDp _ _ (by simpa [PyData.canLay0] using c) (RpA.mono s _ _ h2))
    | dT _ => simp [PyData.canLay0] at c

/-- an object told of from now on -/
theorem Same.upd {Hs : Hp} {a : Addr} {o : HO} (n : Hs a = none) : Same Hs (upd Hs a o) := fun b x e => by
  rw [upd_ne (ne_of_none e n)]
  exact e
theorem Cont.rp {a : Addr} {o : HO} {d : D} (c : Cont K Hs o d) (n : Hs a = none) : Rp K (upd Hs a o) (.ref a) d := by
  cases c with
  | lst h => exact .lst upd_same (RpA.mono (Same.upd n) _ _ h)
  | dT h h2 => exact .dct upd_same (RpA.mono (Same.upd n) _ _ h) rfl rfl h2
end
end Rc

set_option maxRecDepth 100000
/-! Calls of defs whose promise is a function of values. -/
namespace Rc
open PySem L2

/-- the promise: the def computes f -/
def spM (K : PySem.W.Frag) (mg : Str → Option Value) (n : Nat) (f : MF) : Sp := fun vs H Q E => vs.length = n ∧ ∃ Hs as, REnv K Hs H (vs.map some) (as.map some) ∧
  PostR (fun r => ∀ v Hs' H', REnv K Hs' H' (vs.map some) (r.2.2.map some) →
      Fram Hs H (Own (vs.map some) (as.map some)) Hs' H' (OV (Own (vs.map some) (r.2.2.map some)) r.1 v) → RV K Hs' H' (Own (vs.map some) (r.2.2.map some)) r.1 v r.2.1 → Q v H')
    (fun x => ∀ C H', mg x = some (.ref C) → ExF H (Own (vs.map some) (as.map some)) H' → E (.ref C) none H') (f as)

/-- arguments at hand -/
inductive AR (K : PySem.W.Frag) (σ : L2.St) (Hs : Hp) : List V → List Arg → Prop
  | nil : AR K σ Hs [] []
  | slot {i : Nat} {v : V} {vs as} : σ[i]? = some (some v) → AR K σ Hs vs as → AR K σ Hs (v :: vs) (.inl i :: as)
  | val {d : D} {v : V} {vs as} : Rp K Hs v d → AR K σ Hs vs as → AR K σ Hs (v :: vs) (.inr d :: as)
section
variable {K : PySem.W.Frag} {Hs H Hs' H' : Hp} {σ : L2.St} {m m' m1 : Env}
theorem AR.length : ∀ {vs : List V} {as : List Arg}, AR K σ Hs vs as → vs.length = as.length
  | _, _, .nil => rfl
  | _, _, .slot _ t => by simp [AR.length t]
  | _, _, .val _ t => by simp [AR.length t]
theorem AR.mono (s : Same Hs Hs') : ∀ {vs : List V} {as : List Arg}, AR K σ Hs vs as → AR K σ Hs' vs as
  | _, _, .nil => .nil
  | _, _, .slot e t => .slot e (AR.mono s t)
  | _, _, .val r t => .val (Rp.mono s _ _ r) (AR.mono s t)
theorem AR.inl : ∀ {vs : List V} {as : List Arg} {j i : Nat}, AR K σ Hs vs as → as[j]? = some (.inl i) → ∃ v, vs[j]? = some v ∧ σ[i]? = some (some v)
  | _, _, _, _, .nil, h => by simp at h
  | _, _, 0, _, .slot e _, h => by simp at h; subst h; exact ⟨_, rfl, e⟩
  | _, _, 0, _, .val _ _, h => by simp at h
  | _, _, j + 1, _, .slot _ t, h => by
    obtain ⟨v, a, b⟩ := AR.inl (j := j) t (by simpa using h)
    exact ⟨v, by simpa using a, b⟩
  | _, _, j + 1, _, .val _ t, h => by
    obtain ⟨v, a, b⟩ := AR.inl (j := j) t (by simpa using h)
    exact ⟨v, by simpa using a, b⟩
theorem AR.inr : ∀ {vs : List V} {as : List Arg} {j : Nat} {d : D}, AR K σ Hs vs as → as[j]? = some (.inr d) → ∃ v, vs[j]? = some v ∧ Rp K Hs v d
  | _, _, _, _, .nil, h => by simp at h
  | _, _, 0, _, .slot e _, h => by simp at h
  | _, _, 0, _, .val r _, h => by simp at h; subst h; exact ⟨_, rfl, r⟩
  | _, _, j + 1, _, .slot _ t, h => by
    obtain ⟨v, a, b⟩ := AR.inr (j := j) t (by simpa using h)
    exact ⟨v, by simpa using a, b⟩
  | _, _, j + 1, _, .val _ t, h => by
    obtain ⟨v, a, b⟩ := AR.inr (j := j) t (by simpa using h)
    exact ⟨v, by simpa using a, b⟩

structure FS (args : List Arg) (m : Env) (as : List (Bool × D)) (m1 : Env) : Prop where
  len : as.length = args.length
  mlen : m1.length = m.length
  stay : ∀ i, geti m1 i = geti m i ∨ (geti m1 i = none ∧ ∃ (j : Nat) (d : D), args[j]? = some (.inl i) ∧ as[j]? = some (true, d) ∧ geti m i = some (true, d))
  own : ∀ (j : Nat) (d : D), as[j]? = some (true, d) → ∃ i, args[j]? = some (.inl i) ∧ geti m i = some (true, d) ∧ geti m1 i = none
  sh : ∀ (j : Nat) (d : D), as[j]? = some (false, d) → args[j]? = some (.inr d) ∨ ∃ i, args[j]? = some (.inl i) ∧ geti m i = some (false, d)
  one : ∀ (j k i : Nat) (d e : D), as[j]? = some (true, d) → as[k]? = some (true, e) → args[j]? = some (.inl i) → args[k]? = some (.inl i) → j = k
theorem fetch_spec : ∀ {args : List Arg} {m : Env} {as : List (Bool × D)} {m1 : Env}, fetch args m = some (as, m1) → FS args m as m1
  | [], m, as, m1, h => by
    simp only [fetch, Option.some.injEq, Prod.mk.injEq] at h
    obtain ⟨rfl, rfl⟩ := h
    exact ⟨rfl, rfl, fun i => .inl rfl, fun j d h => by simp at h, fun j d h => by simp at h, fun j k i d e h => by simp at h⟩
  | .inr d :: r, m, as, m1, h => by
    simp only [fetch, Option.map_eq_some_iff] at h
    obtain ⟨⟨as', m'⟩, h1, h2⟩ := h
    simp only [Prod.mk.injEq] at h2
    obtain ⟨rfl, rfl⟩ := h2
    have f := fetch_spec h1
    refine ⟨by simp [f.len], f.mlen, fun i => ?_, fun j e h => ?_, fun j e h => ?_, fun j k i d' e h1 h2 h3 h4 => ?_⟩
    · rcases f.stay i with q | ⟨q, j, e, a, b, c⟩
      · exact .inl q
      · exact .inr ⟨q, j + 1, e, by simpa using a, by simpa using b, c⟩
    · cases j with
      | zero => simp at h
      | succ j =>
        obtain ⟨i, a, b⟩ := f.own j e (by simpa using h)
        exact ⟨i, by simpa using a, b⟩
    · cases j with
      | zero => simp at h; subst h; exact .inl rfl
      | succ j =>
        rcases f.sh j e (by simpa using h) with q | ⟨i, a, b⟩
        · exact .inl (by simpa using q)
        · exact .inr ⟨i, by simpa using a, b⟩
    · cases j with
      | zero => simp at h1
      | succ j =>
        cases k with
        | zero => simp at h2
        | succ k => rw [f.one j k i d' e (by simpa using h1) (by simpa using h2) (by simpa using h3) (by simpa using h4)]
  | .inl i₀ :: r, m, as, m1, h => by
    unfold fetch at h
    split at h
    · rename_i d₀ hg
      simp only [Option.map_eq_some_iff] at h
      obtain ⟨⟨as', m'⟩, h1, h2⟩ := h
      simp only [Prod.mk.injEq] at h2
      obtain ⟨rfl, rfl⟩ := h2
      have f := fetch_spec h1
      have hlt := geti_lt hg
      have at0 : geti (m.set i₀ none) i₀ = none := geti_set_same hlt
      have noneAt : geti m' i₀ = none := by
        rcases f.stay i₀ with q | ⟨q, _⟩
        · rw [q]; exact at0
        · exact q
      have ne : ∀ i p, geti (m.set i₀ none) i = some p → i ≠ i₀ := fun i p e z => by rw [z, at0] at e; cases e
      refine ⟨by simp [f.len], by rw [f.mlen]; simp, fun i => ?_, fun j e h => ?_, fun j e h => ?_, fun j k i d' e h1 h2 h3 h4 => ?_⟩
      · by_cases hi : i = i₀
        · subst hi
          exact .inr ⟨noneAt, 0, d₀, rfl, rfl, hg⟩
        · rcases f.stay i with q | ⟨q, j, e, a, b, c⟩
          · exact .inl (by rw [q, geti_set_ne (Ne.symm hi)])
          · exact .inr ⟨q, j + 1, e, by simpa using a, by simpa using b, by rw [geti_set_ne (Ne.symm hi)] at c; exact c⟩
      · cases j with
        | zero => simp at h; subst h; exact ⟨i₀, rfl, hg, noneAt⟩
        | succ j =>
          obtain ⟨i, a, b, c⟩ := f.own j e (by simpa using h)
          have hi := ne i _ b
          rw [geti_set_ne (Ne.symm hi)] at b
          exact ⟨i, by simpa using a, b, c⟩
      · cases j with
        | zero => simp at h
        | succ j =>
          rcases f.sh j e (by simpa using h) with q | ⟨i, a, b⟩
          · exact .inl (by simpa using q)
          · have hi := ne i _ b
            rw [geti_set_ne (Ne.symm hi)] at b
            exact .inr ⟨i, by simpa using a, b⟩
      · cases j with
        | zero =>
          cases k with
          | zero => rfl
          | succ k =>
            obtain ⟨i', a, b, _⟩ := f.own k e (by simpa using h2)
            have h4' : r[k]? = some (Sum.inl i) := by simpa using h4
            rw [h4'] at a
            have : i = i' := by simpa using a
            subst this
            have : i₀ = i := by simpa using h3
            exact absurd this.symm (ne i _ b)
        | succ j =>
          cases k with
          | zero =>
            obtain ⟨i', a, b, _⟩ := f.own j d' (by simpa using h1)
            have h3' : r[j]? = some (Sum.inl i) := by simpa using h3
            rw [h3'] at a
            have : i = i' := by simpa using a
            subst this
            have : i₀ = i := by simpa using h4
            exact absurd this.symm (ne i _ b)
          | succ k => rw [f.one j k i d' e (by simpa using h1) (by simpa using h2) (by simpa using h3) (by simpa using h4)]
    · rename_i d₀ hg
      simp only [Option.map_eq_some_iff] at h
      obtain ⟨⟨as', m'⟩, h1, h2⟩ := h
      simp only [Prod.mk.injEq] at h2
      obtain ⟨rfl, rfl⟩ := h2
      have f := fetch_spec h1
      refine ⟨by simp [f.len], f.mlen, fun i => ?_, fun j e h => ?_, fun j e h => ?_, fun j k i d' e h1 h2 h3 h4 => ?_⟩
      · rcases f.stay i with q | ⟨q, j, e, a, b, c⟩
        · exact .inl q
        · exact .inr ⟨q, j + 1, e, by simpa using a, by simpa using b, c⟩
      · cases j with
        | zero => simp at h
        | succ j =>
          obtain ⟨i, a, b⟩ := f.own j e (by simpa using h)
          exact ⟨i, by simpa using a, b⟩
      · cases j with
        | zero => simp at h; subst h; exact .inr ⟨i₀, rfl, hg⟩
        | succ j =>
          rcases f.sh j e (by simpa using h) with q | ⟨i, a, b⟩
          · exact .inl (by simpa using q)
          · exact .inr ⟨i, by simpa using a, b⟩
      · cases j with
        | zero => simp at h1
        | succ j =>
          cases k with
          | zero => simp at h2
          | succ k => rw [f.one j k i d' e (by simpa using h1) (by simpa using h2) (by simpa using h3) (by simpa using h4)]
    · cases h
theorem back_len : ∀ {args : List Arg} {as fs : List (Bool × D)} {m : Env}, (back args as fs m).length = m.length
  | [], _, _, m => by simp [back]
  | .inl i :: r, [], _, m => by simp [back]
  | .inl i :: r, (true, _) :: as, [], m => by simp [back]
  | .inl i :: r, (false, _) :: as, [], m => by simp [back]
  | .inl i :: r, (true, _) :: as, f :: fs, m => by simp [back, back_len (args := r)]
  | .inl i :: r, (false, _) :: as, f :: fs, m => by simp [back, back_len (args := r)]
  | .inr d :: r, [], _, m => by simp [back]
  | .inr d :: r, _ :: as, [], m => by simp [back]
  | .inr d :: r, _ :: as, f :: fs, m => by simp [back, back_len (args := r)]
/-- where the environment behind a call differs -/
theorem back_spec : ∀ {args : List Arg} {as fs : List (Bool × D)} {m : Env} (i : Nat), as.length = args.length → fs.length = as.length → (∀ (j : Nat), args[j]? = some (.inl i) → i < m.length) →
    (∃ (j : Nat) (d : D) (f : Bool × D), args[j]? = some (.inl i) ∧ as[j]? = some (true, d) ∧ fs[j]? = some f ∧ geti (back args as fs m) i = some f) ∨
      (geti (back args as fs m) i = geti m i ∧ ∀ (j : Nat) (d : D), args[j]? = some (.inl i) → as[j]? ≠ some (true, d))
  | [], as, fs, m, i, _, _, _ => .inr ⟨by cases as <;> simp [back], fun j d h => by simp at h⟩
  | a :: r, [], _, m, i, h, _, _ => by simp at h
  | a :: r, x :: as, [], m, i, _, h, _ => by simp at h
  | a :: r, x :: as, f :: fs, m, i, h1, h2, hl => by
    have ih := back_spec (args := r) (as := as) (fs := fs) (m := m) i (by simpa using h1) (by simpa using h2) (fun j h => hl (j + 1) (by simpa using h))
    have other : (back (a :: r) (x :: as) (f :: fs) m = back r as fs m) → (∀ d, ¬ (a = .inl i ∧ x = (true, d))) →
        ((∃ (j : Nat) (d : D) (g : Bool × D), (a :: r)[j]? = some (.inl i) ∧ (x :: as)[j]? = some (true, d) ∧ (f :: fs)[j]? = some g ∧ geti (back (a :: r) (x :: as) (f :: fs) m) i = some g) ∨
      (geti (back (a :: r) (x :: as) (f :: fs) m) i = geti m i ∧ ∀ (j : Nat) (d : D), (a :: r)[j]? = some (.inl i) → (x :: as)[j]? ≠ some (true, d))) := fun e n => by
      rw [e]
      rcases ih with ⟨j, d, g, a1, a2, a3, a4⟩ | ⟨b1, b2⟩
      · exact .inl ⟨j + 1, d, g, by simpa using a1, by simpa using a2, by simpa using a3, a4⟩
      · refine .inr ⟨b1, fun j d h => ?_⟩
        cases j with
        | zero =>
          intro q
          exact n d ⟨by simpa using h, by simpa using q⟩
        | succ j => simpa using b2 j d (by simpa using h)
    cases a with
    | inr d => exact other (by simp [back]) (by simp)
    | inl i' =>
      obtain ⟨b, d₀⟩ := x
      cases b with
      | false => exact other (by simp [back]) (by simp)
      | true =>
        have e : back (.inl i' :: r) ((true, d₀) :: as) (f :: fs) m = (back r as fs m).set i' (some f) := by simp [back]
        by_cases hi : i' = i
        · subst hi
          refine .inl ⟨0, d₀, f, rfl, rfl, rfl, ?_⟩
          rw [e]
          exact geti_set_same (by rw [back_len]; exact hl 0 rfl)
        · rw [e, geti_set_ne hi]
          rcases ih with ⟨j, d, g, a1, a2, a3, a4⟩ | ⟨b1, b2⟩
          · exact .inl ⟨j + 1, d, g, by simpa using a1, by simpa using a2, by simpa using a3, a4⟩
          · refine .inr ⟨b1, fun j d h => ?_⟩
            cases j with
            | zero => exact absurd (by simpa using h) hi
            | succ j => simpa using b2 j d (by simpa using h)
theorem geti_map (as : List (Bool × D)) (j : Nat) : geti (as.map some) j = as[j]? := by
  rw [geti_eq, List.getElem?_map]
  cases as[j]? <;> rfl
theorem getσ {vs : List V} {j : Nat} {v : V} : (vs.map some : L2.St)[j]? = some (some v) ↔ vs[j]? = some v := by
  rw [List.getElem?_map]
  cases vs[j]? <;> simp

/-- what the callee finds -/
theorem FS.env {args : List Arg} {as : List (Bool × D)} {vs : List V} (f : FS args m as m1) (R : REnv K Hs H σ m) (A : AR K σ Hs vs args) : REnv K Hs H (vs.map some) (as.map some) where
  sub := R.sub
  len := by simp [A.length, f.len]
  val := fun j d h => by
    rw [geti_map] at h
    rcases f.sh j d h with q | ⟨i, a, b⟩
    · obtain ⟨v, e, r⟩ := A.inr q
      exact ⟨v, getσ.mpr e, r⟩
    · obtain ⟨v, e, e'⟩ := A.inl a
      obtain ⟨v', e2, r⟩ := R.val i d b
      rw [e'] at e2; cases e2
      exact ⟨v, getσ.mpr e, r⟩
  own := fun j d h => by
    rw [geti_map] at h
    obtain ⟨i, a, b, _⟩ := f.own j d h
    obtain ⟨v, e, e'⟩ := A.inl a
    obtain ⟨ad, o, e2, r⟩ := R.own i d b
    rw [e'] at e2; cases e2
    exact ⟨ad, o, getσ.mpr e, r⟩
  inj := fun j k d e a h1 h2 h3 h4 => by
    rw [geti_map] at h1 h2
    obtain ⟨i, a1, b1, _⟩ := f.own j d h1
    obtain ⟨i', a2, b2, _⟩ := f.own k e h2
    obtain ⟨v, e1, e1'⟩ := A.inl a1
    obtain ⟨v', e2, e2'⟩ := A.inl a2
    rw [getσ.mp h3] at e1; cases e1
    rw [getσ.mp h4] at e2; cases e2
    have : i = i' := R.inj i i' d e a b1 b2 e1' e2'
    subst this
    exact f.one j k i d e h1 h2 a1 a2
theorem FS.ownA {args : List Arg} {as : List (Bool × D)} {vs : List V} (f : FS args m as m1) (A : AR K σ Hs vs args) {b : Addr} (h : Own (vs.map some) (as.map some) b) : ∃ (j i : Nat) (d : D), args[j]? = some (.inl i) ∧ as[j]? = some (true, d) ∧ σ[i]? = some (some (.ref b)) ∧ geti m i = some (true, d) := by
  obtain ⟨j, d, h1, h2⟩ := h
  rw [geti_map] at h2
  obtain ⟨i, a, b, _⟩ := f.own j d h2
  obtain ⟨v, e, e'⟩ := A.inl a
  rw [getσ.mp h1] at e; cases e
  exact ⟨j, i, d, a, h2, e', b⟩
/-- behind the call -/
theorem FS.after {args : List Arg} {as fs : List (Bool × D)} {vs : List V} {fr : Bool} {v : V} {d : D} (f : FS args m as m1) (R : REnv K Hs H σ m) (A : AR K σ Hs vs args) (hl : fs.length = as.length)
    (R' : REnv K Hs' H' (vs.map some) (fs.map some)) (F : Fram Hs H (Own (vs.map some) (as.map some)) Hs' H' (OV (Own (vs.map some) (fs.map some)) fr v)) (r : RV K Hs' H' (Own (vs.map some) (fs.map some)) fr v d) :
    REnv K Hs' H' σ (back args as fs m1) ∧ Fram Hs H (Own σ m) Hs' H' (OV (Own σ (back args as fs m1)) fr v) ∧ RV K Hs' H' (Own σ (back args as fs m1)) fr v d := by
  have bs := fun i => back_spec (args := args) (as := as) (fs := fs) (m := m1) i f.len hl
  have lt : ∀ (i j : Nat), args[j]? = some (.inl i) → i < m1.length := fun i j h => by
    have hj : j < as.length := by
      rw [f.len]
      by_cases q : j < args.length
      · exact q
      · rw [List.getElem?_eq_none (by omega)] at h; cases h
    have e : as[j]? = some as[j] := List.getElem?_eq_getElem hj
    rw [f.mlen]
    rcases hb : as[j] with ⟨b, x⟩
    rw [hb] at e
    cases b with
    | true =>
      obtain ⟨i', a, b, _⟩ := f.own j x e
      rw [h] at a; cases a
      exact geti_lt b
    | false =>
      rcases f.sh j x e with q | ⟨i', a, b⟩
      · rw [h] at q; cases q
      · rw [h] at a; cases a
        exact geti_lt b
  -- an untaken name stands as it stood
  have back' : ∀ i p, geti (back args as fs m1) i = some p → (∃ (j : Nat) (e : D), args[j]? = some (.inl i) ∧ as[j]? = some (true, e) ∧ fs[j]? = some p) ∨
      (geti m i = some p ∧ ∀ (j : Nat) (e : D), args[j]? = some (.inl i) → as[j]? ≠ some (true, e)) := fun i p h => by
    rcases bs i (lt i) with ⟨j, e, g, a1, a2, a3, a4⟩ | ⟨b1, b2⟩
    · rw [a4] at h; cases h
      exact .inl ⟨j, e, a1, a2, a3⟩
    · rw [b1] at h
      rcases f.stay i with q | ⟨q, _⟩
      · rw [q] at h
        exact .inr ⟨h, b2⟩
      · rw [q] at h; cases h
  have notOwn : ∀ i e a, geti m i = some (true, e) → σ[i]? = some (some (.ref a)) → (∀ (j : Nat) (x : D), args[j]? = some (.inl i) → as[j]? ≠ some (true, x)) → ¬ Own (vs.map some) (as.map some) a := fun i e a h1 h2 h3 h => by
    obtain ⟨j, i', x, a1, a2, a3, a4⟩ := f.ownA A h
    have : i = i' := R.inj i i' e x a h1 a4 h2 a3
    subst this
    exact h3 j x a1 a2
  have fsAt : ∀ {j i : Nat} {e : D} {b : Bool}, args[j]? = some (.inl i) → as[j]? = some (true, e) → ∀ {x : D}, fs[j]? = some (b, x) → ∃ a, vs[j]? = some (.ref a) ∧ σ[i]? = some (some (.ref a)) ∧ geti m i = some (true, e) := fun {j i e b} h1 h2 {x} h3 => by
    obtain ⟨i', a, b', _⟩ := f.own j e h2
    rw [h1] at a; cases a
    obtain ⟨w, e1, e1'⟩ := A.inl h1
    obtain ⟨ad, o, e2, _⟩ := R.own i e b'
    rw [e1'] at e2; cases e2
    exact ⟨ad, e1, e1', b'⟩
  have kept : ∀ i e a o, geti m i = some (true, e) → σ[i]? = some (some (.ref a)) → (∀ (j : Nat) (x : D), args[j]? = some (.inl i) → as[j]? ≠ some (true, x)) → H a = some o → Hs a = none → H' a = some o ∧ Hs' a = none := fun i e a o h1 h2 h3 h4 h5 => by
    have no := notOwn i e a h1 h2 h3
    refine ⟨F.keep a o h4 no, ?_⟩
    cases q : Hs' a with
    | none => rfl
    | some u =>
      rcases F.news a (by rw [q]; simp) with z | z | z
      · exact absurd h5 z
      · rw [h4] at z; cases z
      · exact absurd z no
  have E : REnv K Hs' H' σ (back args as fs m1) := by
    refine ⟨R'.sub, by rw [back_len, f.mlen]; exact R.len, fun i e h => ?_, fun i e h => ?_, fun i k e x a h1 h2 h3 h4 => ?_⟩
    · rcases back' i _ h with ⟨j, y, a1, a2, a3⟩ | ⟨a1, _⟩
      · obtain ⟨a, e1, e2, _⟩ := fsAt a1 a2 a3
        obtain ⟨w, e3, r⟩ := R'.val j e (by rw [geti_map]; exact a3)
        rw [getσ.mpr e1] at e3; cases e3
        exact ⟨_, e2, r⟩
      · obtain ⟨w, e1, r⟩ := R.val i e a1
        exact ⟨w, e1, Rp.mono F.same _ _ r⟩
    · rcases back' i _ h with ⟨j, y, a1, a2, a3⟩ | ⟨a1, a2⟩
      · obtain ⟨a, e1, e2, _⟩ := fsAt a1 a2 a3
        obtain ⟨ad, o, e3, r⟩ := R'.own j e (by rw [geti_map]; exact a3)
        rw [getσ.mpr e1] at e3; cases e3
        exact ⟨_, o, e2, r⟩
      · obtain ⟨ad, o, e1, h1, h2, h3⟩ := R.own i e a1
        obtain ⟨k1, k2⟩ := kept i e ad o a1 e1 a2 h1 h3
        exact ⟨ad, o, e1, k1, h2.mono F.same, k2⟩
    · have wasOwn : ∀ i e, geti (back args as fs m1) i = some (true, e) → ∃ y, geti m i = some (true, y) := fun i e h => by
        rcases back' i _ h with ⟨j, y, a1, a2, a3⟩ | ⟨a1, _⟩
        · obtain ⟨_, _, _, z⟩ := fsAt a1 a2 a3
          exact ⟨y, z⟩
        · exact ⟨e, a1⟩
      obtain ⟨y, hy⟩ := wasOwn i e h1
      obtain ⟨z, hz⟩ := wasOwn k x h2
      exact R.inj i k y z a hy hz h3 h4
  have ownB : ∀ b, Own (vs.map some) (as.map some) b → Own σ m b := fun b h => by
    obtain ⟨j, i, x, a1, a2, a3, a4⟩ := f.ownA A h
    exact ⟨i, x, a3, a4⟩
  have own2 : ∀ b, Own σ (back args as fs m1) b → Own σ m b := fun b ⟨i, x, h1, h2⟩ => by
    rcases back' i _ h2 with ⟨j, y, a1, a2, a3⟩ | ⟨a1, _⟩
    · obtain ⟨_, _, _, z⟩ := fsAt a1 a2 a3
      exact ⟨i, y, h1, z⟩
    · exact ⟨i, x, h1, a1⟩
  refine ⟨E, ⟨F.same, fun b o h n => F.keep b o h fun z => n (ownB b z), fun b h => (F.news b h).imp id fun z => z.imp id (ownB b), fun b h => ?_⟩, ?_⟩
  · rcases h with h | h
    · exact .inl (own2 b h)
    · exact (F.owns b (.inr h)).imp (ownB b) id
  · cases fr with
    | false => exact r
    | true =>
      obtain ⟨a, o, e1, h1, h2, h3, h4⟩ := r
      refine ⟨a, o, e1, h1, h2, h3, fun ⟨i, x, g1, g2⟩ => ?_⟩
      rcases back' i _ g2 with ⟨j, y, a1, a2, a3⟩ | ⟨a1, a2⟩
      · obtain ⟨ad, q1, q2, _⟩ := fsAt a1 a2 a3
        rw [g1] at q2; cases q2
        exact h4 ⟨j, x, getσ.mpr q1, by rw [geti_map]; exact a3⟩
      · obtain ⟨ad, o', q1, q2, _, q3⟩ := R.own i x a1
        rw [g1] at q1; cases q1
        rcases F.owns a (.inr ⟨rfl, e1⟩) with z | z
        · exact notOwn i x a a1 g1 a2 z
        · rw [q2] at z; cases z
end
end Rc

set_option maxRecDepth 100000
/-! From the program's text to the language. -/
namespace Rc
open PySem L2

structure FnE where
  n : Nat
  f : MF
  ms : List Bool
/-- what is known of a def's names -/
structure TC where
  N : List Str
  sc : Scope
  fns : List (Str × FnE)
  cns : List (Str × D)

def isVis (sc : Scope) (x : Str) : Bool := match sc.names.lookup x with
  | some .local => true
  | some .cell => true
  | some .free => true
  | _ => false
def isGl (sc : Scope) (x : Str) : Bool := match sc.names.lookup x with
  | some .globalImplicit => true
  | _ => false
def ixOf (N : List Str) (x : Str) : Option Nat := N.findIdx? (· == x)
def okName (x : Str) : Bool := !(x == ("__debug__" : Str)) && !(x == ("__classdict__" : Str))

def bopOf : Operator → Option Bop
  | .Add => some .add | .Sub => some .sub | .Mult => some .mul | .FloorDiv => some .fdiv | .Mod => some .mod | .Pow => some .pow
  | _ => none
def copOf : CmpOp → Cop
  | .Eq => .eq | .NotEq => .ne | .Lt => .lt | .LtE => .le | .Gt => .gt | .GtE => .ge | .Is => .is | .IsNot => .isnot | .In => .isin | .NotIn => .notin
def isSlice : Expr → Bool
  | .Slice .. => true
  | .Starred .. => true
  | _ => false
/-- expressions whose place in calls, truth and stores is the plain one -/
def isPlain : Expr → Bool
  | .BinOp .. | .UnaryOp .. | .Dict .. | .ListComp .. | .Call .. | .Constant .. | .Subscript .. | .Name .. | .List .. | .Tuple .. | .Compare .. | .BoolOp .. | .IfExp .. => true
  | _ => false
def tyNames : List (Str × String) := [("int", "int"), ("bool", "bool"), ("tuple", "tuple"), ("list", "list"), ("str", "str"), ("dict", "dict")]
def tyOfName (sc : Scope) (fns : List (Str × FnE)) : Expr → Option String
  | .Name x _ => if okName x && isGl sc x && (fns.lookup x).isNone then tyNames.lookup x else none
  | _ => none
def tysIn (sc : Scope) (fns : List (Str × FnE)) : List Expr → Option (List String)
  | [] => some []
  | e :: es => (tyOfName sc fns e).bind fun t => (tysIn sc fns es).map (t :: ·)
def nameList : List Expr → Option (List Str)
  | [] => some []
  | .Name x _ :: es => (nameList es).map (x :: ·)
  | _ :: _ => none
def tgtNames : Expr → Option (List Str)
  | .Name x _ => some [x]
  | .Tuple es _ _ => nameList es
  | _ => none
def tgtIx (N : List Str) : List Str → Option (List Nat)
  | [] => some []
  | x :: xs => (ixOf N x).bind fun i => (tgtIx N xs).map (i :: ·)
def isTup : Expr → Bool
  | .Tuple .. => true
  | _ => false
/-- a name that may be stored -/
def isLoc (sc : Scope) (x : Str) : Bool := match sc.names.lookup x with
  | some .local => true
  | some .cell => true
  | _ => false
def ownOf (N : List Str) (sc : Scope) : List (Str × Nat) := sc.names.filterMap fun (x, k) => match k with
  | .local | .cell => (ixOf N x).map fun i => (x, i)
  | _ => none
def bltOf (x : Str) (n : Nat) : Option Blt :=
  if x = "len" ∧ n = 1 then some .len else if x = "abs" ∧ n = 1 then some .abs else if x = "all" ∧ n = 1 then some .all else if x = "any" ∧ n = 1 then some .any
  else if x = "max" ∧ n = 2 then some .max2 else if x = "min" ∧ n = 2 then some .min2 else if x = "max" ∧ n = 1 then some .max1 else if x = "min" ∧ n = 1 then some .min1
  else if x = "tuple" ∧ n = 1 then some .tuple else if x = "list" ∧ n = 1 then some .list else if x = "int" ∧ n = 1 then some .int else none
def blts : List Str := ["len", "abs", "all", "any", "max", "min", "tuple", "list", "int", "isinstance", "range", "zip", "enumerate", "reversed", "bool", "str", "dict"]

mutual
def trE : Nat → TC → Expr → Option E
  | 0, _, _ => none
  | n + 1, c, .Name x _ => if okName x then (if isVis c.sc x then (ixOf c.N x).map .var else if isGl c.sc x then (c.cns.lookup x).map .con else none) else none
  | n + 1, c, .Constant (.int i) _ _ => some (.con (.int i))
  | n + 1, c, .Constant (.bool b) _ _ => some (.con (.bool b))
  | n + 1, c, .Constant .none _ _ => some (.con .none)
  | n + 1, c, .Constant (.str x) _ _ => some (.con (.str x))
  | n + 1, c, .BinOp a o b _ => (bopOf o).bind fun o => (trE n c a).bind fun a => (trE n c b).bind fun b => some (.bin o a b)
  | n + 1, c, .UnaryOp .USub a _ => (trE n c a).bind fun a => some (.neg a)
  | n + 1, c, .UnaryOp .Not a _ => (trE n c a).bind fun a => some (.nt a)
  | n + 1, c, .BoolOp o es _ => trB n c o es
  | n + 1, c, .Compare a [o] [b] _ => (trE n c a).bind fun a' => (trE n c b).bind fun b' => some (.cmp (copOf o) a' b')
  | n + 1, c, .Compare a [o, o'] [b, d] _ => (trE n c a).bind fun a' => (trE n c b).bind fun b' => (trE n c d).bind fun d' => some (.chn (copOf o) (copOf o') a' b' d')
  | n + 1, c, .IfExp t a b _ => (trE n c t).bind fun t => (trE n c a).bind fun a => (trE n c b).bind fun b => some (.ite t a b)
  | n + 1, c, .Tuple es _ _ => (trEs n c es).bind fun es => some (.tup es)
  | n + 1, c, .List es _ => (trEs n c es).bind fun es => some (.lst es)
  | n + 1, c, .Dict [] [] _ => some .dct
  | n + 1, c, .Subscript a (.Slice none none (some (.UnaryOp .USub (.Constant (.int 1) _ _) _)) _) _ => (trE n c a).bind fun a => some (.rvs a)
  | n + 1, c, .Subscript a (.Slice lo hi none _) _ => (trE n c a).bind fun a => (trO n c lo).bind fun lo => (trO n c hi).bind fun hi => some (.slc a lo hi)
  | n + 1, c, .Subscript a b _ => if isSlice b then none else (trE n c a).bind fun a => (trE n c b).bind fun b => some (.idx a b)
  | n + 1, c, .Call (.Name x _) (e₀ :: es₀) [] _ => let es := e₀ :: es₀
    if okName x && isGl c.sc x then
      (match c.fns.lookup x with
        | some e => if es.length = e.n then (trEs n c es).bind fun es => some (.call e.f e.ms es) else none
        | none => match x == ("isinstance" : Str), es with
          | true, [a, .Tuple ts _ _] => if isPlain a && decide (ts.length ≤ 100) then (trE n c a).bind fun a => (tysIn c.sc c.fns ts).bind fun ts => some (.isi a ts) else none
          | true, [a, t] => if isPlain a then (trE n c a).bind fun a => (tyOfName c.sc c.fns t).bind fun t => some (.isi a [t]) else none
          | true, _ => none
          | false, _ => (bltOf x es.length).bind fun b => (trEs n c es).bind fun es => some (.blt b es)) else none
  | n + 1, c, .ListComp elt [⟨tg, iter, ifs, 0⟩] sc pos => if blkC c.N c.sc sc (ownOf c.N sc) then
      (tgtNames tg).bind fun xs => (tgtIx c.N xs).bind fun g => (trI n c tg iter).bind fun it =>
        let c' : TC := { c with sc := relS sc c.sc }
        if xs.all (fun x => isLoc c'.sc x && isLoc sc x) && g.all (fun i => (ownOf c.N sc).any fun p => p.2 == i) && decide g.Nodup && (!(isTup tg) || decide (g.length ≠ 1)) then
          (trE n c' elt).bind fun e => (trT n c' ifs).bind fun t => some (.lc e g it t ((ownOf c.N sc).map (·.2)))
        else none else none
  | _, _, _ => none
def trB : Nat → TC → BoolOp → List Expr → Option E
  | 0, _, _, _ => none
  | n + 1, c, _, [a] => trE n c a
  | n + 1, c, .And, a :: b :: r => (trE n c a).bind fun a => (trB n c .And (b :: r)).bind fun b => some (.and a b)
  | n + 1, c, .Or, a :: b :: r => (trE n c a).bind fun a => (trB n c .Or (b :: r)).bind fun b => some (.or a b)
  | _, _, _, _ => none
def trEs : Nat → TC → List Expr → Option Es
  | 0, _, _ => none
  | n + 1, _, [] => some .nil
  | n + 1, c, e :: es => if isPlain e then (trE n c e).bind fun e => (trEs n c es).bind fun es => some (.cons e es) else none
def trO : Nat → TC → Option Expr → Option E
  | 0, _, _ => none
  | n + 1, _, none => some (.con .none)
  | n + 1, c, some e => match trE n c e with
    | some (.con .none) => none
    | r => r
def trT : Nat → TC → List Expr → Option E
  | 0, _, _ => none
  | n + 1, _, [] => some (.con (.bool true))
  | n + 1, c, [e] => trE n c e
  | _, _, _ => none
def trI : Nat → TC → Expr → Expr → Option It
  | 0, _, _, _ => none
  | n + 1, c, tg, e => match e with
    | .Call (.Name x p) es [] q =>
      if (okName x && isGl c.sc x && (c.fns.lookup x).isNone && (es.all isPlain)) = true then
        if x = ("range" : Str) then (match es with
          | [a] => (trE n c a).bind fun a => some (.rg a)
          | [a, b] => (trE n c a).bind fun a => (trE n c b).bind fun b => some (.rg2 a b)
          | _ => none)
        else if x = ("zip" : Str) then (match es with
          | [a, b] => if isTup tg = true then (trE n c a).bind fun a => (trE n c b).bind fun b => some (.zp a b) else none
          | _ => none)
        else if x = ("enumerate" : Str) then (match es with
          | [a] => if isTup tg = true then (trE n c a).bind fun a => some (.en a) else none
          | _ => none)
        else if x = ("reversed" : Str) then (match es with
          | [a] => (trE n c a).bind fun a => some (.rv a)
          | _ => none)
        else (trE n c (.Call (.Name x p) es [] q)).bind fun e => some (.sq e)
      else (trE n c (.Call (.Name x p) es [] q)).bind fun e => some (.sq e)
    | e => if isPlain e then (trE n c e).bind fun e => some (.sq e) else none
end
end Rc

set_option maxRecDepth 100000
set_option maxHeartbeats 4000000
/-! Expressions: the model does what the language says. -/
namespace Rc
open PySem L2

structure Callable (X : Cx) (W : XK) (x : Str) (e : FnE) : Prop where
  ex : ∃ (f : Addr) (fd : FuncData) (ps : List Str) (k : Nat), FnOk X.prog X.w X.K X.mg X.base (L2.CX X.prog X.w) k f fd ps (spM X.K X.mg e.n e.f) ∧ Room k X.A ∧ X.mg x = some (.ref f) ∧
    PySem.W.keepIn X.K (.ref f) = true ∧ Binds X.K fd ps [] ∧ Passes (L2.CX X.prog X.w) X W
structure Good (X : Cx) (W : XK) (c : TC) : Prop where
  calm : X.calm = true
  N : X.N = c.N
  nd : X.N.Nodup
  sc : X.env.scope = c.sc
  hu : X.A.units + 65 < cLine
  fns : ∀ x e, c.fns.lookup x = some e → Callable X W x e
  cns : ∀ x d, c.cns.lookup x = some d → ∃ v u, X.mg x = some u ∧ RelV v u ∧ ∀ H, Rp X.K H v d
  blt : ∀ x ∈ blts, X.mg x = none

def XcE (mg : Str → Option Value) (W : XK) (σ : L2.St) (H : Hp) (m : Env) (x : Str) : Prop := ∀ C H', mg x = some (.ref C) → ExF H (Own σ m) H' → W (.ref C) none H'
def tE (K : PySem.W.Frag) (mg : Str → Option Value) (W : XK) (e : E) : TE := fun σ H Q => ∃ Hs m, REnv K Hs H σ m ∧
  PostR (fun p => ∀ v Hs' H', REnv K Hs' H' σ p.2 → Fram Hs H (Own σ m) Hs' H' (OV (Own σ p.2) p.1.1 v) → RR K e σ p.2 Hs' H' p.1.1 v p.1.2 → Q v H') (XcE mg W σ H m) (ev e m)
def tT (K : PySem.W.Frag) (mg : Str → Option Value) (W : XK) (e : E) : TT := fun σ H Q => ∃ Hs m, REnv K Hs H σ m ∧
  PostR (fun p => ∀ Hs' H', REnv K Hs' H' σ p.2 → Fram Hs H (Own σ m) Hs' H' (Own σ p.2) → Q p.1 H') (XcE mg W σ H m) (evC e m)
def tO (K : PySem.W.Frag) (mg : Str → Option Value) (W : XK) (es : Es) : TA := fun σ H Q => ∃ Hs m, REnv K Hs H σ m ∧
  PostR (fun p => ∀ vs Hs' H', REnv K Hs' H' σ p.2 → Fram Hs H (Own σ m) Hs' H' (Own σ p.2) → Paired (fun v (q : E × D) => BR K q.1 σ Hs' v q.2) vs p.1 → Q vs H') (XcE mg W σ H m) (evO es m)
def tS (K : PySem.W.Frag) (mg : Str → Option Value) (W : XK) (es : Es) : TA := fun σ H Q => ∃ Hs m, REnv K Hs H σ m ∧
  PostR (fun p => ∀ vs Hs' H', REnv K Hs' H' σ p.2 → Fram Hs H (Own σ m) Hs' H' (Own σ p.2) → RpA K Hs' vs p.1 → Q vs H') (XcE mg W σ H m) (evs es m)
def tAr (K : PySem.W.Frag) (mg : Str → Option Value) (W : XK) (ms : List Bool) (es : Es) : TA := fun σ H Q => ∃ Hs m, REnv K Hs H σ m ∧
  PostR (fun p => ∀ vs Hs' H', REnv K Hs' H' σ p.2 → Fram Hs H (Own σ m) Hs' H' (Own σ p.2) → AR K σ Hs' vs p.1 → Q vs H') (XcE mg W σ H m) (evA ms es m)

theorem PE.imp {X : Cx} {e : Expr} {t t' : TE} (h : PE X e t) (i : ∀ σ H Q, t' σ H Q → t σ H Q) : PE X e t' := ⟨fun pins s σ H Q I q => h.run pins s σ H Q I (i σ H Q q)⟩
theorem PT.imp {X : Cx} {e : Expr} {t t' : TT} (h : PT X e t) (i : ∀ σ H Q, t' σ H Q → t σ H Q) : PT X e t' := ⟨fun pins s σ H Q I q => h.run pins s σ H Q I (i σ H Q q)⟩
theorem PW.imp {X : Cx} {e : Expr} {t t' : TT} (h : PW X e t) (i : ∀ σ H Q, t' σ H Q → t σ H Q) : PW X e t' := ⟨fun wh pins s σ H Q I q => h.run wh pins s σ H Q I (i σ H Q q)⟩
theorem PA.imp {X : Cx} {e : List Expr} {t t' : TA} (h : PA X e t) (i : ∀ σ H Q, t' σ H Q → t σ H Q) : PA X e t' := ⟨fun pos pins s σ H Q I q => h.run pos pins s σ H Q I (i σ H Q q)⟩

section
variable {K : PySem.W.Frag} {mg : Str → Option Value} {W : XK} {Hs H Hs' H' Hs1 H1 : Hp} {σ : L2.St} {m m' m1 : Env}
theorem XcE.next {x : Str} (F : Fram Hs H (Own σ m) Hs1 H1 (Own σ m1)) (h : XcE mg W σ H m x) : XcE mg W σ H1 m1 x := fun C H' hm e => h C H' hm (ExF.trans F e)
theorem PostR.next {α : Type} {P : α → Prop} {r : Res α} (F : Fram Hs H (Own σ m) Hs1 H1 (Own σ m1)) (h : PostR P (XcE mg W σ H m) r) : PostR P (XcE mg W σ H1 m1) r := h.imp (fun _ z => z) fun _ z => z.next F
theorem tE_mono {e : E} {Q Q' : VK} (h : tE K mg W e σ H Q) (i : ∀ v H', Q v H' → Q' v H') : tE K mg W e σ H Q' := by
  obtain ⟨Hs, m, R, h⟩ := h
  exact ⟨Hs, m, R, h.imp (fun p hp v Hs' H' a b c => i _ _ (hp v Hs' H' a b c)) fun _ z => z⟩
theorem told {v : V} {d : D} (R : REnv K Hs1 H1 σ m1) (F : Fram Hs H (Own σ m) Hs1 H1 (OV (Own σ m1) true v)) (r : RV K Hs1 H1 (Own σ m1) true v d) :
    ∃ Hs2, REnv K Hs2 H1 σ m1 ∧ Fram Hs H (Own σ m) Hs2 H1 (Own σ m1) ∧ Rp K Hs2 v d ∧ Same Hs1 Hs2 := by
  obtain ⟨a, o, rfl, h1, h2, h3, h4⟩ := r
  have s : Same Hs1 (upd Hs1 a o) := Same.upd h3
  refine ⟨upd Hs1 a o, ⟨fun b u e => ?_, R.len, fun i d h => ?_, fun i d h => ?_, R.inj⟩, ⟨F.same.trans s, F.keep, fun b h => ?_, fun b h => F.owns b (.inl h)⟩, h2.rp h3, s⟩
  · by_cases hb : b = a
    · subst hb; rw [upd_same] at e; cases e; exact h1
    · rw [upd_ne hb] at e; exact R.sub b u e
  · obtain ⟨v, e, r⟩ := R.val i d h
    exact ⟨v, e, Rp.mono s _ _ r⟩
  · obtain ⟨b, u, e, q1, q2, q3⟩ := R.own i d h
    refine ⟨b, u, e, q1, q2.mono s, ?_⟩
    rw [upd_ne]
    · exact q3
    · rintro rfl
      exact h4 ⟨i, d, e, h⟩
  · by_cases hb : b = a
    · subst hb
      exact .inr ((F.owns b (.inr ⟨rfl, rfl⟩)).elim .inr .inl)
    · rw [upd_ne hb] at h
      exact F.news b h
theorem OV_false {O : Addr → Prop} {v : V} : OV O false v = O := by
  funext b
  simp [OV]
theorem BR.of_none {e : E} (h : e.vr = none) {v : V} {d : D} (r : Rp K Hs v d) : BR K e σ Hs v d := by unfold BR; rw [h]; exact r
theorem BR.to_none {e : E} (h : e.vr = none) {v : V} {d : D} (b : BR K e σ Hs v d) : Rp K Hs v d := by unfold BR at b; rw [h] at b; exact b
/-- the value of an operand, told of -/
theorem rr_br {e : E} {fr : Bool} {v : V} {d : D} (R : REnv K Hs1 H1 σ m1) (F : Fram Hs H (Own σ m) Hs1 H1 (OV (Own σ m1) fr v)) (r : RR K e σ m1 Hs1 H1 fr v d) :
    ∃ Hs2, REnv K Hs2 H1 σ m1 ∧ Fram Hs H (Own σ m) Hs2 H1 (Own σ m1) ∧ BR K e σ Hs2 v d ∧ (∀ i, e.vr = some i → ∃ f, geti m1 i = some (f, d)) := by
  unfold RR at r
  unfold BR
  cases q : e.vr with
  | some i =>
    rw [q] at r
    exact ⟨Hs1, R, F.weak fun b h => .inl h, r.1, fun j hj => by cases hj; exact r.2⟩
  | none =>
    rw [q] at r
    cases fr with
    | false => exact ⟨Hs1, R, F.weak fun b h => .inl h, r, fun j hj => by cases hj⟩
    | true =>
      obtain ⟨Hs2, R2, F2, r2, _⟩ := told R F r
      exact ⟨Hs2, R2, F2, r2, fun j hj => by cases hj⟩
theorem step {β : Type} {a : E} {P : β → Prop} {f : (Bool × D) × Env → Res β} {Q : VK} (R : REnv K Hs H σ m) (h : PostR P (XcE mg W σ H m) ((ev a m).bind f))
    (k : ∀ p v Hs1 H1, PostR P (XcE mg W σ H1 p.2) (f p) → REnv K Hs1 H1 σ p.2 → Fram Hs H (Own σ m) Hs1 H1 (Own σ p.2) → BR K a σ Hs1 v p.1.2 → (∀ i, a.vr = some i → ∃ f, geti p.2 i = some (f, p.1.2)) → Q v H1) : tE K mg W a σ H Q := by
  refine ⟨Hs, m, R, h.bind.imp (fun p hp v Hs' H' R' F r => ?_) fun x hx => hx⟩
  obtain ⟨Hs2, R2, F2, b, g⟩ := rr_br R' F r
  exact k p v Hs2 H' (hp.next F2) R2 F2 b g
theorem step' {β : Type} {a : E} {P : β → Prop} {f : (Bool × D) × Env → Res β} {Q : VK} (R : REnv K Hs H σ m) (h : PostR P (XcE mg W σ H m) ((ev a m).bind f))
    (k : ∀ p v Hs1 H1, ev a m = .ok p → PostR P (XcE mg W σ H1 p.2) (f p) → REnv K Hs1 H1 σ p.2 → Fram Hs H (Own σ m) Hs1 H1 (Own σ p.2) → BR K a σ Hs1 v p.1.2 → (∀ i, a.vr = some i → ∃ f, geti p.2 i = some (f, p.1.2)) → Q v H1) : tE K mg W a σ H Q := by
  refine ⟨Hs, m, R, ?_⟩
  cases q : ev a m with
  | bad => rw [q] at h; exact h.elim
  | exc x => rw [q] at h; exact h
  | ok p =>
    rw [q] at h
    intro v Hs' H' R' F r
    have hp : PostR P (XcE mg W σ H m) (f p) := h
    obtain ⟨Hs2, R2, F2, b, g⟩ := rr_br R' F r
    exact k p v Hs2 H' q (hp.next F2) R2 F2 b g
/-- .. where nothing is raised -/
theorem step0 {β : Type} {a : E} {P : β → Prop} {f : (Bool × D) × Env → Res β} {Q : VK} (R : REnv K Hs H σ m) (h : PostR P (fun _ => False) ((ev a m).bind f))
    (k : ∀ p v Hs1 H1, PostR P (fun _ => False) (f p) → REnv K Hs1 H1 σ p.2 → Fram Hs H (Own σ m) Hs1 H1 (Own σ p.2) → BR K a σ Hs1 v p.1.2 → (∀ i, a.vr = some i → ∃ f, geti p.2 i = some (f, p.1.2)) → Q v H1) : tE K mg W a σ H Q := by
  refine ⟨Hs, m, R, h.bind.imp (fun p hp v Hs' H' R' F r => ?_) fun x hx => hx.elim⟩
  obtain ⟨Hs2, R2, F2, b, g⟩ := rr_br R' F r
  exact k p v Hs2 H' hp R2 F2 b g
/-- an operand at once -/
theorem now {e : E} {d : D} {v : V} (R : REnv K Hs H σ m) (b : BR K e σ Hs v d) (g : ∀ i, e.vr = some i → ∃ f, geti m i = some (f, d)) : RB K Hs H v d := by
  refine R.op b ?_
  rw [rd_eq]
  cases q : e.vr with
  | none => rfl
  | some i =>
    obtain ⟨f, z⟩ := g i q
    show (geti m i).map (·.2) = some d
    rw [z]
    rfl
/-- the taking of a name -/
theorem leak_ok {i : Nat} {f : Bool} {d : D} {v : V} (R : REnv K Hs1 H1 σ m1) (e : σ[i]? = some (some v)) (h : geti m1 i = some (f, d)) :
    ∃ Hs2, REnv K Hs2 H1 σ (leak m1 i) ∧ Fram Hs1 H1 (Own σ m1) Hs2 H1 (Own σ (leak m1 i)) ∧ Rp K Hs2 v d ∧ Same Hs1 Hs2 := by
  cases f with
  | false =>
    have el : leak m1 i = m1 := by unfold leak; rw [h]
    rw [el]
    obtain ⟨v', e', r⟩ := R.val i d h
    rw [e] at e'; cases e'
    exact ⟨Hs1, R, Fram.refl, r, Same.refl _⟩
  | true =>
    have el : leak m1 i = m1.set i (some (false, d)) := by unfold leak; rw [h]
    rw [el]
    obtain ⟨a, o, e', h1, h2, h3⟩ := R.own i d h
    rw [e] at e'; cases e'
    have s : Same Hs1 (upd Hs1 a o) := Same.upd h3
    have lt := geti_lt h
    have nown : ∀ j x, geti (m1.set i (some (false, d))) j = some (true, x) → j ≠ i ∧ geti m1 j = some (true, x) := fun j x z => by
      by_cases hj : j = i
      · subst hj; rw [geti_set_same lt] at z; cases z
      · rw [geti_set_ne (Ne.symm hj)] at z; exact ⟨hj, z⟩
    refine ⟨upd Hs1 a o, ⟨fun b u q => ?_, by simp [R.len], fun j x z => ?_, fun j x z => ?_, fun j k x y b z1 z2 z3 z4 => R.inj j k x y b (nown j x z1).2 (nown k y z2).2 z3 z4⟩, ⟨s, fun b u q _ => q, fun b q => ?_, fun b ⟨j, x, z1, z2⟩ => .inl ⟨j, x, z1, (nown j x z2).2⟩⟩, h2.rp h3, s⟩
    · by_cases hb : b = a
      · subst hb; rw [upd_same] at q; cases q; exact h1
      · rw [upd_ne hb] at q; exact R.sub b u q
    · by_cases hj : j = i
      · subst hj
        rw [geti_set_same lt] at z
        cases z
        exact ⟨_, e, h2.rp h3⟩
      · rw [geti_set_ne (Ne.symm hj)] at z
        obtain ⟨w, q, r⟩ := R.val j x z
        exact ⟨w, q, Rp.mono s _ _ r⟩
    · obtain ⟨hj, z'⟩ := nown j x z
      obtain ⟨b, u, q, q1, q2, q3⟩ := R.own j x z'
      refine ⟨b, u, q, q1, q2.mono s, ?_⟩
      rw [upd_ne]
      · exact q3
      · rintro rfl
        exact hj (R.inj j i x d b z' h q e)
    · by_cases hb : b = a
      · subst hb; exact .inr (.inr ⟨i, d, e, h⟩)
      · rw [upd_ne hb] at q; exact .inl q
/-- .. taken -/
theorem stepT {β : Type} {a : E} {P : β → Prop} {f : (Bool × D) × Env → Res β} {Q : VK} (R : REnv K Hs H σ m) (h : PostR P (XcE mg W σ H m) ((ev a m).bind f))
    (k : ∀ p v Hs1 H1, PostR P (XcE mg W σ H1 (tkm a p.2)) (f p) → REnv K Hs1 H1 σ (tkm a p.2) → Fram Hs H (Own σ m) Hs1 H1 (Own σ (tkm a p.2)) → Rp K Hs1 v p.1.2 → Q v H1) : tE K mg W a σ H Q := by
  refine step R h fun p v Hs1 H1 hp R1 F1 b g => ?_
  have kk := k p v
  rw [tkm_eq] at kk
  unfold BR at b
  cases q : a.vr with
  | none =>
    rw [q] at b kk
    exact kk Hs1 H1 hp R1 F1 b
  | some i =>
    rw [q] at b kk
    obtain ⟨fl, z⟩ := g i q
    obtain ⟨Hs2, R2, F2, r2, _⟩ := leak_ok R1 b z
    exact kk Hs2 H1 (hp.next F2) R2 (F1.trans F2) r2
theorem stepT0 {β : Type} {a : E} {P : β → Prop} {f : (Bool × D) × Env → Res β} {Q : VK} (R : REnv K Hs H σ m) (h : PostR P (fun _ => False) ((ev a m).bind f))
    (k : ∀ p v Hs1 H1, PostR P (fun _ => False) (f p) → REnv K Hs1 H1 σ (tkm a p.2) → Fram Hs H (Own σ m) Hs1 H1 (Own σ (tkm a p.2)) → Rp K Hs1 v p.1.2 → Q v H1) : tE K mg W a σ H Q := by
  refine step0 R h fun p v Hs1 H1 hp R1 F1 b g => ?_
  have kk := k p v
  rw [tkm_eq] at kk
  unfold BR at b
  cases q : a.vr with
  | none =>
    rw [q] at b kk
    exact kk Hs1 H1 hp R1 F1 b
  | some i =>
    rw [q] at b kk
    obtain ⟨fl, z⟩ := g i q
    obtain ⟨Hs2, R2, F2, r2, _⟩ := leak_ok R1 b z
    exact kk Hs2 H1 hp R2 (F1.trans F2) r2
end
end Rc

set_option maxRecDepth 100000
set_option maxHeartbeats 4000000
namespace Rc
open PySem L2
section
variable {X : Cx} {W : XK} {c : TC}
abbrev PEm (X : Cx) (W : XK) (x : Expr) (e : E) : Prop := PE X x (tE X.K X.mg W e)
abbrev PTm (X : Cx) (W : XK) (x : Expr) (e : E) : Prop := PT X x (tT X.K X.mg W e)
abbrev PWm (X : Cx) (W : XK) (x : Expr) (e : E) : Prop := PW X x (tT X.K X.mg W e)

/-! ### a result at once -/
theorem fin_sh {K : PySem.W.Frag} {mg : Str → Option Value} {W : XK} {Hs H : Hp} {σ : L2.St} {m m1 : Env} {Hs1 H1 : Hp} {e : E} {d : D} {v : V} {Q : VK} (he : e.vr = none)
    (h : ∀ v Hs' H', REnv K Hs' H' σ m1 → Fram Hs H (Own σ m) Hs' H' (OV (Own σ m1) false v) → RR K e σ m1 Hs' H' false v d → Q v H') (R : REnv K Hs1 H1 σ m1) (F : Fram Hs H (Own σ m) Hs1 H1 (Own σ m1)) (r : Rp K Hs1 v d) : Q v H1 := by
  refine h v Hs1 H1 R (by rw [OV_false]; exact F) ?_
  unfold RR
  rw [he]
  exact r
/-- a new list -/
theorem fin_new {K : PySem.W.Frag} {Hs H : Hp} {σ : L2.St} {m m1 : Env} {Hs1 H1 : Hp} {e : E} {d : D} {o : HO} {Q : VK} (he : e.vr = none)
    (h : ∀ v Hs' H', REnv K Hs' H' σ m1 → Fram Hs H (Own σ m) Hs' H' (OV (Own σ m1) true v) → RR K e σ m1 Hs' H' true v d → Q v H') (R : REnv K Hs1 H1 σ m1) (F : Fram Hs H (Own σ m) Hs1 H1 (Own σ m1)) (c : Cont K Hs1 o d)
    (p : Addr) (n : H1 p = none) : Q (.ref p) (upd H1 p o) := by
  have nO : ¬ Own σ m1 p := fun ⟨i, x, a, b⟩ => by
    obtain ⟨q, u, e1, e2, _⟩ := R.own i x b
    rw [a] at e1; cases e1
    rw [n] at e2; cases e2
  have nS : Hs1 p = none := by
    cases q : Hs1 p with
    | none => rfl
    | some u => rw [R.sub p u q] at n; cases n
  have hn : ∀ b u, H1 b = some u → b ≠ p := fun b u q z => by rw [z, n] at q; cases q
  refine h (.ref p) Hs1 (upd H1 p o) ⟨fun b u q => ?_, R.len, R.val, fun i x z => ?_, R.inj⟩ ⟨F.same, fun b u q k => ?_, F.news, fun b z => ?_⟩ ?_
  · rw [upd_ne (hn b u (R.sub b u q))]; exact R.sub b u q
  · obtain ⟨b, u, e1, e2, e3⟩ := R.own i x z
    exact ⟨b, u, e1, by rw [upd_ne (hn b u e2)]; exact e2, e3⟩
  · have := F.keep b u q k
    rw [upd_ne (hn b u this)]
    exact this
  · rcases z with z | ⟨_, z⟩
    · exact F.owns b z
    · cases z
      by_cases q : Own σ m p
      · exact .inl q
      · refine .inr ?_
        cases e : H p with
        | none => rfl
        | some u => rw [F.keep p u e q] at n; cases n
  · unfold RR
    rw [he]
    exact ⟨p, o, rfl, upd_same, c, nS, nO⟩
/-- a new tuple -/
theorem fin_tup {K : PySem.W.Frag} {Hs H : Hp} {σ : L2.St} {m m1 : Env} {Hs1 H1 : Hp} {e : E} {ds : List D} {vs : List V} {Q : VK} (he : e.vr = none)
    (h : ∀ v Hs' H', REnv K Hs' H' σ m1 → Fram Hs H (Own σ m) Hs' H' (OV (Own σ m1) false v) → RR K e σ m1 Hs' H' false v (.tuple ds) → Q v H') (R : REnv K Hs1 H1 σ m1) (F : Fram Hs H (Own σ m) Hs1 H1 (Own σ m1)) (c : RpA K Hs1 vs ds)
    (p : Addr) (n : H1 p = none) : Q (.ref p) (upd H1 p (.tup vs)) := by
  have nS : Hs1 p = none := by
    cases q : Hs1 p with
    | none => rfl
    | some u => rw [R.sub p u q] at n; cases n
  have hn : ∀ b u, H1 b = some u → b ≠ p := fun b u q z => by rw [z, n] at q; cases q
  have s : Same Hs1 (upd Hs1 p (.tup vs)) := Same.upd nS
  have nO : ∀ b, Own σ m1 b → b ≠ p := fun b ⟨i, x, a, z⟩ q => by
    obtain ⟨q', u, e1, e2, _⟩ := R.own i x z
    rw [a] at e1; cases e1
    rw [q, n] at e2; cases e2
  refine fin_sh (mg := fun _ => none) (W := fun _ _ _ => True) (Hs1 := upd Hs1 p (.tup vs)) he h ⟨fun b u q => ?_, R.len, fun i x z => ?_, fun i x z => ?_, R.inj⟩ ⟨F.same.trans s, fun b u q k => ?_, fun b z => ?_, F.owns⟩ (.tup (.inl (.inl upd_same)) (RpA.mono s _ _ c))
  · by_cases hb : b = p
    · subst hb; rw [upd_same] at q ⊢; exact q
    · rw [upd_ne hb] at q; rw [upd_ne hb]; exact R.sub b u q
  · obtain ⟨w, e1, r⟩ := R.val i x z
    exact ⟨w, e1, Rp.mono s _ _ r⟩
  · obtain ⟨b, u, e1, e2, e3, e4⟩ := R.own i x z
    have ne := nO b ⟨i, x, e1, z⟩
    exact ⟨b, u, e1, by rw [upd_ne ne]; exact e2, e3.mono s, by rw [upd_ne ne]; exact e4⟩
  · have := F.keep b u q k
    rw [upd_ne (hn b u this)]
    exact this
  · by_cases hb : b = p
    · subst hb
      by_cases q : Own σ m b
      · exact .inr (.inr q)
      · refine .inr (.inl ?_)
        cases e : H b with
        | none => rfl
        | some u => rw [F.keep b u e q] at n; cases n
    · rw [upd_ne hb] at z; exact F.news b z

/-! ### names and constants -/
theorem vis_of {sc : Scope} {x : Str} (h : isVis sc x = true) : Vis sc x := by
  unfold isVis at h
  split at h
  · rename_i e; exact .inl e
  · rename_i e; exact .inr (.inl e)
  · rename_i e; exact .inr (.inr e)
  · cases h
theorem gl_of {sc : Scope} {x : Str} (h : isGl sc x = true) : sc.names.lookup x = some .globalImplicit := by
  unfold isGl at h
  split at h
  · rename_i e; exact e
  · cases h
theorem ix_of {N : List Str} {x : Str} {i : Nat} (h : ixOf N x = some i) : N[i]? = some x := by
  unfold ixOf at h
  rw [List.findIdx?_eq_some_iff_getElem] at h
  obtain ⟨hl, e, _⟩ := h
  rw [List.getElem?_eq_getElem hl]
  simpa using e
theorem okName_of {x : Str} (h : okName x = true) : (x == ("__debug__" : Str)) = false ∧ (x == ("__classdict__" : Str)) = false := by
  unfold okName at h
  rw [Bool.and_eq_true] at h
  exact ⟨by simpa using h.1, by simpa using h.2⟩
theorem s_var (G : Good X W c) {x : Str} {i : Nat} {pos : Pos} (hx : okName x = true) (hv : isVis c.sc x = true) (hi : ixOf c.N x = some i) : PEm X W (.Name x pos) (.var i) := by
  obtain ⟨h1, h2⟩ := okName_of hx
  refine PE.imp (pe_var (i := i) (by rw [G.N]; exact ix_of hi) (by rw [G.sc]; exact vis_of hv) h1 h2) fun σ H Q ⟨Hs, m, R, h⟩ => ?_
  simp only [ev] at h
  cases q : geti m i with
  | none => rw [q] at h; exact h.elim
  | some p =>
    obtain ⟨f, d⟩ := p
    rw [q] at h
    have ex : ∃ v, σ[i]? = some (some v) := by
      cases f with
      | false => obtain ⟨v, e, _⟩ := R.val i d q; exact ⟨v, e⟩
      | true => obtain ⟨a, o, e, _⟩ := R.own i d q; exact ⟨_, e⟩
    obtain ⟨v, e⟩ := ex
    refine ⟨v, e, h v Hs H R ?_ ?_⟩
    · rw [OV_false]; exact Fram.refl
    · exact ⟨e, f, q⟩
theorem s_con {x : Expr} {v : V} {d : D} (h : PE X x (tC v)) (r : ∀ H, Rp X.K H v d) : PEm X W x (.con d) := by
  refine PE.imp h fun σ H Q ⟨Hs, m, R, h⟩ => ?_
  exact fin_sh (mg := X.mg) (W := W) (e := .con d) rfl h R Fram.refl (r Hs)
theorem s_glob (G : Good X W c) {x : Str} {d : D} {pos : Pos} (hx : okName x = true) (hg : isGl c.sc x = true) (hd : c.cns.lookup x = some d) : PEm X W (.Name x pos) (.con d) := by
  obtain ⟨v, u, hm, r, rp⟩ := G.cns x d hd
  exact s_con (pe_glob (by show X.env.scope.names.lookup x = _; rw [G.sc]; exact gl_of hg) hm r (okName_of hx).1) rp

/-! ### truth -/
/-- as a test -/
theorem pt_of {x : Expr} {e : E} (h : PEm X W x e) (he : ∀ whole, isTrue x X.env whole = (do let v ← whole; standAt x.pos; holding [v] (truthy v))) : PTm X W x e := by
  refine PT.imp (pt_val h he) fun σ H Q ⟨Hs, m, R, hq⟩ => ?_
  unfold evC at hq
  refine step R hq fun p v Hs1 H1 hp R1 F1 b g => ?_
  have rb := now R1 b g
  revert hp
  cases hd : p.1.2 with
  | bool k =>
    intro hp
    rw [hd] at rb
    exact ⟨k, rb.bl, hp Hs1 H1 R1 F1⟩
  | _ => intro hp; exact hp.elim
/-- a value from a test's -/
theorem tT_of {K : PySem.W.Frag} {mg : Str → Option Value} {W : XK} {Hs H : Hp} {σ : L2.St} {m : Env} {e : E} {β : Type} {P : β → Prop} {f : Bool × Env → Res β} {Q : Bool → Hp → Prop} (R : REnv K Hs H σ m) (h : PostR P (XcE mg W σ H m) ((evC e m).bind f))
    (k : ∀ p Hs1 H1, PostR P (XcE mg W σ H1 p.2) (f p) → REnv K Hs1 H1 σ p.2 → Fram Hs H (Own σ m) Hs1 H1 (Own σ p.2) → Q p.1 H1) : tT K mg W e σ H Q :=
  ⟨Hs, m, R, h.bind.imp (fun p hp Hs' H' R' F => k p Hs' H' (hp.next F) R' F) fun x hx => hx⟩

/-! ### operators -/
theorem rep_sh {K : PySem.W.Frag} {σ : L2.St} {e : E} (he : e.vr = none) {m : Env} {Hs H : Hp} {v : V} {d : D} (r : Rp K Hs v d) : RR K e σ m Hs H false v d := by
  unfold RR; rw [he]; exact r
theorem op_mulR : OpR X (binaryOp .Mult) (rI mulOk fun i j => .int (i * j)) := op_mulW
theorem op_divR : OpR X (binaryOp .FloorDiv) (rI (fun _ j => divOk j) fun i j => .int (i.fdiv j)) := opI fun _ _ _ _ _ _ _ hc q => PyProof.Rows.floordiv_int hc.1 q (.inl (PyProof.noPylong_of_log2 hc.2))
theorem pe_op2 {op : Operator} {a b : Expr} {ea eb : E} {o : Bop} {pos : Pos} {r : R2} (ho : OpR X (binaryOp op) r) (ha : PEm X W a ea) (hb : PEm X W b eb)
    (hr : ∀ x y fr d, bop o x y = some (fr, d) → ∀ (Hs H Hs1 H1 : Hp) (σ : L2.St) (m m1 : Env) (v w : V) (Q : VK),
      REnv X.K Hs1 H1 σ m1 → Fram Hs H (Own σ m) Hs1 H1 (Own σ m1) → RB X.K Hs1 H1 v x → RB X.K Hs1 H1 w y →
      (∀ v Hs' H', REnv X.K Hs' H' σ m1 → Fram Hs H (Own σ m) Hs' H' (OV (Own σ m1) fr v) → RR X.K (.bin o ea eb) σ m1 Hs' H' fr v d → Q v H') → r v w H1 Q) : PEm X W (.BinOp a op b pos) (.bin o ea eb) := by
  refine PE.imp (pe_op ho ha hb) fun σ H Q ⟨Hs, m, R, h⟩ => ?_
  simp only [ev] at h
  refine step R h fun p v Hs1 H1 hp R1 F1 b1 g1 => ?_
  refine step R1 hp fun q w Hs2 H2 hq R2 F2 b2 g2 => ?_
  obtain ⟨⟨fr, d⟩, hd, hq⟩ := PostR.ofO hq.bind
  rw [Option.bind_eq_some_iff] at hd
  obtain ⟨x, hx, hd⟩ := hd
  rw [Option.bind_eq_some_iff] at hd
  obtain ⟨y, hy, hd⟩ := hd
  exact hr x y fr d hd Hs H Hs2 H2 σ m q.2 v w Q R2 (F1.trans F2) (R2.op (b1.mono F2.same) hx) (R2.op b2 hy) hq
theorem s_add {a b : Expr} {ea eb : E} {pos : Pos} (ha : PEm X W a ea) (hb : PEm X W b eb) : PEm X W (.BinOp a .Add b pos) (.bin .add ea eb) := by
  refine pe_op2 (OpR.or op_add (OpR.or op_cat op_catA)) ha hb fun x y fr d hd Hs H Hs1 H1 σ m m1 v w Q R F rx ry hq => ?_
  cases x <;> cases y <;> simp only [bop] at hd <;> try (cases hd)
  · left
    exact ⟨_, _, rx.int, ry.int, fin_sh (mg := X.mg) (W := W) rfl hq R F (.int _)⟩
  · right; left
    split at hd <;> simp only [Option.some.injEq, Prod.mk.injEq, reduceCtorEq] at hd
    rename_i hl
    obtain ⟨rfl, rfl⟩ := hd
    obtain ⟨p, vs, rfl, h1, r1⟩ := rx.seqL R.sub
    obtain ⟨q, ws, rfl, h2, r2⟩ := ry.seqL R.sub
    refine ⟨p, q, vs, ws, rfl, rfl, h1, h2, by rw [r1.length, r2.length]; exact hl, fun t n => ?_⟩
    exact fin_new rfl hq R F (.lst (r1.append r2)) t n
  · right; right
    split at hd <;> simp only [Option.some.injEq, Prod.mk.injEq, reduceCtorEq] at hd
    rename_i hl
    obtain ⟨rfl, rfl⟩ := hd
    obtain ⟨p, vs, rfl, h1, r1⟩ := rx.seqT R.sub
    obtain ⟨q, ws, rfl, h2, r2⟩ := ry.seqT R.sub
    refine ⟨p, q, vs, ws, rfl, rfl, h1, h2, by rw [r1.length, r2.length]; exact hl.2, fun e => absurd (r1.nil_iff.mp e) hl.1, fun _ e => ?_, fun _ _ t n => ?_⟩
    · have e2 := r2.nil_iff.mp e
      subst e2
      rw [List.append_nil] at hq
      rcases rx with rx | ⟨a', o', e', _, k⟩
      · exact fin_sh (mg := X.mg) (W := W) rfl hq R F rx
      · cases k
    · exact fin_tup rfl hq R F (r1.append r2) t n
theorem s_sub {a b : Expr} {ea eb : E} {pos : Pos} (ha : PEm X W a ea) (hb : PEm X W b eb) : PEm X W (.BinOp a .Sub b pos) (.bin .sub ea eb) := by
  refine pe_op2 op_sub ha hb fun x y fr d hd Hs H Hs1 H1 σ m m1 v w Q R F rx ry hq => ?_
  cases x <;> cases y <;> simp only [bop] at hd <;> try (cases hd)
  exact ⟨_, _, rx.int, ry.int, fin_sh (mg := X.mg) (W := W) rfl hq R F (.int _)⟩
theorem s_mul {a b : Expr} {ea eb : E} {pos : Pos} (ha : PEm X W a ea) (hb : PEm X W b eb) : PEm X W (.BinOp a .Mult b pos) (.bin .mul ea eb) := by
  refine pe_op2 (OpR.or op_mulR op_rep) ha hb fun x y fr d hd Hs H Hs1 H1 σ m m1 v w Q R F rx ry hq => ?_
  cases x <;> cases y <;> simp only [bop] at hd <;> try (cases hd)
  · left
    split at hd <;> simp only [Option.some.injEq, Prod.mk.injEq, reduceCtorEq] at hd
    rename_i hl
    obtain ⟨rfl, rfl⟩ := hd
    exact ⟨_, _, rx.int, ry.int, hl, fin_sh (mg := X.mg) (W := W) rfl hq R F (.int _)⟩
  · right
    split at hd <;> simp only [Option.some.injEq, Prod.mk.injEq, reduceCtorEq] at hd
    rename_i hl
    obtain ⟨rfl, rfl⟩ := hd
    obtain ⟨p, vs, rfl, h1, r1⟩ := rx.seqL R.sub
    refine ⟨p, _, vs, rfl, ry.int, h1, hl.2.1, hl.1, by rw [r1.length]; exact hl.2.2, fun t n => ?_⟩
    exact fin_new rfl hq R F (.lst (r1.replicate _)) t n
theorem s_div {a b : Expr} {ea eb : E} {pos : Pos} (ha : PEm X W a ea) (hb : PEm X W b eb) : PEm X W (.BinOp a .FloorDiv b pos) (.bin .fdiv ea eb) := by
  refine pe_op2 op_divR ha hb fun x y fr d hd Hs H Hs1 H1 σ m m1 v w Q R F rx ry hq => ?_
  cases x <;> cases y <;> simp only [bop] at hd <;> try (cases hd)
  split at hd <;> simp only [Option.some.injEq, Prod.mk.injEq, reduceCtorEq] at hd
  rename_i hl
  obtain ⟨rfl, rfl⟩ := hd
  exact ⟨_, _, rx.int, ry.int, hl, fin_sh (mg := X.mg) (W := W) rfl hq R F (.int _)⟩
theorem s_mod {a b : Expr} {ea eb : E} {pos : Pos} (ha : PEm X W a ea) (hb : PEm X W b eb) : PEm X W (.BinOp a .Mod b pos) (.bin .mod ea eb) := by
  refine pe_op2 op_modN ha hb fun x y fr d hd Hs H Hs1 H1 σ m m1 v w Q R F rx ry hq => ?_
  cases x <;> cases y <;> simp only [bop] at hd <;> try (cases hd)
  split at hd <;> simp only [Option.some.injEq, Prod.mk.injEq, reduceCtorEq] at hd
  rename_i hl
  obtain ⟨rfl, rfl⟩ := hd
  exact ⟨_, _, rx.int, ry.int, hl, fin_sh (mg := X.mg) (W := W) rfl hq R F (.int _)⟩
theorem s_pow {a b : Expr} {ea eb : E} {pos : Pos} (ha : PEm X W a ea) (hb : PEm X W b eb) : PEm X W (.BinOp a .Pow b pos) (.bin .pow ea eb) := by
  refine pe_op2 op_pow ha hb fun x y fr d hd Hs H Hs1 H1 σ m m1 v w Q R F rx ry hq => ?_
  cases x <;> cases y <;> simp only [bop] at hd <;> try (cases hd)
  split at hd <;> simp only [Option.some.injEq, Prod.mk.injEq, reduceCtorEq] at hd
  rename_i hl
  obtain ⟨rfl, rfl⟩ := hd
  exact ⟨_, _, rx.int, ry.int, hl, fin_sh (mg := X.mg) (W := W) rfl hq R F (.int _)⟩
theorem s_bin {a b : Expr} {ea eb : E} {op : Operator} {o : Bop} {pos : Pos} (h : bopOf op = some o) (ha : PEm X W a ea) (hb : PEm X W b eb) : PEm X W (.BinOp a op b pos) (.bin o ea eb) := by
  cases op <;> cases h
  · exact s_add ha hb
  · exact s_sub ha hb
  · exact s_mul ha hb
  · exact s_mod ha hb
  · exact s_pow ha hb
  · exact s_div ha hb
theorem s_neg {a : Expr} {ea : E} {pos : Pos} (ha : PEm X W a ea) : PEm X W (.UnaryOp .USub a pos) (.neg ea) := by
  refine PE.imp (pe_un un_neg ha) fun σ H Q ⟨Hs, m, R, h⟩ => ?_
  simp only [ev] at h
  refine step R h fun p v Hs1 H1 hp R1 F1 b1 g1 => ?_
  have rb := now R1 b1 g1
  revert hp
  cases hd : p.1.2 with
  | int k =>
    intro hp
    rw [hd] at rb
    exact ⟨k, rb.int, fin_sh (mg := X.mg) (W := W) (e := .neg ea) rfl hp R1 F1 (.int _)⟩
  | _ => intro hp; exact hp.elim
theorem s_nt {a : Expr} {ea : E} {pos : Pos} (ha : PEm X W a ea) : PEm X W (.UnaryOp .Not a pos) (.nt ea) := by
  refine PE.imp (pe_not ha) fun σ H Q ⟨Hs, m, R, h⟩ => ?_
  simp only [ev] at h
  refine step R h fun p v Hs1 H1 hp R1 F1 b1 g1 => ?_
  have rb := now R1 b1 g1
  revert hp
  cases hd : p.1.2 with
  | bool k =>
    intro hp
    rw [hd] at rb
    exact ⟨k, rb.bl, fin_sh (mg := X.mg) (W := W) (e := .nt ea) rfl hp R1 F1 (.bl _)⟩
  | _ => intro hp; exact hp.elim
theorem t_nt {a : Expr} {ea : E} {pos : Pos} (ha : PTm X W a ea) : PTm X W (.UnaryOp .Not a pos) (.nt ea) := by
  refine PT.imp (pt_not ha) fun σ H Q ⟨Hs, m, R, h⟩ => ?_
  refine ⟨Hs, m, R, ?_⟩
  unfold evC at h ⊢
  simp only [ev] at h
  cases q : ev ea m with
  | bad => rw [q] at h; exact h.elim
  | exc x => rw [q] at h; exact h
  | ok p =>
    rw [q] at h
    simp only [bind_ok] at h ⊢
    revert h
    cases hd : p.1.2 with
    | bool k => intro h; exact h
    | _ => intro h; exact h.elim
theorem s_and {a b : Expr} {rest : List Expr} {ea eb : E} {pos : Pos} (ha : PEm X W a ea) (hb : PEm X W (.BoolOp .And (b :: rest) pos) eb) : PEm X W (.BoolOp .And (a :: b :: rest) pos) (.and ea eb) := by
  refine PE.imp (pe_and ha hb) fun σ H Q ⟨Hs, m, R, h⟩ => ?_
  simp only [ev] at h
  refine step R h fun p v Hs1 H1 hp R1 F1 b1 g1 => ?_
  have rb := now R1 b1 g1
  revert hp
  cases hd : p.1.2 with
  | bool k =>
    intro hp
    rw [hd] at rb
    refine ⟨k, rb.bl, ?_⟩
    cases k with
    | true =>
      show tE X.K X.mg W eb σ H1 Q
      refine step R1 hp fun q w Hs2 H2 hq R2 F2 b2 g2 => ?_
      have rb2 := now R2 b2 g2
      revert hq
      cases hd2 : q.1.2 with
      | bool k2 =>
        intro hq
        rw [hd2] at rb2
        have e := rb2.bl
        subst e
        exact fin_sh (mg := X.mg) (W := W) (e := .and ea eb) rfl hq R2 (F1.trans F2) (.bl _)
      | _ => intro hq; exact hq.elim
    | false => exact fin_sh (mg := X.mg) (W := W) (e := .and ea eb) rfl hp R1 F1 (.bl _)
  | _ => intro hp; exact hp.elim
theorem s_or {a b : Expr} {rest : List Expr} {ea eb : E} {pos : Pos} (ha : PEm X W a ea) (hb : PEm X W (.BoolOp .Or (b :: rest) pos) eb) : PEm X W (.BoolOp .Or (a :: b :: rest) pos) (.or ea eb) := by
  refine PE.imp (pe_or ha hb) fun σ H Q ⟨Hs, m, R, h⟩ => ?_
  simp only [ev] at h
  refine step R h fun p v Hs1 H1 hp R1 F1 b1 g1 => ?_
  have rb := now R1 b1 g1
  revert hp
  cases hd : p.1.2 with
  | bool k =>
    intro hp
    rw [hd] at rb
    refine ⟨k, rb.bl, ?_⟩
    cases k with
    | false =>
      show tE X.K X.mg W eb σ H1 Q
      refine step R1 hp fun q w Hs2 H2 hq R2 F2 b2 g2 => ?_
      have rb2 := now R2 b2 g2
      revert hq
      cases hd2 : q.1.2 with
      | bool k2 =>
        intro hq
        rw [hd2] at rb2
        have e := rb2.bl
        subst e
        exact fin_sh (mg := X.mg) (W := W) (e := .or ea eb) rfl hq R2 (F1.trans F2) (.bl _)
      | _ => intro hq; exact hq.elim
    | true => exact fin_sh (mg := X.mg) (W := W) (e := .or ea eb) rfl hp R1 F1 (.bl _)
  | _ => intro hp; exact hp.elim
end
end Rc

set_option maxRecDepth 100000
set_option maxHeartbeats 4000000
namespace Rc
open PySem L2
section
variable {X : Cx} {W : XK} {c : TC}

/-! ### tests -/
theorem Res.bind_assoc {α β γ : Type} (r : Res α) (f : α → Res β) (g : β → Res γ) : (r.bind f).bind g = r.bind fun a => (f a).bind g := by cases r <;> rfl
/-- a test's outcome, by the value's -/
theorem evC_and {ea eb : E} {m : Env} : evC (.and ea eb) m = (evC ea m).bind fun p => if p.1 = true then evC eb p.2 else .ok (false, p.2) := by
  unfold evC
  simp only [ev, Res.bind_assoc]
  congr 1; funext p
  cases p.1.2 with
  | bool k =>
    cases k with
    | false => simp
    | true =>
      simp only [bind_ok, if_true, Res.bind_assoc]
      congr 1; funext q
      cases q.1.2 <;> simp
  | _ => simp
theorem evC_or {ea eb : E} {m : Env} : evC (.or ea eb) m = (evC ea m).bind fun p => if p.1 = true then .ok (true, p.2) else evC eb p.2 := by
  unfold evC
  simp only [ev, Res.bind_assoc]
  congr 1; funext p
  cases p.1.2 with
  | bool k =>
    cases k with
    | true => simp
    | false =>
      simp only [bind_ok, Bool.false_eq_true, if_false, Res.bind_assoc]
      congr 1; funext q
      cases q.1.2 <;> simp
  | _ => simp
theorem t_and {a b : Expr} {rest : List Expr} {ea eb : E} {pos : Pos} (ha : PTm X W a ea) (hb : PWm X W (.BoolOp .And (b :: rest) pos) eb) : PWm X W (.BoolOp .And (a :: b :: rest) pos) (.and ea eb) := by
  refine PW.imp (pw_and ha hb) fun σ H Q ⟨Hs, m, R, h⟩ => ?_
  rw [evC_and] at h
  refine tT_of R h fun p Hs1 H1 hp R1 F1 => ?_
  by_cases k : p.1 = true
  · rw [if_pos k] at hp ⊢
    exact ⟨Hs1, p.2, R1, hp.imp (fun q hq Hs2 H2 R2 F2 => hq Hs2 H2 R2 (F1.trans F2)) fun _ z => z⟩
  · rw [if_neg k] at hp ⊢
    exact hp Hs1 H1 R1 F1
theorem t_or {a b : Expr} {rest : List Expr} {ea eb : E} {pos : Pos} (ha : PTm X W a ea) (hb : PWm X W (.BoolOp .Or (b :: rest) pos) eb) : PWm X W (.BoolOp .Or (a :: b :: rest) pos) (.or ea eb) := by
  refine PW.imp (pw_or ha hb) fun σ H Q ⟨Hs, m, R, h⟩ => ?_
  rw [evC_or] at h
  refine tT_of R h fun p Hs1 H1 hp R1 F1 => ?_
  by_cases k : p.1 = true
  · rw [if_pos k] at hp ⊢
    exact hp Hs1 H1 R1 F1
  · rw [if_neg k] at hp ⊢
    exact ⟨Hs1, p.2, R1, hp.imp (fun q hq Hs2 H2 R2 F2 => hq Hs2 H2 R2 (F1.trans F2)) fun _ z => z⟩
theorem t_one {a : Expr} {o : BoolOp} {ea : E} {pos : Pos} (ha : PTm X W a ea) : PWm X W (.BoolOp o [a] pos) ea := by
  cases o with
  | And => exact pw_and1 ha
  | Or => exact pw_or1 ha

/-! ### comparisons -/
/-- what a comparison of values asks -/
def rCop (K : PySem.W.Frag) (o : Cop) : R2 := fun v w H Q => ∃ Hs x y b, Same Hs H ∧ RB K Hs H v x ∧ RB K Hs H w y ∧ cop o x y = some b ∧ Q (.bl b) H
theorem dp_list {K : PySem.W.Frag} {Hs H : Hp} {v : V} {ds : List D} (b : RB K Hs H v (.list ds)) (s : Same Hs H) (hs : SeqAt.shaped (.list ds) = true) : Dp K H v (.list ds) := b.dp s hs
theorem op_cop (G : Good X W c) (op : CmpOp) : OpR X (compareOp op) (rCop X.K (copOf op)) := by
  have hu : X.A.units + 64 < cLine := by have := G.hu; omega
  intro pins s σ H v w a b Q I ra rb h
  obtain ⟨Hs, x, y, r, sm, rx, ry, hc, q⟩ := h
  have both : ∀ {i j : Int}, x = .int i → y = .int j → v = .int i ∧ w = .int j := fun e1 e2 => ⟨by rw [e1] at rx; exact rx.int, by rw [e2] at ry; exact ry.int⟩
  cases op with
  | Eq =>
    simp only [copOf, cop] at hc
    split at hc <;> simp only [Option.some.injEq, reduceCtorEq] at hc
    rename_i hs
    subst hc
    exact op_eqD hu pins s σ H v w a b Q I ra rb ⟨x, y, rx.dp sm hs.1, ry.dp sm hs.2, hs.1, hs.2, q⟩
  | NotEq =>
    simp only [copOf, cop] at hc
    split at hc <;> simp only [Option.some.injEq, reduceCtorEq] at hc
    rename_i hs
    subst hc
    exact op_neD hu pins s σ H v w a b Q I ra rb ⟨x, y, rx.dp sm hs.1, ry.dp sm hs.2, hs.1, hs.2, q⟩
  | Lt =>
    simp only [copOf] at hc
    cases x <;> cases y <;> simp only [cop] at hc <;> try (cases hc)
    obtain ⟨e1, e2⟩ := both rfl rfl
    exact op_lt pins s σ H v w a b Q I ra rb ⟨_, _, e1, e2, q⟩
  | LtE =>
    simp only [copOf] at hc
    cases x <;> cases y <;> simp only [cop] at hc <;> try (cases hc)
    obtain ⟨e1, e2⟩ := both rfl rfl
    exact op_le pins s σ H v w a b Q I ra rb ⟨_, _, e1, e2, q⟩
  | Gt =>
    simp only [copOf] at hc
    cases x <;> cases y <;> simp only [cop] at hc <;> try (cases hc)
    obtain ⟨e1, e2⟩ := both rfl rfl
    exact op_gt pins s σ H v w a b Q I ra rb ⟨_, _, e1, e2, q⟩
  | GtE =>
    simp only [copOf] at hc
    cases x <;> cases y <;> simp only [cop] at hc <;> try (cases hc)
    obtain ⟨e1, e2⟩ := both rfl rfl
    exact op_ge pins s σ H v w a b Q I ra rb ⟨_, _, e1, e2, q⟩
  | In =>
    simp only [copOf] at hc
    cases y <;> simp only [cop] at hc <;> try (cases hc)
    split at hc <;> simp only [Option.some.injEq, reduceCtorEq] at hc
    rename_i hs
    subst hc
    exact op_inD G.hu pins s σ H v w a b Q I ra rb ⟨x, _, rx.dp sm hs.1, ry.dp sm hs.2, hs.1, hs.2, q⟩
  | NotIn =>
    simp only [copOf] at hc
    cases y <;> simp only [cop] at hc <;> try (cases hc)
    split at hc <;> simp only [Option.some.injEq, reduceCtorEq] at hc
    rename_i hs
    subst hc
    exact op_notInD G.hu pins s σ H v w a b Q I ra rb ⟨x, _, rx.dp sm hs.1, ry.dp sm hs.2, hs.1, hs.2, q⟩
  | Is =>
    simp only [copOf] at hc
    cases y with
    | none =>
      have e : r = decide (v = .non) := by
        rw [rx.isN]
        cases x <;> simp only [cop, Option.some.injEq] at hc <;> exact hc.symm
      subst e
      exact op_isN pins s σ H v w a b Q I ra rb ⟨ry.non, q⟩
    | bool k =>
      cases x <;> simp only [cop] at hc <;> try (cases hc)
      rename_i k'
      have e : (k' == k) = decide (k' = k) := by cases k <;> cases k' <;> rfl
      rw [e] at q
      exact op_isBl pins s σ H v w a b Q I ra rb ⟨k', k, rx.bl, ry.bl, q⟩
    | _ => cases x <;> simp only [cop] at hc <;> cases hc
  | IsNot =>
    simp only [copOf] at hc
    cases y with
    | none =>
      have e : r = !decide (v = .non) := by
        rw [rx.isN]
        cases x <;> simp only [cop, Option.some.injEq] at hc <;> exact hc.symm
      subst e
      exact op_notN pins s σ H v w a b Q I ra rb ⟨ry.non, q⟩
    | bool k =>
      cases x <;> simp only [cop] at hc <;> try (cases hc)
      rename_i k'
      have e : (!(k' == k)) = !decide (k' = k) := by cases k <;> cases k' <;> rfl
      rw [e] at q
      exact op_notBl pins s σ H v w a b Q I ra rb ⟨k', k, rx.bl, ry.bl, q⟩
    | _ => cases x <;> simp only [cop] at hc <;> cases hc
/-- both readings of a comparison -/
noncomputable def cmpR (o : Cop) (ea eb : E) (m : Env) : Res (Bool × Env) := (ev ea m).bind fun p => (ev eb p.2).bind fun q => (Res.ofO ((rd ea p.1.2 q.2).bind fun x => (rd eb q.1.2 q.2).bind fun y => cop o x y)).bind fun r => .ok (r, q.2)
theorem ev_cmp {o : Cop} {ea eb : E} {m : Env} : ev (.cmp o ea eb) m = (cmpR o ea eb m).bind fun r => .ok ((false, .bool r.1), r.2) := by
  unfold cmpR
  simp only [ev, Res.bind_assoc, bind_ok]
theorem evC_cmp {o : Cop} {ea eb : E} {m : Env} : evC (.cmp o ea eb) m = cmpR o ea eb m := by
  unfold evC
  rw [ev_cmp, Res.bind_assoc]
  cases cmpR o ea eb m <;> rfl
theorem cmp_core {ea eb : E} {o : Cop} {σ : L2.St} {H Hs : Hp} {m : Env} {Q : VK} (R : REnv X.K Hs H σ m)
    (h : PostR (fun (p : Bool × Env) => ∀ Hs' H', REnv X.K Hs' H' σ p.2 → Fram Hs H (Own σ m) Hs' H' (Own σ p.2) → Q (.bl p.1) H') (XcE X.mg W σ H m) (cmpR o ea eb m)) : tOp (rCop X.K o) (tE X.K X.mg W ea) (tE X.K X.mg W eb) σ H Q := by
  unfold cmpR at h
  refine step R h fun p v Hs1 H1 hp R1 F1 b1 g1 => ?_
  refine step R1 hp fun q w Hs2 H2 hq R2 F2 b2 g2 => ?_
  obtain ⟨r, hd, hq⟩ := PostR.ofO hq.bind
  rw [Option.bind_eq_some_iff] at hd
  obtain ⟨x, hx, hd⟩ := hd
  rw [Option.bind_eq_some_iff] at hd
  obtain ⟨y, hy, hd⟩ := hd
  exact ⟨Hs2, x, y, r, R2.sub, R2.op (b1.mono F2.same) hx, R2.op b2 hy, hd, hq Hs2 H2 R2 (F1.trans F2)⟩
theorem plain_nomark {b : Expr} (h : isPlain b = true) (op : CmpOp) : behindInMarks op b = false := by
  cases b <;> simp [isPlain] at h <;> rfl
theorem s_cmp (G : Good X W c) {a b : Expr} {ea eb : E} {op : CmpOp} {pos : Pos} (hb' : isPlain b = true) (ha : PEm X W a ea) (hb : PEm X W b eb) : PEm X W (.Compare a [op] [b] pos) (.cmp (copOf op) ea eb) := by
  refine PE.imp (pe_cmpR (op_cop G op) ha hb (plain_nomark hb' op)) fun σ H Q ⟨Hs, m, R, h⟩ => ?_
  rw [ev_cmp] at h
  exact cmp_core (W := W) R (h.bind.imp (fun p hp Hs' H' R' F => fin_sh (mg := X.mg) (W := W) (e := .cmp (copOf op) ea eb) rfl hp R' F (.bl p.1)) fun _ z => z)
theorem t_cmp (G : Good X W c) {a b : Expr} {ea eb : E} {op : CmpOp} {pos : Pos} (hb' : isPlain b = true) (ha : PEm X W a ea) (hb : PEm X W b eb) : PTm X W (.Compare a [op] [b] pos) (.cmp (copOf op) ea eb) := by
  refine PT.imp (pt_cmpR (op_cop G op) ha hb (plain_nomark hb' op)) fun σ H Q ⟨Hs, m, R, h⟩ => ?_
  rw [evC_cmp] at h
  exact cmp_core (W := W) R (h.imp (fun p hp Hs' H' R' F => ⟨p.1, rfl, hp Hs' H' R' F⟩) fun _ z => z)
/-! ### chains -/
noncomputable def chnR (o o' : Cop) (a b c : E) (m : Env) : Res (Bool × Env) := (ev a m).bind fun p => (ev b p.2).bind fun q => (Res.ofO ((rd a p.1.2 q.2).bind fun x => (rd b q.1.2 q.2).bind fun y => cop o x y)).bind fun r =>
      if r = true then (ev c q.2).bind fun t => (Res.ofO ((rd b q.1.2 t.2).bind fun x => (rd c t.1.2 t.2).bind fun y => cop o' x y)).bind fun r' => .ok (r', t.2) else .ok (false, q.2)
theorem ev_chn {o o' : Cop} {a b c : E} {m : Env} : ev (.chn o o' a b c) m = (chnR o o' a b c m).bind fun r => .ok ((false, .bool r.1), r.2) := by
  unfold chnR
  simp only [ev, Res.bind_assoc]
  congr 1; funext p; congr 1; funext q; congr 1; funext r
  split <;> simp [Res.bind_assoc]
theorem evC_chn {o o' : Cop} {a b c : E} {m : Env} : evC (.chn o o' a b c) m = chnR o o' a b c m := by
  unfold evC
  rw [ev_chn, Res.bind_assoc]
  cases chnR o o' a b c m <;> rfl
theorem chn_core {ea eb ec : E} {o o' : Cop} {σ : L2.St} {H Hs : Hp} {m : Env} {Q : VK} (R : REnv X.K Hs H σ m)
    (h : PostR (fun (p : Bool × Env) => ∀ Hs' H', REnv X.K Hs' H' σ p.2 → Fram Hs H (Own σ m) Hs' H' (Own σ p.2) → Q (.bl p.1) H') (XcE X.mg W σ H m) (chnR o o' ea eb ec m)) : tChain (rCop X.K o) (rCop X.K o') (tE X.K X.mg W ea) (tE X.K X.mg W eb) (tE X.K X.mg W ec) σ H Q := by
  unfold chnR at h
  refine step R h fun p v Hs1 H1 hp R1 F1 b1 g1 => ?_
  refine step R1 hp fun q w Hs2 H2 hq R2 F2 b2 g2 => ?_
  obtain ⟨r, hd, hq⟩ := PostR.ofO hq.bind
  rw [Option.bind_eq_some_iff] at hd
  obtain ⟨x, hx, hd⟩ := hd
  rw [Option.bind_eq_some_iff] at hd
  obtain ⟨y, hy, hd⟩ := hd
  refine ⟨Hs2, x, y, r, R2.sub, R2.op (b1.mono F2.same) hx, R2.op b2 hy, hd, r, rfl, ?_⟩
  by_cases k : r = true
  · rw [if_pos k] at hq ⊢
    refine step R2 hq fun t u Hs3 H3 ht R3 F3 b3 g3 => ?_
    obtain ⟨r', hd', ht⟩ := PostR.ofO ht.bind
    rw [Option.bind_eq_some_iff] at hd'
    obtain ⟨x', hx', hd'⟩ := hd'
    rw [Option.bind_eq_some_iff] at hd'
    obtain ⟨y', hy', hd'⟩ := hd'
    exact ⟨Hs3, x', y', r', R3.sub, R3.op (b2.mono F3.same) hx', R3.op b3 hy', hd', ht Hs3 H3 R3 ((F1.trans F2).trans F3)⟩
  · rw [if_neg k] at hq ⊢
    exact hq Hs2 H2 R2 (F1.trans F2)
theorem plain_nolast {b c : Expr} (hb : isPlain b = true) (hc : isPlain c = true) (op op' : CmpOp) : lastMarks [op, op'] [b, c] = false := by
  show behindInMarks op' c = false
  exact plain_nomark hc op'
theorem s_chn (G : Good X W c) {a b d : Expr} {ea eb ed : E} {op op' : CmpOp} {pos : Pos} (hb' : isPlain b = true) (hd' : isPlain d = true) (ha : PEm X W a ea) (hb : PEm X W b eb) (hd : PEm X W d ed) : PEm X W (.Compare a [op, op'] [b, d] pos) (.chn (copOf op) (copOf op') ea eb ed) := by
  refine PE.imp (pe_chain (op_cop G op) (op_cop G op') ha hb hd (plain_nolast hb' hd' op op')) fun σ H Q ⟨Hs, m, R, h⟩ => ?_
  rw [ev_chn] at h
  exact chn_core (W := W) R (h.bind.imp (fun p hp Hs' H' R' F => fin_sh (mg := X.mg) (W := W) (e := .chn (copOf op) (copOf op') ea eb ed) rfl hp R' F (.bl p.1)) fun _ z => z)
theorem t_chn (G : Good X W c) {a b d : Expr} {ea eb ed : E} {op op' : CmpOp} {pos : Pos} (hb' : isPlain b = true) (hd' : isPlain d = true) (ha : PEm X W a ea) (hb : PEm X W b eb) (hd : PEm X W d ed) : PTm X W (.Compare a [op, op'] [b, d] pos) (.chn (copOf op) (copOf op') ea eb ed) := by
  refine PT.imp (pt_chain (op_cop G op) (op_cop G op') ha hb hd (plain_nolast hb' hd' op op')) fun σ H Q ⟨Hs, m, R, h⟩ => ?_
  rw [evC_chn] at h
  exact chn_core (W := W) R (h.imp (fun p hp Hs' H' R' F => ⟨p.1, rfl, hp Hs' H' R' F⟩) fun _ z => z)
/-! ### a if t else b -/
theorem s_ite {t a b : Expr} {et ea eb : E} {pos : Pos} (ht : PTm X W t et) (ha : PEm X W a ea) (hb : PEm X W b eb) : PEm X W (.IfExp t a b pos) (.ite et ea eb) := by
  refine PE.imp (pe_ifExp ht ha hb) fun σ H Q ⟨Hs, m, R, h⟩ => ?_
  have e : ev (.ite et ea eb) m = (evC et m).bind fun p => if p.1 = true then (ev ea p.2).bind fun q => .ok ((false, q.1.2), tkm ea q.2) else (ev eb p.2).bind fun q => .ok ((false, q.1.2), tkm eb q.2) := by
    unfold evC
    simp only [ev, Res.bind_assoc]
    congr 1; funext p
    cases p.1.2 with
    | bool k => cases k <;> rfl
    | _ => rfl
  rw [e] at h
  refine tT_of R h fun p Hs1 H1 hp R1 F1 => ?_
  by_cases k : p.1 = true
  · rw [if_pos k] at hp ⊢
    exact stepT R1 hp fun q v Hs2 H2 hq R2 F2 r => fin_sh (mg := X.mg) (W := W) (e := .ite et ea eb) rfl hq R2 (F1.trans F2) r
  · rw [if_neg k] at hp ⊢
    exact stepT R1 hp fun q v Hs2 H2 hq R2 F2 r => fin_sh (mg := X.mg) (W := W) (e := .ite et ea eb) rfl hq R2 (F1.trans F2) r
theorem t_ite {t a b : Expr} {et ea eb : E} {pos : Pos} (ht : PTm X W t et) (ha : PTm X W a ea) (hb : PTm X W b eb) : PTm X W (.IfExp t a b pos) (.ite et ea eb) := by
  refine ⟨fun pins s σ H Q I ⟨Hs, m, R, h⟩ => ?_⟩
  have e : evC (.ite et ea eb) m = (evC et m).bind fun p => if p.1 = true then (evC ea p.2).bind fun q => .ok (q.1, tkm ea q.2) else (evC eb p.2).bind fun q => .ok (q.1, tkm eb q.2) := by
    unfold evC
    simp only [ev, Res.bind_assoc]
    congr 1; funext p
    cases p.1.2 with
    | bool k =>
      cases k
      · simp only [bind_ok, Bool.false_eq_true, if_false, Res.bind_assoc]
        congr 1; funext q
        cases q.1.2 <;> simp
      · simp only [bind_ok, if_true, Res.bind_assoc]
        congr 1; funext q
        cases q.1.2 <;> simp
    | _ => simp
  rw [e] at h
  have hc : tT X.K X.mg W et σ H fun k H1 => (if k = true then tT X.K X.mg W ea σ H1 Q else tT X.K X.mg W eb σ H1 Q) := by
    refine tT_of R h fun p Hs1 H1 hp R1 F1 => ?_
    -- a bool's name is no list: nothing is told of
    have key : ∀ {e' : E}, PostR (fun (q : Bool × Env) => ∀ Hs' H', REnv X.K Hs' H' σ q.2 → Fram Hs H (Own σ m) Hs' H' (Own σ q.2) → Q q.1 H') (XcE X.mg W σ H1 p.2) ((evC e' p.2).bind fun q => .ok (q.1, tkm e' q.2)) → tT X.K X.mg W e' σ H1 Q := fun {e'} hp => by
      refine ⟨Hs1, p.2, R1, ?_⟩
      have hp := hp.bind
      unfold evC at hp ⊢
      cases hq : ev e' p.2 with
      | bad => rw [hq] at hp; exact hp.elim
      | exc x => rw [hq] at hp; exact hp
      | ok q =>
        rw [hq] at hp
        simp only [bind_ok] at hp ⊢
        revert hp
        cases hd : q.1.2 with
        | bool k =>
          intro hp Hs2 H2 R2 F2
          have hp : ∀ Hs' H', REnv X.K Hs' H' σ (tkm e' q.2) → Fram Hs H (Own σ m) Hs' H' (Own σ (tkm e' q.2)) → Q k H' := hp
          have same : tkm e' q.2 = q.2 := by
            cases e' with
            | var i =>
              simp only [ev] at hq
              cases hg : geti p.2 i with
              | none => rw [hg] at hq; cases hq
              | some pr =>
                obtain ⟨f, x⟩ := pr
                rw [hg] at hq
                simp only [Res.ok.injEq] at hq
                subst hq
                simp only at hd
                subst hd
                show leak p.2 i = p.2
                unfold leak
                rw [hg]
                cases f with
                | false => rfl
                | true =>
                  exfalso
                  obtain ⟨a, o, _, _, c, _⟩ := R1.own i _ hg
                  cases c
            | _ => rfl
          rw [same] at hp
          exact hp Hs2 H2 R2 (F1.trans F2)
        | _ => intro hp; exact hp.elim
    by_cases k : p.1 = true
    · rw [if_pos k] at hp ⊢
      exact key hp
    · rw [if_neg k] at hp ⊢
      exact key hp
  show wpAny (model X.prog X.w) X.A (do if ← isTrue t X.env (eval t X.env) then isTrue a X.env (eval a X.env) else isTrue b X.env (eval b X.env)) (TP X pins σ Q) X.xe s
  refine wpAny_bind (thn (ht.run pins s σ H _ I hc) fun k s1 ⟨H1, I1, q1⟩ => ?_)
  have q1 : if k = true then tT X.K X.mg W ea σ H1 Q else tT X.K X.mg W eb σ H1 Q := q1
  by_cases hk : k = true
  · rw [if_pos hk] at q1 ⊢
    exact ha.run pins s1 σ H1 Q I1 q1
  · rw [if_neg hk] at q1 ⊢
    exact hb.run pins s1 σ H1 Q I1 q1
end
end Rc

set_option maxRecDepth 100000
set_option maxHeartbeats 4000000
namespace Rc
open PySem L2
section
variable {X : Cx} {W : XK} {c : TC}
theorem plain_star {e : Expr} (h : isPlain e = true) (es : List Expr) (env : PySem.Env) : starEach (e :: es) env = (false, eval e env) :: starEach es env := by
  cases e <;> simp [isPlain] at h <;> rfl
theorem RpA.mono1 {K : PySem.W.Frag} {H H' : Hp} (s : Same H H') {v : V} {d : D} (r : Rp K H v d) : Rp K H' v d := Rp.mono s _ _ r

/-! ### displays, operands, arguments -/
theorem sS_nil : PA X [] (tS X.K X.mg W .nil) := by
  refine PA.imp pa_nil fun σ H Q ⟨Hs, m, R, h⟩ => ?_
  simp only [evs] at h
  exact h [] Hs H R Fram.refl .nil
theorem sS_cons {e : Expr} {es : List Expr} {ee : E} {ees : Es} (hp : isPlain e = true) (he : PEm X W e ee) (hes : PA X es (tS X.K X.mg W ees)) : PA X (e :: es) (tS X.K X.mg W (.cons ee ees)) := by
  refine PA.imp (pa_cons he hes (plain_star hp es _)) fun σ H Q ⟨Hs, m, R, h⟩ => ?_
  simp only [evs] at h
  refine stepT R h fun p v Hs1 H1 hp R1 F1 r => ?_
  refine ⟨Hs1, _, R1, hp.bind.imp (fun q hq vs Hs2 H2 R2 F2 rs => ?_) fun _ z => z⟩
  exact hq (v :: vs) Hs2 H2 R2 (F1.trans F2) (.cons (Rp.mono F2.same _ _ r) rs)
theorem sO_nil : PA X [] (tO X.K X.mg W .nil) := by
  refine PA.imp pa_nil fun σ H Q ⟨Hs, m, R, h⟩ => ?_
  simp only [evO] at h
  exact h [] Hs H R Fram.refl .nil
theorem sO_cons {e : Expr} {es : List Expr} {ee : E} {ees : Es} (hp : isPlain e = true) (he : PEm X W e ee) (hes : PA X es (tO X.K X.mg W ees)) : PA X (e :: es) (tO X.K X.mg W (.cons ee ees)) := by
  refine PA.imp (pa_cons he hes (plain_star hp es _)) fun σ H Q ⟨Hs, m, R, h⟩ => ?_
  simp only [evO] at h
  refine step R h fun p v Hs1 H1 hp R1 F1 b g => ?_
  refine ⟨Hs1, _, R1, hp.bind.imp (fun q hq vs Hs2 H2 R2 F2 rs => ?_) fun _ z => z⟩
  exact hq (v :: vs) Hs2 H2 R2 (F1.trans F2) (.cons (b.mono F2.same) rs)
theorem sA_nil {ms : List Bool} : PA X [] (tAr X.K X.mg W ms .nil) := by
  refine PA.imp pa_nil fun σ H Q ⟨Hs, m, R, h⟩ => ?_
  simp only [evA] at h
  exact h [] Hs H R Fram.refl .nil
theorem sA_cons {e : Expr} {es : List Expr} {ee : E} {ees : Es} {ms : List Bool} (hp : isPlain e = true) (he : PEm X W e ee) (hes : ∀ ms, PA X es (tAr X.K X.mg W ms ees)) : PA X (e :: es) (tAr X.K X.mg W ms (.cons ee ees)) := by
  by_cases hb : ∃ i ms', ee = .var i ∧ ms = true :: ms'
  · obtain ⟨i, ms', rfl, rfl⟩ := hb
    refine PA.imp (pa_cons he (hes ms') (plain_star hp es _)) fun σ H Q ⟨Hs, m, R, h⟩ => ?_
    simp only [evA] at h
    refine step R h fun p v Hs1 H1 hp R1 F1 b g => ?_
    refine ⟨Hs1, _, R1, hp.bind.imp (fun q hq vs Hs2 H2 R2 F2 rs => ?_) fun _ z => z⟩
    exact hq (v :: vs) Hs2 H2 R2 (F1.trans F2) (.slot b rs)
  · refine PA.imp (pa_cons he (hes ms.tail) (plain_star hp es _)) fun σ H Q ⟨Hs, m, R, h⟩ => ?_
    have e' : evA ms (.cons ee ees) m = (ev ee m).bind fun p => (evA ms.tail ees (tkm ee p.2)).bind fun q => .ok (.inr p.1.2 :: q.1, q.2) := by
      simp only [evA]
      congr 1; funext p
      split
      · exact absurd ⟨_, _, rfl, rfl⟩ hb
      · rfl
    rw [e'] at h
    refine stepT R h fun p v Hs1 H1 hp R1 F1 r => ?_
    refine ⟨Hs1, _, R1, hp.bind.imp (fun q hq vs Hs2 H2 R2 F2 rs => ?_) fun _ z => z⟩
    exact hq (v :: vs) Hs2 H2 R2 (F1.trans F2) (.val (Rp.mono F2.same _ _ r) rs)

theorem s_tup {es : List Expr} {ees : Es} {k : Nat} {pos : Pos} (h : PA X es (tS X.K X.mg W ees)) : PEm X W (.Tuple es k pos) (.tup ees) := by
  refine PE.imp (pe_tup h) fun σ H Q ⟨Hs, m, R, h⟩ => ?_
  simp only [ev] at h
  refine ⟨Hs, m, R, h.bind.imp (fun p hp vs Hs1 H1 R1 F1 r => ?_) fun _ z => z⟩
  split at hp
  · rename_i hl
    exact ⟨by rw [r.length]; exact hl, fun q n => fin_tup (e := .tup ees) rfl hp R1 F1 r q n⟩
  · exact hp.elim
theorem s_lst {es : List Expr} {ees : Es} {pos : Pos} (h : PA X es (tS X.K X.mg W ees)) : PEm X W (.List es pos) (.lst ees) := by
  refine PE.imp (pe_lst h) fun σ H Q ⟨Hs, m, R, h⟩ => ?_
  simp only [ev] at h
  refine ⟨Hs, m, R, h.bind.imp (fun p hp vs Hs1 H1 R1 F1 r => ?_) fun _ z => z⟩
  split at hp
  · rename_i hl
    exact ⟨by rw [r.length]; exact hl, fun q n => fin_new (e := .lst ees) rfl hp R1 F1 (.lst r) q n⟩
  · exact hp.elim
theorem s_dct {pos : Pos} : PEm X W (.Dict [] [] pos) .dct := by
  refine PE.imp pe_dnewT fun σ H Q ⟨Hs, m, R, h⟩ => ?_
  simp only [ev] at h
  exact fun p n => fin_new (e := .dct) rfl h R Fram.refl (.dT .nil rfl) p n

/-! ### items and slices -/
def rIdx (K : PySem.W.Frag) : R2 := fun v w H Q => ∃ Hs x y d, Same Hs H ∧ RB K Hs H v x ∧ RB K Hs H w y ∧ idxF x y = some d ∧ ∀ u, Rp K Hs u d → Q u H
theorem atV {K : PySem.W.Frag} {H : Hp} {vs : List V} {ds : List D} {i : Int} {d : D} (r : RpA K H vs ds) (h : atD ds i = some d) : ∃ u, atI vs i = some u ∧ Rp K H u d := by
  unfold atD atI at h
  rw [Option.bind_eq_some_iff] at h
  obtain ⟨j, hj, hd⟩ := h
  obtain ⟨u, hu, ru⟩ := r.get hd
  refine ⟨u, ?_, ru⟩
  unfold atI
  rw [r.length, hj]
  exact hu
theorem no_key (ds : List D) : ∀ kvs : List (List Key × V), ¬ [((PyData.list ds, PyData.none) : D × D)].map (·.1) = kvs.map (fun p => PyData.tuple (p.1.map keyD))
  | [] => by simp
  | k :: r => by simp
theorem scr_of {K : PySem.W.Frag} {Hs H : Hp} {v : V} {ds : List D} (rx : RB K Hs H v (.dict [(.list ds, .none)])) : ∃ (a : Addr) (ns : List Int), v = .ref a ∧ SqL K Hs a (ns.map V.int) ∧ ds = ns.map PyData.int := by
  rcases rx with rx | ⟨a', o, ea, _, k⟩
  · cases rx with
    | dct h1 h2 h3 h4 h5 => exact absurd h5 (no_key ds _)
    | scr h1 h2 =>
      rename_i a ns
      refine ⟨a, ns, rfl, h1, ?_⟩
      unfold scrD at h2
      simpa using h2
  · cases k with
    | dT h2 h5 => exact absurd h5 (no_key ds _)
theorem ix_idx : IxR X (rIdx X.K) := by
  have base : IxR X (fun x y H Q => rIdx X.K x y H Q) := by
    intro val slc pins s σ H v w a b Q I ra rb h hop
    obtain ⟨Hs, x, y, d, sm, rx, ry, hd, q⟩ := h
    unfold idxF at hd
    split at hd
    · obtain ⟨p, vs, rfl, h1, r1⟩ := rx.seqL sm
      obtain ⟨u, hu, ru⟩ := atV r1 hd
      exact ix_list val slc pins s σ H _ _ a b Q I ra rb ⟨p, vs, _, u, rfl, ry.int, SqL.of h1, hu, q u ru⟩ hop
    · obtain ⟨p, vs, rfl, h1, r1⟩ := rx.seqT sm
      obtain ⟨u, hu, ru⟩ := atV r1 hd
      exact ix_tup val slc pins s σ H _ _ a b Q I ra rb ⟨p, vs, _, u, rfl, ry.int, h1, hu, q u ru⟩ hop
    · rename_i ds i
      obtain ⟨ad, ns, rfl, hq, e⟩ := scr_of rx
      subst e
      have : ∃ n, d = .int n ∧ atI (ns.map V.int) i = some (V.int n) := by
        unfold atD atI at hd
        rw [Option.bind_eq_some_iff] at hd
        obtain ⟨j, hj, hd⟩ := hd
        rw [List.getElem?_map] at hd
        cases hn : ns[j]? with
        | none => rw [hn] at hd; simp at hd
        | some n =>
          rw [hn] at hd
          refine ⟨n, by simpa using hd.symm, ?_⟩
          unfold atI
          rw [List.length_map] at hj ⊢
          rw [hj]
          show (ns.map V.int)[j]? = _
          rw [List.getElem?_map, hn]
          rfl
      obtain ⟨n, rfl, hn⟩ := this
      exact ix_list val slc pins s σ H _ _ a b Q I ra rb ⟨ad, _, _, _, rfl, ry.int, sm.seq hq, hn, q _ (.int n)⟩ hop
    · cases hd
  exact base
theorem plain_ix {b : Expr} (h : isSlice b = false) : PlainIx b := fun o i => by
  cases b <;> simp [isSlice] at h <;> rfl
theorem s_idx {a b : Expr} {ea eb : E} {pos : Pos} (hs : isSlice b = false) (ha : PEm X W a ea) (hb : PEm X W b eb) : PEm X W (.Subscript a b pos) (.idx ea eb) := by
  refine PE.imp (pe_ix ix_idx ha hb (plain_ix hs)) fun σ H Q ⟨Hs, m, R, h⟩ => ?_
  simp only [ev] at h
  refine step R h fun p v Hs1 H1 hp R1 F1 b1 g1 => ?_
  refine step R1 hp fun q w Hs2 H2 hq R2 F2 b2 g2 => ?_
  obtain ⟨d, hd, hq⟩ := PostR.ofO hq.bind
  rw [Option.bind_eq_some_iff] at hd
  obtain ⟨x, hx, hd⟩ := hd
  rw [Option.bind_eq_some_iff] at hd
  obtain ⟨y, hy, hd⟩ := hd
  exact ⟨Hs2, x, y, d, R2.sub, R2.op (b1.mono F2.same) hx, R2.op b2 hy, hd, fun u ru => fin_sh (mg := X.mg) (W := W) (e := .idx ea eb) rfl hq R2 (F1.trans F2) ru⟩
/-- a slice's part -/
theorem po_of {o : Option Expr} {e : E} (h : match o with | none => e = .con .none | some x => PEm X W x e ∧ e ≠ .con .none) : PO X o (fun σ H Q => ∃ Hs m, REnv X.K Hs H σ m ∧
    PostR (fun (p : Option Int × Env) => ∀ Hs' H', REnv X.K Hs' H' σ p.2 → Fram Hs H (Own σ m) Hs' H' (Own σ p.2) → Q p.1 H') (XcE X.mg W σ H m) ((ev e m).bind fun p => (Res.ofO (partI e p.1.2)).bind fun i => .ok (i, p.2))) := by
  cases o with
  | none =>
    have h : e = .con .none := h
    subst h
    refine ⟨fun pins s σ H Q I ⟨Hs, m, R, h⟩ => po_none.run pins s σ H Q I ?_⟩
    exact h Hs H R Fram.refl
  | some x =>
    obtain ⟨hx, hn⟩ := h
    refine ⟨fun pins s σ H Q I ⟨Hs, m, R, h⟩ => (po_some hx).run pins s σ H Q I ?_⟩
    refine step R h fun p v Hs1 H1 hp R1 F1 b1 g1 => ?_
    have rb := now R1 b1 g1
    obtain ⟨i, hi, hp⟩ := PostR.ofO hp.bind
    revert hi
    generalize p.1.2 = d at rb
    intro hi
    have : ∃ k, d = .int k ∧ i = some k := by
      unfold partI at hi
      split at hi
      · exact absurd rfl hn
      · exact ⟨_, rfl, by simpa using hi.symm⟩
      · cases hi
    obtain ⟨k, rfl, rfl⟩ := this
    exact ⟨k, rb.int, hp Hs1 H1 R1 F1⟩
def rSlm (K : PySem.W.Frag) : V → Option Int → Option Int → Hp → VK → Prop := fun v lo hi H Q => ∃ Hs x fr d, Same Hs H ∧ RB K Hs H v x ∧ slcF x lo hi = some (fr, d) ∧
  (∀ u, fr = false → Rp K Hs u d → Q u H) ∧ (∀ o, fr = true → Cont K Hs o d → ∀ p, H p = none → Q (.ref p) (upd H p o)) ∧ (∀ us, fr = false → ∀ ds, d = .tuple ds → RpA K Hs us ds → ∀ p, H p = none → Q (.ref p) (upd H p (.tup us)))
theorem sl_m : SlR X (rSlm X.K) := by
  intro pins s σ H v a vl vu lo hi sl Q I ra hs pl pu h
  obtain ⟨Hs, x, fr, d, sm, rx, hd, q1, q2, q3⟩ := h
  cases x <;> simp only [slcF] at hd <;> try (cases hd)
  · obtain ⟨p, vs, rfl, h1, r1⟩ := rx.seqL sm
    exact sl_list pins s σ H _ a vl vu lo hi sl Q I ra hs pl pu ⟨p, vs, rfl, SqL.of h1, fun t n => q2 _ rfl (.lst (r1.cut lo hi)) t n⟩
  · rename_i ds
    obtain ⟨p, vs, rfl, h1, r1⟩ := rx.seqT sm
    refine sl_tupA pins s σ H _ a vl vu lo hi sl Q I ra hs pl pu ⟨p, vs, rfl, h1, fun hw => ?_, fun hw t n => q3 _ rfl _ rfl (r1.cut lo hi) t n⟩
    refine q1 _ rfl ?_
    have e : cutD ds lo hi = ds := by
      rw [r1.length] at hw
      unfold cutD
      rw [hw.1, hw.2]
      simp
    rw [e]
    rcases rx with rx | ⟨a', o, ea, _, k⟩
    · exact rx
    · cases k
theorem s_slc {a : Expr} {lo hi : Option Expr} {ea el eh : E} {p2 pos : Pos} (ha : PEm X W a ea) (hl : match lo with | none => el = .con .none | some x => PEm X W x el ∧ el ≠ .con .none)
    (hh : match hi with | none => eh = .con .none | some x => PEm X W x eh ∧ eh ≠ .con .none) : PEm X W (.Subscript a (.Slice lo hi none p2) pos) (.slc ea el eh) := by
  refine PE.imp (pe_slice sl_m ha (po_of hl) (po_of hh)) fun σ H Q ⟨Hs, m, R, h⟩ => ?_
  simp only [ev] at h
  refine step R h fun p v Hs1 H1 hp R1 F1 b1 g1 => ?_
  have e1 : ∀ {e : E} {m : Env} {β : Type} (G : Option Int → Env → Res β), ((ev e m).bind fun q => (Res.ofO (partI e q.1.2)).bind fun lo => G lo q.2) = ((ev e m).bind fun q => (Res.ofO (partI e q.1.2)).bind fun i => .ok (i, q.2)).bind fun r => G r.1 r.2 := by
    intro e m β G
    simp only [Res.bind_assoc, bind_ok]
  rw [e1 (fun lo m' => (ev eh m').bind fun t => (Res.ofO (partI eh t.1.2)).bind fun hi => (Res.ofO ((rd ea p.1.2 t.2).bind fun x => slcF x lo hi)).bind fun r => .ok (r, t.2))] at hp
  refine ⟨Hs1, _, R1, hp.bind.imp (fun q hq Hs2 H2 R2 F2 => ?_) fun _ z => z⟩
  have hq := hq.next F2
  rw [e1 (fun hi m' => (Res.ofO ((rd ea p.1.2 m').bind fun x => slcF x q.1 hi)).bind fun r => .ok (r, m'))] at hq
  refine ⟨Hs2, _, R2, hq.bind.imp (fun t ht Hs3 H3 R3 F3 => ?_) fun _ z => z⟩
  obtain ⟨⟨fr, d⟩, hd, ht⟩ := PostR.ofO ht.bind
  rw [Option.bind_eq_some_iff] at hd
  obtain ⟨x, hx, hd⟩ := hd
  refine ⟨Hs3, x, fr, d, R3.sub, R3.op (b1.mono (F2.same.trans F3.same)) hx, hd, fun u hf ru => ?_, fun o hf co pp n => ?_, fun us hf ds hds ru pp n => ?_⟩
  · subst hf
    exact fin_sh (mg := X.mg) (W := W) (e := .slc ea el eh) rfl ht R3 ((F1.trans F2).trans F3) ru
  · subst hf
    exact fin_new (e := .slc ea el eh) rfl ht R3 ((F1.trans F2).trans F3) co pp n
  · subst hf hds
    exact fin_tup (e := .slc ea el eh) rfl ht R3 ((F1.trans F2).trans F3) ru pp n
end
end Rc

set_option maxRecDepth 100000
set_option maxHeartbeats 4000000
namespace Rc
open PySem L2
section
variable {X : Cx} {W : XK} {c : TC}
theorem plain_back {pos : Pos} {env : PySem.Env} : ∀ {es : List Expr}, es.all isPlain = true → (backTo pos (starEach es env)).any (·.1) = false
  | [], _ => rfl
  | e :: es, h => by
    rw [List.all_cons, Bool.and_eq_true] at h
    rw [plain_star h.1]
    have ih := plain_back (pos := pos) (env := env) h.2
    show (false || (backTo pos (starEach es env)).any (·.1)) = false
    rw [ih]
    rfl
theorem s_rvs {a : Expr} {ea : E} {k : Nat} {p1 p2 p3 pos : Pos} (ha : PEm X W a ea) : PEm X W (.Subscript a (.Slice none none (some (.UnaryOp .USub (.Constant (.int 1) k p1) p2)) p3) pos) (.rvs ea) := by
  refine PE.imp (pe_revL ha) fun σ H Q ⟨Hs, m, R, h⟩ => ?_
  simp only [ev] at h
  refine step R h fun p v Hs1 H1 hp R1 F1 b1 g1 => ?_
  have rb := now R1 b1 g1
  obtain ⟨r, hd, hp⟩ := PostR.ofO hp.bind
  revert hd
  generalize p.1.2 = d at rb
  intro hd
  cases d <;> simp only [rvsF, Option.some.injEq, reduceCtorEq] at hd
  subst hd
  obtain ⟨q, vs, rfl, h1, r1⟩ := rb.seqL R1.sub
  exact ⟨q, vs, rfl, SqL.of h1, fun t n => fin_new (e := .rvs ea) rfl hp R1 F1 (.lst r1.reverse) t n⟩

/-! ### calls -/
theorem PostR.okD {α : Type} {P : α → Prop} {Xc : Str → Prop} {a : α} (h : PostR P Xc (.ok a)) : P a := h
def Es.len : Es → Nat
  | .nil => 0
  | .cons _ es => es.len + 1
theorem evA_len : ∀ {es : Es} {ms : List Bool} {m : Env} {p : List Arg × Env}, evA ms es m = .ok p → p.1.length = es.len
  | .nil, ms, m, p, h => by
    simp only [evA, Res.ok.injEq] at h
    subst h
    rfl
  | .cons e es, ms, m, p, h => by
    simp only [evA] at h
    cases he : ev e m with
    | bad => rw [he] at h; cases h
    | exc x => rw [he] at h; cases h
    | ok q =>
      rw [he] at h
      simp only [bind_ok] at h
      split at h
      · rename_i i ms'
        cases hs : evA ms' es q.2 with
        | bad => rw [hs] at h; cases h
        | exc x => rw [hs] at h; cases h
        | ok r =>
          rw [hs] at h
          simp only [bind_ok, Res.ok.injEq] at h
          subst h
          simp [Es.len, evA_len hs]
      · cases hs : evA ms.tail es (tkm e q.2) with
        | bad => rw [hs] at h; cases h
        | exc x => rw [hs] at h; cases h
        | ok r =>
          rw [hs] at h
          simp only [bind_ok, Res.ok.injEq] at h
          subst h
          simp [Es.len, evA_len hs]
theorem s_call (G : Good X W c) {x : Str} {e : Expr} {es : List Expr} {f : FnE} {ees : Es} {p pos : Pos} (hx : okName x = true) (hg : isGl c.sc x = true) (hf : c.fns.lookup x = some f) (hn : ees.len = f.n) (hp : (e :: es).all isPlain = true)
    (ha : PA X (e :: es) (tAr X.K X.mg W f.ms ees)) : PEm X W (.Call (.Name x p) (e :: es) [] pos) (.call f.f f.ms ees) := by
  obtain ⟨fa, fd, ps, k, F, hr, hm, hk, hb, hpass⟩ := (G.fns x f hf).ex
  have hp1 : isPlain e = true ∧ es.all isPlain = true := by rw [List.all_cons, Bool.and_eq_true] at hp; exact hp
  refine PE.imp (pe_call F hr (by show X.env.scope.names.lookup x = _; rw [G.sc]; exact gl_of hg) hm hk hb .nil hpass ha (okName_of hx).1 (plain_star hp1.1 es _) (plain_back hp1.2)) fun σ H Q ⟨Hs, m, R, h⟩ => ?_
  simp only [ev] at h
  refine ⟨Hs, m, R, ?_⟩
  have hb := h.bind
  cases hq : evA f.ms ees m with
  | bad => rw [hq] at hb; exact hb.elim
  | exc x => rw [hq] at hb; exact hb
  | ok q =>
    rw [hq] at hb
    intro vs Hs1 H1 R1 F1 ar
    replace hb := PostR.okD hb
    show spM X.K X.mg f.n f.f (vs ++ []) H1 Q W
    rw [List.append_nil]
    refine ⟨by rw [ar.length, evA_len hq]; exact hn, ?_⟩
    rcases hfe : fetch q.1 q.2 with _ | ⟨as, m1⟩
    · simp only [hfe] at hb
      exact hb.elim
    · simp only [hfe] at hb
      have fs := fetch_spec hfe
      refine ⟨Hs1, as, fs.env R1 ar, hb.bind.imp (fun r hr v Hs' H' R' F' rv => ?_) fun y hy C H' hC hE => hy C H' hC (ExF.trans F1 fun b o hbo hno => hE b o hbo fun z => hno ?_)⟩
      · split at hr
        · rename_i hl
          obtain ⟨E1, E2, E3⟩ := fs.after R1 ar hl R' F' rv
          exact hr v Hs' H' E1 (F1.trans E2) E3
        · exact hr.elim
      · obtain ⟨j, i, d, _, _, h3, h4⟩ := fs.ownA ar z
        exact ⟨i, d, h3, h4⟩

/-! ### built-in functions -/
theorem allB_of {K : PySem.W.Frag} {H : Hp} : ∀ {vs : List V} {ds : List D} {b : Bool}, RpA K H vs ds → allB ds = some b → ∃ bs : List Bool, vs = bs.map V.bl ∧ b = bs.all id
  | _, _, _, .nil, h => ⟨[], rfl, by simp only [allB, Option.some.injEq] at h; rw [← h]; rfl⟩
  | _, d :: ds, b, .cons r t, h => by
    cases d <;> simp only [allB, reduceCtorEq] at h
    rename_i k
    rw [Option.map_eq_some_iff] at h
    obtain ⟨b', h1, h2⟩ := h
    obtain ⟨bs, e1, e2⟩ := allB_of t h1
    refine ⟨k :: bs, ?_, ?_⟩
    · cases r with
      | bl => rw [e1]; rfl
      | scr _ e => cases e
    · rw [← h2, e2]; rfl
theorem anyB_of {K : PySem.W.Frag} {H : Hp} : ∀ {vs : List V} {ds : List D} {b : Bool}, RpA K H vs ds → anyB ds = some b → ∃ bs : List Bool, vs = bs.map V.bl ∧ b = bs.any id
  | _, _, _, .nil, h => ⟨[], rfl, by simp only [anyB, Option.some.injEq] at h; rw [← h]; rfl⟩
  | _, d :: ds, b, .cons r t, h => by
    cases d <;> simp only [anyB, reduceCtorEq] at h
    rename_i k
    rw [Option.map_eq_some_iff] at h
    obtain ⟨b', h1, h2⟩ := h
    obtain ⟨bs, e1, e2⟩ := anyB_of t h1
    refine ⟨k :: bs, ?_, ?_⟩
    · cases r with
      | bl => rw [e1]; rfl
      | scr _ e => cases e
    · rw [← h2, e2]; rfl
theorem ints_of {K : PySem.W.Frag} {H : Hp} : ∀ {vs : List V} {ds : List D} {ns : List Int}, RpA K H vs ds → intsOf ds = some ns → vs = ns.map V.int
  | _, _, _, .nil, h => by simp only [intsOf, Option.some.injEq] at h; rw [← h]; rfl
  | _, d :: ds, b, .cons r t, h => by
    cases d <;> simp only [intsOf, reduceCtorEq] at h
    rename_i k
    rw [Option.map_eq_some_iff] at h
    obtain ⟨b', h1, h2⟩ := h
    have e1 := ints_of t h1
    cases r with
    | int => rw [e1, ← h2]; rfl
    | scr _ e => cases e
theorem foldl_max : ∀ (xs : List Int) (x : Int), (xs.foldl max x = x ∨ xs.foldl max x ∈ xs) ∧ x ≤ xs.foldl max x ∧ ∀ y ∈ xs, y ≤ xs.foldl max x
  | [], x => ⟨.inl rfl, Int.le_refl _, by simp⟩
  | y :: xs, x => by
    obtain ⟨a, b, c⟩ := foldl_max xs (max x y)
    simp only [List.foldl_cons, List.mem_cons]
    refine ⟨?_, by omega, fun z hz => ?_⟩
    · rcases a with a | a
      · rw [a]
        by_cases h : x ≤ y
        · rw [Int.max_eq_right h]; exact .inr (.inl rfl)
        · rw [Int.max_eq_left (by omega)]; exact .inl rfl
      · exact .inr (.inr a)
    · rcases hz with rfl | hz
      · omega
      · exact c z hz
theorem foldl_min : ∀ (xs : List Int) (x : Int), (xs.foldl min x = x ∨ xs.foldl min x ∈ xs) ∧ xs.foldl min x ≤ x ∧ ∀ y ∈ xs, xs.foldl min x ≤ y
  | [], x => ⟨.inl rfl, Int.le_refl _, by simp⟩
  | y :: xs, x => by
    obtain ⟨a, b, c⟩ := foldl_min xs (min x y)
    simp only [List.foldl_cons, List.mem_cons]
    refine ⟨?_, by omega, fun z hz => ?_⟩
    · rcases a with a | a
      · rw [a]
        by_cases h : x ≤ y
        · rw [Int.min_eq_left h]; exact .inl rfl
        · rw [Int.min_eq_right (by omega)]; exact .inr (.inl rfl)
      · exact .inr (.inr a)
    · rcases hz with rfl | hz
      · omega
      · exact c z hz
theorem max_is {ns : List Int} {m k : Int} (h : maxL ns = some k) (h1 : m ∈ ns) (h2 : ∀ y ∈ ns, y ≤ m) : m = k := by
  cases ns with
  | nil => cases h
  | cons x xs =>
    simp only [maxL, Option.some.injEq] at h
    obtain ⟨a, b, c⟩ := foldl_max xs x
    rw [h] at a b c
    have h3 : k ≤ m := by
      rcases a with a | a
      · rw [a]; exact h2 x List.mem_cons_self
      · exact h2 k (List.mem_cons_of_mem _ a)
    have h4 : m ≤ k := by
      rcases List.mem_cons.mp h1 with e | e
      · rw [e]; exact b
      · exact c m e
    omega
theorem min_is {ns : List Int} {m k : Int} (h : minL ns = some k) (h1 : m ∈ ns) (h2 : ∀ y ∈ ns, m ≤ y) : m = k := by
  cases ns with
  | nil => cases h
  | cons x xs =>
    simp only [minL, Option.some.injEq] at h
    obtain ⟨a, b, c⟩ := foldl_min xs x
    rw [h] at a b c
    have h3 : m ≤ k := by
      rcases a with a | a
      · rw [a]; exact h2 x List.mem_cons_self
      · exact h2 k (List.mem_cons_of_mem _ a)
    have h4 : k ≤ m := by
      rcases List.mem_cons.mp h1 with e | e
      · rw [e]; exact b
      · exact c m e
    omega
theorem maxL_pos {ns : List Int} {k : Int} (h : maxL ns = some k) : 0 < ns.length := by
  cases ns with
  | nil => cases h
  | cons x xs => simp
theorem minL_pos {ns : List Int} {k : Int} (h : minL ns = some k) : 0 < ns.length := by
  cases ns with
  | nil => cases h
  | cons x xs => simp
def rBlt (K : PySem.W.Frag) (b : Blt) : List V → Hp → VK → Prop := fun vs H Q => ∃ Hs ds fr d, Same Hs H ∧ Paired (fun v x => RB K Hs H v x) vs ds ∧ bltF b ds = some (fr, d) ∧
  (∀ u, fr = false → Rp K Hs u d → Q u H) ∧ (∀ o, fr = true → Cont K Hs o d → ∀ p, H p = none → Q (.ref p) (upd H p o)) ∧ (∀ us, fr = false → ∀ ds, d = .tuple ds → RpA K Hs us ds → ∀ p, H p = none → Q (.ref p) (upd H p (.tup us)))
theorem paired1 {α β : Type} {F : α → β → Prop} {xs : List α} {y : β} (h : Paired F xs [y]) : ∃ x, xs = [x] ∧ F x y := by
  cases h with
  | cons a t => cases t; exact ⟨_, rfl, a⟩
theorem paired2 {α β : Type} {F : α → β → Prop} {xs : List α} {y z : β} (h : Paired F xs [y, z]) : ∃ x w, xs = [x, w] ∧ F x y ∧ F w z := by
  cases h with
  | cons a t =>
    cases t with
    | cons b t => cases t; exact ⟨_, _, rfl, a, b⟩
def Blt.fn : Blt → Value
  | .len => .builtin "len" | .abs => .builtin "abs" | .all => .builtin "all" | .any => .builtin "any" | .max2 => .builtin "max" | .min2 => .builtin "min" | .max1 => .builtin "max" | .min1 => .builtin "min"
  | .tuple => .type "tuple" | .list => .type "list" | .int => .type "int"
theorem blt_ok (G : Good X W c) (b : Blt) : CallR X b.fn (rBlt X.K b) := by
  intro pins s σ H vs us Q I rv h
  obtain ⟨Hs, ds, fr, d, sm, pr, hd, q1, q2, q3⟩ := h
  unfold bltF at hd
  split at hd
  · -- len of a list
    obtain ⟨v, rfl, rb⟩ := paired1 pr
    obtain ⟨a, ws, rfl, h1, r1⟩ := rb.seqL sm
    simp only [Option.some.injEq, Prod.mk.injEq] at hd
    obtain ⟨rfl, rfl⟩ := hd
    refine call_len_seq pins s σ H _ us Q I rv ⟨a, ws, rfl, .inl (SqL.of h1), ?_⟩
    rw [r1.length]
    exact q1 _ rfl (.int _)
  · obtain ⟨v, rfl, rb⟩ := paired1 pr
    obtain ⟨a, ws, rfl, h1, r1⟩ := rb.seqT sm
    simp only [Option.some.injEq, Prod.mk.injEq] at hd
    obtain ⟨rfl, rfl⟩ := hd
    refine call_len_seq pins s σ H _ us Q I rv ⟨a, ws, rfl, .inr h1, ?_⟩
    rw [r1.length]
    exact q1 _ rfl (.int _)
  · obtain ⟨v, rfl, rb⟩ := paired1 pr
    obtain ⟨a, ns, rfl, h1, e⟩ := scr_of rb
    simp only [Option.some.injEq, Prod.mk.injEq] at hd
    obtain ⟨rfl, rfl⟩ := hd
    subst e
    refine call_len_seq pins s σ H _ us Q I rv ⟨a, _, rfl, .inl (sm.seq h1), ?_⟩
    rw [List.length_map]
    have := q1 (.int ns.length) rfl (by rw [List.length_map]; exact .int _)
    exact this
  · obtain ⟨v, rfl, rb⟩ := paired1 pr
    simp only [Option.some.injEq, Prod.mk.injEq] at hd
    obtain ⟨rfl, rfl⟩ := hd
    exact call_abs pins s σ H _ us Q I rv ⟨_, by rw [rb.int], q1 _ rfl (.int _)⟩
  · obtain ⟨v, rfl, rb⟩ := paired1 pr
    obtain ⟨a, ws, rfl, h1, r1⟩ := rb.seqL sm
    rw [Option.map_eq_some_iff] at hd
    obtain ⟨k, hk, hd⟩ := hd
    simp only [Prod.mk.injEq] at hd
    obtain ⟨rfl, rfl⟩ := hd
    obtain ⟨bs, rfl, rfl⟩ := allB_of r1 hk
    exact cr_all G.calm pins s σ H _ us Q I rv ⟨a, bs, rfl, SqL.of h1, q1 _ rfl (.bl _)⟩
  · obtain ⟨v, rfl, rb⟩ := paired1 pr
    obtain ⟨a, ws, rfl, h1, r1⟩ := rb.seqL sm
    rw [Option.map_eq_some_iff] at hd
    obtain ⟨k, hk, hd⟩ := hd
    simp only [Prod.mk.injEq] at hd
    obtain ⟨rfl, rfl⟩ := hd
    obtain ⟨bs, rfl, rfl⟩ := anyB_of r1 hk
    exact cr_any G.calm pins s σ H _ us Q I rv ⟨a, bs, rfl, SqL.of h1, q1 _ rfl (.bl _)⟩
  · obtain ⟨v, w, rfl, rb, rb2⟩ := paired2 pr
    simp only [Option.some.injEq, Prod.mk.injEq] at hd
    obtain ⟨rfl, rfl⟩ := hd
    exact call_max2 G.calm pins s σ H _ us Q I rv ⟨_, _, by rw [rb.int, rb2.int], q1 _ rfl (.int _)⟩
  · obtain ⟨v, w, rfl, rb, rb2⟩ := paired2 pr
    simp only [Option.some.injEq, Prod.mk.injEq] at hd
    obtain ⟨rfl, rfl⟩ := hd
    exact call_min2 G.calm pins s σ H _ us Q I rv ⟨_, _, by rw [rb.int, rb2.int], q1 _ rfl (.int _)⟩
  · obtain ⟨v, rfl, rb⟩ := paired1 pr
    obtain ⟨a, ws, rfl, h1, r1⟩ := rb.seqL sm
    rw [Option.bind_eq_some_iff] at hd
    obtain ⟨ns, hns, hd⟩ := hd
    rw [Option.map_eq_some_iff] at hd
    obtain ⟨k, hk, hd⟩ := hd
    simp only [Prod.mk.injEq] at hd
    obtain ⟨rfl, rfl⟩ := hd
    have e := ints_of r1 hns
    subst e
    refine cr_max G.calm pins s σ H _ us Q I rv ⟨a, ns, rfl, SqL.of h1, maxL_pos hk, fun m hm hle => ?_⟩
    rw [max_is hk hm hle]
    exact q1 _ rfl (.int _)
  · obtain ⟨v, rfl, rb⟩ := paired1 pr
    obtain ⟨a, ws, rfl, h1, r1⟩ := rb.seqL sm
    rw [Option.bind_eq_some_iff] at hd
    obtain ⟨ns, hns, hd⟩ := hd
    rw [Option.map_eq_some_iff] at hd
    obtain ⟨k, hk, hd⟩ := hd
    simp only [Prod.mk.injEq] at hd
    obtain ⟨rfl, rfl⟩ := hd
    have e := ints_of r1 hns
    subst e
    refine cr_min G.calm pins s σ H _ us Q I rv ⟨a, ns, rfl, SqL.of h1, minL_pos hk, fun m hm hle => ?_⟩
    rw [min_is hk hm hle]
    exact q1 _ rfl (.int _)
  · obtain ⟨v, rfl, rb⟩ := paired1 pr
    obtain ⟨a, ws, rfl, h1, r1⟩ := rb.seqL sm
    simp only [Option.some.injEq, Prod.mk.injEq] at hd
    obtain ⟨rfl, rfl⟩ := hd
    exact call_tuple_of pins s σ H _ us Q I rv ⟨a, ws, rfl, .inl ⟨SqL.of h1, fun l n => q3 ws rfl _ rfl r1 l n⟩⟩
  · obtain ⟨v, rfl, rb⟩ := paired1 pr
    obtain ⟨a, ws, rfl, h1, r1⟩ := rb.seqT sm
    simp only [Option.some.injEq, Prod.mk.injEq] at hd
    obtain ⟨rfl, rfl⟩ := hd
    refine call_tuple_of pins s σ H _ us Q I rv ⟨a, ws, rfl, .inr ⟨h1, q1 _ rfl ?_⟩⟩
    rcases rb with rb | ⟨a', o, ea, _, k⟩
    · exact rb
    · cases k
  · obtain ⟨v, rfl, rb⟩ := paired1 pr
    obtain ⟨a, ws, rfl, h1, r1⟩ := rb.seqL sm
    simp only [Option.some.injEq, Prod.mk.injEq] at hd
    obtain ⟨rfl, rfl⟩ := hd
    exact call_list_of pins s σ H _ us Q I rv ⟨a, ws, rfl, .inl (SqL.of h1), fun l n => q2 _ rfl (.lst r1) l n⟩
  · obtain ⟨v, rfl, rb⟩ := paired1 pr
    obtain ⟨a, ws, rfl, h1, r1⟩ := rb.seqT sm
    simp only [Option.some.injEq, Prod.mk.injEq] at hd
    obtain ⟨rfl, rfl⟩ := hd
    exact call_list_of pins s σ H _ us Q I rv ⟨a, ws, rfl, .inr h1, fun l n => q2 _ rfl (.lst r1) l n⟩
  · obtain ⟨v, rfl, rb⟩ := paired1 pr
    simp only [Option.some.injEq, Prod.mk.injEq] at hd
    obtain ⟨rfl, rfl⟩ := hd
    exact call_int1 pins s σ H _ us Q I rv (.inl ⟨_, by rw [rb.int], q1 _ rfl (.int _)⟩)
  · obtain ⟨v, rfl, rb⟩ := paired1 pr
    simp only [Option.some.injEq, Prod.mk.injEq] at hd
    obtain ⟨rfl, rfl⟩ := hd
    exact call_int1 pins s σ H _ us Q I rv (.inr ⟨_, by rw [rb.bl], q1 _ rfl (.int _)⟩)
  · cases hd
end
end Rc

set_option maxRecDepth 100000
set_option maxHeartbeats 4000000
namespace Rc
open PySem L2
section
variable {X : Cx} {W : XK} {c : TC}
theorem gl_at (G : Good X W c) {x : Str} (h : isGl c.sc x = true) : Gl X x := by show X.env.scope.names.lookup x = _; rw [G.sc]; exact gl_of h
def Blt.nm : Blt → Str
  | .len => "len" | .abs => "abs" | .all => "all" | .any => "any" | .max2 => "max" | .min2 => "min" | .max1 => "max" | .min1 => "min" | .tuple => "tuple" | .list => "list" | .int => "int"
theorem bltOf_name {x : Str} {n : Nat} {b : Blt} (h : bltOf x n = some b) : x = b.nm := by
  unfold bltOf at h
  repeat' split at h
  all_goals first | (cases h; done) | (simp only [Option.some.injEq] at h; subst h; rename_i hx; exact hx.1)
theorem nm_blts (b : Blt) : b.nm ∈ blts := by cases b <;> decide +kernel
theorem boot_nm (b : Blt) : bootBuiltins b.nm = some b.fn := by cases b <;> decide +kernel
theorem nm_ne (b : Blt) : b.nm ≠ "__name__" := by cases b <;> decide +kernel
theorem s_blt (G : Good X W c) {x : Str} {n : Nat} {b : Blt} {e : Expr} {es : List Expr} {ees : Es} {p pos : Pos} (hx : okName x = true) (hg : isGl c.sc x = true) (hb : bltOf x n = some b) (hp : (e :: es).all isPlain = true)
    (ha : PA X (e :: es) (tO X.K X.mg W ees)) : PEm X W (.Call (.Name x p) (e :: es) [] pos) (.blt b ees) := by
  have hp1 : isPlain e = true ∧ es.all isPlain = true := by rw [List.all_cons, Bool.and_eq_true] at hp; exact hp
  have en := bltOf_name hb
  have hm : X.mg x = none := by rw [en]; exact G.blt _ (nm_blts b)
  have hv : bootBuiltins x = some b.fn := by rw [en]; exact boot_nm b
  have hne : x ≠ "__name__" := by rw [en]; exact nm_ne b
  have base : PE X (.Call (.Name x p) (e :: es) [] pos) (tCB (rBlt X.K b) (tO X.K X.mg W ees)) := by
    have ok := blt_ok (c := c) G b
    cases b
    all_goals first
      | exact pe_callB ok (gl_at G hg) hm hv ha hne (okName_of hx).1 (plain_star hp1.1 es _) (plain_back hp1.2)
      | exact pe_callTy ok (gl_at G hg) hm hv ha hne (okName_of hx).1 (plain_star hp1.1 es _) (plain_back hp1.2)
  refine PE.imp base fun σ H Q ⟨Hs, m, R, h⟩ => ?_
  simp only [ev] at h
  refine ⟨Hs, m, R, h.bind.imp (fun q hq vs Hs1 H1 R1 F1 ps => ?_) fun _ z => z⟩
  obtain ⟨⟨fr, d⟩, hd, hq⟩ := PostR.ofO hq.bind
  rw [Option.bind_eq_some_iff] at hd
  obtain ⟨xs, hxs, hd⟩ := hd
  have pr : ∀ {vs : List V} {l : List (E × D)} {xs : List D}, Paired (fun v (q : E × D) => BR X.K q.1 σ Hs1 v q.2) vs l → rds l q.2 = some xs → Paired (fun v x => RB X.K Hs1 H1 v x) vs xs := by
    intro vs l
    induction l generalizing vs with
    | nil =>
      intro xs h1 h2
      cases h1
      simp only [rds, Option.some.injEq] at h2
      subst h2
      exact .nil
    | cons a l ih =>
      intro xs h1 h2
      cases h1 with
      | cons ra rl =>
        obtain ⟨ee, dd⟩ := a
        simp only [rds] at h2
        rw [Option.bind_eq_some_iff] at h2
        obtain ⟨y, hy, h2⟩ := h2
        rw [Option.map_eq_some_iff] at h2
        obtain ⟨ys, hys, rfl⟩ := h2
        exact .cons (R1.op ra hy) (ih rl hys)
  refine ⟨Hs1, xs, fr, d, R1.sub, pr ps hxs, hd, fun u hf ru => ?_, fun o hf co pp n => ?_, fun us hf ds hds ru pp n => ?_⟩
  · subst hf
    exact fin_sh (mg := X.mg) (W := W) (e := .blt b ees) rfl hq R1 F1 ru
  · subst hf
    exact fin_new (e := .blt b ees) rfl hq R1 F1 co pp n
  · subst hf hds
    exact fin_tup (e := .blt b ees) rfl hq R1 F1 ru pp n

/-! ### isinstance -/
theorem tyx_of {K : PySem.W.Frag} {Hs H : Hp} {v : V} {d : D} {t : String} (b : RB K Hs H v d) (s : Same Hs H) (h : tyOf d = some t) : TyX K H v (.type t) := by
  have tupT : ∀ {a : Addr} {xs : List V}, SqT K H a xs → TyX K H (.ref a) (.type "tuple") := fun {a xs} q => by
    rcases q with (q | ⟨o, q⟩) | ⟨o, its, n, hk, hc, _⟩
    · exact .base (.tup q)
    · exact .fTuple q
    · exact .kTuple hk hc
  rcases b with b | ⟨a, o, rfl, h1, c⟩
  · cases b with
    | non => cases h; exact .base .non
    | bl b => cases h; exact .base (.bl b)
    | int i => cases h; exact .base (.int i)
    | str x => cases h; exact .base (.str x)
    | lst h1 _ => cases h; exact .base (.lst (s _ _ h1))
    | tup h1 _ => cases h; exact tupT (Same.seqT s h1)
    | dct h1 _ _ _ _ =>
      have : t = "dict" := by
        unfold tyOf at h
        split at h <;> first | (cases h; done) | (simp only [Option.some.injEq] at h; first | exact h.symm | (rename_i e; cases e))
      subst this
      exact .base (.dT (s _ _ h1))
    | scr _ e => subst e; simp [scrD, tyOf] at h
  · cases c with
    | lst _ => cases h; exact .base (.lst h1)
    | dT _ _ =>
      have : t = "dict" := by
        unfold tyOf at h
        split at h <;> first | (cases h; done) | (simp only [Option.some.injEq] at h; first | exact h.symm | (rename_i e; cases e))
      subst this
      exact .base (.dT h1)
theorem TyX.mono_upd {K : PySem.W.Frag} {H : Hp} {v : V} {t : Value} {p : Addr} {o : HO} (h : TyX K H v t) (n : H p = none) : TyX K (upd H p o) v t := by
  have hn : ∀ b u, H b = some u → upd H p o b = some u := fun b u q => by
    rw [upd_ne (fun z => by rw [z, n] at q; cases q)]
    exact q
  cases h with
  | base h =>
    cases h with
    | non => exact .base .non
    | bl x => exact .base (.bl x)
    | int x => exact .base (.int x)
    | str x => exact .base (.str x)
    | flt x => exact .base (.flt x)
    | lst e => exact .base (.lst (hn _ _ e))
    | frz e => exact .base (.frz (hn _ _ e))
    | tup e => exact .base (.tup (hn _ _ e))
    | dK e => exact .base (.dK (hn _ _ e))
    | dT e => exact .base (.dT (hn _ _ e))
    | ins e cl ha hn' htk hm => exact .base (.ins (hn _ _ e) cl ha hn' htk hm)
  | byt b => exact .byt b
  | set e => exact .set (hn _ _ e)
  | kList e c => exact .kList e c
  | kTuple e c => exact .kTuple e c
  | kDict e c => exact .kDict e c
  | fTuple e => exact .fTuple (hn _ _ e)
  | fDict e => exact .fDict (hn _ _ e)
def tyAll : List String := ["NoneType", "bool", "int", "str", "list", "tuple", "dict"]
theorem tyOf_all {d : D} {t : String} (h : tyOf d = some t) : t ∈ tyAll := by
  unfold tyOf at h
  split at h <;> first | (cases h; done) | (simp only [Option.some.injEq] at h; subst h; decide +kernel)
theorem kit_isi : ∀ a ∈ tyAll, ∀ t ∈ tyNames.map (·.2), kitB a t = some (isiB a t) := by decide +kernel
theorem tyName_mem {x : Str} {t : String} (h : tyNames.lookup x = some t) : t ∈ tyNames.map (·.2) := by
  have := PySem.mem_of_lookup h
  exact List.mem_map.mpr ⟨_, this, rfl⟩
theorem tyName_boot : ∀ p ∈ tyNames, bootBuiltins p.1 = some (.type p.2) ∧ p.1 ≠ "__name__" ∧ p.1 ∈ blts := by decide +kernel
theorem pe_ty (G : Good X W c) {t : Expr} {ty : String} (h : tyOfName c.sc c.fns t = some ty) : PE X t (tC (.ty ty)) ∧ ty ∈ tyNames.map (·.2) ∧ isPlain t = true := by
  cases t <;> simp only [tyOfName, reduceCtorEq] at h
  rename_i x pos
  split at h
  · rename_i hc
    simp only [Bool.and_eq_true] at hc
    obtain ⟨h1, h2, h3⟩ := tyName_boot _ (PySem.mem_of_lookup h)
    exact ⟨pe_bltn (gl_at G hc.1.2) (G.blt _ h3) h1 rfl h2 (okName_of hc.1.1).1, tyName_mem h, rfl⟩
  · cases h
theorem isi_core {a : Expr} {ea : E} {ts : List String} {σ : L2.St} {H Hs : Hp} {m : Env} {Q : VK} (R : REnv X.K Hs H σ m)
    (h : PostR (fun (p : (Bool × D) × Env) => ∀ v Hs' H', REnv X.K Hs' H' σ p.2 → Fram Hs H (Own σ m) Hs' H' (OV (Own σ p.2) p.1.1 v) → RR X.K (.isi ea ts) σ p.2 Hs' H' p.1.1 v p.1.2 → Q v H') (XcE X.mg W σ H m) (ev (.isi ea ts) m)) :
    tE X.K X.mg W ea σ H fun v H1 => ∃ t b, TyX X.K H1 v (.type t) ∧ t ∈ tyAll ∧ b = ts.any (isiB t) ∧ (∃ Hs1 m1, REnv X.K Hs1 H1 σ m1 ∧ ∀ Hs2 H2, REnv X.K Hs2 H2 σ m1 → Fram Hs1 H1 (Own σ m1) Hs2 H2 (Own σ m1) → Q (.bl b) H2) := by
  simp only [ev] at h
  refine step R h fun p v Hs1 H1 hp R1 F1 b1 g1 => ?_
  obtain ⟨b, hd, hp⟩ := PostR.ofO hp.bind
  rw [Option.bind_eq_some_iff] at hd
  obtain ⟨x, hx, hd⟩ := hd
  unfold isiD at hd
  rw [Option.map_eq_some_iff] at hd
  obtain ⟨t, ht, hb⟩ := hd
  exact ⟨t, b, tyx_of (R1.op b1 hx) R1.sub ht, tyOf_all ht, hb.symm, Hs1, p.2, R1, fun Hs2 H2 R2 F2 => fin_sh (mg := X.mg) (W := W) (e := .isi ea ts) rfl hp R2 (F1.trans F2) (.bl b)⟩
theorem s_isi1 (G : Good X W c) {a t : Expr} {ea : E} {ty : String} {p pos : Pos} (hg : isGl c.sc ("isinstance" : Str) = true) (hpl : isPlain a = true) (ha : PEm X W a ea) (ht : tyOfName c.sc c.fns t = some ty) :
    PEm X W (.Call (.Name ("isinstance" : Str) p) [a, t] [] pos) (.isi ea [ty]) := by
  obtain ⟨h1, h2, h3⟩ := pe_ty G ht
  have pa : PA X [a, t] (tCons (tE X.K X.mg W ea) (tCons (tC (.ty ty)) tNil)) := pa_cons ha (pa_cons h1 pa_nil (plain_star h3 _ _)) (plain_star hpl _ _)
  refine PE.imp (pe_callB (call_isi (X := X)) (gl_at G hg) (G.blt _ (by decide +kernel)) (by decide +kernel) pa (by decide +kernel) (by decide +kernel) (plain_star hpl _ _) (plain_back (by simp [h3]))) fun σ H Q ⟨Hs, m, R, h⟩ => ?_
  have hc := isi_core (a := a) R h
  refine tE_mono hc fun v H1 ⟨t', b, hty, hm, hb, Hs1, m1, R1, q⟩ => ?_
  refine ⟨v, .ty ty, .type t', .type ty, b, rfl, .ty ty, hty, ?_, q Hs1 H1 R1 Fram.refl⟩
  rw [hb]
  show kitB t' ty = _
  rw [kit_isi t' hm ty h2]
  simp
theorem garb {K : PySem.W.Frag} {Hs H : Hp} {σ : L2.St} {m : Env} (R : REnv K Hs H σ m) {p : Addr} {o : HO} (n : H p = none) : REnv K Hs (upd H p o) σ m ∧ Fram Hs H (Own σ m) Hs (upd H p o) (Own σ m) := by
  have hn : ∀ b u, H b = some u → b ≠ p := fun b u q z => by rw [z, n] at q; cases q
  refine ⟨⟨fun b u q => ?_, R.len, R.val, fun i x z => ?_, R.inj⟩, ⟨Same.refl _, fun b u q _ => ?_, fun b q => .inl q, fun b q => .inl q⟩⟩
  · rw [upd_ne (hn b u (R.sub b u q))]; exact R.sub b u q
  · obtain ⟨b, u, e1, e2, e3⟩ := R.own i x z
    exact ⟨b, u, e1, by rw [upd_ne (hn b u e2)]; exact e2, e3⟩
  · rw [upd_ne (hn b u q)]; exact q
theorem tysIn_ok (G : Good X W c) : ∀ {es : List Expr} {ts : List String}, tysIn c.sc c.fns es = some ts → ∃ t, PA X es t ∧ (∀ σ H (Q : List V → Hp → Prop), Q (ts.map V.ty) H → t σ H Q) ∧ ∀ t ∈ ts, t ∈ tyNames.map (·.2)
  | [], ts, h => by
    simp only [tysIn, Option.some.injEq] at h
    subst h
    exact ⟨_, pa_nil, fun σ H Q q => q, by simp⟩
  | e :: es, ts, h => by
    simp only [tysIn] at h
    rw [Option.bind_eq_some_iff] at h
    obtain ⟨t, h1, h⟩ := h
    rw [Option.map_eq_some_iff] at h
    obtain ⟨ts', h2, rfl⟩ := h
    obtain ⟨p1, p2, p3⟩ := pe_ty G h1
    obtain ⟨tt, q1, q2, q3⟩ := tysIn_ok G h2
    refine ⟨_, pa_cons p1 q1 (plain_star p3 _ _), fun σ H Q q => q2 σ H _ q, fun t ht => ?_⟩
    rcases List.mem_cons.mp ht with rfl | ht
    · exact p2
    · exact q3 t ht
theorem kit_any {K : PySem.W.Frag} {t : String} (ht : t ∈ tyAll) : ∀ {ts : List String}, (∀ x ∈ ts, x ∈ tyNames.map (·.2)) → PySem.W.kitAny K (.type t) (ts.map Value.type) = some (ts.any (isiB t))
  | [], _ => rfl
  | x :: ts, h => by
    refine kitAny_cons (b := isiB t x) (show kitB t x = _ from kit_isi t ht x (h x List.mem_cons_self)) (fun e => ?_) fun e => ?_
    · rw [kit_any ht fun y hy => h y (List.mem_cons_of_mem _ hy)]
      simp [e]
    · simp [e]
theorem cls_all : ∀ ts : List String, Paired ClsV (ts.map V.ty) (ts.map Value.type)
  | [] => .nil
  | t :: ts => .cons (.ty t) (cls_all ts)
theorem s_isiT (G : Good X W c) {a : Expr} {es : List Expr} {k : Nat} {tpos : Pos} {ea : E} {ts : List String} {p pos : Pos} (hg : isGl c.sc ("isinstance" : Str) = true) (hpl : isPlain a = true) (ha : PEm X W a ea) (ht : tysIn c.sc c.fns es = some ts) (hl : ts.length ≤ sizeLine) :
    PEm X W (.Call (.Name ("isinstance" : Str) p) [a, .Tuple es k tpos] [] pos) (.isi ea ts) := by
  obtain ⟨tt, q1, q2, q3⟩ := tysIn_ok G ht
  have pa : PA X [a, .Tuple es k tpos] (tCons (tE X.K X.mg W ea) (tCons (tTup tt) tNil)) := pa_cons ha (pa_cons (pe_tup q1) pa_nil (plain_star rfl _ _)) (plain_star hpl _ _)
  refine PE.imp (pe_callB (call_isiT (X := X)) (gl_at G hg) (G.blt _ (by decide +kernel)) (by decide +kernel) pa (by decide +kernel) (by decide +kernel) (plain_star hpl _ _) (plain_back rfl)) fun σ H Q ⟨Hs, m, R, h⟩ => ?_
  have hc := isi_core (a := a) R h
  refine tE_mono hc fun v H1 ⟨t', b, hty, hm, hb, Hs1, m1, R1, q⟩ => ?_
  refine q2 σ H1 _ ⟨by rw [List.length_map]; exact hl, fun tp n => ?_⟩
  obtain ⟨R2, F2⟩ := garb R1 (o := .tup (ts.map V.ty)) n
  refine ⟨v, tp, ts.map V.ty, .type t', ts.map Value.type, b, rfl, upd_same, cls_all ts, ?_, ?_, q _ _ R2 F2⟩
  · exact TyX.mono_upd hty n
  · rw [hb]; exact kit_any hm q3
end
end Rc

set_option maxRecDepth 100000
set_option maxHeartbeats 4000000
namespace Rc
open PySem L2
/-- the walk J tells the items ds, as long as the sources stand -/
def ItOk (K : PySem.W.Frag) (σ : L2.St) (Hs : Hp) (J : L2.It) (ds : List D) (srcs : List (Nat × List D)) : Prop :=
  ∀ i Hs2 H2 σ2 m2, Same Hs Hs2 → REnv K Hs2 H2 σ2 m2 → srcOk m2 srcs → (∀ p ∈ srcs, σ2[p.1]? = σ[p.1]?) →
    (ds.length ≤ i → J.stop i H2) ∧ (∀ d, ds[i]? = some d → J.go i H2 ∧ ∀ x H3, J.yld i H2 x H3 → ∃ Hs3, REnv K Hs3 H3 σ2 m2 ∧ Fram Hs2 H2 (Own σ2 m2) Hs3 H3 (Own σ2 m2) ∧ Rp K Hs3 x d)
def tI (K : PySem.W.Frag) (mg : Str → Option Value) (W : XK) (it : Rc.It) : TI := fun σ H R => ∃ Hs m, REnv K Hs H σ m ∧
  PostR (fun p => ∀ J Hs' H', REnv K Hs' H' σ p.2.2 → Fram Hs H (Own σ m) Hs' H' (Own σ p.2.2) → ItOk K σ Hs' J p.1 p.2.1 → (∀ q ∈ p.2.1, ∃ d, geti p.2.2 q.1 = some (true, d)) → srcOk p.2.2 p.2.1 → R J H') (XcE mg W σ H m) (evI it m)
section
variable {X : Cx} {W : XK} {c : TC}
theorem PI.imp {tg e : Expr} {t t' : TI} (h : PI X tg e t) (i : ∀ σ H R, t' σ H R → t σ H R) : PI X tg e t' := ⟨fun pins s σ H R I q => h.run pins s σ H R I (i σ H R q)⟩
theorem Res.case {α : Type} (r : Res α) : (∃ a, r = .ok a) ∨ (∃ x, r = .exc x) ∨ r = .bad := by
  cases r with
  | ok a => exact .inl ⟨a, rfl⟩
  | exc x => exact .inr (.inl ⟨x, rfl⟩)
  | bad => exact .inr (.inr rfl)
theorem srcsOf_eq (e : E) (d : D) (m : Env) : srcsOf e d m = match e.vr with | some i => (match d with | .list xs => (match geti m i with | some (true, _) => [(i, xs)] | _ => []) | _ => []) | none => [] := by
  cases e <;> cases d <;> rfl
/-- a source stands as it stood: its list is there -/
theorem src_at {K : PySem.W.Frag} {e : E} {d : D} {ds : List D} {m : Env} {σ : L2.St} {Hs H : Hp} {v : V} (R : REnv K Hs H σ m) (b : BR K e σ Hs v d) (hd : rd e d m = some (.list ds)) :
    ∃ a, v = .ref a ∧ ∀ Hs2 H2 σ2 m2, Same Hs Hs2 → REnv K Hs2 H2 σ2 m2 → srcOk m2 (srcsOf e (.list ds) m) → (∀ p ∈ srcsOf e (.list ds) m, σ2[p.1]? = σ[p.1]?) → ∃ vs, H2 a = some (.lst vs) ∧ RpA K Hs2 vs ds := by
  rw [srcsOf_eq]
  rw [rd_eq] at hd
  unfold BR at b
  cases q : e.vr with
  | none =>
    rw [q] at b hd
    have hd := Option.some.inj hd
    subst hd
    cases b with
    | lst h1 h2 => exact ⟨_, rfl, fun Hs2 H2 σ2 m2 s R2 _ _ => ⟨_, R2.sub _ _ (s _ _ h1), RpA.mono s _ _ h2⟩⟩
    | scr _ e => cases e
  | some i =>
    rw [q] at b hd
    have hd : (geti m i).map (·.2) = some (.list ds) := hd
    cases g : geti m i with
    | none => rw [g] at hd; simp at hd
    | some p =>
      obtain ⟨f, x⟩ := p
      rw [g] at hd
      have hd : x = .list ds := Option.some.inj hd
      subst hd
      cases f with
      | false =>
        obtain ⟨v', e', r⟩ := R.val i _ g
        rw [b] at e'; cases e'
        cases r with
        | lst h1 h2 => exact ⟨_, rfl, fun Hs2 H2 σ2 m2 s R2 _ _ => ⟨_, R2.sub _ _ (s _ _ h1), RpA.mono s _ _ h2⟩⟩
        | scr _ e => cases e
      | true =>
        obtain ⟨a, o, e', h1, h2, _⟩ := R.own i _ g
        rw [b] at e'; cases e'
        refine ⟨a, rfl, fun Hs2 H2 σ2 m2 s R2 ok same => ?_⟩
        simp only [g] at ok same
        obtain ⟨⟨f2, z⟩, _⟩ := (show (∃ b, geti m2 i = some (b, .list ds)) ∧ _ from ok)
        have e2 : σ2[i]? = some (some (.ref a)) := (same (i, ds) (by simp)).trans b
        have rb := R2.rb z e2
        obtain ⟨a', vs, ea, k1, k2⟩ := rb.seqL R2.sub
        cases ea
        exact ⟨vs, k1, k2⟩
theorem src_atT {K : PySem.W.Frag} {e : E} {d : D} {ds : List D} {m : Env} {σ : L2.St} {Hs H : Hp} {v : V} (R : REnv K Hs H σ m) (b : BR K e σ Hs v d) (hd : rd e d m = some (.tuple ds)) :
    ∃ a, v = .ref a ∧ ∀ Hs2 H2, Same Hs Hs2 → Same Hs2 H2 → ∃ vs, SqT K H2 a vs ∧ RpA K Hs2 vs ds := by
  have rb := R.op b hd
  rcases rb with rb | ⟨a, o, _, _, k⟩
  · cases rb with
    | tup h1 h2 => exact ⟨_, rfl, fun Hs2 H2 s s2 => ⟨_, Same.seqT s2 (Same.seqT s h1), RpA.mono s _ _ h2⟩⟩
    | scr _ e => cases e
  · cases k
theorem srcs_own {e : E} {d : D} {m : Env} {ds : List D} (hd : rd e d m = some (.list ds)) : (∀ q ∈ srcsOf e (.list ds) m, ∃ d, geti m q.1 = some (true, d)) ∧ srcOk m (srcsOf e (.list ds) m) := by
  rw [srcsOf_eq]
  rw [rd_eq] at hd
  cases q : e.vr with
  | none => exact ⟨fun q h => by simp at h, trivial⟩
  | some i =>
    rw [q] at hd
    have hd : (geti m i).map (·.2) = some (.list ds) := hd
    cases g : geti m i with
    | none => rw [g] at hd; simp at hd
    | some p =>
      obtain ⟨f, x⟩ := p
      rw [g] at hd
      have hd : x = .list ds := Option.some.inj hd
      subst hd
      simp only
      cases f with
      | false => simp [g, srcOk]
      | true =>
        simp only [g]
        refine ⟨fun q h => ?_, ⟨_, g⟩, trivial⟩
        simp at h
        subst h
        exact ⟨_, g⟩
theorem srcs_tup {e : E} {ds : List D} {m : Env} : srcsOf e (.tuple ds) m = [] := by
  rw [srcsOf_eq]; cases e.vr <;> rfl
theorem rd_self {e : E} {m : Env} {d : D} (g : ∀ i, e.vr = some i → ∃ f, geti m i = some (f, d)) : rd e d m = some d := by
  rw [rd_eq]
  cases q : e.vr with
  | none => rfl
  | some i =>
    obtain ⟨f, z⟩ := g i q
    show (geti m i).map (·.2) = _
    rw [z]; rfl
theorem ok_item {K : PySem.W.Frag} {Hs2 H2 : Hp} {σ2 : L2.St} {m2 : Env} {x : V} {d : D} (R2 : REnv K Hs2 H2 σ2 m2) (r : Rp K Hs2 x d) : ∃ Hs3, REnv K Hs3 H2 σ2 m2 ∧ Fram Hs2 H2 (Own σ2 m2) Hs3 H2 (Own σ2 m2) ∧ Rp K Hs3 x d := ⟨Hs2, R2, Fram.refl, r⟩
theorem it_list {K : PySem.W.Frag} {σ : L2.St} {Hs : Hp} {a : Addr} {ds : List D} {srcs : List (Nat × List D)} (h : ∀ Hs2 H2 σ2 m2, Same Hs Hs2 → REnv K Hs2 H2 σ2 m2 → srcOk m2 srcs → (∀ p ∈ srcs, σ2[p.1]? = σ[p.1]?) → ∃ vs, H2 a = some (.lst vs) ∧ RpA K Hs2 vs ds) :
    ItOk K σ Hs (Itl K a) ds srcs := fun i Hs2 H2 σ2 m2 s R2 ok same => by
  obtain ⟨vs, h1, r1⟩ := h Hs2 H2 σ2 m2 s R2 ok same
  refine ⟨fun hi => ⟨vs, SqL.of h1, by rw [r1.length]; exact hi⟩, fun d hd => ?_⟩
  obtain ⟨v, hv, rv⟩ := r1.get hd
  refine ⟨⟨vs, v, SqL.of h1, hv⟩, fun x H3 ⟨e, q⟩ => ?_⟩
  subst e
  have hx := q vs (SqL.of h1)
  rw [hv] at hx; cases hx
  exact ok_item R2 rv
theorem it_tup {K : PySem.W.Frag} {σ : L2.St} {Hs : Hp} {a : Addr} {ds : List D} {srcs : List (Nat × List D)} (h : ∀ Hs2 H2, Same Hs Hs2 → Same Hs2 H2 → ∃ vs, SqT K H2 a vs ∧ RpA K Hs2 vs ds) :
    ItOk K σ Hs (Itt K a) ds srcs := fun i Hs2 H2 σ2 m2 s R2 ok same => by
  obtain ⟨vs, h1, r1⟩ := h Hs2 H2 s R2.sub
  refine ⟨fun hi => ⟨vs, h1, by rw [r1.length]; exact hi⟩, fun d hd => ?_⟩
  obtain ⟨v, hv, rv⟩ := r1.get hd
  refine ⟨⟨vs, v, h1, hv⟩, fun x H3 ⟨e, q⟩ => ?_⟩
  subst e
  have hx := q vs h1
  rw [hv] at hx; cases hx
  exact ok_item R2 rv
theorem s_sq {tg e : Expr} {ee : E} (he : PEm X W e ee) : PI X tg e (tI X.K X.mg W (.sq ee)) := by
  refine ⟨fun pins s σ H R I ⟨Hs, m, R0, h⟩ => ?_⟩
  simp only [evI] at h
  by_cases ht : ∃ p ds, ev ee m = .ok p ∧ p.1.2 = .tuple ds
  · obtain ⟨p', ds, hp', hd⟩ := ht
    refine (pi_tup he).run pins s σ H R I (step' R0 h fun p v Hs1 H1 ep hp R1 F1 b g => ?_)
    rw [hp'] at ep; cases ep
    have rs := rd_self g
    obtain ⟨xs, hx, hp⟩ := PostR.ofO hp.bind
    rw [hd] at hx rs b
    simp only [seqD, Option.some.injEq] at hx
    subst hx
    obtain ⟨a, rfl, ha⟩ := src_atT R1 b rs
    obtain ⟨vs, h1, _⟩ := ha Hs1 H1 (Same.refl _) R1.sub
    refine ⟨a, rfl, ⟨vs, h1⟩, ?_⟩
    rw [hd] at hp
    refine hp (Itt X.K a) Hs1 H1 R1 F1 (it_tup ha) ?_ ?_
    · rw [srcs_tup]; intro q hq; simp at hq
    · rw [srcs_tup]; exact trivial
  · refine (pi_list he).run pins s σ H R I (step' R0 h fun p v Hs1 H1 ep hp R1 F1 b g => ?_)
    have rs := rd_self g
    obtain ⟨xs, hx, hp⟩ := PostR.ofO hp.bind
    have hd : p.1.2 = .list xs := by
      revert hx
      cases hd : p.1.2 <;> simp only [seqD, Option.some.injEq, reduceCtorEq, false_implies]
      · rintro rfl; rfl
      · exact absurd ⟨p, _, ep, hd⟩ ht
    rw [hd] at rs hp b
    obtain ⟨a, rfl, ha⟩ := src_at R1 b rs
    obtain ⟨w1, w2⟩ := srcs_own rs
    obtain ⟨vs, h1, _⟩ := ha Hs1 H1 σ p.2 (Same.refl _) R1 w2 (fun _ _ => rfl)
    exact ⟨a, rfl, ⟨vs, SqL.of h1⟩, hp (Itl X.K a) Hs1 H1 R1 F1 (it_list ha) w1 w2⟩
/-! ### range -/
theorem it_rng {K : PySem.W.Frag} {σ : L2.St} {Hs : Hp} {lo : Int} {n : Nat} : ItOk K σ Hs (Itr lo n) ((List.range n).map fun (k : Nat) => PyData.int (lo + k)) [] := fun i Hs2 H2 σ2 m2 s R2 ok same => by
  refine ⟨fun hi => (show n ≤ i by simpa using hi), fun d hd => ?_⟩
  rw [List.getElem?_map] at hd
  by_cases hi : i < n
  · rw [List.getElem?_range hi] at hd
    simp only [Option.map_some, Option.some.injEq] at hd
    subst hd
    refine ⟨hi, fun x H3 ⟨e1, e2⟩ => ?_⟩
    subst e1 e2
    exact ok_item R2 (.int _)
  · rw [List.getElem?_eq_none (by simpa using hi)] at hd
    simp at hd
theorem s_rg1 (G : Good X W c) {tg a : Expr} {ea : E} {p pos : Pos} (hg : isGl c.sc ("range" : Str) = true) (hp : isPlain a = true) (ha : PEm X W a ea) : PI X tg (.Call (.Name ("range" : Str) p) [a] [] pos) (tI X.K X.mg W (.rg ea)) := by
  refine PI.imp (pi_range1 (gl_at G hg) (G.blt _ (by decide +kernel)) (pa_cons ha pa_nil (plain_star hp _ _)) (by rw [plain_star hp] <;> rfl)) fun σ H R ⟨Hs, m, R0, h⟩ => ?_
  simp only [evI] at h
  refine step R0 h fun q v Hs1 H1 hq R1 F1 b g => ?_
  have rb := now R1 b g
  revert hq
  cases hd : q.1.2 with
  | int j =>
    intro hq
    rw [hd] at rb
    replace hq : PostR _ _ (if smallI j then Res.ok (rngD 0 j, ([] : List (Nat × List D)), q.2) else .bad) := hq
    split at hq
    · rename_i hs
      refine ⟨j, by rw [rb.int], hs.1, hs.2, hq _ Hs1 H1 R1 F1 ?_ (fun q h => by simp at h) trivial⟩
      have := it_rng (K := X.K) (σ := σ) (Hs := Hs1) (lo := 0) (n := j.toNat)
      unfold rngD
      rw [Int.sub_zero]
      exact this
    · exact hq.elim
  | _ => intro hq; exact hq.elim
theorem s_rg2 (G : Good X W c) {tg a b : Expr} {ea eb : E} {p pos : Pos} (hg : isGl c.sc ("range" : Str) = true) (hp : isPlain a = true) (hp2 : isPlain b = true) (ha : PEm X W a ea) (hb : PEm X W b eb) : PI X tg (.Call (.Name ("range" : Str) p) [a, b] [] pos) (tI X.K X.mg W (.rg2 ea eb)) := by
  refine PI.imp (pi_range2 (gl_at G hg) (G.blt _ (by decide +kernel)) (pa_cons ha (pa_cons hb pa_nil (plain_star hp2 _ _)) (plain_star hp _ _)) (by rw [plain_star hp, plain_star hp2] <;> rfl) (by rw [plain_star hp2] <;> rfl)) fun σ H R ⟨Hs, m, R0, h⟩ => ?_
  simp only [evI] at h
  refine step R0 h fun q v Hs1 H1 hq R1 F1 b1 g1 => ?_
  have rb1 := now R1 b1 g1
  refine step R1 hq fun q2 v2 Hs2 H2 hq R2 F2 b2 g2 => ?_
  have rb2 := now R2 b2 g2
  revert hq
  cases hd : q.1.2 with
  | int i =>
    cases hd2 : q2.1.2 with
    | int j =>
      intro hq
      rw [hd] at rb1
      rw [hd2] at rb2
      replace hq : PostR _ _ (if smallI i ∧ smallI j then Res.ok (rngD i j, ([] : List (Nat × List D)), q2.2) else .bad) := hq
      split at hq
      · rename_i hs
        refine ⟨i, j, by rw [rb1.int, rb2.int], ⟨hs.1.1, hs.1.2, hs.2.1, hs.2.2⟩, hq _ Hs2 H2 R2 (F1.trans F2) it_rng (fun q h => by simp at h) trivial⟩
      · exact hq.elim
    | _ => intro hq; exact hq.elim
  | _ => intro hq; exact hq.elim
/-! ### reversed -/
theorem s_rv (G : Good X W c) {tg a : Expr} {ea : E} {p pos : Pos} (hg : isGl c.sc ("reversed" : Str) = true) (hp : isPlain a = true) (ha : PEm X W a ea) : PI X tg (.Call (.Name ("reversed" : Str) p) [a] [] pos) (tI X.K X.mg W (.rv ea)) := by
  refine PI.imp (RT.pi_revA (gl_at G hg) (G.blt _ (by decide +kernel)) ha (plain_star hp _ _)) fun σ H R ⟨Hs, m, R0, h⟩ => ?_
  simp only [evI] at h
  refine step R0 h fun q v Hs1 H1 hq R1 F1 b g => ?_
  have rs := rd_self g
  obtain ⟨xs, hx, hq⟩ := PostR.ofO hq.bind
  have back : ∀ (n i : Nat) (d : D), xs.reverse[i]? = some d → n = xs.length → i < n ∧ xs[n - 1 - i]? = some d := fun n i d h e => by
    subst e
    have hi : i < xs.length := by
      by_cases q : i < xs.length
      · exact q
      · rw [List.getElem?_eq_none (by simpa using q)] at h; cases h
    rw [List.getElem?_reverse hi] at h
    exact ⟨hi, h⟩
  revert hx
  cases hd : q.1.2 <;> simp only [seqD, Option.some.injEq, reduceCtorEq, false_implies]
  · rintro rfl
    rw [hd] at rs hq b
    obtain ⟨a, rfl, ha⟩ := src_at R1 b rs
    obtain ⟨w1, w2⟩ := srcs_own rs
    obtain ⟨vs, h1, r1⟩ := ha Hs1 H1 σ q.2 (Same.refl _) R1 w2 (fun _ _ => rfl)
    refine ⟨a, vs, rfl, .inl ⟨SqL.of h1, hq (Itv X.K a vs.length) Hs1 H1 R1 F1 (fun i Hs2 H2 σ2 m2 s R2 ok same => ?_) w1 w2⟩⟩
    obtain ⟨ws, k1, k2⟩ := ha Hs2 H2 σ2 m2 s R2 ok same
    refine ⟨fun hi => (show vs.length ≤ i by rw [r1.length]; simpa using hi), fun d hd => ?_⟩
    obtain ⟨hi, hd⟩ := back vs.length i d hd r1.length
    obtain ⟨u, hu, ru⟩ := k2.get hd
    refine ⟨⟨hi, ws, u, SqL.of k1, hu⟩, fun x H3 ⟨e, q⟩ => ?_⟩
    subst e
    have hx := q ws (SqL.of k1)
    rw [hu] at hx; cases hx
    exact ok_item R2 ru
  · rintro rfl
    rw [hd] at rs hq b
    obtain ⟨a, rfl, ha⟩ := src_atT R1 b rs
    obtain ⟨vs, h1, r1⟩ := ha Hs1 H1 (Same.refl _) R1.sub
    refine ⟨a, vs, rfl, .inr ⟨h1, hq (RT.ItvT X.K a vs.length) Hs1 H1 R1 F1 (fun i Hs2 H2 σ2 m2 s R2 ok same => ?_) (by rw [srcs_tup]; intro q hq; simp at hq) (by rw [srcs_tup]; exact trivial)⟩⟩
    obtain ⟨ws, k1, k2⟩ := ha Hs2 H2 s R2.sub
    refine ⟨fun hi => (show vs.length ≤ i by rw [r1.length]; simpa using hi), fun d hd => ?_⟩
    obtain ⟨hi, hd⟩ := back vs.length i d hd r1.length
    obtain ⟨u, hu, ru⟩ := k2.get hd
    refine ⟨⟨hi, ws, u, k1, hu⟩, fun x H3 ⟨e, q⟩ => ?_⟩
    subst e
    have hx := q ws k1
    rw [hu] at hx; cases hx
    exact ok_item R2 ru
/-! ### pairs -/
theorem ok_pair {K : PySem.W.Frag} {Hs2 H2 : Hp} {σ2 : L2.St} {m2 : Env} {T : Addr} {x y : V} {d e : D} (R2 : REnv K Hs2 H2 σ2 m2) (n : H2 T = none) (rx : Rp K Hs2 x d) (ry : Rp K Hs2 y e) :
    ∃ Hs3, REnv K Hs3 (upd H2 T (.tup [x, y])) σ2 m2 ∧ Fram Hs2 H2 (Own σ2 m2) Hs3 (upd H2 T (.tup [x, y])) (Own σ2 m2) ∧ Rp K Hs3 (.ref T) (.tuple [d, e]) := by
  have h := fin_tup (e := .dct) (m := m2) (m1 := m2) (Hs := Hs2) (H := H2) (Q := fun v H' => ∃ Hs3, REnv K Hs3 H' σ2 m2 ∧ Fram Hs2 H2 (Own σ2 m2) Hs3 H' (Own σ2 m2) ∧ Rp K Hs3 v (.tuple [d, e])) rfl
    (fun v Hs' H' R F r => ⟨Hs', R, by rw [OV_false] at F; exact F, r⟩) R2 Fram.refl (.cons rx (.cons ry .nil)) T n
  exact h
theorem zipWith_at {α β γ : Type} {f : α → β → γ} : ∀ {xs : List α} {ys : List β} {i : Nat} {z : γ}, (List.zipWith f xs ys)[i]? = some z → ∃ x y, xs[i]? = some x ∧ ys[i]? = some y ∧ z = f x y := by
  intro xs ys i z h
  rw [List.getElem?_zipWith] at h
  cases hx : xs[i]? with
  | none => rw [hx] at h; simp at h
  | some x =>
    cases hy : ys[i]? with
    | none => rw [hx, hy] at h; simp at h
    | some y =>
      rw [hx, hy] at h
      simp only [Option.some.injEq] at h
      exact ⟨x, y, rfl, rfl, h.symm⟩
theorem srcOk_app {m : Env} : ∀ {a b : List (Nat × List D)}, srcOk m (a ++ b) ↔ srcOk m a ∧ srcOk m b
  | [], b => by simp [srcOk]
  | (i, xs) :: a, b => by
    show (_ ∧ srcOk m (a ++ b)) ↔ (_ ∧ srcOk m a) ∧ srcOk m b
    rw [srcOk_app (a := a) (b := b), and_assoc]
theorem s_zp (G : Good X W c) {es : List Expr} {kk : Nat} {tpos : Pos} {a b : Expr} {ea eb : E} {p pos : Pos} (hg : isGl c.sc ("zip" : Str) = true) (hp : isPlain a = true) (hp2 : isPlain b = true) (ha : PEm X W a ea) (hb : PEm X W b eb) :
    PI X (.Tuple es kk tpos) (.Call (.Name ("zip" : Str) p) [a, b] [] pos) (tI X.K X.mg W (.zp ea eb)) := by
  refine PI.imp (RZ.pi_zipA (gl_at G hg) (G.blt _ (by decide +kernel)) (pa_cons ha (pa_cons hb pa_nil (plain_star hp2 _ _)) (plain_star hp _ _)) (by rw [plain_star hp]) (plain_back (by simp [hp2]))) fun σ H R ⟨Hs, m, R0, h⟩ => ?_
  simp only [evI] at h
  refine step R0 h fun q v Hs1 H1 hq R1 F1 b1 g1 => ?_
  refine step R1 hq fun q2 v2 Hs2 H2 hq R2 F2 b2 g2 => ?_
  obtain ⟨x, hx, hq⟩ := PostR.ofO hq.bind
  obtain ⟨y, hy, hq⟩ := PostR.ofO hq.bind
  have b1 := b1.mono F2.same
  split at hq
  · rename_i hl
    obtain ⟨xs, hxs, hq⟩ := PostR.ofO hq.bind
    obtain ⟨ys, hys, hq⟩ := PostR.ofO hq.bind
    cases x <;> simp only [seqD, Option.some.injEq, reduceCtorEq] at hxs
    · subst hxs
      cases y <;> simp only [seqD, Option.some.injEq, reduceCtorEq] at hys
      · subst hys
        obtain ⟨a1, rfl, ha⟩ := src_at R2 b1 hx
        obtain ⟨w1, w2⟩ := srcs_own hx
        obtain ⟨a2, rfl, hb⟩ := src_at R2 b2 hy
        obtain ⟨u1, u2⟩ := srcs_own hy
        obtain ⟨vs, k1, _⟩ := ha Hs2 H2 σ q2.2 (Same.refl _) R2 w2 (fun _ _ => rfl)
        obtain ⟨ws, k2, _⟩ := hb Hs2 H2 σ q2.2 (Same.refl _) R2 u2 (fun _ _ => rfl)
        refine ⟨a1, a2, vs, ws, rfl, .inl ⟨SqL.of k1, SqL.of k2, hq _ Hs2 H2 R2 (F1.trans F2) (fun i Hs3 H3 σ3 m3 s R3 ok same => ?_) (fun q h => (List.mem_append.mp h).elim (w1 q) (u1 q)) (srcOk_app.mpr ⟨w2, u2⟩)⟩⟩
        obtain ⟨vs', j1, j2⟩ := ha Hs3 H3 σ3 m3 s R3 (srcOk_app.mp ok).1 (fun p h => same p (List.mem_append_left _ h))
        obtain ⟨ws', l1, l2⟩ := hb Hs3 H3 σ3 m3 s R3 (srcOk_app.mp ok).2 (fun p h => same p (List.mem_append_right _ h))
        refine ⟨fun hi => ⟨vs', ws', SqL.of j1, SqL.of l1, ?_⟩, fun d hd => ?_⟩
        · rw [List.length_zipWith] at hi
          rw [j2.length, l2.length]; omega
        · obtain ⟨x, y, hx, hy, rfl⟩ := zipWith_at hd
          obtain ⟨u, hu, ru⟩ := j2.get hx
          obtain ⟨w, hw, rw'⟩ := l2.get hy
          refine ⟨⟨vs', ws', u, w, SqL.of j1, SqL.of l1, hu, hw⟩, fun z H4 ⟨T, x', y', e1, n, e2, q1, q2⟩ => ?_⟩
          subst e1 e2
          have e1 := q1 vs' (SqL.of j1)
          have e2 := q2 ws' (SqL.of l1)
          rw [hu] at e1; cases e1
          rw [hw] at e2; cases e2
          exact ok_pair R3 n ru rw'
      · simp [isL] at hl
    · subst hxs
      cases y <;> simp only [seqD, Option.some.injEq, reduceCtorEq] at hys
      · simp [isL] at hl
      · subst hys
        obtain ⟨a1, rfl, ha⟩ := src_atT R2 b1 hx
        obtain ⟨a2, rfl, hb⟩ := src_atT R2 b2 hy
        obtain ⟨vs, k1, _⟩ := ha Hs2 H2 (Same.refl _) R2.sub
        obtain ⟨ws, k2, _⟩ := hb Hs2 H2 (Same.refl _) R2.sub
        refine ⟨a1, a2, vs, ws, rfl, .inr ⟨k1, k2, hq _ Hs2 H2 R2 (F1.trans F2) (fun i Hs3 H3 σ3 m3 s R3 ok same => ?_) (by rw [srcs_tup, srcs_tup]; intro q h; simp at h) (by rw [srcs_tup, srcs_tup]; exact trivial)⟩⟩
        obtain ⟨vs', j1, j2⟩ := ha Hs3 H3 s R3.sub
        obtain ⟨ws', l1, l2⟩ := hb Hs3 H3 s R3.sub
        refine ⟨fun hi => ⟨vs', ws', j1, l1, ?_⟩, fun d hd => ?_⟩
        · rw [List.length_zipWith] at hi
          rw [j2.length, l2.length]; omega
        · obtain ⟨x, y, hx, hy, rfl⟩ := zipWith_at hd
          obtain ⟨u, hu, ru⟩ := j2.get hx
          obtain ⟨w, hw, rw'⟩ := l2.get hy
          refine ⟨⟨vs', ws', u, w, j1, l1, hu, hw⟩, fun z H4 ⟨T, x', y', e1, n, e2, q1, q2⟩ => ?_⟩
          subst e1 e2
          have e1 := q1 vs' j1
          have e2 := q2 ws' l1
          rw [hu] at e1; cases e1
          rw [hw] at e2; cases e2
          exact ok_pair R3 n ru rw'
  · exact hq.elim
theorem s_en (G : Good X W c) {es : List Expr} {kk : Nat} {tpos : Pos} {a : Expr} {ea : E} {p pos : Pos} (hg : isGl c.sc ("enumerate" : Str) = true) (hp : isPlain a = true) (ha : PEm X W a ea) :
    PI X (.Tuple es kk tpos) (.Call (.Name ("enumerate" : Str) p) [a] [] pos) (tI X.K X.mg W (.en ea)) := by
  refine PI.imp (pi_enum (gl_at G hg) (G.blt _ (by decide +kernel)) (pa_cons ha pa_nil (plain_star hp _ _)) (by rw [plain_star hp] <;> rfl)) fun σ H R ⟨Hs, m, R0, h⟩ => ?_
  simp only [evI] at h
  refine step R0 h fun q v Hs1 H1 hq R1 F1 b g => ?_
  have rs := rd_self g
  split at hq
  · rename_i hl
    obtain ⟨xs, hx, hq⟩ := PostR.ofO hq.bind
    have hd : q.1.2 = .list xs := by
      cases hd : q.1.2 with
      | list zs =>
        rw [hd] at hx
        simp only [seqD, Option.some.injEq] at hx
        rw [hx]
      | _ => exfalso; rw [hd] at hl; simp [isL] at hl
    rw [hd] at rs hq b
    obtain ⟨a, rfl, ha⟩ := src_at R1 b rs
    obtain ⟨w1, w2⟩ := srcs_own rs
    obtain ⟨vs, h1, r1⟩ := ha Hs1 H1 σ q.2 (Same.refl _) R1 w2 (fun _ _ => rfl)
    refine ⟨a, vs, rfl, SqL.of h1, hq (Ite X.K a) Hs1 H1 R1 F1 (fun i Hs2 H2 σ2 m2 s R2 ok same => ?_) w1 w2⟩
    obtain ⟨ws, k1, k2⟩ := ha Hs2 H2 σ2 m2 s R2 ok same
    refine ⟨fun hi => ⟨ws, SqL.of k1, ?_⟩, fun d hd => ?_⟩
    · rw [List.length_zipWith, List.length_range] at hi
      rw [k2.length]; omega
    · obtain ⟨k, y, hk, hy, rfl⟩ := zipWith_at hd
      obtain ⟨u, hu, ru⟩ := k2.get hy
      have hik : k = i := by
        by_cases hi : i < xs.length
        · rw [List.getElem?_range hi] at hk; exact (Option.some.inj hk).symm
        · rw [List.getElem?_eq_none (by simpa using hi)] at hy; cases hy
      subst hik
      refine ⟨⟨ws, u, SqL.of k1, hu⟩, fun z H4 ⟨T, x', e1, n, e2, q1⟩ => ?_⟩
      subst e1 e2
      have e1 := q1 ws (SqL.of k1)
      rw [hu] at e1; cases e1
      exact ok_pair R2 n (.int _) ru
  · exact hq.elim
end
end Rc

set_option maxRecDepth 100000
set_option maxHeartbeats 4000000
namespace Rc
open PySem L2
/-! ### targets -/
def gM (K : PySem.W.Frag) (g : List Nat) : TG := fun v σ H Q => ∃ Hs m d m', REnv K Hs H σ m ∧ Rp K Hs v d ∧ bindT g d m = some m' ∧
  ∀ σ', REnv K Hs H σ' m' → (∀ b, Own σ' m' b → Own σ m b) → (∀ i, i ∉ g → σ'[i]? = σ[i]?) → Q σ' H
section
variable {K : PySem.W.Frag} {Hs H Hs' H' : Hp} {σ : L2.St} {m m' m1 : Env}
theorem REnv.setF (R : REnv K Hs H σ m) {i : Nat} {v : V} {d : D} (r : Rp K Hs v d) : REnv K Hs H (σ.set i (some v)) (m.set i (some (false, d))) ∧ ∀ b, Own (σ.set i (some v)) (m.set i (some (false, d))) b → Own σ m b := by
  have own : ∀ j x, geti (m.set i (some (false, d))) j = some (true, x) → j ≠ i ∧ geti m j = some (true, x) := fun j x z => by
    by_cases hj : j = i
    · subst hj
      have lt := geti_lt z
      rw [List.length_set] at lt
      rw [geti_set_same lt] at z
      cases z
    · rw [geti_set_ne (Ne.symm hj)] at z; exact ⟨hj, z⟩
  refine ⟨⟨R.sub, by simp [R.len], fun j x z => ?_, fun j x z => ?_, fun j k x y a z1 z2 z3 z4 => ?_⟩, fun b ⟨j, x, z1, z2⟩ => ?_⟩
  · by_cases hj : j = i
    · subst hj
      have lt := geti_lt z
      rw [List.length_set] at lt
      rw [geti_set_same lt] at z
      cases z
      exact ⟨v, List.getElem?_set_self (by rw [R.len]; exact lt), r⟩
    · rw [geti_set_ne (Ne.symm hj)] at z
      rw [List.getElem?_set_ne (Ne.symm hj)]
      exact R.val j x z
  · obtain ⟨hj, z⟩ := own j x z
    rw [List.getElem?_set_ne (Ne.symm hj)]
    exact R.own j x z
  · obtain ⟨hj, z1⟩ := own j x z1
    obtain ⟨hk, z2⟩ := own k y z2
    rw [List.getElem?_set_ne (Ne.symm hj)] at z3
    rw [List.getElem?_set_ne (Ne.symm hk)] at z4
    exact R.inj j k x y a z1 z2 z3 z4
  · obtain ⟨hj, z2⟩ := own j x z2
    rw [List.getElem?_set_ne (Ne.symm hj)] at z1
    exact ⟨j, x, z1, z2⟩
end
section
variable {X : Cx} {W : XK} {c : TC}
theorem PG.imp {tg : Expr} {t t' : TG} (h : PG X tg t) (i : ∀ v σ H Q, t' v σ H Q → t v σ H Q) : PG X tg t' := ⟨fun pins s σ H v u Q I r q => h.run pins s σ H v u Q I r (i v σ H Q q)⟩
/-- a name that may be stored -/
def StOk (X : Cx) (x : Str) : Prop := Loc X.env.scope x ∧ (X.fn x = true ∨ X.env.scope.names.lookup x = some .local)
theorem bindT_one {i : Nat} {d : D} {m : Env} : bindT [i] d m = some (m.set i (some (false, d))) := by
  cases d <;> rfl
theorem pg_one {N : List Str} (hN : X.N = N) (nd : X.N.Nodup) {x : Str} {i : Nat} {pos : Pos} (hi : ixOf N x = some i) (st : StOk X x) : PG X (.Name x pos) (gM X.K [i]) := by
  refine PG.imp (pg_name (i := i) nd (by rw [hN]; exact ix_of hi) st.1 st.2) fun v σ H Q ⟨Hs, m, d, m', R, r, hb, k⟩ => ?_
  rw [bindT_one] at hb
  cases hb
  obtain ⟨R', o⟩ := R.setF (i := i) r
  exact k _ R' o fun j hj => List.getElem?_set_ne (fun e => hj (by simp [e]))
theorem pgs_names {N : List Str} (hN : X.N = N) (nd : X.N.Nodup) : ∀ {es : List Expr} {xs : List Str} {g : List Nat}, nameList es = some xs → tgtIx N xs = some g → (∀ x ∈ xs, StOk X x) →
    (∃ t, PGs X es t ∧ ∀ vs σ H Q, vs.length = g.length → Q ((g.zip vs).foldl (fun σ p => σ.set p.1 (some p.2)) σ) H → t vs σ H Q) ∧ (assignEach es X.env).length = g.length ∧ (assignEach es X.env).findIdx? (·.1) = none
  | [], xs, g, h1, h2, h3 => by
    simp only [nameList, Option.some.injEq] at h1
    subst h1
    simp only [tgtIx, Option.some.injEq] at h2
    subst h2
    refine ⟨⟨_, pgs_nil, fun vs σ H Q hl q => ?_⟩, rfl, rfl⟩
    cases vs with
    | nil => exact ⟨rfl, q⟩
    | cons _ _ => simp at hl
  | e :: es, xs, g, h1, h2, h3 => by
    cases e <;> simp only [nameList, reduceCtorEq] at h1
    rename_i x pos
    rw [Option.map_eq_some_iff] at h1
    obtain ⟨xs', h1, rfl⟩ := h1
    simp only [tgtIx] at h2
    rw [Option.bind_eq_some_iff] at h2
    obtain ⟨i, hi, h2⟩ := h2
    rw [Option.map_eq_some_iff] at h2
    obtain ⟨g', h2, rfl⟩ := h2
    obtain ⟨⟨t, ht, hq⟩, hl, hf⟩ := pgs_names hN nd h1 h2 fun y hy => h3 y (List.mem_cons_of_mem _ hy)
    have st := h3 x List.mem_cons_self
    refine ⟨⟨_, pgs_cons (pg_name (i := i) nd (by rw [hN]; exact ix_of hi) st.1 st.2) ht, fun vs σ H Q hlv q => ?_⟩, ?_, ?_⟩
    · cases vs with
      | nil => simp at hlv
      | cons v vs =>
        refine ⟨v, vs, rfl, ?_⟩
        exact hq vs _ H Q (by simpa using hlv) q
    · show (assignEach es X.env).length + 1 = _
      rw [hl]; simp
    · show List.findIdx? (·.1) ((false, _) :: assignEach es X.env) = none
      rw [List.findIdx?_cons]
      simp [hf]
theorem fold_set {K : PySem.W.Frag} {Hs H : Hp} : ∀ {g : List Nat} {vs : List V} {ds : List D} {σ : L2.St} {m : Env}, RpA K Hs vs ds → REnv K Hs H σ m →
    REnv K Hs H ((g.zip vs).foldl (fun σ p => σ.set p.1 (some p.2)) σ) ((g.zip ds).foldl (fun m p => m.set p.1 (some (false, p.2))) m) ∧
      (∀ b, Own ((g.zip vs).foldl (fun σ p => σ.set p.1 (some p.2)) σ) ((g.zip ds).foldl (fun m p => m.set p.1 (some (false, p.2))) m) b → Own σ m b) ∧ ∀ i, i ∉ g → ((g.zip vs).foldl (fun σ p => σ.set p.1 (some p.2)) σ)[i]? = σ[i]?
  | [], _, _, σ, m, _, R => ⟨by simpa using R, fun b h => by simpa using h, fun i _ => by simp⟩
  | i :: g, _, _, σ, m, .nil, R => ⟨by simpa using R, fun b h => by simpa using h, fun i _ => by simp⟩
  | i :: g, _, _, σ, m, .cons r t, R => by
    obtain ⟨R1, o1⟩ := R.setF (i := i) r
    obtain ⟨R2, o2, k2⟩ := fold_set (g := g) t R1
    refine ⟨R2, fun b h => o1 b (o2 b h), fun j hj => ?_⟩
    simp only [List.mem_cons, not_or] at hj
    exact (k2 j hj.2).trans (List.getElem?_set_ne (Ne.symm hj.1))
theorem pg_many {N : List Str} (hN : X.N = N) (nd : X.N.Nodup) (hc : X.calm = true) {es : List Expr} {xs : List Str} {g : List Nat} {k : Nat} {pos : Pos} (h1 : nameList es = some xs) (h2 : tgtIx N xs = some g) (h3 : ∀ x ∈ xs, StOk X x) (hg : g.length ≠ 1) : PG X (.Tuple es k pos) (gM X.K g) := by
  obtain ⟨⟨t, ht, hq⟩, hl, hf⟩ := pgs_names hN nd h1 h2 h3
  refine ⟨fun pins s σ H v u Q I r ⟨Hs, m, d, m', R, rp, hb, kk⟩ => ?_⟩
  unfold bindT at hb
  split at hb
  · simp at hg
  · rename_i is ds m _
    split at hb
    · rename_i hds
      cases hb
      refine (pg_tup hc ht hl hf).run pins s σ H v u Q I r ?_
      cases rp with
      | tup q1 r1 =>
        refine ⟨_, _, rfl, Same.seqT R.sub q1, by rw [r1.length]; exact hds, hq _ σ H Q (by rw [r1.length]; exact hds) ?_⟩
        obtain ⟨R', o, k'⟩ := fold_set (g := g) r1 R
        exact kk _ R' o k'
      | scr _ e => cases e
    · cases hb
  · rename_i is ds m _
    split at hb
    · rename_i hds
      cases hb
      refine (pg_lst hc ht hl hf).run pins s σ H v u Q I r ?_
      cases rp with
      | lst q1 r1 =>
        refine ⟨_, _, rfl, SqL.of (R.sub _ _ q1), by rw [r1.length]; exact hds, hq _ σ H Q (by rw [r1.length]; exact hds) ?_⟩
        obtain ⟨R', o, k'⟩ := fold_set (g := g) r1 R
        exact kk _ R' o k'
      | scr _ e => cases e
    · cases hb
  · cases hb
/-! ### comprehensions -/
theorem wipe_at {σ : L2.St} {i : Nat} : ∀ {vs : List Nat}, (wipe σ vs)[i]? = if i ∈ vs then (if i < σ.length then some none else none) else σ[i]?
  | [] => by simp [wipe]
  | v :: vs => by
    show ((wipe σ vs).set v none)[i]? = _
    by_cases hi : v = i
    · subst hi
      by_cases hv : v < σ.length
      · rw [List.getElem?_set_self (by rw [wipe_length]; exact hv)]; simp [hv]
      · rw [List.getElem?_eq_none (by simp [wipe_length]; omega)]; simp [hv]
    · rw [List.getElem?_set_ne hi, wipe_at]
      simp [Ne.symm hi]
theorem wipeE_len {m : Env} : ∀ {vs : List Nat}, (wipeE m vs).length = m.length
  | [] => rfl
  | v :: vs => by show ((wipeE m vs).set v none).length = _; rw [List.length_set, wipeE_len]
theorem wipeE_at {m : Env} {i : Nat} : ∀ {vs : List Nat}, geti (wipeE m vs) i = if i ∈ vs then none else geti m i
  | [] => by simp [wipeE]
  | v :: vs => by
    show geti ((wipeE m vs).set v none) i = _
    by_cases hi : v = i
    · subst hi
      by_cases hv : v < m.length
      · rw [geti_set_same (by rw [wipeE_len]; exact hv)]; simp
      · rw [geti_eq, List.getElem?_eq_none (by simp [wipeE_len]; omega)]; simp
    · rw [geti_set_ne hi, wipeE_at]
      simp [Ne.symm hi]
theorem backE_len {m₀ m : Env} : ∀ {vs : List Nat}, (backE m₀ m vs).length = m.length
  | [] => rfl
  | v :: vs => by show ((backE m₀ m vs).set v _).length = _; rw [List.length_set, backE_len]
theorem backE_at {m₀ m : Env} (hl : m₀.length = m.length) {i : Nat} : ∀ {vs : List Nat}, geti (backE m₀ m vs) i = if i ∈ vs then geti m₀ i else geti m i
  | [] => by simp [backE]
  | v :: vs => by
    show geti ((backE m₀ m vs).set v (geti m₀ v)) i = _
    by_cases hi : v = i
    · subst hi
      by_cases hv : v < m.length
      · rw [geti_set_same (by rw [backE_len]; exact hv)]; simp
      · rw [geti_eq, List.getElem?_eq_none (by simp [backE_len]; omega)]
        simp
        rw [geti_eq, List.getElem?_eq_none (by omega)]; rfl
    · rw [geti_set_ne hi, backE_at hl]
      simp [Ne.symm hi]
theorem REnv.wiped {K : PySem.W.Frag} {Hs H : Hp} {σ : L2.St} {m : Env} (R : REnv K Hs H σ m) (vs : List Nat) : REnv K Hs H (wipe σ vs) (wipeE m vs) ∧ ∀ b, Own (wipe σ vs) (wipeE m vs) b → Own σ m b := by
  have at' : ∀ i p, geti (wipeE m vs) i = some p → i ∉ vs ∧ geti m i = some p := fun i p h => by
    rw [wipeE_at] at h
    split at h
    · cases h
    · rename_i hi; exact ⟨hi, h⟩
  have σat : ∀ i, i ∉ vs → (wipe σ vs)[i]? = σ[i]? := fun i hi => by rw [wipe_at, if_neg hi]
  refine ⟨⟨R.sub, by rw [wipe_length, wipeE_len]; exact R.len, fun i d h => ?_, fun i d h => ?_, fun i j d e a h1 h2 h3 h4 => ?_⟩, fun b ⟨i, d, h1, h2⟩ => ?_⟩
  · obtain ⟨hi, h⟩ := at' i _ h
    rw [σat i hi]; exact R.val i d h
  · obtain ⟨hi, h⟩ := at' i _ h
    rw [σat i hi]; exact R.own i d h
  · obtain ⟨hi, h1⟩ := at' i _ h1
    obtain ⟨hj, h2⟩ := at' j _ h2
    rw [σat i hi] at h3
    rw [σat j hj] at h4
    exact R.inj i j d e a h1 h2 h3 h4
  · obtain ⟨hi, h2⟩ := at' i _ h2
    rw [σat i hi] at h1
    exact ⟨i, d, h1, h2⟩
/-- the block's end: the def's own names as they were -/
theorem REnv.backed {K : PySem.W.Frag} {Hs1 H1 Hs H : Hp} {σ : L2.St} {m1 m : Env} {vs : List Nat} (R1 : REnv K Hs1 H1 σ m1) (R : REnv K Hs H (wipe σ vs) m) (s : Same Hs1 Hs) (hs : ∀ i ∈ vs, shO (geti m1 i) = true) :
    REnv K Hs H σ (backE m1 m vs) ∧ ∀ b, Own σ (backE m1 m vs) b → Own (wipe σ vs) m b := by
  have hl : m1.length = m.length := by rw [← R1.len, ← R.len, wipe_length]
  have at' : ∀ i p, geti (backE m1 m vs) i = some p → (i ∈ vs ∧ geti m1 i = some p ∧ p.1 = false) ∨ (i ∉ vs ∧ geti m i = some p) := fun i p h => by
    rw [backE_at hl] at h
    split at h
    · rename_i hi
      have := hs i hi
      rw [h] at this
      obtain ⟨f, d⟩ := p
      cases f with
      | false => exact .inl ⟨hi, h, rfl⟩
      | true => simp [shO] at this
    · rename_i hi; exact .inr ⟨hi, h⟩
  have σat : ∀ i, i ∉ vs → (wipe σ vs)[i]? = σ[i]? := fun i hi => by rw [wipe_at, if_neg hi]
  have ownAt : ∀ i d, geti (backE m1 m vs) i = some (true, d) → i ∉ vs ∧ geti m i = some (true, d) := fun i d h => by
    rcases at' i _ h with ⟨_, _, z⟩ | z
    · cases z
    · exact z
  refine ⟨⟨R.sub, by rw [backE_len, ← R.len, wipe_length], fun i d h => ?_, fun i d h => ?_, fun i j d e a h1 h2 h3 h4 => ?_⟩, fun b ⟨i, d, h1, h2⟩ => ?_⟩
  · rcases at' i _ h with ⟨hi, z, _⟩ | ⟨hi, z⟩
    · obtain ⟨v, e, r⟩ := R1.val i d z
      exact ⟨v, e, Rp.mono s _ _ r⟩
    · rw [← σat i hi]; exact R.val i d z
  · obtain ⟨hi, z⟩ := ownAt i d h
    rw [← σat i hi]; exact R.own i d z
  · obtain ⟨hi, h1⟩ := ownAt i _ h1
    obtain ⟨hj, h2⟩ := ownAt j _ h2
    rw [← σat i hi] at h3
    rw [← σat j hj] at h4
    exact R.inj i j d e a h1 h2 h3 h4
  · obtain ⟨hi, h2⟩ := ownAt i _ h2
    rw [← σat i hi] at h1
    exact ⟨i, d, h1, h2⟩
theorem wipe_wipe {σ σ2 : L2.St} {vs : List Nat} (hl : σ2.length = σ.length) (h : ∀ i, i ∉ vs → σ2[i]? = (wipe σ vs)[i]?) : wipe σ2 vs = wipe σ vs := by
  apply List.ext_getElem?
  intro i
  rw [wipe_at, wipe_at]
  by_cases hi : i ∈ vs
  · simp [hi, hl]
  · simp only [hi, if_false]
    rw [h i hi, wipe_at, if_neg hi]
/-- an object that nothing tells of -/
theorem hid {Hs H Hs' H' : Hp} {O O' : Addr → Prop} {p : Addr} {u : HO} (F : Fram Hs H O Hs' H' O') (h1 : H p = some u) (h2 : Hs p = none) (h3 : ¬ O p) : H' p = some u ∧ Hs' p = none ∧ ¬ O' p := by
  refine ⟨F.keep p u h1 h3, ?_, fun z => (F.owns p z).elim h3 fun q => by rw [h1] at q; cases q⟩
  cases q : Hs' p with
  | none => rfl
  | some w =>
    rcases F.news p (by rw [q]; simp) with z | z | z
    · exact absurd h2 z
    · rw [h1] at z; cases z
    · exact absurd z h3
theorem REnv.at_hid {K : PySem.W.Frag} {Hs H : Hp} {σ : L2.St} {m : Env} (R : REnv K Hs H σ m) {p : Addr} {o : HO} (h2 : Hs p = none) (h3 : ¬ Own σ m p) : REnv K Hs (upd H p o) σ m := by
  refine ⟨fun b u q => ?_, R.len, R.val, fun i d h => ?_, R.inj⟩
  · have : b ≠ p := fun e => by subst e; rw [h2] at q; cases q
    rw [upd_ne this]; exact R.sub b u q
  · obtain ⟨a, u, e, q1, q2⟩ := R.own i d h
    have : a ≠ p := fun z => h3 ⟨i, d, by rw [← z]; exact e, h⟩
    exact ⟨a, u, e, by rw [upd_ne this]; exact q1, q2⟩
theorem noX_bad {α : Type} {P : α → Prop} {Xc : Str → Prop} {r : Res α} (h : PostR P Xc r.noX) : PostR P (fun _ => False) r := by
  cases r with
  | ok a => exact h
  | exc x => exact h.elim
  | bad => exact h
theorem PostR.ex {α : Type} {P : α → Prop} {r : Res α} (h : PostR P (fun _ => False) r) : ∃ a, r = .ok a ∧ P a := by
  cases r with
  | ok a => exact ⟨a, rfl, h⟩
  | exc x => exact h.elim
  | bad => exact h.elim
theorem PostR.never {α : Type} {P : α → Prop} {Xc : Str → Prop} {r : Res α} (h : PostR P (fun _ => False) r) : PostR P Xc r := h.imp (fun _ z => z) fun _ z => z.elim

theorem tT0 {K : PySem.W.Frag} {mg : Str → Option Value} {W : XK} {Hs H : Hp} {σ : L2.St} {m : Env} {e : E} {β : Type} {P : β → Prop} {f : Bool × Env → Res β} {Q : Bool → Hp → Prop} (R : REnv K Hs H σ m) (h : PostR P (fun _ => False) ((evC e m).bind f))
    (k : ∀ p Hs1 H1, PostR P (fun _ => False) (f p) → REnv K Hs1 H1 σ p.2 → Fram Hs H (Own σ m) Hs1 H1 (Own σ p.2) → Q p.1 H1) : tT K mg W e σ H Q :=
  ⟨Hs, m, R, h.bind.imp (fun p hp Hs' H' R' F => k p Hs' H' hp R' F) fun x hx => hx.elim⟩
theorem fold_len (l : List (Nat × D)) : ∀ m : Env, (l.foldl (fun m p => m.set p.1 (some (false, p.2))) m).length = m.length := by
  induction l with
  | nil => intro m; rfl
  | cons p l ih => intro m; rw [List.foldl_cons, ih, List.length_set]
theorem bindT_len {g : List Nat} {d : D} {m m' : Env} (h : bindT g d m = some m') : m'.length = m.length := by
  unfold bindT at h
  split at h
  · cases h; simp
  · split at h
    · cases h; exact fold_len _ _
    · cases h
  · split at h
    · cases h; exact fold_len _ _
    · cases h
  · cases h
/-- the turns of a comprehension -/
theorem lc_turns {K : PySem.W.Frag} {mg : Str → Option Value} {g vs : List Nat} {srcs : List (Nat × List D)} {ee ec : E} {σ : L2.St} {Hs1 H1 : Hp} {m1 : Env} {ds : List D} {J : L2.It} {Dd : Addr} {Q : VK}
    (hg : ∀ i ∈ g, i ∈ vs) (hJ : ItOk K σ Hs1 J ds srcs) (hsrc : ∀ p ∈ srcs, p.1 ∉ vs) (nD : H1 Dd = none) (R1 : REnv K Hs1 H1 σ m1)
    (hev : PostR (fun r : List D × Env => lenOk r.1.length ∧ ∀ Hs H acc, REnv K Hs H (wipe σ vs) r.2 → Fram Hs1 H1 (Own σ m1) Hs H (Own (wipe σ vs) r.2) → H Dd = some (.lst acc) → Hs Dd = none → ¬ Own (wipe σ vs) r.2 Dd → RpA K Hs acc r.1 → Q (.ref Dd) H) (fun _ => False)
      (lcL srcs vs g (fun m => evC ec m) (fun m => (ev ee m).bind fun q => .ok (q.1.2, tkm ee q.2)) ds (wipeE m1 vs))) :
    ∃ Wd : Nat → Nat → Hp → Prop, (∃ m, Wd 0 m (upd H1 Dd (.lst []))) ∧ ∀ i m H, Wd i m H → (J.stop i H ∧ Q (.ref Dd) H) ∨ (J.go i H ∧ ∃ Nx : Hp → Prop, (∀ H', Nx H' → ∃ m', m' < m ∧ Wd (i + 1) m' H') ∧ ∀ x H', J.yld i H x H' →
      gM K g x (wipe σ vs) H' fun σ2 H2 => wipe σ2 vs = wipe σ vs ∧ tT K mg E0 ec σ2 H2 fun b H3 => if b = true then tE K mg E0 ee σ2 H3 fun y H4 => ∃ acc, H4 Dd = some (.lst acc) ∧ acc.length < sizeLine ∧ Nx (upd H4 Dd (.lst (acc ++ [y]))) else Nx H3) := by
  have hsame : ∀ p ∈ srcs, (wipe σ vs)[p.1]? = σ[p.1]? := fun p hp => by rw [wipe_at, if_neg (hsrc p hp)]
  -- what stands between two turns
  let St := fun (i : Nat) (H : Hp) => ∃ Hs m acc accD, REnv K Hs H (wipe σ vs) m ∧ Fram Hs1 H1 (Own σ m1) Hs H (Own (wipe σ vs) m) ∧ H Dd = some (.lst acc) ∧ Hs Dd = none ∧ ¬ Own (wipe σ vs) m Dd ∧ RpA K Hs acc accD ∧
    PostR (fun r : List D × Env => lenOk (accD.length + r.1.length) ∧ ∀ Hs H acc, REnv K Hs H (wipe σ vs) r.2 → Fram Hs1 H1 (Own σ m1) Hs H (Own (wipe σ vs) r.2) → H Dd = some (.lst acc) → Hs Dd = none → ¬ Own (wipe σ vs) r.2 Dd → RpA K Hs acc (accD ++ r.1) → Q (.ref Dd) H) (fun _ => False)
      (lcL srcs vs g (fun m => evC ec m) (fun m => (ev ee m).bind fun q => .ok (q.1.2, tkm ee q.2)) (ds.drop i) m)
  refine ⟨fun i k H => k = ds.length - i ∧ i ≤ ds.length ∧ St i H, ⟨ds.length, by simp, Nat.zero_le _, ?_⟩, ?_⟩
  · obtain ⟨Rw, ow⟩ := R1.wiped vs
    have nS : Hs1 Dd = none := by
      cases q : Hs1 Dd with
      | none => rfl
      | some u => rw [R1.sub Dd u q] at nD; cases nD
    have nO : ¬ Own (wipe σ vs) (wipeE m1 vs) Dd := fun z => by
      obtain ⟨i, d, h1, h2⟩ := z
      obtain ⟨a, o, e1, e2, _⟩ := Rw.own i d h2
      rw [h1] at e1; cases e1
      rw [nD] at e2; cases e2
    refine ⟨Hs1, wipeE m1 vs, [], [], Rw.at_hid nS nO, ⟨Same.refl _, fun b u q _ => ?_, fun b q => .inl q, fun b q => .inl (ow b q)⟩, upd_same, nS, nO, .nil, ?_⟩
    · rw [upd_ne (fun z => by rw [z, nD] at q; cases q)]; exact q
    · simpa using hev
  · rintro i k H ⟨rfl, hi, Hs, m, acc, accD, R, F, hD, hDs, hDo, ra, hl⟩
    by_cases hlt : i < ds.length
    · have hd : ds[i]? = some ds[i] := List.getElem?_eq_getElem hlt
      have hdrop : ds.drop i = ds[i] :: ds.drop (i + 1) := List.drop_eq_getElem_cons hlt
      rw [hdrop] at hl
      simp only [lcL] at hl
      split at hl
      · rename_i hok
        obtain ⟨_, hitem⟩ := hJ i Hs H (wipe σ vs) m F.same R hok hsame
        obtain ⟨hgo, hy⟩ := hitem _ hd
        refine .inr ⟨hgo, fun H' => i + 1 ≤ ds.length ∧ St (i + 1) H', fun H' ⟨h1, h2⟩ => ⟨ds.length - (i + 1), by omega, rfl, h1, h2⟩, fun x H' yl => ?_⟩
        obtain ⟨Hs3, R3, F3, rx⟩ := hy x H' yl
        obtain ⟨d3, d3s, d3o⟩ := hid F3 hD hDs hDo
        obtain ⟨m2, hb, hl⟩ := PostR.ofO hl.bind
        refine ⟨Hs3, m, ds[i], m2, R3, rx, hb, fun σ2 R4 o4 k4 => ?_⟩
        have F4 : Fram Hs3 H' (Own (wipe σ vs) m) Hs3 H' (Own σ2 m2) := ⟨Same.refl _, fun _ _ q _ => q, fun _ q => .inl q, fun b q => .inl (o4 b q)⟩
        have hw : wipe σ2 vs = wipe σ vs := wipe_wipe (by
          have h1 := R4.len
          have h2 := R3.len
          rw [wipe_length] at h2
          have h3 := bindT_len hb
          omega) fun j hj => k4 j fun z => hj (hg j z)
        refine ⟨hw, ?_⟩
        obtain ⟨d4, d4s, d4o⟩ := hid F4 d3 d3s d3o
        have Fa := (F.trans F3).trans F4
        -- the turn's end
        have fin : ∀ {Hs6 H6 : Hp} {m6 : Env} {acc6 : List V} {accD6 : List D}, REnv K Hs6 H6 σ2 m6 → Fram Hs1 H1 (Own σ m1) Hs6 H6 (Own σ2 m6) → H6 Dd = some (.lst acc) → Hs6 Dd = none → ¬ Own σ2 m6 Dd → RpA K Hs6 acc6 accD6 →
            PostR (fun r : List D × Env => lenOk (accD6.length + r.1.length) ∧ ∀ Hs H acc, REnv K Hs H (wipe σ vs) r.2 → Fram Hs1 H1 (Own σ m1) Hs H (Own (wipe σ vs) r.2) → H Dd = some (.lst acc) → Hs Dd = none → ¬ Own (wipe σ vs) r.2 Dd → RpA K Hs acc (accD6 ++ r.1) → Q (.ref Dd) H) (fun _ => False)
              (lcL srcs vs g (fun m => evC ec m) (fun m => (ev ee m).bind fun q => .ok (q.1.2, tkm ee q.2)) (ds.drop (i + 1)) (wipeE m6 vs)) → St (i + 1) (upd H6 Dd (.lst acc6)) := by
          intro Hs6 H6 m6 acc6 accD6 R6 F6 d6 d6s d6o ra6 hl6
          obtain ⟨Rw, ow⟩ := R6.wiped vs
          rw [hw] at Rw ow
          have nO : ¬ Own (wipe σ vs) (wipeE m6 vs) Dd := fun z => d6o (ow _ z)
          refine ⟨Hs6, wipeE m6 vs, acc6, accD6, Rw.at_hid d6s nO, ⟨F6.same, fun b u q n => ?_, F6.news, fun b q => F6.owns b (ow b q)⟩, upd_same, d6s, nO, ra6, hl6⟩
          rw [upd_ne (fun z => by rw [z, nD] at q; cases q)]
          exact F6.keep b u q n
        refine tT0 R4 hl fun p Hs5 H5 hp R5 F5 => ?_
        obtain ⟨d5, d5s, d5o⟩ := hid F5 d4 d4s d4o
        have Fb := Fa.trans F5
        by_cases hk : p.1 = true
        · rw [if_pos hk] at hp ⊢
          rw [Res.bind_assoc] at hp
          refine stepT0 R5 hp fun q y Hs6 H6 hq R6 F6 ry => ?_
          obtain ⟨d6, d6s, d6o⟩ := hid F6 d5 d5s d5o
          have Fc := Fb.trans F6
          have ra6 : RpA K Hs6 (acc ++ [y]) (accD ++ [q.1.2]) := (RpA.mono (((F3.same.trans F4.same).trans F5.same).trans F6.same) _ _ ra).append (.cons ry .nil)
          have hq := (PostR.okD hq.bind).bind
          have hlen : acc.length < sizeLine := by
            rw [ra.length]
            obtain ⟨r, _, hr⟩ := PostR.ex hq
            have h : accD.length + (q.1.2 :: r.1).length ≤ sizeLine := (PostR.okD hr).1
            simp only [List.length_cons] at h
            omega
          refine ⟨acc, d6, hlen, by omega, fin R6 Fc d6 d6s d6o ra6 ?_⟩
          refine hq.imp (fun r hr => ?_) fun _ z => z
          have hr := PostR.okD hr
          refine ⟨?_, fun Hs H acc a b c d e f => hr.2 Hs H acc a b c d e (by simpa using f)⟩
          have h : accD.length + (q.1.2 :: r.1).length ≤ sizeLine := hr.1
          show (accD ++ [q.1.2]).length + r.1.length ≤ sizeLine
          simp only [List.length_cons, List.length_append, List.length_nil] at h ⊢
          omega
        · rw [if_neg hk] at hp ⊢
          refine ⟨by omega, ?_⟩
          have := fin (acc6 := acc) (accD6 := accD) R5 Fb d5 d5s d5o (RpA.mono ((F3.same.trans F4.same).trans F5.same) _ _ ra) hp
          have e : upd H5 Dd (.lst acc) = H5 := by
            funext b
            by_cases hb : b = Dd
            · subst hb; rw [upd_same, d5]
            · rw [upd_ne hb]
          rw [e] at this
          exact this
      · exact hl.elim
    · have e : i = ds.length := by omega
      subst e
      rw [List.drop_length] at hl
      simp only [lcL] at hl
      split at hl
      · rename_i hok
        obtain ⟨hstop, _⟩ := hJ ds.length Hs H (wipe σ vs) m F.same R hok hsame
        exact .inl ⟨hstop (Nat.le_refl _), hl.2 Hs H acc R F hD hDs hDo (by simpa using ra)⟩
      · exact hl.elim
end
end Rc

set_option maxRecDepth 100000
set_option maxHeartbeats 4000000
namespace Rc
open PySem L2
section
variable {X : Cx} {W : XK} {c : TC}
theorem Good.blk (G : Good X W c) (scope : Scope) (s : Shared) (H : Hp) (C : Addr) (cl : List (Str × Addr)) (fp : List Addr) : Good (X.blk s H scope (compEnvC scope cl C X.env) fp) E0 { c with sc := relS scope c.sc } where
  calm := G.calm
  N := G.N
  nd := G.nd
  sc := by
    show relS scope X.env.scope = relS scope c.sc
    rw [G.sc]
  hu := G.hu
  fns := fun x e h => by
    obtain ⟨f, fd, ps, k, F, hr, hm, hk, hb, _⟩ := (G.fns x e h).ex
    exact ⟨⟨f, fd, ps, k, F, hr, hm, hk, hb, passL⟩⟩
  cns := G.cns
  blt := G.blt
theorem ownOf_ix {N : List Str} {sc : Scope} {p : Str × Nat} (h : p ∈ ownOf N sc) : ixOf N p.1 = some p.2 := by
  unfold ownOf at h
  rw [List.mem_filterMap] at h
  obtain ⟨⟨x, k⟩, _, h⟩ := h
  cases k <;> simp only [reduceCtorEq, Option.map_eq_some_iff] at h
  all_goals
    obtain ⟨i, hi, e⟩ := h
    subst e
    exact hi
theorem tgtIx_names {N : List Str} : ∀ {xs : List Str} {g : List Nat}, tgtIx N xs = some g → xs.length = g.length
  | [], g, h => by simp only [tgtIx, Option.some.injEq] at h; subst h; rfl
  | x :: xs, g, h => by
    simp only [tgtIx] at h
    rw [Option.bind_eq_some_iff] at h
    obtain ⟨i, hi, h⟩ := h
    rw [Option.map_eq_some_iff] at h
    obtain ⟨g', h, rfl⟩ := h
    simp [tgtIx_names h]
/-- a target, by its names -/
theorem pg_tgt {N : List Str} (hN : X.N = N) (nd : X.N.Nodup) (hc : X.calm = true) {tg : Expr} {xs : List Str} {g : List Nat} (h1 : tgtNames tg = some xs) (h2 : tgtIx N xs = some g) (h3 : ∀ x ∈ xs, StOk X x) (hg : isTup tg = true → g.length ≠ 1) : PG X tg (gM X.K g) := by
  cases tg <;> simp only [tgtNames, reduceCtorEq] at h1
  · rename_i x pos
    simp only [Option.some.injEq] at h1
    subst h1
    simp only [tgtIx] at h2
    rw [Option.bind_eq_some_iff] at h2
    obtain ⟨i, hi, h2⟩ := h2
    simp only [tgtIx, Option.map_some, Option.some.injEq] at h2
    subst h2
    exact pg_one hN nd hi (h3 x List.mem_cons_self)
  · exact pg_many hN nd hc h1 h2 h3 (hg rfl)
theorem loc_of {sc : Scope} {x : Str} (h : isLoc sc x = true) : Loc sc x := by
  unfold isLoc at h
  split at h
  · rename_i e; exact .inl e
  · rename_i e; exact .inr e
  · cases h
/-- what a comprehension is made of -/
structure LcOk (c : TC) (sc : Scope) (tg : Expr) (xs : List Str) (g : List Nat) : Prop where
  blk : blkC c.N c.sc sc (ownOf c.N sc) = true
  nm : tgtNames tg = some xs
  ix : tgtIx c.N xs = some g
  st : ∀ x ∈ xs, isLoc (relS sc c.sc) x = true ∧ isLoc sc x = true
  own : ∀ i ∈ g, i ∈ (ownOf c.N sc).map (·.2)
  tup : isTup tg = true → g.length ≠ 1
theorem LcOk.pg (G : Good X W c) {sc : Scope} {tg : Expr} {xs : List Str} {g : List Nat} (L : LcOk c sc tg xs g) (s : Shared) (H : Hp) (C : Addr) (cl : List (Str × Addr)) (fp : List Addr) : PG (X.blk s H sc (compEnvC sc cl C X.env) fp) tg (gM X.K g) := by
  refine pg_tgt (X := X.blk s H sc (compEnvC sc cl C X.env) fp) G.N G.nd G.calm L.nm L.ix (fun x hx => ?_) L.tup
  obtain ⟨h1, h2⟩ := L.st x hx
  have l1 := loc_of h1
  have e : (compEnvC sc cl C X.env).scope = relS sc c.sc := by
    show relS sc X.env.scope = _
    rw [G.sc]
  refine ⟨by show Loc (compEnvC sc cl C X.env).scope x; rw [e]; exact l1, ?_⟩
  rcases loc_of h2 with k | k
  · right
    show (compEnvC sc cl C X.env).scope.names.lookup x = _
    rw [e]
    exact lookup_relS_keep (by decide) k
  · left
    show (sc.names.lookup x == some NameKind.cell) = true
    rw [k]; rfl
theorem lc_core' (G : Good X W c) {sc : Scope} {tg : Expr} {xs : List Str} {g : List Nat} (L : LcOk c sc tg xs g) {it : Rc.It} {ee ec : E} {σ : L2.St} {H Hs : Hp} {m : Env} {Q : VK} (R : REnv X.K Hs H σ m)
    (h : PostR (fun (p : (Bool × D) × Env) => ∀ v Hs' H', REnv X.K Hs' H' σ p.2 → Fram Hs H (Own σ m) Hs' H' (OV (Own σ p.2) p.1.1 v) → RR X.K (.lc ee g it ec ((ownOf c.N sc).map (·.2))) σ p.2 Hs' H' p.1.1 v p.1.2 → Q v H') (XcE X.mg W σ H m) (ev (.lc ee g it ec ((ownOf c.N sc).map (·.2))) m)) :
    tLc (tI X.K X.mg W it) (gM X.K g) (tT X.K X.mg E0 ec) (tE X.K X.mg E0 ee) ((ownOf c.N sc).map (·.2)) σ H Q := by
  generalize hvs : (ownOf c.N sc).map (·.2) = vs at h ⊢
  simp only [ev] at h
  refine ⟨Hs, m, R, h.bind.imp (fun p hp J Hs1 H1 R1 F1 hJ hown hok Dd nD => ?_) fun _ z => z⟩
  obtain ⟨ds, srcs, m1⟩ := p
  simp only at hp R1 F1 hJ hown hok ⊢
  split at hp
  · rename_i hsh
    have hsh : ∀ i ∈ vs, shO (geti m1 i) = true := fun i hi => List.all_eq_true.mp hsh i hi
    have hev := noX_bad hp.bind
    refine lc_turns (fun i hi => by rw [← hvs]; exact L.own i hi) hJ (fun q hq hm => ?_) nD R1 (hev.imp (fun r hr => ?_) fun _ z => z)
    · obtain ⟨d, hd⟩ := hown q hq
      have := hsh q.1 hm
      rw [hd] at this
      cases this
    · split at hr
      · rename_i hl
        refine ⟨hl, fun Hs2 H2 acc R2 F2 hD hDs hDo ra => ?_⟩
        obtain ⟨Rb, ob⟩ := R1.backed R2 F2.same hsh
        have Fb : Fram Hs1 H1 (Own σ m1) Hs2 H2 (Own σ (backE m1 r.2 vs)) := F2.weak ob
        have Ft := F1.trans Fb
        refine hr (.ref Dd) Hs2 H2 Rb ⟨Ft.same, Ft.keep, Ft.news, fun b z => ?_⟩ ?_
        · rcases z with z | ⟨_, z⟩
          · exact Ft.owns b z
          · cases z
            by_cases q : Own σ m Dd
            · exact .inl q
            · refine .inr ?_
              cases e : H Dd with
              | none => rfl
              | some u => rw [F1.keep Dd u e q] at nD; cases nD
        · exact ⟨Dd, .lst acc, rfl, hD, .lst ra, hDs, fun z => hDo (ob _ z)⟩
      · exact hr.elim
  · exact hp.elim
theorem plain_fold {e : Expr} (h : isPlain e = true) (env : PySem.Env) (x : Value) : foldedSetIterable e env x = pure x := by
  cases e <;> simp [isPlain] at h <;> rfl
theorem s_lc (G : Good X W c) {sc : Scope} {tg iter elt : Expr} {ifs : List Expr} {xs : List Str} {g : List Nat} (L : LcOk c sc tg xs g) {it : Rc.It} {ee ec : E} {pos : Pos} (hpl : isPlain iter = true)
    (hi : PI X tg iter (tI X.K X.mg W it)) (he : ∀ (s : Shared) (H : Hp) (C : Addr) (cl : List (Str × Addr)) (fp : List Addr), PEm (X.blk s H sc (compEnvC sc cl C X.env) fp) E0 elt ee)
    (ht : ∀ (s : Shared) (H : Hp) (C : Addr) (cl : List (Str × Addr)) (fp : List Addr), PTs (X.blk s H sc (compEnvC sc cl C X.env) fp) ifs (tT X.K X.mg E0 ec)) :
    PEm X W (.ListComp elt [⟨tg, iter, ifs, 0⟩] sc pos) (.lc ee g it ec ((ownOf c.N sc).map (·.2))) := by
  have ok : BlkOk X.N X.env.scope sc (ownOf c.N sc) := by
    rw [G.N, G.sc]
    exact blkOk_by L.blk
  refine PE.imp (pe_lc (te := tE X.K X.mg E0 ee) G.calm G.nd hi ok (L.pg G) ht he (plain_fold hpl _)) fun σ H Q ⟨Hs, m, R, h⟩ => ?_
  exact lc_core' G L R h
theorem s_setlc (G : Good X W c) {i : Nat} {y : Str} {py : Pos} {sc : Scope} {tg iter elt : Expr} {ifs : List Expr} {xs : List Str} {g : List Nat} (L : LcOk c sc tg xs g) {it : Rc.It} {ee ec : E} {pos spos : Pos} (hpl : isPlain iter = true)
    (hy : ixOf c.N y = some i) (hyl : c.sc.names.lookup y = some .local) (hsw : swapsWith (.ListComp elt [⟨tg, iter, ifs, 0⟩] sc pos) (some (.Name y py)) spos.line X.env = pure true)
    (hi : PI X tg iter (tI X.K X.mg W it)) (he : ∀ (s : Shared) (H : Hp) (C : Addr) (cl : List (Str × Addr)) (fp : List Addr), PEm (X.blk s H sc (compEnvC sc cl C X.env) fp) E0 elt ee)
    (ht : ∀ (s : Shared) (H : Hp) (C : Addr) (cl : List (Str × Addr)) (fp : List Addr), PTs (X.blk s H sc (compEnvC sc cl C X.env) fp) ifs (tT X.K X.mg E0 ec)) :
    PS X (.Assign [.Name y py] (.ListComp elt [⟨tg, iter, ifs, 0⟩] sc pos) spos) (tAsg (tE X.K X.mg W (.lc ee g it ec ((ownOf c.N sc).map (·.2)))) (gName i)) := by
  have ok : BlkOk X.N X.env.scope sc (ownOf c.N sc) := by
    rw [G.N, G.sc]
    exact blkOk_by L.blk
  refine ⟨fun pins s σ H Dn I hq => (ps_setLc (te := tE X.K X.mg E0 ee) G.calm G.nd (by rw [G.N]; exact ix_of hy) (by rw [G.sc]; exact hyl) hsw hi ok (L.pg G) ht he (plain_fold hpl _)).run pins s σ H Dn I ?_⟩
  obtain ⟨Hs, m, R, h⟩ := hq
  exact lc_core' G L R h

/-! ### the translation is right -/
def OpOk (X : Cx) (W : XK) (x : Option Expr) (e : E) : Prop := match x with | none => e = .con .none | some x => PEm X W x e ∧ e ≠ .con .none
structure Snd (n : Nat) : Prop where
  e : ∀ (c : TC) (x : Expr) (e : E), trE n c x = some e → ∀ (X : Cx) (W : XK), Good X W c → PEm X W x e ∧ PTm X W x e ∧ isPlain x = true
  b : ∀ (c : TC) (o : BoolOp) (xs : List Expr) (e : E), trB n c o xs = some e → ∀ (X : Cx) (W : XK), Good X W c → ∀ pos, PEm X W (.BoolOp o xs pos) e ∧ PWm X W (.BoolOp o xs pos) e
  es : ∀ (c : TC) (xs : List Expr) (es : Es), trEs n c xs = some es → ∀ (X : Cx) (W : XK), Good X W c → PA X xs (tS X.K X.mg W es) ∧ PA X xs (tO X.K X.mg W es) ∧ (∀ ms, PA X xs (tAr X.K X.mg W ms es)) ∧ xs.all isPlain = true ∧ es.len = xs.length
  o : ∀ (c : TC) (x : Option Expr) (e : E), trO n c x = some e → ∀ (X : Cx) (W : XK), Good X W c → OpOk X W x e
  t : ∀ (c : TC) (xs : List Expr) (e : E), trT n c xs = some e → ∀ (X : Cx) (W : XK), Good X W c → PTs X xs (tT X.K X.mg W e)
  i : ∀ (c : TC) (tg x : Expr) (it : Rc.It), trI n c tg x = some it → ∀ (X : Cx) (W : XK), Good X W c → PI X tg x (tI X.K X.mg W it) ∧ isPlain x = true
theorem tysIn_len {sc : Scope} {fns : List (Str × FnE)} : ∀ {es : List Expr} {ts : List String}, tysIn sc fns es = some ts → ts.length = es.length
  | [], ts, h => by simp only [tysIn, Option.some.injEq] at h; subst h; rfl
  | e :: es, ts, h => by
    simp only [tysIn] at h
    rw [Option.bind_eq_some_iff] at h
    obtain ⟨t, h1, h⟩ := h
    rw [Option.map_eq_some_iff] at h
    obtain ⟨ts', h2, rfl⟩ := h
    simp [tysIn_len h2]
theorem snd_zero : Snd 0 := ⟨fun c x e h => by simp [trE] at h, fun c o xs e h => by simp [trB] at h, fun c xs es h => by simp [trEs] at h, fun c x e h => by simp [trO] at h, fun c xs e h => by simp [trT] at h, fun c tg x it h => by simp [trI] at h⟩
theorem bnd {α β : Type} {o : Option α} {f : α → Option β} {b : β} (h : o.bind f = some b) : ∃ a, o = some a ∧ f a = some b := Option.bind_eq_some_iff.mp h
/-- a plain expression's truth -/
theorem t_val {x : Expr} {e : E} (h : PEm X W x e) (he : ∀ whole, isTrue x X.env whole = (do let v ← whole; standAt x.pos; holding [v] (truthy v))) (hp : isPlain x = true) : PEm X W x e ∧ PTm X W x e ∧ isPlain x = true := ⟨h, pt_of h he, hp⟩
theorem s_nodup_tgt {tg : Expr} {g : List Nat} (h : (!isTup tg || decide (g.length ≠ 1)) = true) : isTup tg = true → g.length ≠ 1 := fun e => by
  rw [e] at h
  simpa using h
theorem snd_e {n : Nat} (ih : Snd n) (c : TC) (x : Expr) (e : E) (h : trE (n + 1) c x = some e) (X : Cx) (W : XK) (G : Good X W c) : PEm X W x e ∧ PTm X W x e ∧ isPlain x = true := by
  unfold trE at h
  split at h
  · rename_i q; cases q
  · rename_i n' x' pos q
    cases q
    split at h
    · rename_i hx
      split at h
      · rename_i hv
        rw [Option.map_eq_some_iff] at h
        obtain ⟨i, hi, rfl⟩ := h
        exact t_val (s_var G hx hv hi) (fun _ => rfl) rfl
      · split at h
        · rename_i hg
          rw [Option.map_eq_some_iff] at h
          obtain ⟨d, hd, rfl⟩ := h
          exact t_val (s_glob G hx hg hd) (fun _ => rfl) rfl
        · cases h
    · cases h
  · cases h; exact t_val (s_con pe_int fun _ => .int _) (fun _ => rfl) rfl
  · cases h; exact t_val (s_con pe_bl fun _ => .bl _) (fun _ => rfl) rfl
  · cases h; exact t_val (s_con pe_non fun _ => .non) (fun _ => rfl) rfl
  · cases h; exact t_val (s_con pe_str fun _ => .str _) (fun _ => rfl) rfl
  · rename_i n' a o b pos q
    cases q
    obtain ⟨o', ho, h⟩ := bnd h
    obtain ⟨ea, h1, h⟩ := bnd h
    obtain ⟨eb, h2, h⟩ := bnd h
    cases h
    exact t_val (s_bin ho (ih.e _ _ _ h1 X W G).1 (ih.e _ _ _ h2 X W G).1) (fun _ => rfl) rfl
  · rename_i n' a pos q
    cases q
    obtain ⟨ea, h1, h⟩ := bnd h
    cases h
    exact t_val (s_neg (ih.e _ _ _ h1 X W G).1) (fun _ => rfl) rfl
  · rename_i n' a pos q
    cases q
    obtain ⟨ea, h1, h⟩ := bnd h
    cases h
    exact ⟨s_nt (ih.e _ _ _ h1 X W G).1, t_nt (ih.e _ _ _ h1 X W G).2.1, rfl⟩
  · rename_i n' o es pos q
    cases q
    obtain ⟨h1, h2⟩ := ih.b _ _ _ _ h X W G pos
    exact ⟨h1, h2.pt, rfl⟩
  · rename_i n' a o b pos q
    cases q
    obtain ⟨ea, h1, h⟩ := bnd h
    obtain ⟨eb, h2, h⟩ := bnd h
    cases h
    obtain ⟨a1, _, _⟩ := ih.e _ _ _ h1 X W G
    obtain ⟨b1, _, b3⟩ := ih.e _ _ _ h2 X W G
    exact ⟨s_cmp G b3 a1 b1, t_cmp G b3 a1 b1, rfl⟩
  · rename_i n' a o o' b d pos q
    cases q
    obtain ⟨ea, h1, h⟩ := bnd h
    obtain ⟨eb, h2, h⟩ := bnd h
    obtain ⟨ed, h3, h⟩ := bnd h
    cases h
    obtain ⟨a1, _, _⟩ := ih.e _ _ _ h1 X W G
    obtain ⟨b1, _, b3⟩ := ih.e _ _ _ h2 X W G
    obtain ⟨d1, _, d3⟩ := ih.e _ _ _ h3 X W G
    exact ⟨s_chn G b3 d3 a1 b1 d1, t_chn G b3 d3 a1 b1 d1, rfl⟩
  · rename_i n' t a b pos q
    cases q
    obtain ⟨et, h1, h⟩ := bnd h
    obtain ⟨ea, h2, h⟩ := bnd h
    obtain ⟨eb, h3, h⟩ := bnd h
    cases h
    obtain ⟨t1, t2, _⟩ := ih.e _ _ _ h1 X W G
    obtain ⟨a1, a2, _⟩ := ih.e _ _ _ h2 X W G
    obtain ⟨b1, b2, _⟩ := ih.e _ _ _ h3 X W G
    exact ⟨s_ite t2 a1 b1, t_ite t2 a2 b2, rfl⟩
  · rename_i n' es k pos q
    cases q
    obtain ⟨ees, h1, h⟩ := bnd h
    cases h
    exact t_val (s_tup (ih.es _ _ _ h1 X W G).1) (fun _ => rfl) rfl
  · rename_i n' es pos q
    cases q
    obtain ⟨ees, h1, h⟩ := bnd h
    cases h
    exact t_val (s_lst (ih.es _ _ _ h1 X W G).1) (fun _ => rfl) rfl
  · cases h; exact t_val s_dct (fun _ => rfl) rfl
  · rename_i n' a k p1 p2 p3 p4 q
    cases q
    obtain ⟨ea, h1, h⟩ := bnd h
    cases h
    exact t_val (s_rvs (ih.e _ _ _ h1 X W G).1) (fun _ => rfl) rfl
  · rename_i n' a lo hi p1 p2 q
    cases q
    obtain ⟨ea, h1, h⟩ := bnd h
    obtain ⟨el, h2, h⟩ := bnd h
    obtain ⟨eh, h3, h⟩ := bnd h
    cases h
    exact t_val (s_slc (ih.e _ _ _ h1 X W G).1 (ih.o _ _ _ h2 X W G) (ih.o _ _ _ h3 X W G)) (fun _ => rfl) rfl
  · rename_i n' a b pos _ _ q
    cases q
    split at h
    · cases h
    · rename_i hs
      obtain ⟨ea, h1, h⟩ := bnd h
      obtain ⟨eb, h2, h⟩ := bnd h
      cases h
      exact t_val (s_idx (by simpa using hs) (ih.e _ _ _ h1 X W G).1 (ih.e _ _ _ h2 X W G).1) (fun _ => rfl) rfl
  · rename_i n' x' p e₀ es₀ pos q
    cases q
    refine t_val ?_ (fun _ => rfl) rfl
    simp only at h
    split at h
    · rename_i hc
      rw [Bool.and_eq_true] at hc
      split at h
      · rename_i f hf
        split at h
        · rename_i hl
          obtain ⟨ees, h1, h⟩ := bnd h
          cases h
          obtain ⟨_, _, q3, q4, q5⟩ := ih.es _ _ _ h1 X W G
          exact s_call G hc.1 hc.2 hf (by rw [q5]; exact hl) q4 (q3 f.ms)
        · cases h
      · rename_i hf
        split at h
        · rename_i a ts k tp hi hes
          have hx : x' = ("isinstance" : Str) := by simpa using hi
          subst hx
          injection hes with e1 e2
          subst e1 e2
          split at h
          · rename_i hp
            rw [Bool.and_eq_true] at hp
            obtain ⟨ea, h1, h⟩ := bnd h
            obtain ⟨tys, h2, h⟩ := bnd h
            cases h
            refine s_isiT G hc.2 hp.1 (ih.e _ _ _ h1 X W G).1 h2 ?_
            have hl := tysIn_len h2
            have : ts.length ≤ 100 := by simpa using hp.2
            exact Nat.le_of_lt (small1000 (by omega))
          · cases h
        · rename_i a t _ hi hes
          have hx : x' = ("isinstance" : Str) := by simpa using hi
          subst hx
          injection hes with e1 e2
          subst e1 e2
          split at h
          · rename_i hp
            obtain ⟨ea, h1, h⟩ := bnd h
            obtain ⟨ty, h2, h⟩ := bnd h
            cases h
            exact s_isi1 G hc.2 hp (ih.e _ _ _ h1 X W G).1 h2
          · cases h
        · cases h
        · obtain ⟨b, hb, h⟩ := bnd h
          obtain ⟨ees, h1, h⟩ := bnd h
          cases h
          obtain ⟨_, q2, _, q4, _⟩ := ih.es _ _ _ h1 X W G
          exact s_blt G hc.1 hc.2 hb q4 q2
    · cases h
  · rename_i n' elt tg iter ifs sc pos q
    cases q
    refine t_val ?_ (fun _ => rfl) rfl
    split at h
    · rename_i hb
      obtain ⟨xs, h1, h⟩ := bnd h
      obtain ⟨g, h2, h⟩ := bnd h
      obtain ⟨it, h3, h⟩ := bnd h
      simp only at h
      split at h
      · rename_i hc
        simp only [Bool.and_eq_true] at hc
        obtain ⟨ee, h4, h⟩ := bnd h
        obtain ⟨ec, h5, h⟩ := bnd h
        cases h
        have L : LcOk _ sc tg xs g := ⟨hb, h1, h2, fun x hx => by
          have := List.all_eq_true.mp hc.1.1.1 x hx
          simpa using this, fun i hi => by
          have := List.all_eq_true.mp hc.1.1.2 i hi
          rw [List.any_eq_true] at this
          obtain ⟨p, hp, e⟩ := this
          exact List.mem_map.mpr ⟨p, hp, by simpa using e⟩, s_nodup_tgt hc.2⟩
        obtain ⟨i1, i2⟩ := ih.i _ _ _ _ h3 X W G
        exact s_lc G L i2 i1 (fun s H C cl fp => (ih.e _ _ _ h4 _ E0 (G.blk sc s H C cl fp)).1) (fun s H C cl fp => ih.t _ _ _ h5 _ E0 (G.blk sc s H C cl fp))
      · cases h
    · cases h
  · cases h
theorem snd_b {n : Nat} (ih : Snd n) (c : TC) (o : BoolOp) (xs : List Expr) (e : E) (h : trB (n + 1) c o xs = some e) (X : Cx) (W : XK) (G : Good X W c) (pos : Pos) : PEm X W (.BoolOp o xs pos) e ∧ PWm X W (.BoolOp o xs pos) e := by
  unfold trB at h
  split at h
  · rename_i q; cases q
  · rename_i n' a q
    cases q
    obtain ⟨h1, h2, _⟩ := ih.e _ _ _ h X W G
    exact ⟨pe_one h1, t_one h2⟩
  · rename_i n' a b r q
    cases q
    obtain ⟨ea, h1, h⟩ := bnd h
    obtain ⟨eb, h2, h⟩ := bnd h
    cases h
    obtain ⟨a1, a2, _⟩ := ih.e _ _ _ h1 X W G
    obtain ⟨b1, b2⟩ := ih.b _ _ _ _ h2 X W G pos
    exact ⟨s_and a1 b1, t_and a2 b2⟩
  · rename_i n' a b r q
    cases q
    obtain ⟨ea, h1, h⟩ := bnd h
    obtain ⟨eb, h2, h⟩ := bnd h
    cases h
    obtain ⟨a1, a2, _⟩ := ih.e _ _ _ h1 X W G
    obtain ⟨b1, b2⟩ := ih.b _ _ _ _ h2 X W G pos
    exact ⟨s_or a1 b1, t_or a2 b2⟩
  · cases h
theorem snd_es {n : Nat} (ih : Snd n) (c : TC) (xs : List Expr) (es : Es) (h : trEs (n + 1) c xs = some es) (X : Cx) (W : XK) (G : Good X W c) : PA X xs (tS X.K X.mg W es) ∧ PA X xs (tO X.K X.mg W es) ∧ (∀ ms, PA X xs (tAr X.K X.mg W ms es)) ∧ xs.all isPlain = true ∧ es.len = xs.length := by
  unfold trEs at h
  split at h
  · rename_i q; cases q
  · cases h
    exact ⟨sS_nil, sO_nil, fun _ => sA_nil, rfl, rfl⟩
  · rename_i n' e es' q
    cases q
    split at h
    · rename_i hp
      obtain ⟨ee, h1, h⟩ := bnd h
      obtain ⟨ees, h2, h⟩ := bnd h
      cases h
      have he := (ih.e _ _ _ h1 X W G).1
      obtain ⟨q1, q2, q3, q4, q5⟩ := ih.es _ _ _ h2 X W G
      exact ⟨sS_cons hp he q1, sO_cons hp he q2, fun ms => sA_cons hp he q3, by rw [List.all_cons, hp, q4]; rfl, by simp [Es.len, q5]⟩
    · cases h
theorem snd_o {n : Nat} (ih : Snd n) (c : TC) (x : Option Expr) (e : E) (h : trO (n + 1) c x = some e) (X : Cx) (W : XK) (G : Good X W c) : OpOk X W x e := by
  cases x with
  | none =>
    simp only [trO, Option.some.injEq] at h
    exact h.symm
  | some x' =>
    simp only [trO] at h
    split at h
    · cases h
    · rename_i hr
      exact ⟨(ih.e _ _ _ h X W G).1, fun e' => hr (by rw [h, e'])⟩
theorem snd_t {n : Nat} (ih : Snd n) (c : TC) (xs : List Expr) (e : E) (h : trT (n + 1) c xs = some e) (X : Cx) (W : XK) (G : Good X W c) : PTs X xs (tT X.K X.mg W e) := by
  unfold trT at h
  split at h
  · rename_i q; cases q
  · cases h
    refine ⟨fun pins s σ H Q I ⟨Hs, m, R, hq⟩ => pts_nil.run pins s σ H Q I ?_⟩
    exact hq Hs H R Fram.refl
  · rename_i n' x q
    cases q
    exact pts_one (ih.e _ _ _ h X W G).2.1
  · cases h
theorem snd_i {n : Nat} (ih : Snd n) (c : TC) (tg x : Expr) (it : Rc.It) (h : trI (n + 1) c tg x = some it) (X : Cx) (W : XK) (G : Good X W c) : PI X tg x (tI X.K X.mg W it) ∧ isPlain x = true := by
  simp only [trI] at h
  split at h
  · rename_i x' p es pos
    have plain : (trE n c (.Call (.Name x' p) es [] pos)).bind (fun e => some (Rc.It.sq e)) = some it → PI X tg (.Call (.Name x' p) es [] pos) (tI X.K X.mg W it) ∧ isPlain (.Call (.Name x' p) es [] pos) = true := fun h' => by
      obtain ⟨e, h1, h'⟩ := bnd h'
      cases h'
      exact ⟨s_sq (ih.e _ _ _ h1 X W G).1, rfl⟩
    split at h
    · rename_i hc
      simp only [Bool.and_eq_true] at hc
      split at h
      · rename_i hx
        subst hx
        refine ⟨?_, rfl⟩
        split at h
        · obtain ⟨ea, h1, h⟩ := bnd h
          cases h
          obtain ⟨a1, _, a3⟩ := ih.e _ _ _ h1 X W G
          exact s_rg1 G hc.1.1.2 a3 a1
        · obtain ⟨ea, h1, h⟩ := bnd h
          obtain ⟨eb, h2, h⟩ := bnd h
          cases h
          obtain ⟨a1, _, a3⟩ := ih.e _ _ _ h1 X W G
          obtain ⟨b1, _, b3⟩ := ih.e _ _ _ h2 X W G
          exact s_rg2 G hc.1.1.2 a3 b3 a1 b1
        · cases h
      split at h
      · rename_i hx
        subst hx
        refine ⟨?_, rfl⟩
        split at h
        · split at h
          · rename_i ht
            obtain ⟨ea, h1, h⟩ := bnd h
            obtain ⟨eb, h2, h⟩ := bnd h
            cases h
            obtain ⟨a1, _, a3⟩ := ih.e _ _ _ h1 X W G
            obtain ⟨b1, _, b3⟩ := ih.e _ _ _ h2 X W G
            cases tg <;> simp [isTup] at ht
            exact s_zp G hc.1.1.2 a3 b3 a1 b1
          · cases h
        · cases h
      split at h
      · rename_i hx
        subst hx
        refine ⟨?_, rfl⟩
        split at h
        · split at h
          · rename_i ht
            obtain ⟨ea, h1, h⟩ := bnd h
            cases h
            obtain ⟨a1, _, a3⟩ := ih.e _ _ _ h1 X W G
            cases tg <;> simp [isTup] at ht
            exact s_en G hc.1.1.2 a3 a1
          · cases h
        · cases h
      split at h
      · rename_i hx
        subst hx
        refine ⟨?_, rfl⟩
        split at h
        · obtain ⟨ea, h1, h⟩ := bnd h
          cases h
          obtain ⟨a1, _, a3⟩ := ih.e _ _ _ h1 X W G
          exact s_rv G hc.1.1.2 a3 a1
        · cases h
      · exact plain h
    · exact plain h
  · split at h
    · rename_i hp
      obtain ⟨e, h1, h⟩ := bnd h
      cases h
      exact ⟨s_sq (ih.e _ _ _ h1 X W G).1, hp⟩
    · cases h
theorem snd : ∀ n, Snd n
  | 0 => snd_zero
  | n + 1 => ⟨snd_e (snd n), snd_b (snd n), snd_es (snd n), snd_o (snd n), snd_t (snd n), snd_i (snd n)⟩
end
end Rc

set_option maxRecDepth 100000
set_option maxHeartbeats 4000000
namespace Rc
open PySem L2
def isLC : Expr → Bool
  | .ListComp .. => true
  | _ => false
def isDisp : Expr → Bool
  | .Tuple .. => true
  | .List .. => true
  | _ => false
/-- may name = [..] swap its stores? -/
def swapB (sc : Scope) (e : Expr) (y : Str) (py : Pos) : Bool := match e with
  | .ListComp _ _ s pos => (match sc.names.lookup y with | some .local => true | _ => false) && py.line == pos.line && !(s.names.any fun (n, k) => n == y && (k == .local || k == .cell))
  | _ => false
def itVars : Rc.It → List Nat
  | .sq e => e.vr.toList
  | .rg _ => []
  | .rg2 _ _ => []
  | .zp a b => a.vr.toList ++ b.vr.toList
  | .en a => a.vr.toList
  | .rv a => a.vr.toList
/-- the names whose stores are swapped, or none -/
def swp (sc : Scope) (ts vs : List Expr) : Option (Option (List Str)) :=
  if !(ts.length == 2 || ts.length == 3) || vs.length != ts.length then some none
  else if vs.any (fun | .Starred .. => true | _ => false) then some none
  else
    let line := (ts.head?.map (·.pos.line)).getD 0
    let names := ts.filterMap fun
      | .Name id pos => if sc.names.lookup id == some .local && pos.line == line then some id else none
      | _ => none
    if names.length != ts.length || names.eraseDups.length != names.length then some none
    else if vs.all (foldedForSure 8) then some none
    else if vs.all (constantsAlone 8) then none
    else some (some names)
def mthOf (x : Str) (n : Nat) : Option Mth :=
  if x = "append" ∧ n = 1 then some .append else if x = "insert" ∧ n = 2 then some .insert else if x = "pop" ∧ n = 0 then some .pop else if x = "pop" ∧ n = 1 then some .popAt
  else if x = "extend" ∧ n = 1 then some .extend else if x = "clear" ∧ n = 0 then some .clear else none
mutual
def trS : Nat → TC → List Nat → List Str → Stmt → Option S
  | 0, _, _, _, _ => none
  | n + 1, c, pm, xc, st => match st with
    | .Assign [.Name y py] e _ => if isLoc c.sc y = true then (ixOf c.N y).bind fun i => if i ∈ pm then none else (trE n c e).bind fun e' => some (.asg i e') else none
    | .Assign [.Tuple ts k tp] (.Tuple vs k2 vp) _ => (nameList ts).bind fun xs => (tgtIx c.N xs).bind fun g => if xs.all (isLoc c.sc) && g.all (fun i => !(pm.contains i)) && decide (g.length ≠ 1) && decide g.Nodup && decide (g.length ≤ 100) then
        (trEs n c vs).bind fun es => (match swp c.sc ts vs with
          | some none => some (.par g es)
          | some (some names) => if names = xs then some (.par g es) else none
          | none => none) else none
    | .Assign [.Tuple ts k tp] e _ => if isDisp e then none else (nameList ts).bind fun xs => (tgtIx c.N xs).bind fun g => if xs.all (isLoc c.sc) && g.all (fun i => !(pm.contains i)) && decide (g.length ≠ 1) then
        (trE n c e).bind fun e' => some (.unp g e') else none
    | .Assign [.Subscript (.Name x _) i _] e _ => if okName x && isVis c.sc x && !(isSlice i) && !(isLC e) then (ixOf c.N x).bind fun k => (trE n c i).bind fun i' => (trE n c e).bind fun e' => some (.sti k i' e') else none
    | .Expr (.Call (.Attribute (.Name x p) mn ap) es [] q) sp => if okName x && isVis c.sc x && (ap.endLine == q.line) && decide (es.length < 20) then (ixOf c.N x).bind fun i => (mthOf mn es.length).bind fun k => (trEs n c es).bind fun es' => some (.mth i k es') else none
    | .Expr e _ => if isLC e then none else (trE n c e).bind fun e' => some (.exp e')
    | .Return (some e) _ => (trE n c e).bind fun e' => (match e' with
        | .var i => if i ∈ pm then some (.ret (.var i)) else some (.retv i)
        | e' => some (.ret e'))
    | .Return none _ => some .retn
    | .If t a b _ => (trE n c t).bind fun t' => (trSs n c pm xc a).bind fun a' => (trSs n c pm xc b).bind fun b' => some (.sif t' a' b')
    | .For tg it b [] _ => (tgtNames tg).bind fun xs => (tgtIx c.N xs).bind fun g => (trI n c tg it).bind fun it' => if xs.all (isLoc c.sc) && g.all (fun i => !((itVars it' ++ pm).contains i)) && (!(isTup tg) || decide (g.length ≠ 1)) then
        (trSs n c (itVars it' ++ pm) xc b).bind fun b' => some (.sfor g it' b') else none
    | .While t b [] _ => (trE n c t).bind fun t' => (trSs n c pm xc b).bind fun b' => some (.whl t' b')
    | .Raise (some (.Call (.Name x _) [.Constant (.str _) _ _] [] _)) none _ => if okName x && isGl c.sc x && xc.contains x then some (.rais x) else none
    | .Break _ => some .brk
    | .Continue _ => some .cnt
    | .Pass _ => some .pass
    | _ => none
def trSs : Nat → TC → List Nat → List Str → List Stmt → Option Ss
  | 0, _, _, _, _ => none
  | n + 1, _, _, _, [] => some .nil
  | n + 1, c, pm, xc, s :: ss => (trS n c pm xc s).bind fun s' => (trSs n c pm xc ss).bind fun ss' => some (.cons s' ss')
end
end Rc

set_option maxRecDepth 100000
set_option maxHeartbeats 4000000
namespace Rc
open PySem L2
structure FGood (X : Cx) (W : XK) (c : TC) (xc : List Str) : Prop where
  g : Good X W c
  kind : c.sc.kind = .function
  fn : ∀ x, X.fn x = true
  pass : PassesOwn (model X.prog X.w) X.A X.env X.xe
  xc : ∀ x ∈ xc, ∃ C, X.mg x = some (.ref C) ∧ PySem.W.excIn X.K C [.type "ValueError", .type "Exception", .type "BaseException", .type "object"] "ValueError.__new__" = true ∧ PySem.W.keepIn X.K (.ref C) = true ∧ Raises X (.ref C)
  tk : Takes X fun cls d _ H => W cls d H

def KeepP (pm : List Nat) (σ σ' : L2.St) : Prop := ∀ i ∈ pm, σ'[i]? = σ[i]?
def FwP (K : PySem.W.Frag) (pm : List Nat) (σ : L2.St) (Hs H : Hp) (m : Env) (Dn : Ends) : Fw → Prop
  | .nx m' => ∀ σ' Hs' H', REnv K Hs' H' σ' m' → Fram Hs H (Own σ m) Hs' H' (Own σ' m') → KeepP pm σ σ' → Dn.nx σ' H'
  | .bk m' => ∀ σ' Hs' H', REnv K Hs' H' σ' m' → Fram Hs H (Own σ m) Hs' H' (Own σ' m') → KeepP pm σ σ' → Dn.bk σ' H'
  | .ct m' => ∀ σ' Hs' H', REnv K Hs' H' σ' m' → Fram Hs H (Own σ m) Hs' H' (Own σ' m') → KeepP pm σ σ' → Dn.ct σ' H'
  | .rt fr d m' => ∀ v σ' Hs' H', REnv K Hs' H' σ' m' → Fram Hs H (Own σ m) Hs' H' (OV (Own σ' m') fr v) → KeepP pm σ σ' → RV K Hs' H' (Own σ' m') fr v d → Dn.rt v H'
def tSt (K : PySem.W.Frag) (mg : Str → Option Value) (W : XK) (pm : List Nat) (s : S) : TS := fun Dn σ H => ∃ Hs m, REnv K Hs H σ m ∧ PostR (FwP K pm σ Hs H m Dn) (XcE mg W σ H m) (exS s m)
def tSts (K : PySem.W.Frag) (mg : Str → Option Value) (W : XK) (pm : List Nat) (s : Ss) : TS := fun Dn σ H => ∃ Hs m, REnv K Hs H σ m ∧ PostR (FwP K pm σ Hs H m Dn) (XcE mg W σ H m) (exSs s m)
theorem PS.imp {X : Cx} {e : Stmt} {t t' : TS} (h : PS X e t) (i : ∀ Dn σ H, t' Dn σ H → t Dn σ H) : PS X e t' := ⟨fun pins s σ H Dn I q => h.run pins s σ H Dn I (i Dn σ H q)⟩
theorem PSs.imp {X : Cx} {e : List Stmt} {t t' : TS} (h : PSs X e t) (i : ∀ Dn σ H, t' Dn σ H → t Dn σ H) : PSs X e t' := ⟨fun pins s σ H Dn I q => h.run pins s σ H Dn I (i Dn σ H q)⟩
section
variable {K : PySem.W.Frag} {mg : Str → Option Value} {W : XK} {Hs H Hs' H' Hs1 H1 : Hp} {σ σ1 : L2.St} {m m' m1 : Env} {pm : List Nat}
theorem KeepP.refl : KeepP pm σ σ := fun _ _ => rfl
theorem KeepP.trans {σ2 : L2.St} (a : KeepP pm σ σ1) (b : KeepP pm σ1 σ2) : KeepP pm σ σ2 := fun i h => (b i h).trans (a i h)
theorem KeepP.set {i : Nat} {v : Option V} (h : i ∉ pm) : KeepP pm σ (σ.set i v) := fun j hj => List.getElem?_set_ne (fun e => h (by rw [e]; exact hj))
theorem FwP.next {Dn : Ends} {f : Fw} (F : Fram Hs H (Own σ m) Hs1 H1 (Own σ1 m1)) (k : KeepP pm σ σ1) (h : FwP K pm σ Hs H m Dn f) : FwP K pm σ1 Hs1 H1 m1 Dn f := by
  cases f with
  | nx m' => exact fun σ' Hs' H' a b c => h σ' Hs' H' a (F.trans b) (k.trans c)
  | bk m' => exact fun σ' Hs' H' a b c => h σ' Hs' H' a (F.trans b) (k.trans c)
  | ct m' => exact fun σ' Hs' H' a b c => h σ' Hs' H' a (F.trans b) (k.trans c)
  | rt fr d m' => exact fun v σ' Hs' H' a b c e => h v σ' Hs' H' a (F.trans b) (k.trans c) e
theorem XcE.next' {x : Str} (F : Fram Hs H (Own σ m) Hs1 H1 (Own σ1 m1)) (h : XcE mg W σ H m x) : XcE mg W σ1 H1 m1 x := fun C H' hm e => h C H' hm (ExF.trans F e)
/-- a new object to a name -/
theorem REnv.setT (R : REnv K Hs H σ m) {i : Nat} {a : Addr} {o : HO} {d : D} (h1 : H a = some o) (h2 : Cont K Hs o d) (h3 : Hs a = none) (h4 : ¬ Own σ m a) :
    REnv K Hs H (σ.set i (some (.ref a))) (m.set i (some (true, d))) ∧ ∀ b, Own (σ.set i (some (.ref a))) (m.set i (some (true, d))) b → Own σ m b ∨ b = a := by
  have cs : ∀ j p, geti (m.set i (some (true, d))) j = some p → (j = i ∧ p = (true, d) ∧ j < m.length) ∨ (j ≠ i ∧ geti m j = some p) := fun j p z => by
    by_cases hj : j = i
    · subst hj
      have lt := geti_lt z
      rw [List.length_set] at lt
      rw [geti_set_same lt] at z
      cases z
      exact .inl ⟨rfl, rfl, lt⟩
    · rw [geti_set_ne (Ne.symm hj)] at z; exact .inr ⟨hj, z⟩
  have at' : ∀ j, j ≠ i → (σ.set i (some (.ref a)))[j]? = σ[j]? := fun j hj => List.getElem?_set_ne (Ne.symm hj)
  have self : i < m.length → (σ.set i (some (.ref a)))[i]? = some (some (.ref a)) := fun h => List.getElem?_set_self (by rw [R.len]; exact h)
  refine ⟨⟨R.sub, by simp [R.len], fun j x z => ?_, fun j x z => ?_, fun j k x y b z1 z2 z3 z4 => ?_⟩, fun b ⟨j, x, z1, z2⟩ => ?_⟩
  · rcases cs j _ z with ⟨_, e, _⟩ | ⟨hj, z⟩
    · cases e
    · rw [at' j hj]; exact R.val j x z
  · rcases cs j _ z with ⟨rfl, e, lt⟩ | ⟨hj, z⟩
    · cases e
      exact ⟨a, o, self lt, h1, h2, h3⟩
    · rw [at' j hj]; exact R.own j x z
  · rcases cs j _ z1 with ⟨rfl, e1, lt⟩ | ⟨hj, q1⟩
    · rcases cs k _ z2 with ⟨rfl, e2, _⟩ | ⟨hk, q2⟩
      · rfl
      · rw [self lt] at z3; cases z3
        rw [at' k hk] at z4
        exact absurd ⟨k, y, z4, q2⟩ h4
    · rcases cs k _ z2 with ⟨rfl, e2, lt⟩ | ⟨hk, q2⟩
      · rw [self lt] at z4; cases z4
        rw [at' j hj] at z3
        exact absurd ⟨j, x, z3, q1⟩ h4
      · rw [at' j hj] at z3
        rw [at' k hk] at z4
        exact R.inj j k x y b q1 q2 z3 z4
  · rcases cs j _ z2 with ⟨rfl, e, lt⟩ | ⟨hj, q⟩
    · rw [self lt] at z1; cases z1
      exact .inr rfl
    · rw [at' j hj] at z1
      exact .inl ⟨j, x, z1, q⟩
/-- a result to a name -/
theorem set_res (R : REnv K Hs1 H1 σ m1) (F : Fram Hs H (Own σ m) Hs1 H1 (OV (Own σ m1) fr v)) (r : RV K Hs1 H1 (Own σ m1) fr v d) {i : Nat} :
    REnv K Hs1 H1 (σ.set i (some v)) (m1.set i (some (fr, d))) ∧ Fram Hs H (Own σ m) Hs1 H1 (Own (σ.set i (some v)) (m1.set i (some (fr, d)))) := by
  cases fr with
  | false =>
    obtain ⟨R', o⟩ := R.setF (i := i) r
    rw [OV_false] at F
    exact ⟨R', F.weak o⟩
  | true =>
    obtain ⟨a, o, rfl, h1, h2, h3, h4⟩ := r
    obtain ⟨R', ow⟩ := R.setT (i := i) h1 h2 h3 h4
    exact ⟨R', F.weak fun b hb => (ow b hb).elim .inl fun e => .inr ⟨rfl, by rw [e]⟩⟩
/-- the object of a name is changed -/
theorem REnv.updO (R : REnv K Hs H σ m) {i : Nat} {a : Addr} {o' : HO} {d d' : D} (h : geti m i = some (true, d)) (e : σ[i]? = some (some (.ref a))) (c : Cont K Hs o' d') :
    REnv K Hs (upd H a o') σ (m.set i (some (true, d'))) ∧ Fram Hs H (Own σ m) Hs (upd H a o') (Own σ (m.set i (some (true, d')))) := by
  have lt := geti_lt h
  obtain ⟨a', o, e', h1, h2, h3⟩ := R.own i d h
  rw [e] at e'; cases e'
  have cs : ∀ j p, geti (m.set i (some (true, d'))) j = some p → (j = i ∧ p = (true, d')) ∨ (j ≠ i ∧ geti m j = some p) := fun j p z => by
    by_cases hj : j = i
    · subst hj
      rw [geti_set_same lt] at z
      cases z
      exact .inl ⟨rfl, rfl⟩
    · rw [geti_set_ne (Ne.symm hj)] at z; exact .inr ⟨hj, z⟩
  have own : ∀ j x, geti (m.set i (some (true, d'))) j = some (true, x) → ∃ y, geti m j = some (true, y) := fun j x z => by
    rcases cs j _ z with ⟨rfl, _⟩ | ⟨_, q⟩
    · exact ⟨d, h⟩
    · exact ⟨x, q⟩
  refine ⟨⟨fun b u q => ?_, by simp [R.len], fun j x z => ?_, fun j x z => ?_, fun j k x y b z1 z2 z3 z4 => ?_⟩, ⟨Same.refl _, fun b u q n => ?_, fun b q => .inl q, fun b ⟨j, x, z1, z2⟩ => ?_⟩⟩
  · rw [upd_ne (fun z => by rw [z, h3] at q; cases q)]; exact R.sub b u q
  · rcases cs j _ z with ⟨_, q⟩ | ⟨_, q⟩
    · cases q
    · exact R.val j x q
  · rcases cs j _ z with ⟨rfl, q⟩ | ⟨hj, q⟩
    · cases q
      exact ⟨a, o', e, upd_same, c, h3⟩
    · obtain ⟨b, u, q1, q2, q3⟩ := R.own j x q
      refine ⟨b, u, q1, ?_, q3⟩
      rw [upd_ne]
      · exact q2
      · rintro rfl
        exact hj (R.inj j i x d b q h q1 e)
  · obtain ⟨x', q1⟩ := own j x z1
    obtain ⟨y', q2⟩ := own k y z2
    exact R.inj j k x' y' b q1 q2 z3 z4
  · rw [upd_ne (fun z => n ⟨i, d, by rw [z]; exact e, h⟩)]; exact q
  · obtain ⟨y, q⟩ := own j x z2
    exact .inl ⟨j, y, z1, q⟩
end
section
variable {X : Cx} {W : XK} {c : TC} {xc : List Str} {pm : List Nat}
abbrev PSm (X : Cx) (W : XK) (pm : List Nat) (x : Stmt) (s : S) : Prop := PS X x (tSt X.K X.mg W pm s)
abbrev PSsm (X : Cx) (W : XK) (pm : List Nat) (x : List Stmt) (s : Ss) : Prop := PSs X x (tSts X.K X.mg W pm s)
theorem plain_noswap {e : Expr} (h : isPlain e = true) (h2 : isLC e = false) (t : Option Expr) (l : Nat) (env : PySem.Env) : swapsWith e t l env = pure false := by
  cases e <;> simp [isPlain] at h <;> first | rfl | (simp [isLC] at h2)
/-- name = e, whatever the rule is -/
theorem asg_core {e' : E} {i : Nat} {Dn : Ends} {σ : L2.St} {H : Hp} (hi : i ∉ pm) (h : tSt X.K X.mg W pm (.asg i e') Dn σ H) : tAsg (tE X.K X.mg W e') (gName i) Dn σ H := by
  obtain ⟨Hs, m, R, h⟩ := h
  simp only [exS] at h
  show tE X.K X.mg W e' σ H fun x H1 => Dn.nx (σ.set i (some x)) H1
  refine ⟨Hs, m, R, h.bind.imp (fun p hp v Hs1 H1 R1 F1 r => ?_) fun _ z => z⟩
  have hp : ∀ σ' Hs' H', REnv X.K Hs' H' σ' ((tkm e' p.2).set i (some (takeV e' p.1))) → Fram Hs H (Own σ m) Hs' H' (Own σ' ((tkm e' p.2).set i (some (takeV e' p.1)))) → KeepP pm σ σ' → Dn.nx σ' H' := hp
  rw [tkm_eq, takeV_eq] at hp
  unfold RR at r
  cases q : e'.vr with
  | none =>
    rw [q] at hp r
    obtain ⟨R2, F2⟩ := set_res (i := i) R1 F1 r
    exact hp _ _ _ R2 F2 (KeepP.set hi)
  | some j =>
    rw [q] at hp r
    obtain ⟨e1, f, e2⟩ := r
    obtain ⟨Hs2, R2, F2, r2, _⟩ := leak_ok R1 e1 e2
    obtain ⟨R3, o3⟩ := R2.setF (i := i) r2
    exact hp _ _ _ R3 (((F1.weak fun b h => .inl h).trans F2).weak o3) (KeepP.set hi)
theorem st_asg (G : FGood X W c xc) {y : Str} {i : Nat} {e : Expr} {e' : E} {py pos : Pos} (hl : isLoc c.sc y = true) (hy : ixOf c.N y = some i) (hi : i ∉ pm) (he : PEm X W e e') (hs : swapsWith e (some (.Name y py)) pos.line X.env = pure false) : PSm X W pm (.Assign [.Name y py] e pos) (.asg i e') :=
  PS.imp (ps_set G.g.nd (by rw [G.g.N]; exact ix_of hy) (by rw [G.g.sc]; exact loc_of hl) he hs (.inl (G.fn y))) fun Dn σ H h => asg_core hi h
end
end Rc

set_option maxRecDepth 100000
set_option maxHeartbeats 4000000
namespace Rc
open PySem L2
theorem swapped_eq {env : PySem.Env} (hk : env.blockKind = .function) (ts vs : List Expr) (k k2 : Nat) (tp vp : Pos) (r : Option (List Str)) (h : swp env.scope ts vs = some r) : swappedStores [.Tuple ts k tp] (.Tuple vs k2 vp) env = pure r := by
  unfold swp at h
  unfold swappedStores
  simp only [hk]
  have e0 : (ScopeKind.function != ScopeKind.function) = false := by decide
  have ek : ∀ id, env.kindOf id = env.scope.names.lookup id := fun _ => rfl
  simp only [e0, Bool.or_false, ek]
  simp only at h
  split at h
  · rename_i hc
    refine Eq.trans (if_pos hc) ?_
    cases h; rfl
  rename_i hc
  refine Eq.trans (if_neg hc) ?_
  split at h
  · rename_i hc
    refine Eq.trans (if_pos hc) ?_
    cases h; rfl
  rename_i hc
  refine Eq.trans (if_neg hc) ?_
  split at h
  · rename_i hc
    refine Eq.trans (if_pos hc) ?_
    cases h; rfl
  rename_i hc
  refine Eq.trans (if_neg hc) ?_
  split at h
  · rename_i hc
    refine Eq.trans (if_pos hc) ?_
    cases h; rfl
  rename_i hc
  refine Eq.trans (if_neg hc) ?_
  split at h
  · cases h
  rename_i hc
  refine Eq.trans (if_neg hc) ?_
  cases h
  rfl
theorem swp_local {sc : Scope} {ts vs : List Expr} {names : List Str} (h : swp sc ts vs = some (some names)) : (ts.length = 2 ∨ ts.length = 3) ∧ vs.length = ts.length ∧ ∀ x ∈ names, sc.names.lookup x = some .local := by
  unfold swp at h
  simp only at h
  split at h
  · cases h
  rename_i hc
  split at h
  · cases h
  split at h
  · cases h
  split at h
  · cases h
  split at h
  · cases h
  simp only [Option.some.injEq] at h
  subst h
  refine ⟨?_, ?_, fun x hx => ?_⟩
  · by_cases q : ts.length = 2
    · exact .inl q
    · right
      simp [q] at hc
      exact hc.1
  · simp at hc
    exact hc.2
  · rw [List.mem_filterMap] at hx
    obtain ⟨e, _, hx⟩ := hx
    cases e <;> simp only [reduceCtorEq] at hx
    split at hx
    · rename_i q
      simp only [Option.some.injEq] at hx
      subst hx
      rw [Bool.and_eq_true] at q
      simpa using q.1
    · cases hx
section
variable {X : Cx} {W : XK} {c : TC} {xc : List Str} {pm : List Nat}
theorem tup_noswap {e : Expr} (h : isPlain e = true) {ts : List Expr} {k : Nat} {tp : Pos} (l : Nat) (env : PySem.Env) : swapsWithSole [.Tuple ts k tp] e l env = pure false := by
  cases e <;> simp [isPlain] at h <;> rfl
theorem tup_nostores {e : Expr} (h : isDisp e = false) {ts : List Expr} {k : Nat} {tp : Pos} (env : PySem.Env) : swappedStores [.Tuple ts k tp] e env = pure none := by
  cases e <;> simp [isDisp] at h <;> rfl
theorem st_unp (G : FGood X W c xc) {ts : List Expr} {k : Nat} {tp pos : Pos} {xs : List Str} {g : List Nat} {e : Expr} {e' : E} (h1 : nameList ts = some xs) (h2 : tgtIx c.N xs = some g) (h3 : ∀ x ∈ xs, isLoc c.sc x = true) (hg : ∀ i ∈ g, i ∉ pm) (hl : g.length ≠ 1)
    (hd : isDisp e = false) (hp : isPlain e = true) (he : PEm X W e e') : PSm X W pm (.Assign [.Tuple ts k tp] e pos) (.unp g e') := by
  have st : ∀ x ∈ xs, StOk X x := fun x hx => ⟨by show Loc X.env.scope x; rw [G.g.sc]; exact loc_of (h3 x hx), .inl (G.fn x)⟩
  refine PS.imp (ps_asg he (pg_many (k := k) (pos := tp) G.g.N G.g.nd G.g.calm h1 h2 st hl) (tup_noswap hp _ _) (tup_nostores hd _)) fun Dn σ H ⟨Hs, m, R, h⟩ => ?_
  simp only [exS] at h
  refine stepT R h fun p v Hs1 H1 hp R1 F1 r => ?_
  obtain ⟨m2, hb, hp⟩ := PostR.ofO hp.bind
  refine ⟨Hs1, _, p.1.2, m2, R1, r, hb, fun σ' R' o k' => ?_⟩
  have hp : ∀ σ' Hs' H', REnv X.K Hs' H' σ' m2 → Fram Hs H (Own σ m) Hs' H' (Own σ' m2) → KeepP pm σ σ' → Dn.nx σ' H' := hp
  exact hp σ' Hs1 H1 R' (F1.weak o) fun i hi => k' i fun z => hg i z hi
theorem fin_par {g : List Nat} {p : List D × Env} {Dn : Ends} {σ : L2.St} {Hs H Hs1 H1 : Hp} {m : Env} {vs : List V} (hg : ∀ i ∈ g, i ∉ pm) (hp : PostR (FwP X.K pm σ Hs H m Dn) (XcE X.mg W σ H m) (if p.1.length = g.length then Res.ok (Fw.nx ((g.zip p.1).foldl (fun m q => m.set q.1 (some (false, q.2))) p.2)) else .bad))
    (R1 : REnv X.K Hs1 H1 σ p.2) (F1 : Fram Hs H (Own σ m) Hs1 H1 (Own σ p.2)) (r : RpA X.K Hs1 vs p.1) : vs.length = g.length ∧ Dn.nx ((g.zip vs).foldl (fun σ p => σ.set p.1 (some p.2)) σ) H1 := by
  split at hp
  · rename_i hl
    obtain ⟨R2, o2, k2⟩ := fold_set (g := g) r R1
    refine ⟨by rw [r.length]; exact hl, ?_⟩
    have hp : ∀ σ' Hs' H', REnv X.K Hs' H' σ' ((g.zip p.1).foldl (fun m q => m.set q.1 (some (false, q.2))) p.2) → Fram Hs H (Own σ m) Hs' H' (Own σ' ((g.zip p.1).foldl (fun m q => m.set q.1 (some (false, q.2))) p.2)) → KeepP pm σ σ' → Dn.nx σ' H' := hp
    exact hp _ Hs1 H1 R2 (F1.weak o2) fun i hi => k2 i fun z => hg i z hi
  · exact hp.elim
theorem blk_fn (G : FGood X W c xc) : X.env.blockKind = .function := by
  unfold PySem.Env.blockKind
  rw [G.g.sc, G.kind]; rfl
theorem st_par (G : FGood X W c xc) {ts vs : List Expr} {k k2 : Nat} {tp vp pos : Pos} {xs : List Str} {g : List Nat} {es : Es} {r : Option (List Str)} (h1 : nameList ts = some xs) (h2 : tgtIx c.N xs = some g) (h3 : ∀ x ∈ xs, isLoc c.sc x = true) (hg : ∀ i ∈ g, i ∉ pm) (hl : g.length ≠ 1) (hnd : g.Nodup)
    (hs : swp c.sc ts vs = some r) (hr : ∀ names, r = some names → names = xs) (he : PA X vs (tS X.K X.mg W es)) (hlen : g.length ≤ 100) : PSm X W pm (.Assign [.Tuple ts k tp] (.Tuple vs k2 vp) pos) (.par g es) := by
  have st : ∀ x ∈ xs, StOk X x := fun x hx => ⟨by show Loc X.env.scope x; rw [G.g.sc]; exact loc_of (h3 x hx), .inl (G.fn x)⟩
  have hsw := swapped_eq (blk_fn G) ts vs k k2 tp vp r (by rw [G.g.sc]; exact hs)
  have hgl : xs.length = g.length := tgtIx_names h2
  cases r with
  | none =>
    refine PS.imp (ps_asg (pe_tup he) (pg_many (k := k) (pos := tp) G.g.N G.g.nd G.g.calm h1 h2 st hl) (tup_noswap rfl _ _) hsw) fun Dn σ H ⟨Hs, m, R, h⟩ => ?_
    simp only [exS] at h
    show tS X.K X.mg W es σ H fun vs H1 => vs.length ≤ sizeLine ∧ ∀ p, H1 p = none → gM X.K g (.ref p) σ (upd H1 p (.tup vs)) Dn.nx
    refine ⟨Hs, m, R, h.bind.imp (fun p hp vs Hs1 H1 R1 F1 r => ?_) fun _ z => z⟩
    split at hp
    · rename_i hln
      refine ⟨by rw [r.length, hln]; exact Nat.le_of_lt (small1000 (by omega)), fun q n => ?_⟩
      have key := fin_tup (e := .dct) (m := m) (m1 := p.2) (Hs := Hs) (H := H) (Q := fun v H' => gM X.K g v σ H' Dn.nx) rfl (fun v Hs' H' R' F' r' => ?_) R1 F1 r q n
      · exact key
      · rw [OV_false] at F'
        have hb : bindT g (.tuple p.1) p.2 = some ((g.zip p.1).foldl (fun m q => m.set q.1 (some (false, q.2))) p.2) := by
          cases g with
          | nil => simp only [bindT]; rw [if_pos hln]
          | cons i g =>
            cases g with
            | nil => exact absurd rfl hl
            | cons j g => simp only [bindT]; rw [if_pos hln]
        refine ⟨Hs', p.2, .tuple p.1, _, R', r', hb, fun σ' R'' o k' => ?_⟩
        have hp : ∀ σ' Hs' H', REnv X.K Hs' H' σ' ((g.zip p.1).foldl (fun m q => m.set q.1 (some (false, q.2))) p.2) → Fram Hs H (Own σ m) Hs' H' (Own σ' ((g.zip p.1).foldl (fun m q => m.set q.1 (some (false, q.2))) p.2)) → KeepP pm σ σ' → Dn.nx σ' H' := hp
        exact hp σ' Hs' H' R'' (F'.weak o) fun i hi => k' i fun z => hg i z hi
    · exact hp.elim
  | some names =>
    have en := hr names rfl
    subst en
    obtain ⟨l1, l2, l3⟩ := swp_local hs
    have loc : ∀ x ∈ names, X.env.scope.names.lookup x = some .local := fun x hx => by rw [G.g.sc]; exact l3 x hx
    rcases l1 with l1 | l1
    · match ts, l1, h1 with
      | [t1, t2], _, h1 =>
        match vs, l2 with
        | [a, b], _ =>
          cases t1 <;> simp only [nameList, reduceCtorEq] at h1
          cases t2 <;> simp only [nameList, reduceCtorEq, Option.map_none, Option.map_some, Option.some.injEq] at h1
          rename_i x1 p1 x2 p2
          subst h1
          simp only [tgtIx] at h2
          obtain ⟨i1, hi1, hA⟩ := bnd h2
          rw [Option.map_eq_some_iff] at hA
          obtain ⟨g', hB, eg⟩ := hA
          obtain ⟨i2, hi2, hC⟩ := bnd hB
          simp only [Option.map_some, Option.some.injEq] at hC
          subst hC
          subst eg
          have hne : i1 ≠ i2 := by simp at hnd; exact hnd
          refine PS.imp (ps_par G.g.calm G.g.nd (by rw [G.g.N]; exact ix_of hi1) (by rw [G.g.N]; exact ix_of hi2) hne (loc _ (by simp)) (loc _ (by simp)) he hsw (tup_noswap rfl _ _)) fun Dn σ H ⟨Hs, m, R, h⟩ => ?_
          simp only [exS] at h
          refine ⟨Hs, m, R, h.bind.imp (fun p hp vs Hs1 H1 R1 F1 r => ?_) fun _ z => z⟩
          obtain ⟨hl, q⟩ := fin_par (W := W) hg hp R1 F1 r
          match vs, hl, q with
          | [v1, v2], _, q => exact ⟨v1, v2, rfl, q⟩
    · match ts, l1, h1 with
      | [t1, t2, t3], _, h1 =>
        match vs, l2 with
        | [a, b, d], _ =>
          cases t1 <;> simp only [nameList, reduceCtorEq] at h1
          cases t2 <;> simp only [nameList, reduceCtorEq, Option.map_none, Option.map_some, Option.some.injEq] at h1
          cases t3 <;> simp only [nameList, reduceCtorEq, Option.map_none, Option.map_some, Option.some.injEq] at h1
          rename_i x1 p1 x2 p2 x3 p3
          subst h1
          simp only [tgtIx] at h2
          obtain ⟨i1, hi1, hA⟩ := bnd h2
          rw [Option.map_eq_some_iff] at hA
          obtain ⟨g', hB, eg⟩ := hA
          obtain ⟨i2, hi2, hC⟩ := bnd hB
          rw [Option.map_eq_some_iff] at hC
          obtain ⟨g2, hD, eg2⟩ := hC
          obtain ⟨i3, hi3, hE⟩ := bnd hD
          simp only [Option.map_some, Option.some.injEq] at hE
          subst hE
          subst eg2
          subst eg
          have hne : (i1 ≠ i2 ∧ i1 ≠ i3) ∧ i2 ≠ i3 := by simp at hnd; exact hnd
          refine PS.imp (ps_par3 G.g.calm G.g.nd (by rw [G.g.N]; exact ix_of hi1) (by rw [G.g.N]; exact ix_of hi2) (by rw [G.g.N]; exact ix_of hi3) hne.1.1 hne.1.2 hne.2 (loc _ (by simp)) (loc _ (by simp)) (loc _ (by simp)) he hsw (tup_noswap rfl _ _)) fun Dn σ H ⟨Hs, m, R, h⟩ => ?_
          simp only [exS] at h
          refine ⟨Hs, m, R, h.bind.imp (fun p hp vs Hs1 H1 R1 F1 r => ?_) fun _ z => z⟩
          obtain ⟨hl, q⟩ := fin_par (W := W) hg hp R1 F1 r
          match vs, hl, q with
          | [v1, v2, v3], _, q => exact ⟨v1, v2, v3, rfl, q⟩

/-! ### name[i] = e, name.method(..) -/
theorem st_sti (G : FGood X W c xc) {x : Str} {k : Nat} {i e : Expr} {i' e' : E} {px p2 pos : Pos} (hx : okName x = true) (hv : isVis c.sc x = true) (hk : ixOf c.N x = some k) (hs : isSlice i = false) (hi : PEm X W i i') (he : PEm X W e e') (hp : isPlain e = true) (hlc : isLC e = false) :
    PSm X W pm (.Assign [.Subscript (.Name x px) i p2] e pos) (.sti k i' e') := by
  obtain ⟨n1, n2⟩ := okName_of hx
  have pn : PE X (.Name x px) (tVar k) := pe_var (i := k) (by rw [G.g.N]; exact ix_of hk) (by rw [G.g.sc]; exact vis_of hv) n1 n2
  have hw : swapsWithSole [.Subscript (.Name x px) i p2] e pos.line X.env = pure false := by cases e <;> simp [isPlain] at hp <;> first | rfl | (simp [isLC] at hlc)
  have hst : swappedStores [.Subscript (.Name x px) i p2] e X.env = pure none := by cases e <;> simp [isPlain] at hp <;> rfl
  have ha : ∀ v, assign (.Subscript (.Name x px) i p2) X.env v = (do
      let ov ← holding [v] (eval (.Name x px) X.env)
      let iv ← holding [v, ov] (eval i X.env)
      standAt p2
      holding [v, ov, iv] (setItem ov iv v)
      release [v, ov, iv] []) := by
    intro v
    cases i <;> simp [isSlice] at hs <;> rfl
  refine PS.imp (ps_asg he (pg_sub pn hi set_list ha) hw hst) fun Dn σ H ⟨Hs, m, R, h⟩ => ?_
  simp only [exS] at h
  refine stepT R h fun p v Hs1 H1 hp R1 F1 r => ?_
  cases hg : geti (tkm e' p.2) k with
  | none => simp only [hg] at hp; exact hp.elim
  | some q0 =>
    obtain ⟨f0, d0⟩ := q0
    cases f0 with
    | false => simp only [hg] at hp; exact hp.elim
    | true =>
      simp only [hg] at hp
      obtain ⟨a, o, ea, h1, h2, h3⟩ := R1.own k d0 hg
      refine ⟨.ref a, ea, ?_⟩
      have hp2 : PostR (FwP X.K pm σ Hs H m Dn) (XcE X.mg W σ H1 (tkm e' p.2)) _ := hp
      refine step R1 hp2 fun q iv Hs2 H2 hq R2 F2 b g => ?_
      cases hg2 : geti q.2 k with
      | none => simp only [hg2] at hq; exact hq.elim
      | some q1 =>
        obtain ⟨f1, d1⟩ := q1
        cases f1 with
        | false => simp only [hg2] at hq; exact hq.elim
        | true =>
          simp only [hg2] at hq
          obtain ⟨d', hd, hq⟩ := PostR.ofO hq.bind
          rw [Option.bind_eq_some_iff] at hd
          obtain ⟨kk, hkk, hd⟩ := hd
          have rb := R2.op b hkk
          have r2 : Rp X.K Hs2 v p.1.2 := Rp.mono F2.same _ _ r
          revert r2 hd
          generalize p.1.2 = pv
          intro hd r2
          unfold stiF at hd
          split at hd
          · rename_i xs j
            rw [Option.map_eq_some_iff] at hd
            obtain ⟨n, hn, rfl⟩ := hd
            obtain ⟨a', o', ea', k1, k2, k3⟩ := R2.own k _ hg2
            rw [ea] at ea'; cases ea'
            cases k2 with
            | lst rl =>
              rename_i ws
              refine ⟨a, ws, j, n, rfl, rb.int, k1, by rw [rl.length]; exact hn, ?_⟩
              obtain ⟨R3, F3⟩ := R2.updO hg2 ea (.lst (rl.set n r2))
              have hq : ∀ σ' Hs' H', REnv X.K Hs' H' σ' (q.2.set k (some (true, .list (xs.set n pv)))) → Fram Hs H (Own σ m) Hs' H' (Own σ' (q.2.set k (some (true, .list (xs.set n pv))))) → KeepP pm σ σ' → Dn.nx σ' H' := hq
              exact hq σ _ _ R3 ((F1.trans F2).trans F3) KeepP.refl
          · cases hd
theorem mthF_list {k : Mth} {d : D} {xs : List D} {d' : D} (h : mthF k d xs = some d') : ∃ ys, d = .list ys := by
  unfold mthF at h
  split at h <;> first | exact ⟨_, rfl⟩ | (cases h; done)
def mthN : Mth → Str
  | .append => "append" | .insert => "insert" | .pop => "pop" | .popAt => "pop" | .extend => "extend" | .clear => "clear"
theorem mthOf_name {x : Str} {n : Nat} {k : Mth} (h : mthOf x n = some k) : x = mthN k ∧ n = (match k with | .append => 1 | .insert => 2 | .pop => 0 | .popAt => 1 | .extend => 1 | .clear => 0) := by
  unfold mthOf at h
  repeat' split at h
  all_goals first | (cases h; done) | (simp only [Option.some.injEq] at h; subst h; rename_i hx; exact hx)
def rMth (K : PySem.W.Frag) (k : Mth) : V → List V → Hp → VK → Prop := fun x vs H Q => ∃ Hs a ws xs ds d', Same Hs H ∧ x = .ref a ∧ H a = some (.lst ws) ∧ RpA K Hs ws xs ∧ RpA K Hs vs ds ∧ mthF k (.list xs) ds = some d' ∧ ∀ u o, Cont K Hs o d' → Q u (upd H a o)
theorem rpa1 {K : PySem.W.Frag} {H : Hp} {vs : List V} {d : D} (h : RpA K H vs [d]) : ∃ v, vs = [v] ∧ Rp K H v d := by
  cases h with
  | cons r t => cases t; exact ⟨_, rfl, r⟩
theorem rpa2 {K : PySem.W.Frag} {H : Hp} {vs : List V} {d e : D} (h : RpA K H vs [d, e]) : ∃ v w, vs = [v, w] ∧ Rp K H v d ∧ Rp K H w e := by
  cases h with
  | cons r t =>
    cases t with
    | cons r2 t => cases t; exact ⟨_, _, rfl, r, r2⟩
theorem rpa0 {K : PySem.W.Frag} {H : Hp} {vs : List V} (h : RpA K H vs []) : vs = [] := by cases h; rfl
theorem rp_int {K : PySem.W.Frag} {H : Hp} {v : V} {i : Int} (h : Rp K H v (.int i)) : v = .int i := by
  cases h with
  | int => rfl
  | scr _ e => cases e
def Mth.id : Mth → String
  | .append => "list.append" | .insert => "list.insert" | .pop => "list.pop" | .popAt => "list.pop" | .extend => "list.extend" | .clear => "list.clear"
theorem mth_ok (k : Mth) : MtR X k.id (rMth X.K k) := by
  intro pins s σ H x vs v us Q I rx rv h
  obtain ⟨Hs, a, ws, xs, ds, d', sm, rfl, hH, rw', rd', hd, q⟩ := h
  unfold mthF at hd
  split at hd
  · rename_i y ea
    cases ea
    split at hd
    · rename_i hl
      cases hd
      obtain ⟨w, rfl, r1⟩ := rpa1 rd'
      exact mt_append pins s σ H _ _ v us Q I rx rv ⟨a, ws, w, rfl, rfl, hH, by rw [rw'.length]; exact hl, q _ _ (.lst (rw'.append (.cons r1 .nil)))⟩
    · cases hd
  · rename_i i y ea
    cases ea
    split at hd
    · rename_i hl
      cases hd
      obtain ⟨w, w2, rfl, r1, r2⟩ := rpa2 rd'
      refine mt_insert pins s σ H _ _ v us Q I rx rv ⟨a, ws, i, w2, rfl, by rw [rp_int r1], hH, by rw [rw'.length]; exact hl.2.2, hl.1, hl.2.1, ?_⟩
      rw [List.append_assoc]
      exact q _ _ (.lst ((rw'.take _).append ((RpA.cons r2 .nil).append (rw'.drop _))))
    · cases hd
  · rename_i ea
    cases ea
    split at hd
    · rename_i hl
      cases hd
      have e0 := rpa0 rd'
      subst e0
      have hlen : 0 < ws.length := by
        rw [rw'.length]
        cases xs with
        | nil => exact absurd rfl hl
        | cons _ _ => simp
      exact mt_pop pins s σ H _ _ v us Q I rx rv ⟨a, ws, ws[ws.length - 1], rfl, rfl, hH, List.getElem?_eq_getElem (by omega), q _ _ (.lst rw'.dropLast)⟩
    · cases hd
  · rename_i i ea
    cases ea
    split at hd
    · rename_i hl
      rw [Option.map_eq_some_iff] at hd
      obtain ⟨n, hn, rfl⟩ := hd
      obtain ⟨w, rfl, r1⟩ := rpa1 rd'
      rw [← rw'.length] at hn
      obtain ⟨h1, h2, _⟩ := ixN_seq hn
      exact mt_popAt pins s σ H _ _ v us Q I rx rv ⟨a, ws, i, n, ws[n], rfl, by rw [rp_int r1], hH, hl.1, hl.2, h1, List.getElem?_eq_getElem h2, q _ _ (.lst (rw'.erase n))⟩
    · cases hd
  · rename_i ys ea
    cases ea
    split at hd
    · rename_i hl
      cases hd
      obtain ⟨w, rfl, r1⟩ := rpa1 rd'
      cases r1 with
      | lst h1 h2 =>
        exact mt_extend pins s σ H _ _ v us Q I rx rv ⟨a, _, ws, _, rfl, rfl, hH, sm _ _ h1, by rw [rw'.length, h2.length]; exact hl, q _ _ (.lst (rw'.append h2))⟩
      | scr _ e => cases e
    · cases hd
  · rename_i ea
    cases ea
    cases hd
    have e0 := rpa0 rd'
    subst e0
    exact mt_clear pins s σ H _ _ v us Q I rx rv ⟨a, ws, rfl, rfl, hH, q _ _ (.lst .nil)⟩
  · cases hd
theorem few_plain {e : Expr} {es : List Expr} {cpos : Pos} {env : PySem.Env} (hp : (e :: es).all isPlain = true) (hl : (e :: es).length < 20) : ((backTo cpos (starEach (e :: es) env)).all (fun x => !x.1) && (backToKw cpos (keywordEach [] env)).all (fun x => x.1.isSome)
      && decide ((e :: es).length + ([] : List Keyword).length + (if ([] : List Keyword).isEmpty then 0 else 1) < 30)) = true := by
  have h1 : ∀ {es : List Expr}, es.all isPlain = true → (backTo cpos (starEach es env)).all (fun x => !x.1) = true := by
    intro es
    induction es with
    | nil => intro _; rfl
    | cons a es ih =>
      intro h
      rw [List.all_cons, Bool.and_eq_true] at h
      rw [plain_star h.1]
      show (true && (backTo cpos (starEach es env)).all (fun x => !x.1)) = true
      rw [ih h.2]; rfl
  rw [h1 hp]
  have h2 : (backToKw cpos (keywordEach [] env)).all (fun x => x.1.isSome) = true := rfl
  rw [h2]
  simp only [Bool.true_and, decide_eq_true_eq]
  have h3 : ([] : List Keyword).length = 0 := rfl
  have h4 : (if ([] : List Keyword).isEmpty then 0 else 1) = 0 := rfl
  omega
theorem st_mth (G : FGood X W c xc) {x mn : Str} {i : Nat} {k : Mth} {es : List Expr} {ees : Es} {px ap q sp : Pos} (hx : okName x = true) (hv : isVis c.sc x = true) (hi : ixOf c.N x = some i) (hk : mthOf mn es.length = some k) (hln : (ap.endLine == q.line) = true) (hl : es.length < 20)
    (hes : PA X es (tS X.K X.mg W ees)) (hp : es.all isPlain = true) (hle : ees.len = es.length) : PSm X W pm (.Expr (.Call (.Attribute (.Name x px) mn ap) es [] q) sp) (.mth i k ees) := by
  obtain ⟨n1, n2⟩ := okName_of hx
  have pn : PE X (.Name x px) (tVar i) := pe_var (i := i) (by rw [G.g.N]; exact ix_of hi) (by rw [G.g.sc]; exact vis_of hv) n1 n2
  obtain ⟨e1, e2⟩ := mthOf_name hk
  -- the call, by its values
  have call : PE X (.Call (.Attribute (.Name x px) mn ap) es [] q) (fun σ H Q => ∃ a ws, σ[i]? = some (some (.ref a)) ∧ H a = some (.lst ws) ∧ tS X.K X.mg W ees σ H fun vs H1 => rMth X.K k (.ref a) vs H1 Q) := by
    have pre : ∀ (H : Hp) (a : Addr) (ws : List V), H a = some (.lst ws) → tyV X.K "list" (.ref a) H := fun H a ws h => Or.inl ⟨rfl, _, SqL.of h⟩
    cases es with
    | nil =>
      have hn : k = .pop ∨ k = .clear := by cases k <;> simp at e2 <;> simp
      have nl : ∀ {σ H} {Q : List V → Hp → Prop}, tS X.K X.mg W ees σ H Q → Q [] H := fun {σ H Q} h => by
        cases ees with
        | cons _ _ => simp [Es.len] at hle
        | nil =>
          obtain ⟨Hs, m, R, h⟩ := h
          simp only [evs] at h
          exact h [] Hs H R Fram.refl .nil
      rcases hn with rfl | rfl
      · subst e1
        exact PE.imp (pe_bm0 PySem.F.plainAttrs_list PySem.F.slot_list_pop PySem.F.type_list_pop (mth_ok .pop) pn rfl hln) fun σ H Q ⟨a, ws, h1, h2, h3⟩ => ⟨.ref a, h1, pre H a ws h2, nl h3⟩
      · subst e1
        exact PE.imp (pe_bm0 PySem.F.plainAttrs_list PySem.F.slot_list_clear PySem.F.type_list_clear (mth_ok .clear) pn rfl hln) fun σ H Q ⟨a, ws, h1, h2, h3⟩ => ⟨.ref a, h1, pre H a ws h2, nl h3⟩
    | cons e es =>
      have hp1 : isPlain e = true ∧ es.all isPlain = true := by rw [List.all_cons, Bool.and_eq_true] at hp; exact hp
      have fin : ∀ {σ : L2.St} {H : Hp} {Q : VK}, (∃ a ws, σ[i]? = some (some (V.ref a)) ∧ H a = some (.lst ws) ∧ tS X.K X.mg W ees σ H fun vs H1 => rMth X.K k (.ref a) vs H1 Q) → tBM X.K "list" (rMth X.K k) (tVar i) (tS X.K X.mg W ees) σ H Q := fun {σ H Q} ⟨a, ws, h1, h2, h3⟩ => ⟨.ref a, h1, pre H a ws h2, h3⟩
      cases k
      · subst e1
        exact PE.imp (pe_bm PySem.F.plainAttrs_list PySem.F.slot_list_append PySem.F.type_list_append (mth_ok .append) pn hes rfl (few_plain hp hl) hln (plain_star hp1.1 es _) (plain_back hp1.2)) fun σ H Q h => fin h
      · subst e1
        exact PE.imp (pe_bm PySem.F.plainAttrs_list PySem.F.slot_list_insert PySem.F.type_list_insert (mth_ok .insert) pn hes rfl (few_plain hp hl) hln (plain_star hp1.1 es _) (plain_back hp1.2)) fun σ H Q h => fin h
      · simp at e2
      · subst e1
        exact PE.imp (pe_bm PySem.F.plainAttrs_list PySem.F.slot_list_pop PySem.F.type_list_pop (mth_ok .popAt) pn hes rfl (few_plain hp hl) hln (plain_star hp1.1 es _) (plain_back hp1.2)) fun σ H Q h => fin h
      · subst e1
        exact PE.imp (pe_bm PySem.F.plainAttrs_list PySem.F.slot_list_extend PySem.F.type_list_extend (mth_ok .extend) pn hes rfl (few_plain hp hl) hln (plain_star hp1.1 es _) (plain_back hp1.2)) fun σ H Q h => fin h
      · simp at e2
  refine PS.imp (ps_expr call rfl) fun Dn σ H ⟨Hs, m, R, h⟩ => ?_
  simp only [exS] at h
  cases hg : geti m i with
  | none => simp only [hg] at h; exact h.elim
  | some q0 =>
    obtain ⟨f0, d0⟩ := q0
    cases f0 with
    | false => simp only [hg] at h; exact h.elim
    | true =>
      obtain ⟨a, o, ea, h1, h2, h3⟩ := R.own i d0 hg
      cases h2 with
      | dT _ _ => simp only [hg] at h; exact h.elim
      | lst rl =>
        rename_i ws ds0
        simp only [hg] at h
        refine ⟨a, ws, ea, h1, Hs, m, R, h.bind.imp (fun p hp vs Hs1 H1 R1 F1 r => ?_) fun _ z => z⟩
        cases hg1 : geti p.2 i with
        | none => simp only [hg1] at hp; exact hp.elim
        | some q1 =>
          obtain ⟨f1, d1⟩ := q1
          cases f1 with
          | false => simp only [hg1] at hp; exact hp.elim
          | true =>
            simp only [hg1] at hp
            obtain ⟨d', hd, hfin⟩ := PostR.ofO hp.bind
            obtain ⟨a', o', ea', k1, k2, k3⟩ := R1.own i d1 hg1
            rw [ea] at ea'; cases ea'
            cases k2 with
            | dT _ _ =>
              obtain ⟨ys, z⟩ := mthF_list hd
              cases z
            | lst rl2 =>
              rename_i ws2 ds2
              refine ⟨Hs1, a, ws2, ds2, p.1, d', R1.sub, rfl, k1, rl2, r, hd, fun u o co => ?_⟩
              obtain ⟨R3, F3⟩ := R1.updO hg1 ea co
              have hp : ∀ σ' Hs' H', REnv X.K Hs' H' σ' (p.2.set i (some (true, d'))) → Fram Hs H (Own σ m) Hs' H' (Own σ' (p.2.set i (some (true, d')))) → KeepP pm σ σ' → Dn.nx σ' H' := hfin
              exact hp σ _ _ R3 (F1.trans F3) KeepP.refl
end
end Rc

set_option maxRecDepth 100000
set_option maxHeartbeats 4000000
namespace Rc
open PySem L2
section
variable {X : Cx} {W : XK} {c : TC} {xc : List Str} {pm : List Nat}
theorem st_exp {e : Expr} {e' : E} {pos : Pos} (hp : isPlain e = true) (hlc : isLC e = false) (he : PEm X W e e') : PSm X W pm (.Expr e pos) (.exp e') := by
  refine PS.imp (ps_expr he (plain_noswap hp hlc _ _ _)) fun Dn σ H ⟨Hs, m, R, h⟩ => ?_
  simp only [exS] at h
  refine ⟨Hs, m, R, h.bind.imp (fun p hp v Hs1 H1 R1 F1 r => ?_) fun _ z => z⟩
  have hp : ∀ σ' Hs' H', REnv X.K Hs' H' σ' p.2 → Fram Hs H (Own σ m) Hs' H' (Own σ' p.2) → KeepP pm σ σ' → Dn.nx σ' H' := hp
  exact hp σ Hs1 H1 R1 (F1.weak fun b z => .inl z) KeepP.refl
theorem st_ret {e : Expr} {e' : E} {pos : Pos} (he : PEm X W e e') : PSm X W pm (.Return (some e) pos) (.ret e') := by
  refine PS.imp (ps_ret he) fun Dn σ H ⟨Hs, m, R, h⟩ => ?_
  simp only [exS] at h
  refine ⟨Hs, m, R, h.bind.imp (fun p hp v Hs1 H1 R1 F1 r => ?_) fun _ z => z⟩
  have hp : ∀ v σ' Hs' H', REnv X.K Hs' H' σ' (tkm e' p.2) → Fram Hs H (Own σ m) Hs' H' (OV (Own σ' (tkm e' p.2)) (takeV e' p.1).1 v) → KeepP pm σ σ' → RV X.K Hs' H' (Own σ' (tkm e' p.2)) (takeV e' p.1).1 v p.1.2 → Dn.rt v H' := hp
  rw [tkm_eq, takeV_eq] at hp
  unfold RR at r
  cases q : e'.vr with
  | none =>
    rw [q] at hp r
    exact hp v σ Hs1 H1 R1 F1 KeepP.refl r
  | some j =>
    rw [q] at hp r
    obtain ⟨e1, f, e2⟩ := r
    obtain ⟨Hs2, R2, F2, r2, _⟩ := leak_ok R1 e1 e2
    exact hp v σ Hs2 H1 R2 (by rw [OV_false]; exact (F1.weak fun b h => .inl h).trans F2) KeepP.refl r2
theorem REnv.drop {K : PySem.W.Frag} {Hs H : Hp} {σ : L2.St} {m : Env} (R : REnv K Hs H σ m) (i : Nat) : REnv K Hs H σ (m.set i none) ∧ ∀ b, Own σ (m.set i none) b → Own σ m b := by
  have at' : ∀ j p, geti (m.set i none) j = some p → j ≠ i ∧ geti m j = some p := fun j p z => by
    by_cases hj : j = i
    · subst hj
      have lt := geti_lt z
      rw [List.length_set] at lt
      rw [geti_set_same lt] at z
      cases z
    · rw [geti_set_ne (Ne.symm hj)] at z; exact ⟨hj, z⟩
  exact ⟨⟨R.sub, by simp [R.len], fun j d h => R.val j d (at' j _ h).2, fun j d h => R.own j d (at' j _ h).2, fun j k d e a h1 h2 h3 h4 => R.inj j k d e a (at' j _ h1).2 (at' k _ h2).2 h3 h4⟩, fun b ⟨j, d, h1, h2⟩ => ⟨j, d, h1, (at' j _ h2).2⟩⟩
theorem st_retv {e : Expr} {i : Nat} {pos : Pos} (he : PEm X W e (.var i)) : PSm X W pm (.Return (some e) pos) (.retv i) := by
  refine PS.imp (ps_ret he) fun Dn σ H ⟨Hs, m, R, h⟩ => ?_
  simp only [exS] at h
  refine ⟨Hs, m, R, ?_⟩
  simp only [ev]
  cases hg : geti m i with
  | none => rw [hg] at h; exact h.elim
  | some p =>
    obtain ⟨f, d⟩ := p
    rw [hg] at h
    intro v Hs1 H1 R1 F1 r
    obtain ⟨e1, _⟩ := (show σ[i]? = some (some v) ∧ _ from r)
    have h : ∀ v σ' Hs' H', REnv X.K Hs' H' σ' (m.set i none) → Fram Hs H (Own σ m) Hs' H' (OV (Own σ' (m.set i none)) f v) → KeepP pm σ σ' → RV X.K Hs' H' (Own σ' (m.set i none)) f v d → Dn.rt v H' := h
    obtain ⟨Rd, od⟩ := R1.drop i
    have lt := geti_lt hg
    have F1' : Fram Hs H (Own σ m) Hs1 H1 (Own σ m) := F1.weak fun b z => .inl z
    cases f with
    | false =>
      obtain ⟨v', e', rp⟩ := R1.val i d hg
      rw [e1] at e'; cases e'
      exact h v σ Hs1 H1 Rd (by rw [OV_false]; exact F1'.weak od) KeepP.refl rp
    | true =>
      obtain ⟨a, o, e', k1, k2, k3⟩ := R1.own i d hg
      rw [e1] at e'; cases e'
      refine h (.ref a) σ Hs1 H1 Rd (F1'.weak fun b z => ?_) KeepP.refl ⟨a, o, rfl, k1, k2, k3, fun ⟨j, x, z1, z2⟩ => ?_⟩
      · rcases z with z | ⟨_, z⟩
        · exact od b z
        · cases z; exact ⟨i, d, e1, hg⟩
      · by_cases hj : j = i
        · subst hj
          rw [geti_set_same lt] at z2; cases z2
        · rw [geti_set_ne (Ne.symm hj)] at z2
          exact hj (R1.inj j i x d a z2 hg z1 e1)
theorem st_retn {pos : Pos} : PSm X W pm (.Return none pos) .retn := by
  refine PS.imp ps_retN fun Dn σ H ⟨Hs, m, R, h⟩ => ?_
  simp only [exS] at h
  have h : ∀ v σ' Hs' H', REnv X.K Hs' H' σ' m → Fram Hs H (Own σ m) Hs' H' (OV (Own σ' m) false v) → KeepP pm σ σ' → RV X.K Hs' H' (Own σ' m) false v .none → Dn.rt v H' := h
  exact h .non σ Hs H R (by rw [OV_false]; exact Fram.refl) KeepP.refl .non
theorem st_if {t : Expr} {t' : E} {a b : List Stmt} {a' b' : Ss} {pos : Pos} (ht : PTm X W t t') (ha : PSsm X W pm a a') (hb : PSsm X W pm b b') : PSm X W pm (.If t a b pos) (.sif t' a' b') := by
  refine PS.imp (ps_if ht ha hb) fun Dn σ H ⟨Hs, m, R, h⟩ => ?_
  simp only [exS] at h
  refine tT_of R h fun p Hs1 H1 hp R1 F1 => ?_
  by_cases hk : p.1 = true
  · rw [if_pos hk] at hp ⊢
    exact ⟨Hs1, p.2, R1, hp.imp (fun f hf => hf.next F1 KeepP.refl) fun _ z => z⟩
  · rw [if_neg hk] at hp ⊢
    exact ⟨Hs1, p.2, R1, hp.imp (fun f hf => hf.next F1 KeepP.refl) fun _ z => z⟩
theorem srcsOf_vars {e : E} {d : D} {m : Env} : ∀ q ∈ srcsOf e d m, q.1 ∈ e.vr.toList := fun q h => by
  rw [srcsOf_eq] at h
  cases hv : e.vr with
  | none => rw [hv] at h; simp at h
  | some i =>
    rw [hv] at h
    cases d <;> simp at h
    split at h
    · simp at h; subst h; simp
    · simp at h
theorem evI_vars {it : Rc.It} {m : Env} {p : List D × List (Nat × List D) × Env} (h : evI it m = .ok p) : ∀ q ∈ p.2.1, q.1 ∈ itVars it := by
  cases it with
  | sq e =>
    simp only [evI] at h
    cases he : ev e m with
    | bad => rw [he] at h; cases h
    | exc x => rw [he] at h; cases h
    | ok r =>
      rw [he] at h
      simp only [bind_ok] at h
      cases hs : seqD r.1.2 with
      | none => rw [hs] at h; cases h
      | some xs =>
        rw [hs] at h
        simp only [ofO_some, bind_ok, Res.ok.injEq] at h
        subst h
        exact fun q hq => srcsOf_vars q hq
  | rg a =>
    simp only [evI] at h
    cases he : ev a m with
    | bad => rw [he] at h; cases h
    | exc x => rw [he] at h; cases h
    | ok r =>
      rw [he] at h
      simp only [bind_ok] at h
      split at h
      · split at h
        · cases h; intro q hq; simp at hq
        · cases h
      · cases h
  | rg2 a b =>
    simp only [evI] at h
    cases he : ev a m with
    | bad => rw [he] at h; cases h
    | exc x => rw [he] at h; cases h
    | ok r =>
      rw [he] at h
      simp only [bind_ok] at h
      cases he2 : ev b r.2 with
      | bad => rw [he2] at h; cases h
      | exc x => rw [he2] at h; cases h
      | ok r2 =>
        rw [he2] at h
        simp only [bind_ok] at h
        split at h
        · split at h
          · cases h; intro q hq; simp at hq
          · cases h
        · cases h
  | zp a b =>
    simp only [evI] at h
    cases he : ev a m with
    | bad => rw [he] at h; cases h
    | exc x => rw [he] at h; cases h
    | ok r =>
      rw [he] at h
      simp only [bind_ok] at h
      cases he2 : ev b r.2 with
      | bad => rw [he2] at h; cases h
      | exc x => rw [he2] at h; cases h
      | ok r2 =>
        rw [he2] at h
        simp only [bind_ok] at h
        cases h1 : rd a r.1.2 r2.2 with
        | none => rw [h1] at h; cases h
        | some x =>
          rw [h1] at h
          simp only [ofO_some, bind_ok] at h
          cases h2 : rd b r2.1.2 r2.2 with
          | none => rw [h2] at h; cases h
          | some y =>
            rw [h2] at h
            simp only [ofO_some, bind_ok] at h
            split at h
            · cases hs : seqD x with
              | none => rw [hs] at h; cases h
              | some xs =>
                rw [hs] at h
                simp only [ofO_some, bind_ok] at h
                cases hs2 : seqD y with
                | none => rw [hs2] at h; cases h
                | some ys =>
                  rw [hs2] at h
                  simp only [ofO_some, bind_ok, Res.ok.injEq] at h
                  subst h
                  intro q hq
                  rcases List.mem_append.mp hq with hq | hq
                  · exact List.mem_append_left _ (srcsOf_vars q hq)
                  · exact List.mem_append_right _ (srcsOf_vars q hq)
            · cases h
  | en a =>
    simp only [evI] at h
    cases he : ev a m with
    | bad => rw [he] at h; cases h
    | exc x => rw [he] at h; cases h
    | ok r =>
      rw [he] at h
      simp only [bind_ok] at h
      split at h
      · cases hs : seqD r.1.2 with
        | none => rw [hs] at h; cases h
        | some xs =>
          rw [hs] at h
          simp only [ofO_some, bind_ok, Res.ok.injEq] at h
          subst h
          exact fun q hq => srcsOf_vars q hq
      · cases h
  | rv a =>
    simp only [evI] at h
    cases he : ev a m with
    | bad => rw [he] at h; cases h
    | exc x => rw [he] at h; cases h
    | ok r =>
      rw [he] at h
      simp only [bind_ok] at h
      cases hs : seqD r.1.2 with
      | none => rw [hs] at h; cases h
      | some xs =>
        rw [hs] at h
        simp only [ofO_some, bind_ok, Res.ok.injEq] at h
        subst h
        exact fun q hq => srcsOf_vars q hq
theorem st_for (G : FGood X W c xc) {tg it : Expr} {body : List Stmt} {pos : Pos} {xs : List Str} {g : List Nat} {it' : Rc.It} {b' : Ss} (h1 : tgtNames tg = some xs) (h2 : tgtIx c.N xs = some g) (h3 : ∀ x ∈ xs, isLoc c.sc x = true) (hg : ∀ i ∈ g, i ∉ itVars it' ++ pm) (hl : isTup tg = true → g.length ≠ 1)
    (hi : PI X tg it (tI X.K X.mg W it')) (hip : isPlain it = true) (hb : PSsm X W (itVars it' ++ pm) body b') : PSm X W pm (.For tg it body [] pos) (.sfor g it' b') := by
  have st : ∀ x ∈ xs, StOk X x := fun x hx => ⟨by show Loc X.env.scope x; rw [G.g.sc]; exact loc_of (h3 x hx), .inl (G.fn x)⟩
  refine PS.imp (ps_for G.pass G.g.calm hi (pg_tgt G.g.N G.g.nd G.g.calm h1 h2 st hl) hb (plain_fold hip _)) fun Dn σ H ⟨Hs, m, R, h⟩ => ?_
  simp only [exS] at h
  refine ⟨Hs, m, R, ?_⟩
  have hh := h.bind
  cases hev : evI it' m with
  | bad => rw [hev] at hh; exact hh.elim
  | exc x => rw [hev] at hh; exact hh
  | ok p =>
    rw [hev] at hh
    have hp : PostR (FwP X.K pm σ Hs H m Dn) (XcE X.mg W σ H m) (forL p.2.1 g (fun m => exSs b' m) p.1 p.2.2) := hh
    have hsv := evI_vars hev
    obtain ⟨ds, srcs, m1⟩ := p
    intro J Hs1 H1 R1 F1 hJ hown hok
    simp only at hp R1 F1 hJ hown hok hsv ⊢
    have hp : PostR (FwP X.K pm σ Hs1 H1 m1 Dn) (XcE X.mg W σ H1 m1) (forL srcs g (fun m => exSs b' m) ds m1) := hp.imp (fun f hf => hf.next F1 KeepP.refl) fun _ z => z.next F1
    let Stt := fun (i : Nat) (σ' : L2.St) (H' : Hp) => i ≤ ds.length ∧ ∃ Hs' m', REnv X.K Hs' H' σ' m' ∧ Fram Hs1 H1 (Own σ m1) Hs' H' (Own σ' m') ∧ KeepP (itVars it' ++ pm) σ σ' ∧
      PostR (FwP X.K pm σ Hs1 H1 m1 Dn) (XcE X.mg W σ H1 m1) (forL srcs g (fun m => exSs b' m) (ds.drop i) m')
    refine ⟨fun i k σ' H' => k = ds.length - i ∧ Stt i σ' H', ⟨ds.length, by simp, Nat.zero_le _, Hs1, m1, R1, Fram.refl, KeepP.refl, by simpa using hp⟩, ?_⟩
    rintro i k σ' H' ⟨rfl, hil, Hs', m', R', F', k', hp'⟩
    have hsame : ∀ p ∈ srcs, σ'[p.1]? = σ[p.1]? := fun p hp => k' p.1 (List.mem_append_left _ (hsv p hp))
    by_cases hlt : i < ds.length
    · have hd : ds[i]? = some ds[i] := List.getElem?_eq_getElem hlt
      rw [List.drop_eq_getElem_cons hlt] at hp'
      simp only [forL] at hp'
      split at hp'
      · rename_i hok'
        obtain ⟨_, hitem⟩ := hJ i Hs' H' σ' m' F'.same R' hok' hsame
        obtain ⟨hgo, hy⟩ := hitem _ hd
        refine .inr ⟨hgo, Stt (i + 1), fun σ2 H2 z => ⟨ds.length - (i + 1), by omega, rfl, z⟩, fun x H3 yl => ?_⟩
        obtain ⟨Hs3, R3, F3, rx⟩ := hy x H3 yl
        obtain ⟨m2, hb2, hp'⟩ := PostR.ofO hp'.bind
        refine ⟨Hs3, m', ds[i], m2, R3, rx, hb2, fun σ2 R4 o4 k4 => ?_⟩
        have F4 : Fram Hs1 H1 (Own σ m1) Hs3 H3 (Own σ2 m2) := (F'.trans F3).weak o4
        have k4' : KeepP (itVars it' ++ pm) σ σ2 := k'.trans fun j hj => k4 j fun z => hg j z hj
        refine ⟨Hs3, m2, R4, hp'.bind.imp (fun f hf => ?_) fun _ z => z.next' F4⟩
        cases f with
        | nx m3 => exact fun σ5 Hs5 H5 R5 F5 k5 => ⟨by omega, Hs5, m3, R5, F4.trans F5, k4'.trans k5, hf⟩
        | ct m3 => exact fun σ5 Hs5 H5 R5 F5 k5 => ⟨by omega, Hs5, m3, R5, F4.trans F5, k4'.trans k5, hf⟩
        | bk m3 =>
          have hf : ∀ σ' Hs' H', REnv X.K Hs' H' σ' m3 → Fram Hs1 H1 (Own σ m1) Hs' H' (Own σ' m3) → KeepP pm σ σ' → Dn.nx σ' H' := hf
          exact fun σ5 Hs5 H5 R5 F5 k5 => hf σ5 Hs5 H5 R5 (F4.trans F5) fun j hj => (k4'.trans k5) j (List.mem_append_right _ hj)
        | rt fr d m3 =>
          have hf : ∀ v σ' Hs' H', REnv X.K Hs' H' σ' m3 → Fram Hs1 H1 (Own σ m1) Hs' H' (OV (Own σ' m3) fr v) → KeepP pm σ σ' → RV X.K Hs' H' (Own σ' m3) fr v d → Dn.rt v H' := hf
          exact fun v σ5 Hs5 H5 R5 F5 k5 r5 => hf v σ5 Hs5 H5 R5 (F4.trans F5) (fun j hj => (k4'.trans k5) j (List.mem_append_right _ hj)) r5
      · exact hp'.elim
    · have e : i = ds.length := by omega
      subst e
      rw [List.drop_length] at hp'
      simp only [forL] at hp'
      split at hp'
      · rename_i hok'
        obtain ⟨hstop, _⟩ := hJ ds.length Hs' H' σ' m' F'.same R' hok' hsame
        have hp' : ∀ σ' Hs' H', REnv X.K Hs' H' σ' m' → Fram Hs1 H1 (Own σ m1) Hs' H' (Own σ' m') → KeepP pm σ σ' → Dn.nx σ' H' := hp'
        exact .inl ⟨hstop (Nat.le_refl _), hp' σ' Hs' H' R' F' fun j hj => k' j (List.mem_append_right _ hj)⟩
      · exact hp'.elim
theorem st_whl (G : FGood X W c xc) {t : Expr} {t' : E} {body : List Stmt} {b' : Ss} {pos : Pos} (ht : PTm X W t t') (hb : PSsm X W pm body b') : PSm X W pm (.While t body [] pos) (.whl t' b') := by
  refine PS.imp (ps_while G.pass ht hb) fun Dn σ H ⟨Hs, m, R, h⟩ => ?_
  simp only [exS] at h
  have ex : ∃ n r, whN (evC t') (fun m => exSs b' m) n m = some r := by
    apply Classical.byContradiction
    intro hn
    have : ¬ ∃ p : Nat × Res Fw, whN (evC t') (fun m => exSs b' m) p.1 m = some p.2 := fun ⟨⟨n, r⟩, q⟩ => hn ⟨n, r, q⟩
    unfold wh at h
    rw [dif_neg this] at h
    exact h.elim
  obtain ⟨n, r, hn⟩ := ex
  rw [wh_of hn] at h
  refine ⟨fun k σ' H' => ∃ Hs' m', REnv X.K Hs' H' σ' m' ∧ Fram Hs H (Own σ m) Hs' H' (Own σ' m') ∧ KeepP pm σ σ' ∧ whN (evC t') (fun m => exSs b' m) k m' = some r, ⟨n, Hs, m, R, Fram.refl, KeepP.refl, hn⟩, ?_⟩
  rintro k σ1 H1 ⟨Hs1, m1, R1, F1, k1, hk⟩
  cases k with
  | zero => simp [whN] at hk
  | succ k =>
    simp only [whN, wturn] at hk
    refine ⟨Hs1, m1, R1, ?_⟩
    cases hc : evC t' m1 with
    | bad =>
      rw [hc] at hk
      simp only [Option.some.injEq] at hk
      subst hk
      exact h.elim
    | exc x =>
      rw [hc] at hk
      simp only [Option.some.injEq] at hk
      subst hk
      exact (show XcE X.mg W σ H m x from h).next' F1
    | ok p =>
      obtain ⟨kb, m2⟩ := p
      rw [hc] at hk
      intro Hs2 H2 R2 F2
      have F2' := F1.trans F2
      cases kb with
      | false =>
        simp only [Option.some.injEq] at hk
        subst hk
        have h : ∀ σ' Hs' H', REnv X.K Hs' H' σ' m2 → Fram Hs H (Own σ m) Hs' H' (Own σ' m2) → KeepP pm σ σ' → Dn.nx σ' H' := h
        rw [if_neg (by simp)]
        exact h σ1 Hs2 H2 R2 F2' k1
      | true =>
        rw [if_pos rfl]
        simp only at hk
        refine ⟨fun σ' H' => ∃ Hs' m', REnv X.K Hs' H' σ' m' ∧ Fram Hs H (Own σ m) Hs' H' (Own σ' m') ∧ KeepP pm σ σ' ∧ whN (evC t') (fun m => exSs b' m) k m' = some r, fun σ' H' z => ⟨k, by omega, z⟩, Hs2, m2, R2, ?_⟩
        cases hbd : exSs b' m2 with
        | bad =>
          rw [hbd] at hk
          simp only [Option.some.injEq] at hk
          subst hk
          exact h.elim
        | exc x =>
          rw [hbd] at hk
          simp only [Option.some.injEq] at hk
          subst hk
          exact (show XcE X.mg W σ H m x from h).next' F2'
        | ok f =>
          rw [hbd] at hk
          cases f with
          | nx m3 => exact fun σ5 Hs5 H5 R5 F5 k5 => ⟨Hs5, m3, R5, F2'.trans F5, k1.trans k5, hk⟩
          | ct m3 => exact fun σ5 Hs5 H5 R5 F5 k5 => ⟨Hs5, m3, R5, F2'.trans F5, k1.trans k5, hk⟩
          | bk m3 =>
            simp only [Option.some.injEq] at hk
            subst hk
            have h : ∀ σ' Hs' H', REnv X.K Hs' H' σ' m3 → Fram Hs H (Own σ m) Hs' H' (Own σ' m3) → KeepP pm σ σ' → Dn.nx σ' H' := h
            exact fun σ5 Hs5 H5 R5 F5 k5 => h σ5 Hs5 H5 R5 (F2'.trans F5) (k1.trans k5)
          | rt fr d m3 =>
            simp only [Option.some.injEq] at hk
            subst hk
            have h : ∀ v σ' Hs' H', REnv X.K Hs' H' σ' m3 → Fram Hs H (Own σ m) Hs' H' (OV (Own σ' m3) fr v) → KeepP pm σ σ' → RV X.K Hs' H' (Own σ' m3) fr v d → Dn.rt v H' := h
            exact fun v σ5 Hs5 H5 R5 F5 k5 r5 => h v σ5 Hs5 H5 R5 (F2'.trans F5) (k1.trans k5) r5
theorem st_rais (G : FGood X W c xc) {x msg : Str} {k : Nat} {p p2 p3 pos : Pos} (hx : okName x = true) (hg : isGl c.sc x = true) (hc : x ∈ xc) : PSm X W pm (.Raise (some (.Call (.Name x p) [.Constant (.str msg) k p2] [] p3)) none pos) (.rais x) := by
  obtain ⟨C, gC, q, kC, r⟩ := G.xc x hc
  refine PS.imp (ps_raise G.g.calm G.tk (pmk_own PySem.F.excBase_ValueError q gC kC r (gl_at G.g hg) (okName_of hx).1)) fun Dn σ H ⟨Hs, m, R, h⟩ => ?_
  simp only [exS] at h
  exact (show XcE X.mg W σ H m x from h) C H gC fun b o e _ => e
theorem st_brk {pos : Pos} : PSm X W pm (.Break pos) .brk := by
  refine PS.imp ps_break fun Dn σ H ⟨Hs, m, R, h⟩ => ?_
  simp only [exS] at h
  exact (show ∀ σ' Hs' H', REnv X.K Hs' H' σ' m → Fram Hs H (Own σ m) Hs' H' (Own σ' m) → KeepP pm σ σ' → Dn.bk σ' H' from h) σ Hs H R Fram.refl KeepP.refl
theorem st_cnt {pos : Pos} : PSm X W pm (.Continue pos) .cnt := by
  refine PS.imp ps_continue fun Dn σ H ⟨Hs, m, R, h⟩ => ?_
  simp only [exS] at h
  exact (show ∀ σ' Hs' H', REnv X.K Hs' H' σ' m → Fram Hs H (Own σ m) Hs' H' (Own σ' m) → KeepP pm σ σ' → Dn.ct σ' H' from h) σ Hs H R Fram.refl KeepP.refl
theorem st_pass {pos : Pos} : PSm X W pm (.Pass pos) .pass := by
  refine PS.imp ps_pass fun Dn σ H ⟨Hs, m, R, h⟩ => ?_
  simp only [exS] at h
  exact (show ∀ σ' Hs' H', REnv X.K Hs' H' σ' m → Fram Hs H (Own σ m) Hs' H' (Own σ' m) → KeepP pm σ σ' → Dn.nx σ' H' from h) σ Hs H R Fram.refl KeepP.refl
theorem sts_nil : PSsm X W pm [] .nil := by
  refine PSs.imp pss_nil fun Dn σ H ⟨Hs, m, R, h⟩ => ?_
  simp only [exSs] at h
  exact (show ∀ σ' Hs' H', REnv X.K Hs' H' σ' m → Fram Hs H (Own σ m) Hs' H' (Own σ' m) → KeepP pm σ σ' → Dn.nx σ' H' from h) σ Hs H R Fram.refl KeepP.refl
theorem sts_cons {s : Stmt} {ss : List Stmt} {s' : S} {ss' : Ss} (hs : PSm X W pm s s') (hss : PSsm X W pm ss ss') : PSsm X W pm (s :: ss) (.cons s' ss') := by
  refine PSs.imp (pss_cons hs hss) fun Dn σ H ⟨Hs, m, R, h⟩ => ?_
  simp only [exSs] at h
  refine ⟨Hs, m, R, h.bind.imp (fun f hf => ?_) fun _ z => z⟩
  cases f with
  | nx m1 => exact fun σ1 Hs1 H1 R1 F1 k1 => ⟨Hs1, m1, R1, hf.imp (fun f hf => hf.next F1 k1) fun _ z => z.next' F1⟩
  | rt fr d m1 => exact hf
  | bk m1 => exact hf
  | ct m1 => exact hf
end
end Rc

set_option maxRecDepth 100000
set_option maxHeartbeats 4000000
namespace Rc
open PySem L2
section
variable {X : Cx} {W : XK} {c : TC} {xc : List Str} {pm : List Nat}
theorem swap_false {e : Expr} {y : Str} {py : Pos} {l : Nat} {env : PySem.Env} (hk : env.scope.kind = .function) (hp : isPlain e = true) (h : swapB env.scope e y py = false) : swapsWith e (some (.Name y py)) l env = pure false := by
  cases e <;> simp [isPlain] at hp <;> try rfl
  rename_i elt gs s pos
  have hb : env.blockKind = .function := by unfold PySem.Env.blockKind; rw [hk]; rfl
  unfold swapsWith
  simp only [hb]
  unfold swapB at h
  simp only at h
  have ek : env.kindOf y = env.scope.names.lookup y := rfl
  rw [ek]
  have e1 : (ScopeKind.function == ScopeKind.function) = true := rfl
  have e2 : (env.scope.names.lookup y == some NameKind.local) = (match env.scope.names.lookup y with | some .local => true | _ => false) := by
    cases env.scope.names.lookup y with
    | none => rfl
    | some k => cases k <;> rfl
  rw [e1, e2]
  simp only [Expr.pos, Bool.true_and]
  exact congrArg pure h
theorem swap_true {e : Expr} {y : Str} {py : Pos} {l : Nat} {env : PySem.Env} (hk : env.scope.kind = .function) (h : swapB env.scope e y py = true) : swapsWith e (some (.Name y py)) l env = pure true ∧ env.scope.names.lookup y = some .local ∧ isLC e = true := by
  cases e <;> simp only [swapB, Bool.false_eq_true] at h
  rename_i elt gs s pos
  simp only [Bool.and_eq_true] at h
  have hl : env.scope.names.lookup y = some .local := by
    have := h.1.1
    split at this
    · rename_i q; exact q
    · cases this
  refine ⟨sw_true hk hl h.1.2 ?_, hl, rfl⟩
  simpa using h.2
/-- name = [..] that swaps its stores -/
theorem snd_lc {n : Nat} {e : Expr} {e' : E} (h : trE n c e = some e') (hlc : isLC e = true) (G : Good X W c) {i : Nat} {y : Str} {py pos : Pos} (hy : ixOf c.N y = some i) (hl : c.sc.names.lookup y = some .local) (hs : swapsWith e (some (.Name y py)) pos.line X.env = pure true) :
    PS X (.Assign [.Name y py] e pos) (tAsg (tE X.K X.mg W e') (gName i)) := by
  cases n with
  | zero => simp [trE] at h
  | succ n =>
    have ih := snd n
    cases e <;> simp [isLC] at hlc
    rename_i elt gs sc lpos
    unfold trE at h
    split at h <;> first | (rename_i q; cases q; done) | skip
    all_goals first
      | (rename_i q _; cases q; done)
      | skip
    · rename_i elt' tg iter ifs sc' pos' q1 q2
      cases q2
      cases q1
      split at h
      · rename_i hb
        obtain ⟨xs, h1, h⟩ := bnd h
        obtain ⟨g, h2, h⟩ := bnd h
        obtain ⟨it, h3, h⟩ := bnd h
        simp only at h
        split at h
        · rename_i hc
          simp only [Bool.and_eq_true] at hc
          obtain ⟨ee, h4, h⟩ := bnd h
          obtain ⟨ec, h5, h⟩ := bnd h
          cases h
          have L : LcOk _ sc tg xs g := ⟨hb, h1, h2, fun x hx => by
            have := List.all_eq_true.mp hc.1.1.1 x hx
            simpa using this, fun i hi => by
            have := List.all_eq_true.mp hc.1.1.2 i hi
            rw [List.any_eq_true] at this
            obtain ⟨p, hp, e⟩ := this
            exact List.mem_map.mpr ⟨p, hp, by simpa using e⟩, s_nodup_tgt hc.2⟩
          obtain ⟨i1, i2⟩ := ih.i _ _ _ _ h3 X W G
          exact s_setlc G L i2 hy hl hs i1 (fun s H C cl fp => (ih.e _ _ _ h4 _ E0 (G.blk sc s H C cl fp)).1) (fun s H C cl fp => ih.t _ _ _ h5 _ E0 (G.blk sc s H C cl fp))
        · cases h
      · cases h
    · cases h
structure SndS (n : Nat) : Prop where
  s : ∀ (c : TC) (pm : List Nat) (xc : List Str) (x : Stmt) (s : S), trS n c pm xc x = some s → ∀ (X : Cx) (W : XK), FGood X W c xc → PSm X W pm x s
  ss : ∀ (c : TC) (pm : List Nat) (xc : List Str) (x : List Stmt) (s : Ss), trSs n c pm xc x = some s → ∀ (X : Cx) (W : XK), FGood X W c xc → PSsm X W pm x s
theorem noElem {g pm : List Nat} (h : (g.all fun i => !(pm.contains i)) = true) : ∀ i ∈ g, i ∉ pm := fun i hi hm => by
  have := List.all_eq_true.mp h i hi
  simp [hm] at this
theorem snd_s {n : Nat} (ih : SndS n) (c : TC) (pm : List Nat) (xc : List Str) (x : Stmt) (s : S) (h : trS (n + 1) c pm xc x = some s) (X : Cx) (W : XK) (G : FGood X W c xc) : PSm X W pm x s := by
  have se := snd n
  have kx : X.env.scope.kind = .function := by rw [G.g.sc]; exact G.kind
  simp only [trS] at h
  split at h
  · -- name = e
    rename_i y py e pos
    split at h
    · rename_i hl
      obtain ⟨i, hi, h⟩ := bnd h
      split at h
      · cases h
      · rename_i hpm
        obtain ⟨e', he, h⟩ := bnd h
        cases h
        obtain ⟨h1, _, h3⟩ := se.e _ _ _ he X W G.g
        cases hsw : swapB c.sc e y py with
        | false => exact st_asg G hl hi hpm h1 (swap_false kx h3 (by rw [G.g.sc]; exact hsw))
        | true =>
          obtain ⟨w1, w2, w3⟩ := swap_true (l := pos.line) kx (by rw [G.g.sc]; exact hsw)
          exact PS.imp (snd_lc he w3 G.g hi (by rw [← G.g.sc]; exact w2) w1) fun Dn σ H hh => asg_core hpm hh
    · cases h
  · -- a, b = x, y
    rename_i ts k tp vs k2 vp pos
    obtain ⟨xs, h1, h⟩ := bnd h
    obtain ⟨g, h2, h⟩ := bnd h
    split at h
    · rename_i hc
      simp only [Bool.and_eq_true, decide_eq_true_eq] at hc
      obtain ⟨es, h3, h⟩ := bnd h
      obtain ⟨q1, _, _, _, _⟩ := se.es _ _ _ h3 X W G.g
      have hlc : ∀ x ∈ xs, isLoc c.sc x = true := fun x hx => List.all_eq_true.mp hc.1.1.1.1 x hx
      split at h
      · rename_i hs
        cases h
        exact st_par G h1 h2 hlc (noElem hc.1.1.1.2) hc.1.1.2 hc.1.2 hs (fun _ z => by cases z) q1 hc.2
      · rename_i names hs
        split at h
        · rename_i en
          cases h
          exact st_par G h1 h2 hlc (noElem hc.1.1.1.2) hc.1.1.2 hc.1.2 hs (fun _ z => by cases z; exact en) q1 hc.2
        · cases h
      · cases h
    · cases h
  · -- a, b = e
    rename_i ts k tp e pos _
    split at h
    · cases h
    · rename_i hd
      obtain ⟨xs, h1, h⟩ := bnd h
      obtain ⟨g, h2, h⟩ := bnd h
      split at h
      · rename_i hc
        simp only [Bool.and_eq_true, decide_eq_true_eq] at hc
        obtain ⟨e', he, h⟩ := bnd h
        cases h
        obtain ⟨q1, _, q3⟩ := se.e _ _ _ he X W G.g
        exact st_unp G h1 h2 (fun x hx => List.all_eq_true.mp hc.1.1 x hx) (noElem hc.1.2) hc.2 (by simpa using hd) q3 q1
      · cases h
  · -- name[i] = e
    rename_i x px i p2 e pos
    split at h
    · rename_i hc
      simp only [Bool.and_eq_true, Bool.not_eq_true'] at hc
      obtain ⟨k, hk, h⟩ := bnd h
      obtain ⟨i', hi, h⟩ := bnd h
      obtain ⟨e', he, h⟩ := bnd h
      cases h
      obtain ⟨a1, _, _⟩ := se.e _ _ _ hi X W G.g
      obtain ⟨b1, _, b3⟩ := se.e _ _ _ he X W G.g
      exact st_sti G hc.1.1.1 hc.1.1.2 hk hc.1.2 a1 b1 b3 hc.2
    · cases h
  · -- name.method(..)
    rename_i x px mn ap es q sp
    split at h
    · rename_i hc
      simp only [Bool.and_eq_true, decide_eq_true_eq] at hc
      obtain ⟨i, hi, h⟩ := bnd h
      obtain ⟨k, hk, h⟩ := bnd h
      obtain ⟨es', hes, h⟩ := bnd h
      cases h
      obtain ⟨q1, _, _, q4, q5⟩ := se.es _ _ _ hes X W G.g
      exact st_mth G hc.1.1.1 hc.1.1.2 hi hk hc.1.2 hc.2 q1 q4 q5
    · cases h
  · -- e
    rename_i e pos _
    split at h
    · cases h
    · rename_i hlc
      obtain ⟨e', he, h⟩ := bnd h
      cases h
      obtain ⟨q1, _, q3⟩ := se.e _ _ _ he X W G.g
      exact st_exp q3 (by simpa using hlc) q1
  · -- return e
    rename_i e pos
    obtain ⟨e', he, h⟩ := bnd h
    obtain ⟨q1, _, _⟩ := se.e _ _ _ he X W G.g
    split at h
    · split at h
      · cases h; exact st_ret q1
      · cases h; exact st_retv q1
    · cases h; exact st_ret q1
  · cases h; exact st_retn
  · -- if
    rename_i t a b pos
    obtain ⟨t', ht, h⟩ := bnd h
    obtain ⟨a', ha, h⟩ := bnd h
    obtain ⟨b', hb, h⟩ := bnd h
    cases h
    exact st_if (se.e _ _ _ ht X W G.g).2.1 (ih.ss _ _ _ _ _ ha X W G) (ih.ss _ _ _ _ _ hb X W G)
  · -- for
    rename_i tg it b pos
    obtain ⟨xs, h1, h⟩ := bnd h
    obtain ⟨g, h2, h⟩ := bnd h
    obtain ⟨it', h3, h⟩ := bnd h
    split at h
    · rename_i hc
      simp only [Bool.and_eq_true] at hc
      obtain ⟨b', hb, h⟩ := bnd h
      cases h
      obtain ⟨i1, i2⟩ := se.i _ _ _ _ h3 X W G.g
      exact st_for G h1 h2 (fun x hx => List.all_eq_true.mp hc.1.1 x hx) (noElem hc.1.2) (s_nodup_tgt hc.2) i1 i2 (ih.ss _ _ _ _ _ hb X W G)
    · cases h
  · -- while
    rename_i t b pos
    obtain ⟨t', ht, h⟩ := bnd h
    obtain ⟨b', hb, h⟩ := bnd h
    cases h
    exact st_whl G (se.e _ _ _ ht X W G.g).2.1 (ih.ss _ _ _ _ _ hb X W G)
  · -- raise
    split at h
    · rename_i hc
      simp only [Bool.and_eq_true] at hc
      cases h
      exact st_rais G hc.1.1 hc.1.2 (by simpa using hc.2)
    · cases h
  · cases h; exact st_brk
  · cases h; exact st_cnt
  · cases h; exact st_pass
  · cases h
theorem snd_ss {n : Nat} (ih : SndS n) (c : TC) (pm : List Nat) (xc : List Str) (x : List Stmt) (s : Ss) (h : trSs (n + 1) c pm xc x = some s) (X : Cx) (W : XK) (G : FGood X W c xc) : PSsm X W pm x s := by
  cases x with
  | nil =>
    simp only [trSs, Option.some.injEq] at h
    subst h
    exact sts_nil
  | cons a as =>
    simp only [trSs] at h
    obtain ⟨s', h1, h⟩ := bnd h
    obtain ⟨ss', h2, h⟩ := bnd h
    cases h
    exact sts_cons (ih.s _ _ _ _ _ h1 X W G) (ih.ss _ _ _ _ _ h2 X W G)
theorem sndS : ∀ n, SndS n
  | 0 => ⟨fun c pm xc x s h => by simp [trS] at h, fun c pm xc x s h => by simp [trSs] at h⟩
  | n + 1 => ⟨snd_s (sndS n), snd_ss (sndS n)⟩

/-! ### a def -/
theorem finsOf_len : ∀ {as : List (Bool × D)} {k : Nat} {m : Env} {fs : List (Bool × D)}, finsOf k as m = some fs → fs.length = as.length
  | [], _, _, fs, h => by simp only [finsOf, Option.some.injEq] at h; subst h; rfl
  | (false, d) :: r, k, m, fs, h => by
    simp only [finsOf, Option.map_eq_some_iff] at h
    obtain ⟨fs', h1, rfl⟩ := h
    simp [finsOf_len h1]
  | (true, d) :: r, k, m, fs, h => by
    simp only [finsOf] at h
    obtain ⟨p, hp, h⟩ := bnd h
    rw [Option.map_eq_some_iff] at h
    obtain ⟨fs', h1, rfl⟩ := h
    simp [finsOf_len h1]
theorem finsOf_at : ∀ {as : List (Bool × D)} {k : Nat} {m : Env} {fs : List (Bool × D)}, finsOf k as m = some fs → ∀ (j : Nat) (p : Bool × D), fs[j]? = some p → (∃ d, as[j]? = some (false, d) ∧ p = (false, d)) ∨ (∃ d, as[j]? = some (true, d) ∧ geti m (k + j) = some p)
  | [], _, _, fs, h, j, p, hj => by simp only [finsOf, Option.some.injEq] at h; subst h; simp at hj
  | (false, d) :: r, k, m, fs, h, j, p, hj => by
    simp only [finsOf, Option.map_eq_some_iff] at h
    obtain ⟨fs', h1, rfl⟩ := h
    cases j with
    | zero => simp at hj; subst hj; exact .inl ⟨d, rfl, rfl⟩
    | succ j =>
      have := finsOf_at h1 j p (by simpa using hj)
      rw [show k + 1 + j = k + (j + 1) by omega] at this
      simpa using this
  | (true, d) :: r, k, m, fs, h, j, p, hj => by
    simp only [finsOf] at h
    obtain ⟨q, hq, h⟩ := bnd h
    rw [Option.map_eq_some_iff] at h
    obtain ⟨fs', h1, rfl⟩ := h
    cases j with
    | zero => simp at hj; subst hj; exact .inr ⟨d, rfl, hq⟩
    | succ j =>
      have := finsOf_at h1 j p (by simpa using hj)
      rw [show k + 1 + j = k + (j + 1) by omega] at this
      simpa using this
end
end Rc

set_option maxRecDepth 100000
set_option maxHeartbeats 4000000
/-! A def's promise from its translation. -/
namespace Rc
open PySem L2
section
variable {K : PySem.W.Frag} {mg : Str → Option Value} {Hs H Hs' H' : Hp} {σ σ' : L2.St} {m m' : Env}
theorem geti_mapS {as : List (Bool × D)} {i : Nat} {p : Bool × D} : geti (as.map some) i = some p ↔ as[i]? = some p := by
  rw [geti_eq, List.getElem?_map]
  cases as[i]? <;> simp
theorem geti_app {as : List (Bool × D)} {n i : Nat} {p : Bool × D} : geti (as.map some ++ List.replicate n none) i = some p ↔ as[i]? = some p := by
  rw [geti_eq]
  by_cases h : i < as.length
  · rw [List.getElem?_append_left (by simpa using h), List.getElem?_map, List.getElem?_eq_getElem h]
    simp
  · have e : as[i]? = none := List.getElem?_eq_none (by omega)
    rw [List.getElem?_append_right (by simpa using h), List.getElem?_replicate, e]
    split <;> simp
theorem st_app {vs : List V} {n i : Nat} (h : i < vs.length) : (vs.map some ++ List.replicate n none)[i]? = (vs.map some)[i]? := List.getElem?_append_left (by simpa using h)
theorem env_start {vs : List V} {as : List (Bool × D)} {n : Nat} (R : REnv K Hs H (vs.map some) (as.map some)) : REnv K Hs H (vs.map some ++ List.replicate n none) (as.map some ++ List.replicate n none) ∧
    ∀ b, Own (vs.map some ++ List.replicate n none) (as.map some ++ List.replicate n none) b ↔ Own (vs.map some) (as.map some) b := by
  have hl : vs.length = as.length := by have := R.len; simpa using this
  have lt : ∀ {i : Nat} {p : Bool × D}, as[i]? = some p → i < vs.length := fun e => by
    rw [hl]
    exact (List.getElem?_eq_some_iff.mp e).1
  refine ⟨⟨R.sub, by simp [hl], fun i d h => ?_, fun i d h => ?_, fun i j d e a h1 h2 h3 h4 => ?_⟩, fun b => ⟨fun ⟨i, d, h1, h2⟩ => ?_, fun ⟨i, d, h1, h2⟩ => ?_⟩⟩
  · rw [geti_app] at h
    rw [st_app (lt h)]
    exact R.val i d (geti_mapS.mpr h)
  · rw [geti_app] at h
    rw [st_app (lt h)]
    exact R.own i d (geti_mapS.mpr h)
  · rw [geti_app] at h1 h2
    rw [st_app (lt h1)] at h3
    rw [st_app (lt h2)] at h4
    exact R.inj i j d e a (geti_mapS.mpr h1) (geti_mapS.mpr h2) h3 h4
  · rw [geti_app] at h2
    rw [st_app (lt h2)] at h1
    exact ⟨i, d, h1, geti_mapS.mpr h2⟩
  · rw [geti_mapS] at h2
    exact ⟨i, d, by rw [st_app (lt h2)]; exact h1, geti_app.mpr h2⟩
theorem env_end {vs : List V} {as fs : List (Bool × D)} {n : Nat} {pm : List Nat} (R : REnv K Hs H (vs.map some) (as.map some)) (hp : ∀ i d, as[i]? = some (true, d) → i ∈ pm) (R' : REnv K Hs' H' σ' m') (s : Same Hs Hs') (kp : KeepP pm (vs.map some ++ List.replicate n none) σ') (hf : finsOf 0 as m' = some fs) :
    REnv K Hs' H' (vs.map some) (fs.map some) ∧ ∀ b, Own (vs.map some) (fs.map some) b → Own σ' m' b := by
  have hl : vs.length = as.length := by have := R.len; simpa using this
  have lt : ∀ {i : Nat} {p : Bool × D}, as[i]? = some p → i < vs.length := fun e => by
    rw [hl]
    exact (List.getElem?_eq_some_iff.mp e).1
  have at' : ∀ {i : Nat} {d : D}, as[i]? = some (true, d) → σ'[i]? = (vs.map some)[i]? := fun {i d} e => by rw [kp i (hp i d e), st_app (lt e)]
  have own : ∀ {i : Nat} {d : D}, fs[i]? = some (true, d) → σ'[i]? = (vs.map some)[i]? ∧ geti m' i = some (true, d) := fun {i d} e => by
    rcases finsOf_at hf i _ e with ⟨d', h1, h2⟩ | ⟨d', h1, h2⟩
    · cases h2
    · rw [Nat.zero_add] at h2
      exact ⟨at' h1, h2⟩
  refine ⟨⟨R'.sub, by simp [hl, finsOf_len hf], fun i d h => ?_, fun i d h => ?_, fun i j d e a h1 h2 h3 h4 => ?_⟩, fun b ⟨i, d, h1, h2⟩ => ?_⟩
  · rw [geti_mapS] at h
    rcases finsOf_at hf i _ h with ⟨d', h1, h2⟩ | ⟨d', h1, h2⟩
    · cases h2
      obtain ⟨v, e, r⟩ := R.val i _ (geti_mapS.mpr h1)
      exact ⟨v, e, Rp.mono s _ _ r⟩
    · rw [Nat.zero_add] at h2
      rw [← at' h1]
      exact R'.val i d h2
  · rw [geti_mapS] at h
    obtain ⟨e1, e2⟩ := own h
    rw [← e1]
    exact R'.own i d e2
  · rw [geti_mapS] at h1 h2
    obtain ⟨e1, e2⟩ := own h1
    obtain ⟨q1, q2⟩ := own h2
    rw [← e1] at h3
    rw [← q1] at h4
    exact R'.inj i j d e a e2 q2 h3 h4
  · rw [geti_mapS] at h2
    obtain ⟨e1, e2⟩ := own h2
    rw [← e1] at h1
    exact ⟨i, d, h1, e2⟩
end
section
variable {P : Program} {w : World} {K : PySem.W.Frag} {mg : Str → Option Value} {base : Heap}
/-- a def that may be called by its name -/
structure Ent (P : Program) (w : World) (K : PySem.W.Frag) (mg : Str → Option Value) (base : Heap) (k : Nat) (x : Str) (e : FnE) : Prop where
  ex : ∃ (f : Addr) (fd : FuncData) (ps : List Str) (j : Nat), j ≤ k ∧ FnOk P w K mg base (L2.CX P w) j f fd ps (spM K mg e.n e.f) ∧ mg x = some (.ref f) ∧ PySem.W.keepIn K (.ref f) = true ∧ Binds K fd ps []
theorem Ent.mono {j k : Nat} {x : Str} {e : FnE} (h : Ent P w K mg base j x e) (l : j ≤ k) : Ent P w K mg base k x e := by
  obtain ⟨f, fd, ps, i, a, b⟩ := h.ex
  exact ⟨f, fd, ps, i, Nat.le_trans a l, b⟩
/-- the constants, the builtin names, the exceptions -/
structure Glob (K : PySem.W.Frag) (mg : Str → Option Value) (cns : List (Str × D)) (xc : List Str) : Prop where
  cns : ∀ x d, cns.lookup x = some d → ∃ v u, mg x = some u ∧ RelV v u ∧ ∀ H, Rp K H v d
  blt : ∀ x ∈ blts, mg x = none
  xc : ∀ x ∈ xc, ∃ C, mg x = some (.ref C) ∧ PySem.W.excIn K C [.type "ValueError", .type "Exception", .type "BaseException", .type "object"] "ValueError.__new__" = true ∧ PySem.W.keepIn K (.ref C) = true ∧
    PySem.W.subIn K (.ref C) (.type "BaseException") = some true ∧ PySem.W.typeIn K (.ref C) = some (.type "type")
/-- what a mirror must be -/
def Mir (n np : Nat) (pm : List Nat) (body : Ss) (mf : MF) : Prop :=
  ∀ as : List (Bool × D), as.length = np → mf as = .bad ∨ ((∀ i d, as[i]? = some (true, d) → i ∈ pm) ∧ runFn ⟨n, body⟩ as = mf as)
theorem fn_ok {x qual : Str} {st : Stmt} {f : Addr} {fd : FuncData} {N ps : List Str} {k fuel : Nat} {pm : List Nat} {xc : List Str} {fns : List (Str × FnE)} {cns : List (Str × D)} {body : Ss} {mf : MF}
    (F : Fun K x qual st f fd) (S : FnScope N ps (defScope st)) (ht : trSs fuel ⟨N, defScope st, fns, cns⟩ pm xc (defBody st) = some body)
    (hf : ∀ y e, fns.lookup y = some e → Ent P w K mg base k y e) (hg : Glob K mg cns xc) (hm : Mir N.length ps.length pm body mf) :
    FnOk P w K mg base (L2.CX P w) (k + 1) f fd ps (spM K mg ps.length mf) := by
  refine F.okX S (fun vs H Q E h => h.1) (fun cdv A outer s H vs Q E hr hsp => ?_)
  have tk : Takes (cxOf (L2.CX P w) P w K mg base N qual (defScope st) f cdv A outer s H E) (fun cls d _ H => E cls d H) := takes_of rfl rfl rfl rfl
  have G : FGood (cxOf (L2.CX P w) P w K mg base N qual (defScope st) f cdv A outer s H E) E ⟨N, defScope st, fns, cns⟩ xc := by
    refine ⟨⟨rfl, rfl, S.nd, rfl, ?_, fun y e h => ?_, hg.cns, hg.blt⟩, S.kind, fun _ => rfl, passes_of rfl, fun y hy => ?_, tk⟩
    · have := hr.un
      show (A.deeper _).units + 65 < _
      omega
    · obtain ⟨f', fd', ps', j, hj, q1, q2, q3, q4⟩ := (hf y e h).ex
      exact ⟨f', fd', ps', j, q1, hr.mono hj, q2, q3, q4, passes_call tk fun _ _ _ _ h => h⟩
    · obtain ⟨C, q1, q2, q3, q4, q5⟩ := hg.xc y hy
      exact ⟨C, q1, q2, q3, raises_own q4 q5⟩
  refine ⟨_, (sndS fuel).ss _ _ _ _ _ ht _ _ G, ?_⟩
  obtain ⟨hl, Hs, as, R, hp⟩ := hsp
  have hal : as.length = vs.length := by have := R.len; simp at this; omega
  rcases hm as (by omega) with e | ⟨hpm, e⟩
  · rw [e] at hp
    exact hp.elim
  rw [← e] at hp
  obtain ⟨R0, ow⟩ := env_start (n := N.length - vs.length) R
  refine ⟨Hs, as.map some ++ List.replicate (N.length - vs.length) none, R0, ?_⟩
  have F0 : ∀ {Hs' H' : Hp} {O : Addr → Prop}, Fram Hs H (Own (start N vs) (as.map some ++ List.replicate (N.length - vs.length) none)) Hs' H' O → Fram Hs H (Own (vs.map some) (as.map some)) Hs' H' O := fun {Hs' H' O} F => by
    have : Own (start N vs) (as.map some ++ List.replicate (N.length - vs.length) none) = Own (vs.map some) (as.map some) := funext fun b => propext (ow b)
    rw [this] at F
    exact F
  unfold runFn at hp
  simp only [hal] at hp
  cases hq : exSs body (as.map some ++ List.replicate (N.length - vs.length) none) with
  | bad => rw [hq] at hp; exact hp.elim
  | exc y =>
    rw [hq] at hp
    exact fun C H' hC hx => hp C H' hC fun b o h1 h2 => hx b o h1 fun z => h2 ((ow b).mp z)
  | ok fw =>
    rw [hq] at hp
    cases fw with
    | bk m' => exact hp.elim
    | ct m' => exact hp.elim
    | nx m' =>
      cases hfs : finsOf 0 as m' with
      | none => simp only [bind_ok, hfs, ofO_none, bind_bad] at hp; exact hp.elim
      | some fs =>
        simp only [bind_ok, hfs, ofO_some] at hp
        intro σ' Hs' H' R' F' kp
        obtain ⟨Re, oe⟩ := env_end (n := N.length - vs.length) R hpm R' F'.same kp hfs
        exact hp .non Hs' H' Re (by rw [OV_false]; exact F0 (F'.weak oe)) .non
    | rt fr d m' =>
      cases hfs : finsOf 0 as m' with
      | none => simp only [bind_ok, hfs, ofO_none, bind_bad] at hp; exact hp.elim
      | some fs =>
        simp only [bind_ok, hfs, ofO_some] at hp
        intro v σ' Hs' H' R' F' kp r
        obtain ⟨Re, oe⟩ := env_end (n := N.length - vs.length) R hpm R' F'.same kp hfs
        refine hp v Hs' H' Re (F0 (F'.weak fun b hb => hb.imp (oe b) id)) ?_
        cases fr with
        | false => exact r
        | true =>
          obtain ⟨a, o, q1, q2, q3, q4, q5⟩ := r
          exact ⟨a, o, q1, q2, q3, q4, fun z => q5 (oe a z)⟩
end
end Rc

set_option maxRecDepth 100000
set_option maxHeartbeats 4000000
/-! From the head's facts to the law as a statement about the language. -/
namespace Rc
open PySem L2
theorem cut {a b : Prop} (h : a) (k : a → b) : b := k h
/-- which arguments may be handed over to be changed -/
def flg : List Bool → List (Bool × D) → Bool
  | [], [] => true
  | b :: bs, a :: as => (b || !a.1) && flg bs as
  | _, _ => false
def pmOf : Nat → List Bool → List Nat
  | _, [] => []
  | k, true :: r => k :: pmOf (k + 1) r
  | k, false :: r => pmOf (k + 1) r
theorem flg_len : ∀ {ms : List Bool} {as : List (Bool × D)}, flg ms as = true → as.length = ms.length
  | [], [], _ => rfl
  | _ :: _, _ :: _, h => by
    simp only [flg, Bool.and_eq_true] at h
    simp [flg_len h.2]
  | [], _ :: _, h => by simp [flg] at h
  | _ :: _, [], h => by simp [flg] at h
theorem flg_pm : ∀ {ms : List Bool} {as : List (Bool × D)} (k : Nat), flg ms as = true → ∀ i d, as[i]? = some (true, d) → k + i ∈ pmOf k ms
  | [], [], _, _, i, d, h => by simp at h
  | b :: ms, a :: as, k, h, 0, d, e => by
    simp only [flg, Bool.and_eq_true] at h
    simp at e
    subst e
    have : b = true := by simpa using h.1
    subst this
    simp [pmOf]
  | b :: ms, a :: as, k, h, i + 1, d, e => by
    simp only [flg, Bool.and_eq_true] at h
    have q := flg_pm (k + 1) h.2 i d (by simpa using e)
    rw [show k + 1 + i = k + (i + 1) by omega] at q
    cases b
    · exact q
    · exact List.mem_cons_of_mem _ q
  | [], _ :: _, _, h, _, _, _ => by simp [flg] at h
  | _ :: _, [], _, h, _, _, _ => by simp [flg] at h
/-- a def's mirror: its body -/
noncomputable def mkM (ms : List Bool) (n : Nat) (b : Ss) : MF := fun as => if flg ms as = true then runFn ⟨n, b⟩ as else .bad
theorem mir_mk {ms : List Bool} {n np : Nat} {b : Ss} : Mir n np (pmOf 0 ms) b (mkM ms n b) := fun as _ => by
  unfold mkM
  by_cases h : flg ms as = true
  · rw [if_pos h]
    refine .inr ⟨fun i d e => ?_, rfl⟩
    have := flg_pm 0 h i d e
    rwa [Nat.zero_add] at this
  · rw [if_neg h]
    exact .inl rfl
def noM : MF := fun _ => .bad
section
variable {P : Program} {w : World} {K : PySem.W.Frag} {mg : Str → Option Value} {base : Heap}
/-- a def of the text, as the top left it -/
structure Dfd (K : PySem.W.Frag) (mg : Str → Option Value) (x : Str) (st : Stmt) (ps : List Str) : Prop where
  ex : ∃ (f : Addr) (fd : FuncData), Fun K x x st f fd ∧ mg x = some (.ref f) ∧ Binds K fd ps []
theorem dfd_mk {h : Heap} (X : K.In h) (G : h.Ns mainGlobals mg) {x : Str} {st : Stmt} {ps : List Str} {f : Addr} {oc : Value} {od an : Option Addr} {osl : Array (Option Value)} {kV doc pm cdv ct : Value}
    (b : ∀ (kV doc pm : Value) (an : Option Addr) (cdv ct : Value) (us : List Value), us.length = ps.length → bindArgs (PySem.W.fnOf x x (defArgs st) (defBody st) (defScope st) .none kV doc pm an cdv ct) ⟨us, []⟩ = pure (ps.zip us))
    (a : PySem.W.nsIn K mainGlobals x = some (some (.ref f))) (l : K.lookup f = some ⟨oc, od, .func (PySem.W.fnOf x x (defArgs st) (defBody st) (defScope st) .none kV doc pm an cdv ct), osl⟩) (c : PySem.W.codeIn K cdv x = true) (k : PySem.W.keepIn K (.ref f) = true) : Dfd K mg x st ps :=
  ⟨f, _, fun_mk l c k, PySem.W.mg_of X G a, .all (b kV doc pm an cdv ct)⟩
theorem ents_nil {k : Nat} : ∀ y e, ([] : List (Str × FnE)).lookup y = some e → Ent P w K mg base k y e := fun _ _ h => by cases h
theorem ents_cons {k j : Nat} {x : Str} {e : FnE} {r : List (Str × FnE)} (h : Ent P w K mg base j x e) (l : j ≤ k) (t : ∀ y e, r.lookup y = some e → Ent P w K mg base k y e) : ∀ y e', ((x, e) :: r).lookup y = some e' → Ent P w K mg base k y e' := fun y e' q => by
  rw [List.lookup_cons] at q
  split at q
  · rename_i z
    cases q
    have := eq_of_beq z
    subst this
    exact h.mono l
  · exact t y e' q
theorem ent_ok {x : Str} {st : Stmt} {N ps : List Str} {k fuel : Nat} {ms : List Bool} {xc : List Str} {fns : List (Str × FnE)} {cns : List (Str × D)} {body : Ss}
    (Df : Dfd K mg x st ps) (S : FnScope N ps (defScope st)) (ht : trSs fuel ⟨N, defScope st, fns, cns⟩ (pmOf 0 ms) xc (defBody st) = some body)
    (hf : ∀ y e, fns.lookup y = some e → Ent P w K mg base k y e) (hg : Glob K mg cns xc) : Ent P w K mg base (k + 1) x ⟨ps.length, mkM ms N.length body, ms⟩ := by
  obtain ⟨f, fd, F, m, b⟩ := Df.ex
  exact ⟨f, fd, ps, k + 1, Nat.le_refl _, fn_ok F S ht hf hg mir_mk, m, F.kp, b⟩
/-- a def of which nothing is promised -/
theorem ent_no {x : Str} {st : Stmt} {ps : List Str} {ms : List Bool} (Df : Dfd K mg x st ps) : Ent P w K mg base 0 x ⟨ps.length, noM, ms⟩ := by
  obtain ⟨f, fd, F, m, b⟩ := Df.ex
  exact ⟨f, fd, ps, 0, Nat.le_refl _, ⟨fun vs H Q E h => h.1, fun A outer s H args us vs Q E _ _ _ _ h => by
    obtain ⟨_, _, _, _, q⟩ := h
    exact q.elim⟩, m, F.kp, b⟩
theorem glob_nil (b : ∀ x ∈ blts, mg x = none) : Glob K mg [] [] := ⟨fun _ _ h => (by cases h), b, fun _ h => (by cases h)⟩
def spLaw (K : PySem.W.Frag) : Sp := fun vs H Q _ => ∃ (a : Addr) (ns : List Int), vs = [.ref a] ∧ SqL K H a (ns.map V.int) ∧ ns.length ≤ 63 ∧ (∀ z ∈ ns, Builtin.Int.intBits z ≤ 1048576) ∧ ∀ H', Q (.bl true) H'
/-- the law, as a statement about the language -/
def Says (f : MF) : Prop := ∀ ns : List Int, ns.length ≤ 63 → (∀ z ∈ ns, Builtin.Int.intBits z ≤ 1048576) → ∃ r, f [(false, scrD ns)] = .ok (false, .bool true, r)
/-- the law's own def -/
theorem law_at {x : Str} {st : Stmt} {N : List Str} {p : Str} {k fuel : Nat} {ms : List Bool} {xc : List Str} {fns : List (Str × FnE)} {cns : List (Str × D)} {body : Ss} {f fa : Addr} {fd : FuncData}
    (F : Fun K x x st f fd) (hfa : mg x = some (.ref fa)) (hf' : mg x = some (.ref f)) (S : FnScope N [p] (defScope st)) (ht : trSs fuel ⟨N, defScope st, fns, cns⟩ (pmOf 0 ms) xc (defBody st) = some body)
    (hf : ∀ y e, fns.lookup y = some e → Ent P w K mg base k y e) (hg : Glob K mg cns xc) (s : Says (mkM ms N.length body)) : FnOk P w K mg base (L2.CX P w) (k + 1) fa fd [p] (spLaw K) := by
  rw [hfa] at hf'
  cases hf'
  have q := fn_ok (P := P) (w := w) (base := base) F S ht hf hg mir_mk
  refine q.imp fun vs H Q E h => ?_
  obtain ⟨a, ns, rfl, h1, h2, h3, h4⟩ := h
  obtain ⟨r, hr⟩ := s ns h2 h3
  have sc : Rp K H (.ref a) (scrD ns) := .scr h1 rfl
  refine ⟨rfl, H, [(false, scrD ns)], ⟨Same.refl _, rfl, fun i d g => ?_, fun i d g => ?_, fun i j d e b g => ?_⟩, ?_⟩
  · match i, g with
    | 0, g => cases g; exact ⟨_, rfl, sc⟩
  · match i, g with
    | 0, g => cases g
  · match i, g with
    | 0, g => cases g
  · rw [hr]
    intro v Hs' H' _ _ rv
    have rv : Rp K Hs' v (.bool true) := rv
    cases rv with
    | bl => exact h4 _
    | scr _ e => cases e
end
end Rc

set_option maxRecDepth 100000
set_option maxHeartbeats 4000000
/-! Reading the language: equations for simp, rules for loops. -/
namespace Rc
open PySem
/-- what follows, held as an instance, so that simp does not look into it ahead of time -/
class Kt (α β : Type) where
  r : α → Res β
def lb {α β : Type} (a : Res α) [f : Kt α β] : Res β := a.bind f.r
@[simp] theorem lb_ok {α β : Type} (a : α) (f : α → Res β) : @lb α β (.ok a) ⟨f⟩ = f a := rfl
@[simp] theorem lb_exc {α β : Type} (x : Str) (f : α → Res β) : @lb α β (.exc x) ⟨f⟩ = .exc x := rfl
@[simp] theorem lb_bad {α β : Type} (f : α → Res β) : @lb α β .bad ⟨f⟩ = .bad := rfl
theorem lb_eq {α β : Type} (a : Res α) (f : α → Res β) : @lb α β a ⟨f⟩ = a.bind f := rfl
section
variable {m : Env} {i : Nat}
@[simp] theorem geti_z (x : Option (Bool × D)) : geti (x :: m) 0 = x := rfl
@[simp] theorem geti_s (x : Option (Bool × D)) : geti (x :: m) (i + 1) = geti m i := rfl
@[simp] theorem geti_n : geti [] i = none := by cases i <;> rfl
@[simp] theorem x_var : ev (.var i) m = (match geti m i with | some (_, d) => .ok ((false, d), m) | none => .bad) := by first | (rw [ev]; rfl) | rw [ev]
@[simp] theorem x_con (d : D) : ev (.con d) m = .ok ((false, d), m) := by rw [ev]
@[simp] theorem x_bin (o : Bop) (a b : E) : ev (.bin o a b) m = @lb _ _ (ev a m) ⟨fun p => @lb _ _ (ev b p.2) ⟨fun q => @lb _ _ (Res.ofO ((rd a p.1.2 q.2).bind fun x => (rd b q.1.2 q.2).bind fun y => bop o x y)) ⟨fun r => .ok (r, q.2)⟩⟩⟩:= by first | (rw [ev]; rfl) | rw [ev]
@[simp] theorem x_neg (a : E) : ev (.neg a) m = @lb _ _ (ev a m) ⟨fun p => match p.1.2 with | .int i => .ok ((false, .int (-i)), p.2) | _ => .bad⟩:= by first | (rw [ev]; rfl) | rw [ev]
@[simp] theorem x_nt (a : E) : ev (.nt a) m = @lb _ _ (ev a m) ⟨fun p => match p.1.2 with | .bool b => .ok ((false, .bool (!b)), p.2) | _ => .bad⟩:= by first | (rw [ev]; rfl) | rw [ev]
@[simp] theorem x_and (a b : E) : ev (.and a b) m = @lb _ _ (ev a m) ⟨fun p => match p.1.2 with | .bool true => (@lb _ _ (ev b p.2) ⟨fun q => match q.1.2 with | .bool c => .ok ((false, .bool c), q.2) | _ => .bad⟩) | .bool false => .ok ((false, .bool false), p.2) | _ => .bad⟩:= by first | (rw [ev]; rfl) | rw [ev]
@[simp] theorem x_or (a b : E) : ev (.or a b) m = @lb _ _ (ev a m) ⟨fun p => match p.1.2 with | .bool false => (@lb _ _ (ev b p.2) ⟨fun q => match q.1.2 with | .bool c => .ok ((false, .bool c), q.2) | _ => .bad⟩) | .bool true => .ok ((false, .bool true), p.2) | _ => .bad⟩:= by first | (rw [ev]; rfl) | rw [ev]
@[simp] theorem x_cmp (o : Cop) (a b : E) : ev (.cmp o a b) m = @lb _ _ (ev a m) ⟨fun p => @lb _ _ (ev b p.2) ⟨fun q => @lb _ _ (Res.ofO ((rd a p.1.2 q.2).bind fun x => (rd b q.1.2 q.2).bind fun y => cop o x y)) ⟨fun r => .ok ((false, .bool r), q.2)⟩⟩⟩:= by first | (rw [ev]; rfl) | rw [ev]
@[simp] theorem x_chn (o o' : Cop) (a b c : E) : ev (.chn o o' a b c) m = @lb _ _ (ev a m) ⟨fun p => @lb _ _ (ev b p.2) ⟨fun q => @lb _ _ (Res.ofO ((rd a p.1.2 q.2).bind fun x => (rd b q.1.2 q.2).bind fun y => cop o x y)) ⟨fun r =>
      if r = true then @lb _ _ (ev c q.2) ⟨fun t => @lb _ _ (Res.ofO ((rd b q.1.2 t.2).bind fun x => (rd c t.1.2 t.2).bind fun y => cop o' x y)) ⟨fun r' => .ok ((false, .bool r'), t.2)⟩⟩ else .ok ((false, .bool false), q.2)⟩⟩⟩:= by first | (rw [ev]; rfl) | rw [ev]
@[simp] theorem x_ite (c a b : E) : ev (.ite c a b) m = @lb _ _ (ev c m) ⟨fun p => match p.1.2 with
      | .bool true => (@lb _ _ (ev a p.2) ⟨fun q => .ok ((false, q.1.2), tkm a q.2)⟩)
      | .bool false => (@lb _ _ (ev b p.2) ⟨fun q => .ok ((false, q.1.2), tkm b q.2)⟩)
      | _ => .bad⟩:= by first | (rw [ev]; rfl) | rw [ev]
@[simp] theorem x_tup (es : Es) : ev (.tup es) m = @lb _ _ (evs es m) ⟨fun p => if lenOk p.1.length then .ok ((false, .tuple p.1), p.2) else .bad⟩:= by first | (rw [ev]; rfl) | rw [ev]
@[simp] theorem x_lst (es : Es) : ev (.lst es) m = @lb _ _ (evs es m) ⟨fun p => if lenOk p.1.length then .ok ((true, .list p.1), p.2) else .bad⟩:= by first | (rw [ev]; rfl) | rw [ev]
@[simp] theorem x_dct : ev .dct m = .ok ((true, .dict []), m) := by rw [ev]
@[simp] theorem x_idx (a b : E) : ev (.idx a b) m = @lb _ _ (ev a m) ⟨fun p => @lb _ _ (ev b p.2) ⟨fun q => @lb _ _ (Res.ofO ((rd a p.1.2 q.2).bind fun x => (rd b q.1.2 q.2).bind fun y => idxF x y)) ⟨fun r => .ok ((false, r), q.2)⟩⟩⟩:= by first | (rw [ev]; rfl) | rw [ev]
@[simp] theorem x_slc (a l h : E) : ev (.slc a l h) m = @lb _ _ (ev a m) ⟨fun p => @lb _ _ (ev l p.2) ⟨fun q => @lb _ _ (Res.ofO (partI l q.1.2)) ⟨fun lo => @lb _ _ (ev h q.2) ⟨fun t => @lb _ _ (Res.ofO (partI h t.1.2)) ⟨fun hi =>
      @lb _ _ (Res.ofO ((rd a p.1.2 t.2).bind fun x => slcF x lo hi)) ⟨fun r => .ok (r, t.2)⟩⟩⟩⟩⟩⟩:= by first | (rw [ev]; rfl) | rw [ev]
@[simp] theorem x_rvs (a : E) : ev (.rvs a) m = @lb _ _ (ev a m) ⟨fun p => @lb _ _ (Res.ofO (rvsF p.1.2)) ⟨fun r => .ok (r, p.2)⟩⟩:= by first | (rw [ev]; rfl) | rw [ev]
@[simp] theorem x_call (f : MF) (ms : List Bool) (es : Es) : ev (.call f ms es) m = @lb _ _ (evA ms es m) ⟨fun p => match fetch p.1 p.2 with
      | some (as, m1) => @lb _ _ (f as) ⟨fun r => if r.2.2.length = as.length then .ok ((r.1, r.2.1), back p.1 as r.2.2 m1) else .bad⟩
      | none => .bad⟩:= by first | (rw [ev]; rfl) | rw [ev]
@[simp] theorem x_blt (b : Blt) (es : Es) : ev (.blt b es) m = @lb _ _ (evO es m) ⟨fun p => @lb _ _ (Res.ofO ((rds p.1 p.2).bind fun xs => bltF b xs)) ⟨fun r => .ok (r, p.2)⟩⟩:= by first | (rw [ev]; rfl) | rw [ev]
@[simp] theorem x_isi (a : E) (ts : List String) : ev (.isi a ts) m = @lb _ _ (ev a m) ⟨fun p => @lb _ _ (Res.ofO ((rd a p.1.2 p.2).bind fun x => isiD x ts)) ⟨fun b => .ok ((false, .bool b), p.2)⟩⟩:= by first | (rw [ev]; rfl) | rw [ev]
@[simp] theorem x_evs0 : evs .nil m = .ok ([], m) := by rw [evs]
@[simp] theorem x_evs1 (e : E) (es : Es) : evs (.cons e es) m = @lb _ _ (ev e m) ⟨fun p => @lb _ _ (evs es (tkm e p.2)) ⟨fun q => .ok (p.1.2 :: q.1, q.2)⟩⟩:= by first | (rw [evs]; rfl) | rw [evs]
@[simp] theorem x_evO0 : evO .nil m = .ok ([], m) := by rw [evO]
@[simp] theorem x_evO1 (e : E) (es : Es) : evO (.cons e es) m = @lb _ _ (ev e m) ⟨fun p => @lb _ _ (evO es p.2) ⟨fun q => .ok ((e, p.1.2) :: q.1, q.2)⟩⟩:= by first | (rw [evO]; rfl) | rw [evO]
@[simp] theorem x_evA0 (ms : List Bool) : evA ms .nil m = .ok ([], m) := by rw [evA]
@[simp] theorem x_evA1 (ms : List Bool) (e : E) (es : Es) : evA ms (.cons e es) m = @lb _ _ (ev e m) ⟨fun p => match e, ms with
      | .var i, true :: ms' => @lb _ _ (evA ms' es p.2) ⟨fun q => .ok (.inl i :: q.1, q.2)⟩
      | _, _ => @lb _ _ (evA ms.tail es (tkm e p.2)) ⟨fun q => .ok (.inr p.1.2 :: q.1, q.2)⟩⟩:= by first | (rw [evA]; rfl) | rw [evA]
@[simp] theorem x_sq (e : E) : evI (.sq e) m = @lb _ _ (ev e m) ⟨fun p => @lb _ _ (Res.ofO (seqD p.1.2)) ⟨fun xs => .ok (xs, srcsOf e p.1.2 p.2, p.2)⟩⟩:= by first | (rw [evI]; rfl) | rw [evI]
@[simp] theorem x_rg (a : E) : evI (.rg a) m = @lb _ _ (ev a m) ⟨fun p => match p.1.2 with
      | .int j => if smallI j then .ok (rngD 0 j, [], p.2) else .bad
      | _ => .bad⟩:= by first | (rw [evI]; rfl) | rw [evI]
@[simp] theorem x_rg2 (a b : E) : evI (.rg2 a b) m = @lb _ _ (ev a m) ⟨fun p => @lb _ _ (ev b p.2) ⟨fun q => match p.1.2, q.1.2 with
      | .int i, .int j => if smallI i ∧ smallI j then .ok (rngD i j, [], q.2) else .bad
      | _, _ => .bad⟩⟩:= by first | (rw [evI]; rfl) | rw [evI]
@[simp] theorem x_zp (a b : E) : evI (.zp a b) m = @lb _ _ (ev a m) ⟨fun p => @lb _ _ (ev b p.2) ⟨fun q =>
    @lb _ _ (Res.ofO (rd a p.1.2 q.2)) ⟨fun x => @lb _ _ (Res.ofO (rd b q.1.2 q.2)) ⟨fun y =>
      if isL x = isL y then @lb _ _ (Res.ofO (seqD x)) ⟨fun xs => @lb _ _ (Res.ofO (seqD y)) ⟨fun ys => .ok (List.zipWith (fun u v => .tuple [u, v]) xs ys, srcsOf a x q.2 ++ srcsOf b y q.2, q.2)⟩⟩ else .bad⟩⟩⟩⟩:= by first | (rw [evI]; rfl) | rw [evI]
@[simp] theorem x_en (a : E) : evI (.en a) m = @lb _ _ (ev a m) ⟨fun p => if isL p.1.2 = true then @lb _ _ (Res.ofO (seqD p.1.2)) ⟨fun xs => .ok ((List.range xs.length).zipWith (fun (k : Nat) v => .tuple [.int k, v]) xs, srcsOf a p.1.2 p.2, p.2)⟩ else .bad⟩:= by first | (rw [evI]; rfl) | rw [evI]
@[simp] theorem x_rv (a : E) : evI (.rv a) m = @lb _ _ (ev a m) ⟨fun p => @lb _ _ (Res.ofO (seqD p.1.2)) ⟨fun xs => .ok (xs.reverse, srcsOf a p.1.2 p.2, p.2)⟩⟩:= by first | (rw [evI]; rfl) | rw [evI]
@[simp] theorem x_asg (i : Nat) (e : E) : exS (.asg i e) m = @lb _ _ (ev e m) ⟨fun p => .ok (.nx ((tkm e p.2).set i (some (takeV e p.1))))⟩:= by first | (rw [exS]; rfl) | rw [exS]
@[simp] theorem x_unp (g : List Nat) (e : E) : exS (.unp g e) m = @lb _ _ (ev e m) ⟨fun p => @lb _ _ (Res.ofO (bindT g p.1.2 (tkm e p.2))) ⟨fun m1 => .ok (.nx m1)⟩⟩:= by first | (rw [exS]; rfl) | rw [exS]
@[simp] theorem x_par (g : List Nat) (es : Es) : exS (.par g es) m = @lb _ _ (evs es m) ⟨fun p => if p.1.length = g.length then .ok (.nx ((g.zip p.1).foldl (fun m q => m.set q.1 (some (false, q.2))) p.2)) else .bad⟩:= by first | (rw [exS]; rfl) | rw [exS]
@[simp] theorem x_sti (i : Nat) (x e : E) : exS (.sti i x e) m = @lb _ _ (ev e m) ⟨fun p => (match geti (tkm e p.2) i with
      | some (true, _) => @lb _ _ (ev x (tkm e p.2)) ⟨fun q => (match geti q.2 i with
        | some (true, d) => @lb _ _ (Res.ofO ((rd x q.1.2 q.2).bind fun k => stiF d k p.1.2)) ⟨fun d' => .ok (.nx (q.2.set i (some (true, d'))))⟩
        | _ => .bad)⟩
      | _ => .bad)⟩:= by first | (rw [exS]; rfl) | rw [exS]
@[simp] theorem x_mth (i : Nat) (k : Mth) (es : Es) : exS (.mth i k es) m = (match geti m i with
      | some (true, .list _) => @lb _ _ (evs es m) ⟨fun p => (match geti p.2 i with
        | some (true, d) => @lb _ _ (Res.ofO (mthF k d p.1)) ⟨fun d' => .ok (.nx (p.2.set i (some (true, d'))))⟩
        | _ => .bad)⟩
      | _ => .bad) := by first | (rw [exS]; rfl) | rw [exS]
@[simp] theorem x_exp (e : E) : exS (.exp e) m = @lb _ _ (ev e m) ⟨fun p => .ok (.nx p.2)⟩:= by first | (rw [exS]; rfl) | rw [exS]
@[simp] theorem x_ret (e : E) : exS (.ret e) m = @lb _ _ (ev e m) ⟨fun p => .ok (.rt (takeV e p.1).1 p.1.2 (tkm e p.2))⟩:= by first | (rw [exS]; rfl) | rw [exS]
@[simp] theorem x_retv (i : Nat) : exS (.retv i) m = (match geti m i with
      | some (f, d) => .ok (.rt f d (m.set i none))
      | none => .bad) := by first | (rw [exS]; rfl) | rw [exS]
@[simp] theorem x_retn : exS .retn m = .ok (.rt false .none m) := by rw [exS]
@[simp] theorem x_sif (c : E) (a b : Ss) : exS (.sif c a b) m = @lb _ _ (evC c m) ⟨fun p => if p.1 = true then exSs a p.2 else exSs b p.2⟩:= by first | (rw [exS]; rfl) | rw [exS]
theorem x_sfor (g : List Nat) (it : It) (b : Ss) : exS (.sfor g it b) m = @lb _ _ (evI it m) ⟨fun p => forL p.2.1 g (exSs b) p.1 p.2.2⟩:= by first | (rw [exS]; rfl) | rw [exS]
theorem x_whl (c : E) (b : Ss) : exS (.whl c b) m = wh (evC c) (exSs b) m := by rw [exS]
@[simp] theorem x_rais (x : Str) : exS (.rais x) m = .exc x := by rw [exS]
@[simp] theorem x_brk : exS .brk m = .ok (.bk m) := by rw [exS]
@[simp] theorem x_cnt : exS .cnt m = .ok (.ct m) := by rw [exS]
@[simp] theorem x_pass : exS .pass m = .ok (.nx m) := by rw [exS]
@[simp] theorem x_ss0 : exSs .nil m = .ok (.nx m) := by rw [exSs]
theorem x_ss1 (s : S) (ss : Ss) : exSs (.cons s ss) m = @lb _ _ (exS s m) ⟨fun f => match f with
      | .nx m1 => exSs ss m1
      | .rt fr d m1 => .ok (.rt fr d m1)
      | .bk m1 => .ok (.bk m1)
      | .ct m1 => .ok (.ct m1)⟩:= by first | (rw [exSs]; rfl) | rw [exSs]
@[simp] theorem x_evC (c : E) : evC c m = @lb _ _ (ev c m) ⟨fun q => match q.1.2 with | .bool b => .ok (b, q.2) | _ => .bad⟩ := rfl
@[simp] theorem vr_var : E.vr (.var i) = some i := rfl
@[simp] theorem tkm_var : tkm (.var i) m = leak m i := rfl
@[simp] theorem takeV_var (p : Bool × D) : takeV (.var i) p = (false, p.2) := rfl
end
/-! ### operations -/
section
variable (i j : Int) (xs ys : List D) (x y : D) (a b : Bool) (s t : Str)
@[simp] theorem b_add : bop .add (.int i) (.int j) = some (false, .int (i + j)) := rfl
@[simp] theorem b_addL : bop .add (.list xs) (.list ys) = if lenOk (xs.length + ys.length) then some (true, .list (xs ++ ys)) else none := rfl
@[simp] theorem b_addT : bop .add (.tuple xs) (.tuple ys) = if xs ≠ [] ∧ lenOk (xs.length + ys.length) then some (false, .tuple (xs ++ ys)) else none := rfl
@[simp] theorem b_sub : bop .sub (.int i) (.int j) = some (false, .int (i - j)) := rfl
@[simp] theorem b_mul : bop .mul (.int i) (.int j) = if mulOk i j then some (false, .int (i * j)) else none := rfl
@[simp] theorem b_mulL : bop .mul (.list xs) (.int i) = if i < 2 ^ 63 ∧ -(2 ^ 63) ≤ i ∧ lenOk (xs.length * i.toNat) then some (true, .list (List.replicate i.toNat xs).flatten) else none := rfl
@[simp] theorem b_fdiv : bop .fdiv (.int i) (.int j) = if divOk j then some (false, .int (i.fdiv j)) else none := rfl
@[simp] theorem b_mod : bop .mod (.int i) (.int j) = if j ≠ 0 then some (false, .int (i.fmod j)) else none := rfl
@[simp] theorem b_pow : bop .pow (.int i) (.int j) = if 0 ≤ j ∧ j ≤ 1000000 ∧ i.natAbs < 2 ^ 64 then some (false, .int (i ^ j.toNat)) else none := rfl
@[simp] theorem c_lt : cop .lt (.int i) (.int j) = some (decide (i < j)) := rfl
@[simp] theorem c_le : cop .le (.int i) (.int j) = some (decide (i ≤ j)) := rfl
@[simp] theorem c_gt : cop .gt (.int i) (.int j) = some (decide (j < i)) := rfl
@[simp] theorem c_ge : cop .ge (.int i) (.int j) = some (decide (j ≤ i)) := rfl
@[simp] theorem sh_int : SeqAt.shaped (.int i) = true := by simp [SeqAt.shaped, PyData.canLay0, PyData.depth]
@[simp] theorem c_eqI : cop .eq (.int i) (.int j) = some (decide (i = j)) := by
  show (if SeqAt.shaped (.int i) = true ∧ SeqAt.shaped (.int j) = true then some (PyData.eqv (.int i) (.int j)) else none) = _
  rw [if_pos ⟨sh_int i, sh_int j⟩]
  simp [PyData.eqv]
  rfl
@[simp] theorem c_neI : cop .ne (.int i) (.int j) = some (decide (i ≠ j)) := by
  show (if SeqAt.shaped (.int i) = true ∧ SeqAt.shaped (.int j) = true then some (!PyData.eqv (.int i) (.int j)) else none) = _
  rw [if_pos ⟨sh_int i, sh_int j⟩]
  simp [PyData.eqv]
  rfl
@[simp] theorem c_isB : cop .is (.bool a) (.bool b) = some (a == b) := rfl
@[simp] theorem c_isnotB : cop .isnot (.bool a) (.bool b) = some (!(a == b)) := rfl
@[simp] theorem i_list : idxF (.list xs) (.int i) = L2.atI xs i := rfl
@[simp] theorem i_tup : idxF (.tuple xs) (.int i) = L2.atI xs i := rfl
@[simp] theorem l_list : bltF .len [.list xs] = some (false, .int xs.length) := rfl
@[simp] theorem l_tup : bltF .len [.tuple xs] = some (false, .int xs.length) := rfl
@[simp] theorem l_scr (ns : List Int) : bltF .len [scrD ns] = some (false, .int ns.length) := by
  show some (false, PyData.int ((ns.map PyData.int).length : Int)) = _
  rw [List.length_map]
@[simp] theorem l_abs : bltF .abs [.int i] = some (false, .int (if i < 0 then -i else i)) := rfl
@[simp] theorem l_all : bltF .all [.list xs] = (allB xs).map fun b => (false, .bool b) := rfl
@[simp] theorem l_any : bltF .any [.list xs] = (anyB xs).map fun b => (false, .bool b) := rfl
@[simp] theorem l_max2 : bltF .max2 [.int i, .int j] = some (false, .int (if j > i then j else i)) := rfl
@[simp] theorem l_min2 : bltF .min2 [.int i, .int j] = some (false, .int (if j < i then j else i)) := rfl
@[simp] theorem l_max1 : bltF .max1 [.list xs] = (intsOf xs).bind fun ns => (maxL ns).map fun i => (false, .int i) := rfl
@[simp] theorem l_min1 : bltF .min1 [.list xs] = (intsOf xs).bind fun ns => (minL ns).map fun i => (false, .int i) := rfl
@[simp] theorem l_tupL : bltF .tuple [.list xs] = some (false, .tuple xs) := rfl
@[simp] theorem l_tupT : bltF .tuple [.tuple xs] = some (false, .tuple xs) := rfl
@[simp] theorem l_listL : bltF .list [.list xs] = some (true, .list xs) := rfl
@[simp] theorem l_listT : bltF .list [.tuple xs] = some (true, .list xs) := rfl
@[simp] theorem a_zero : L2.atI (x :: xs) 0 = some x := by simp [L2.atI, L2.ixN]
@[simp] theorem a_one : L2.atI (x :: y :: xs) 1 = some y := by
  have : (1 : Int) < (xs.length : Int) + 1 + 1 := by omega
  simp [L2.atI, L2.ixN, this]
@[simp] theorem a_two (z : D) : L2.atI (x :: y :: z :: xs) 2 = some z := by
  have : (2 : Int) < (xs.length : Int) + 1 + 1 + 1 := by omega
  simp [L2.atI, L2.ixN, this]
@[simp] theorem r_con (d d' : D) (m : Env) : rd (.con d) d' m = some d' := rfl
@[simp] theorem r_bin (o : Bop) (p q : E) (d : D) (m : Env) : rd (.bin o p q) d m = some d := rfl
@[simp] theorem r_neg (p : E) (d : D) (m : Env) : rd (.neg p) d m = some d := rfl
@[simp] theorem r_nt (p : E) (d : D) (m : Env) : rd (.nt p) d m = some d := rfl
@[simp] theorem r_and (p q : E) (d : D) (m : Env) : rd (.and p q) d m = some d := rfl
@[simp] theorem r_or (p q : E) (d : D) (m : Env) : rd (.or p q) d m = some d := rfl
@[simp] theorem r_cmp (o : Cop) (p q : E) (d : D) (m : Env) : rd (.cmp o p q) d m = some d := rfl
@[simp] theorem r_chn (o o' : Cop) (p q u : E) (d : D) (m : Env) : rd (.chn o o' p q u) d m = some d := rfl
@[simp] theorem r_ite (p q u : E) (d : D) (m : Env) : rd (.ite p q u) d m = some d := rfl
@[simp] theorem r_tup (es : Es) (d : D) (m : Env) : rd (.tup es) d m = some d := rfl
@[simp] theorem r_lst (es : Es) (d : D) (m : Env) : rd (.lst es) d m = some d := rfl
@[simp] theorem r_dct (d : D) (m : Env) : rd .dct d m = some d := rfl
@[simp] theorem r_idx (p q : E) (d : D) (m : Env) : rd (.idx p q) d m = some d := rfl
@[simp] theorem r_slc (p q u : E) (d : D) (m : Env) : rd (.slc p q u) d m = some d := rfl
@[simp] theorem r_rvs (p : E) (d : D) (m : Env) : rd (.rvs p) d m = some d := rfl
@[simp] theorem r_call (f : MF) (ms : List Bool) (es : Es) (d : D) (m : Env) : rd (.call f ms es) d m = some d := rfl
@[simp] theorem r_blt (o : Blt) (es : Es) (d : D) (m : Env) : rd (.blt o es) d m = some d := rfl
@[simp] theorem r_isi (p : E) (ts : List String) (d : D) (m : Env) : rd (.isi p ts) d m = some d := rfl
@[simp] theorem r_lc (p c : E) (g own : List Nat) (it : It) (d : D) (m : Env) : rd (.lc p g it c own) d m = some d := rfl
@[simp] theorem r_s0 (m : Env) : rds [] m = some [] := rfl
@[simp] theorem r_s1 (e : E) (d : D) (r : List (E × D)) (m : Env) : rds ((e, d) :: r) m = (rd e d m).bind fun x => (rds r m).map (x :: ·) := rfl
@[simp] theorem tkt_con (d : D) (m : Env) : tkm (.con d) m = m := rfl
@[simp] theorem tkt_bin (o : Bop) (p q : E) (m : Env) : tkm (.bin o p q) m = m := rfl
@[simp] theorem tkt_neg (p : E) (m : Env) : tkm (.neg p) m = m := rfl
@[simp] theorem tkt_nt (p : E) (m : Env) : tkm (.nt p) m = m := rfl
@[simp] theorem tkt_and (p q : E) (m : Env) : tkm (.and p q) m = m := rfl
@[simp] theorem tkt_or (p q : E) (m : Env) : tkm (.or p q) m = m := rfl
@[simp] theorem tkt_cmp (o : Cop) (p q : E) (m : Env) : tkm (.cmp o p q) m = m := rfl
@[simp] theorem tkt_chn (o o' : Cop) (p q u : E) (m : Env) : tkm (.chn o o' p q u) m = m := rfl
@[simp] theorem tkt_ite (p q u : E) (m : Env) : tkm (.ite p q u) m = m := rfl
@[simp] theorem tkt_tup (es : Es) (m : Env) : tkm (.tup es) m = m := rfl
@[simp] theorem tkt_lst (es : Es) (m : Env) : tkm (.lst es) m = m := rfl
@[simp] theorem tkt_dct (m : Env) : tkm .dct m = m := rfl
@[simp] theorem tkt_idx (p q : E) (m : Env) : tkm (.idx p q) m = m := rfl
@[simp] theorem tkt_slc (p q u : E) (m : Env) : tkm (.slc p q u) m = m := rfl
@[simp] theorem tkt_rvs (p : E) (m : Env) : tkm (.rvs p) m = m := rfl
@[simp] theorem tkt_call (f : MF) (ms : List Bool) (es : Es) (m : Env) : tkm (.call f ms es) m = m := rfl
@[simp] theorem tkt_blt (o : Blt) (es : Es) (m : Env) : tkm (.blt o es) m = m := rfl
@[simp] theorem tkt_isi (p : E) (ts : List String) (m : Env) : tkm (.isi p ts) m = m := rfl
@[simp] theorem tkt_lc (p c : E) (g own : List Nat) (it : It) (m : Env) : tkm (.lc p g it c own) m = m := rfl
@[simp] theorem v_con (d : D) (p : Bool × D) : takeV (.con d) p = p := rfl
@[simp] theorem v_bin (o : Bop) (u q : E) (p : Bool × D) : takeV (.bin o u q) p = p := rfl
@[simp] theorem v_neg (u : E) (p : Bool × D) : takeV (.neg u) p = p := rfl
@[simp] theorem v_nt (u : E) (p : Bool × D) : takeV (.nt u) p = p := rfl
@[simp] theorem v_and (u q : E) (p : Bool × D) : takeV (.and u q) p = p := rfl
@[simp] theorem v_or (u q : E) (p : Bool × D) : takeV (.or u q) p = p := rfl
@[simp] theorem v_cmp (o : Cop) (u q : E) (p : Bool × D) : takeV (.cmp o u q) p = p := rfl
@[simp] theorem v_chn (o o' : Cop) (u q r : E) (p : Bool × D) : takeV (.chn o o' u q r) p = p := rfl
@[simp] theorem v_ite (u q r : E) (p : Bool × D) : takeV (.ite u q r) p = p := rfl
@[simp] theorem v_tup (es : Es) (p : Bool × D) : takeV (.tup es) p = p := rfl
@[simp] theorem v_lst (es : Es) (p : Bool × D) : takeV (.lst es) p = p := rfl
@[simp] theorem v_dct (p : Bool × D) : takeV .dct p = p := rfl
@[simp] theorem v_idx (u q : E) (p : Bool × D) : takeV (.idx u q) p = p := rfl
@[simp] theorem v_slc (u q r : E) (p : Bool × D) : takeV (.slc u q r) p = p := rfl
@[simp] theorem v_rvs (u : E) (p : Bool × D) : takeV (.rvs u) p = p := rfl
@[simp] theorem v_call (f : MF) (ms : List Bool) (es : Es) (p : Bool × D) : takeV (.call f ms es) p = p := rfl
@[simp] theorem v_blt (o : Blt) (es : Es) (p : Bool × D) : takeV (.blt o es) p = p := rfl
@[simp] theorem v_isi (u : E) (ts : List String) (p : Bool × D) : takeV (.isi u ts) p = p := rfl
@[simp] theorem v_lc (u c : E) (g own : List Nat) (it : It) (p : Bool × D) : takeV (.lc u g it c own) p = p := rfl
theorem lk_none {m : Env} {k : Nat} (h : geti m k = none) : leak m k = m := by unfold leak; rw [h]
theorem lk_f {m : Env} {k : Nat} {d : D} (h : geti m k = some (false, d)) : leak m k = m := by unfold leak; rw [h]
@[simp] theorem lk_n (k : Nat) : leak [] k = [] := by simp [leak]
@[simp] theorem lk_zT (d : D) (m : Env) : leak (some (true, d) :: m) 0 = some (false, d) :: m := rfl
@[simp] theorem lk_zF (d : D) (m : Env) : leak (some (false, d) :: m) 0 = some (false, d) :: m := rfl
@[simp] theorem lk_zN (m : Env) : leak (none :: m) 0 = none :: m := rfl
@[simp] theorem lk_s (p : Option (Bool × D)) (m : Env) (k : Nat) : leak (p :: m) (k + 1) = p :: leak m k := by
  unfold leak
  rw [geti_s]
  split <;> rfl
@[simp] theorem f_none (m : Env) : fetch [] m = some ([], m) := rfl
@[simp] theorem f_inr (d : D) (r : List Arg) (m : Env) : fetch (.inr d :: r) m = (fetch r m).map fun (as, m') => ((false, d) :: as, m') := rfl
@[simp] theorem f_inl (k : Nat) (r : List Arg) (m : Env) : fetch (.inl k :: r) m = (match geti m k with
    | some (true, d) => (fetch r (m.set k none)).map fun (as, m') => ((true, d) :: as, m')
    | some (false, d) => (fetch r m).map fun (as, m') => ((false, d) :: as, m')
    | none => none) := by first | (rw [fetch]; rfl) | rw [fetch]
@[simp] theorem k_none (as fs : List (Bool × D)) (m : Env) : back [] as fs m = m := by
  unfold back
  rfl
@[simp] theorem k_inlT (k : Nat) (d : D) (f : Bool × D) (r : List Arg) (as fs : List (Bool × D)) (m : Env) : back (.inl k :: r) ((true, d) :: as) (f :: fs) m = (back r as fs m).set k (some f) := rfl
@[simp] theorem k_inlF (k : Nat) (d : D) (f : Bool × D) (r : List Arg) (as fs : List (Bool × D)) (m : Env) : back (.inl k :: r) ((false, d) :: as) (f :: fs) m = back r as fs m := rfl
@[simp] theorem k_inr (d : D) (p f : Bool × D) (r : List Arg) (as fs : List (Bool × D)) (m : Env) : back (.inr d :: r) (p :: as) (f :: fs) m = back r as fs m := by
  obtain ⟨b, x⟩ := p
  cases b <;> rfl
@[simp] theorem fi_n (k : Nat) (m : Env) : finsOf k [] m = some [] := rfl
@[simp] theorem fi_f (k : Nat) (d : D) (r : List (Bool × D)) (m : Env) : finsOf k ((false, d) :: r) m = (finsOf (k + 1) r m).map ((false, d) :: ·) := rfl
@[simp] theorem fi_t (k : Nat) (d : D) (r : List (Bool × D)) (m : Env) : finsOf k ((true, d) :: r) m = (geti m k).bind fun p => (finsOf (k + 1) r m).map (p :: ·) := rfl
end
/-- a call, read: its arguments are as its mode asks -/
theorem run_of {ms : List Bool} {n : Nat} {b : Ss} {as : List (Bool × D)} (h : flg ms as = true) : mkM ms n b as = runFn ⟨n, b⟩ as := if_pos h
theorem run_rt {n : Nat} {b : Ss} {as fs : List (Bool × D)} {fr : Bool} {d : D} {m : Env} (h : exSs b (as.map some ++ List.replicate (n - as.length) none) = .ok (.rt fr d m)) (hf : finsOf 0 as m = some fs) : runFn ⟨n, b⟩ as = .ok (fr, d, fs) := by
  unfold runFn
  rw [h]
  show (Res.ofO (finsOf 0 as m)).bind _ = _
  rw [hf]
  rfl
/-! ### rules -/
def Wp {α : Type} (r : Res α) (Q : α → Prop) : Prop := ∃ a, r = .ok a ∧ Q a
theorem Wp.ok {α : Type} {a : α} {Q : α → Prop} (h : Q a) : Wp (.ok a) Q := ⟨a, rfl, h⟩
theorem Wp.imp {α : Type} {r : Res α} {Q Q' : α → Prop} (h : Wp r Q) (i : ∀ a, Q a → Q' a) : Wp r Q' := by
  obtain ⟨a, e, q⟩ := h
  exact ⟨a, e, i a q⟩
theorem Wp.bind {α β : Type} {r : Res α} {f : α → Res β} {Q : β → Prop} (h : Wp r fun a => Wp (f a) Q) : Wp (r.bind f) Q := by
  obtain ⟨a, e, b, e2, q⟩ := h
  exact ⟨b, by rw [e, bind_ok, e2], q⟩
/-- behind a statement -/
theorem Wp.seq {s : S} {ss : Ss} {m : Env} {Q : Fw → Prop} (h : Wp (exS s m) fun f => match f with
      | .nx m1 => Wp (exSs ss m1) Q
      | .rt fr d m1 => Q (.rt fr d m1)
      | .bk m1 => Q (.bk m1)
      | .ct m1 => Q (.ct m1)) : Wp (exSs (.cons s ss) m) Q := by
  obtain ⟨f, e, q⟩ := h
  unfold Wp
  rw [x_ss1, e, lb_ok]
  cases f with
  | nx m1 => exact q
  | rt fr d m1 => exact ⟨_, rfl, q⟩
  | bk m1 => exact ⟨_, rfl, q⟩
  | ct m1 => exact ⟨_, rfl, q⟩
theorem for_rule {srcs : List (Nat × List D)} {g : List Nat} {body : Env → Res Fw} {Q : Fw → Prop} (I : List D → Env → Prop) (hs : ∀ r m, I r m → srcOk m srcs)
    (step : ∀ d r m, I (d :: r) m → ∃ m1, bindT g d m = some m1 ∧ Wp (body m1) fun f => match f with
      | .nx m2 => I r m2
      | .ct m2 => I r m2
      | .bk m2 => Q (.nx m2)
      | .rt fr d m2 => Q (.rt fr d m2)) (fin : ∀ m, I [] m → Q (.nx m)) : ∀ (ds : List D) (m : Env), I ds m → Wp (forL srcs g body ds m) Q
  | [], m, h => by
    unfold forL
    rw [if_pos (hs _ _ h)]
    exact .ok (fin m h)
  | d :: ds, m, h => by
    unfold forL
    rw [if_pos (hs _ _ h)]
    obtain ⟨m1, e, f, e2, q⟩ := step d ds m h
    rw [e, ofO_some, bind_ok, e2, bind_ok]
    cases f with
    | nx m2 => exact for_rule I hs step fin ds m2 q
    | ct m2 => exact for_rule I hs step fin ds m2 q
    | bk m2 => exact .ok q
    | rt fr d m2 => exact .ok q
theorem forL_nil {g : List Nat} {body : Env → Res Fw} {m : Env} : forL [] g body [] m = .ok (.nx m) := by
  unfold forL
  exact if_pos trivial
theorem forL_nx {g : List Nat} {body : Env → Res Fw} {d : D} {ds : List D} {m m1 m2 : Env} (h1 : bindT g d m = some m1) (h2 : body m1 = .ok (.nx m2)) : forL [] g body (d :: ds) m = forL [] g body ds m2 := by
  rw [forL, if_pos (by trivial), h1, ofO_some, bind_ok, h2, bind_ok]
theorem forL_rt {g : List Nat} {body : Env → Res Fw} {d v : D} {ds : List D} {m m1 m2 : Env} {fr : Bool} (h1 : bindT g d m = some m1) (h2 : body m1 = .ok (.rt fr v m2)) : forL [] g body (d :: ds) m = .ok (.rt fr v m2) := by
  rw [forL, if_pos (by trivial), h1, ofO_some, bind_ok, h2, bind_ok]
theorem lc_rule {srcs : List (Nat × List D)} {own g : List Nat} {cnd : Env → Res (Bool × Env)} {elt : Env → Res (D × Env)} {Q : List D × Env → Prop} (I : List D → List D → Env → Prop) (hs : ∀ r acc m, I r acc m → srcOk m srcs)
    (step : ∀ d r acc m, I (d :: r) acc m → ∃ m1, bindT g d m = some m1 ∧ Wp (cnd m1) fun p => if p.1 = true then Wp (elt p.2) fun q => I r (acc ++ [q.1]) (wipeE q.2 own) else I r acc (wipeE p.2 own))
    (fin : ∀ acc m, I [] acc m → Q (acc, m)) : ∀ (ds acc : List D) (m : Env), I ds acc m → Wp (lcL srcs own g cnd elt ds m) fun r => Q (acc ++ r.1, r.2)
  | [], acc, m, h => by
    unfold lcL
    rw [if_pos (hs _ _ _ h)]
    exact .ok (by simpa using fin acc m h)
  | d :: ds, acc, m, h => by
    unfold lcL
    rw [if_pos (hs _ _ _ h)]
    obtain ⟨m1, e, p, e2, q⟩ := step d ds acc m h
    rw [e, ofO_some, bind_ok, e2, bind_ok]
    by_cases hp : p.1 = true
    · rw [if_pos hp] at q
      rw [if_pos hp]
      obtain ⟨t, e3, q⟩ := q
      rw [e3, bind_ok]
      obtain ⟨r, e4, q4⟩ := lc_rule I hs step fin ds _ _ q
      rw [e4, bind_ok]
      exact .ok (by simpa using q4)
    · rw [if_neg hp] at q
      rw [if_neg hp]
      exact lc_rule I hs step fin ds _ _ q
/-- a comprehension that changes nothing -/
theorem lc_map {α : Type} {srcs : List (Nat × List D)} {own g : List Nat} {cnd : Env → Res (Bool × Env)} {elt : Env → Res (D × Env)} {m : Env} (e : α → D) (f : α → D) (xs : List α) (hs : srcOk m srcs)
    (h : ∀ x ∈ xs, ∃ m1 m3, bindT g (e x) m = some m1 ∧ cnd m1 = .ok (true, m1) ∧ elt m1 = .ok (f x, m3) ∧ wipeE m3 own = m) : lcL srcs own g cnd elt (xs.map e) m = .ok (xs.map f, m) := by
  induction xs with
  | nil => simp [lcL, hs]
  | cons x xs ih =>
    obtain ⟨m1, m3, h1, h2, h3, h4⟩ := h x List.mem_cons_self
    rw [List.map_cons]
    unfold lcL
    rw [if_pos hs, h1, ofO_some, bind_ok, h2, bind_ok, if_pos rfl, h3, bind_ok, h4, ih fun y hy => h y (List.mem_cons_of_mem _ hy)]
    rfl
theorem lc_filter {α : Type} {srcs : List (Nat × List D)} {own g : List Nat} {cnd : Env → Res (Bool × Env)} {elt : Env → Res (D × Env)} {m : Env} (e : α → D) (p : α → Bool) (f : α → D) (xs : List α) (hs : srcOk m srcs)
    (h : ∀ x ∈ xs, ∃ m1 m2 m3, bindT g (e x) m = some m1 ∧ cnd m1 = .ok (p x, m2) ∧ wipeE m2 own = m ∧ (p x = true → elt m2 = .ok (f x, m3) ∧ wipeE m3 own = m)) : lcL srcs own g cnd elt (xs.map e) m = .ok ((xs.filter p).map f, m) := by
  induction xs with
  | nil => simp [lcL, hs]
  | cons x xs ih =>
    obtain ⟨m1, m2, m3, h1, h2, h3, h4⟩ := h x List.mem_cons_self
    have ih := ih fun y hy => h y (List.mem_cons_of_mem _ hy)
    rw [List.map_cons]
    unfold lcL
    rw [if_pos hs, h1, ofO_some, bind_ok, h2, bind_ok]
    by_cases hp : p x = true
    · obtain ⟨h5, h6⟩ := h4 hp
      rw [if_pos hp, h5, bind_ok, h6, ih, List.filter_cons_of_pos hp]
      rfl
    · rw [if_neg hp, h3, ih, List.filter_cons_of_neg hp]
/-- an element -/
noncomputable def evT (e : E) (m : Env) : Res (D × Env) := (ev e m).bind fun q => .ok (q.1.2, tkm e q.2)
theorem x_lcE (e c : E) (g own : List Nat) (it : It) (m : Env) : ev (.lc e g it c own) m = @lb _ _ (evI it m) ⟨fun p => if (own.all fun i => shO (geti p.2.2 i)) = true then
    @lb _ _ ((lcL p.2.1 own g (evC c) (evT e) p.1 (wipeE p.2.2 own)).noX) ⟨fun r => if lenOk r.1.length then .ok ((true, .list r.1), backE p.2.2 r.2 own) else .bad⟩ else .bad⟩:= by first | (rw [ev]; rfl) | rw [ev]
theorem x_lc {e c : E} {g own : List Nat} {it : It} {m : Env} {p : List D × List (Nat × List D) × Env} {r : List D} {m' : Env} (h1 : evI it m = .ok p) (h2 : (own.all fun i => shO (geti p.2.2 i)) = true)
    (h3 : lcL p.2.1 own g (evC c) (evT e) p.1 (wipeE p.2.2 own) = .ok (r, m')) (h4 : lenOk r.length) :
    ev (.lc e g it c own) m = .ok ((true, .list r), backE p.2.2 m' own) := by
  rw [x_lcE, h1, lb_ok, if_pos h2, h3, noX_ok, lb_ok, if_pos h4]
end Rc

set_option maxRecDepth 100000
set_option maxHeartbeats 4000000
/-! The defs that several laws have, as literals of the language (printed by gen.py std). -/
namespace Rc
open PySem
/- is_whole(thing): 0 thing -/
noncomputable def B_is_whole : Ss := (.cons (.ret (.and (.isi (.var 0) ["int"]) (.nt (.isi (.var 0) ["bool"]))))
    .nil)
noncomputable def M_is_whole : MF := mkM [false] 1 B_is_whole
/- divisor(one, other): 0 one 1 other -/
noncomputable def B_divisor : Ss := (.cons (.whl (.cmp .ne (.var 1) (.con (.int 0)))
      (.cons (.par [0, 1] (.cons (.var 1) (.cons (.bin .mod (.var 0) (.var 1)) .nil)))
    .nil))
    (.cons (.ret (.blt .abs (.cons (.var 0) .nil)))
    .nil))
noncomputable def M_divisor : MF := mkM [false, false] 2 B_divisor
/- ratio(top, bottom): 0 top 1 bottom 2 share -/
noncomputable def B_ratio : Ss := (.cons (.asg 2 (.call M_divisor [false, false] (.cons (.var 0) (.cons (.var 1) .nil))))
    (.cons (.sif (.cmp .lt (.var 1) (.con (.int 0)))
      (.cons (.asg 2 (.bin .sub (.con (.int 0)) (.var 2)))
    .nil)
      .nil)
    (.cons (.ret (.tup (.cons (.bin .fdiv (.var 0) (.var 2)) (.cons (.bin .fdiv (.var 1) (.var 2)) .nil))))
    .nil)))
noncomputable def M_ratio : MF := mkM [false, false] 3 B_ratio
/- plus(one, other): 0 one 1 other -/
noncomputable def B_plus : Ss := (.cons (.ret (.call M_ratio [false, false] (.cons (.bin .add (.bin .mul (.idx (.var 0) (.con (.int 0))) (.idx (.var 1) (.con (.int 1)))) (.bin .mul (.idx (.var 1) (.con (.int 0))) (.idx (.var 0) (.con (.int 1))))) (.cons (.bin .mul (.idx (.var 0) (.con (.int 1))) (.idx (.var 1) (.con (.int 1)))) .nil))))
    .nil)
noncomputable def M_plus : MF := mkM [false, false] 2 B_plus
/- times(one, number): 0 one 1 number -/
noncomputable def B_times : Ss := (.cons (.ret (.call M_ratio [false, false] (.cons (.bin .mul (.idx (.var 0) (.con (.int 0))) (.var 1)) (.cons (.idx (.var 0) (.con (.int 1))) .nil))))
    .nil)
noncomputable def M_times : MF := mkM [false, false] 2 B_times
/- is_less(one, other): 0 one 1 other -/
noncomputable def B_is_less : Ss := (.cons (.ret (.cmp .lt (.bin .mul (.idx (.var 0) (.con (.int 0))) (.idx (.var 1) (.con (.int 1)))) (.bin .mul (.idx (.var 1) (.con (.int 0))) (.idx (.var 0) (.con (.int 1))))))
    .nil)
noncomputable def M_is_less : MF := mkM [false, false] 2 B_is_less
/- is_row(thing): 0 thing 1 one -/
noncomputable def B_is_row : Ss := (.cons (.sif (.or (.nt (.isi (.var 0) ["tuple"])) (.or (.cmp .ne (.blt .len (.cons (.var 0) .nil)) (.con (.int 3))) (.nt (.blt .all (.cons (.lc (.call M_is_whole [false] (.cons (.var 1) .nil)) [1] (.sq (.var 0)) (.con (.bool true)) [1]) .nil)))))
      (.cons (.ret (.con (.bool false)))
    .nil)
      .nil)
    (.cons (.ret (.or (.cmp .ne (.idx (.var 0) (.con (.int 0))) (.con (.int 0))) (.cmp .ne (.idx (.var 0) (.con (.int 1))) (.con (.int 0)))))
    .nil))
noncomputable def M_is_row : MF := mkM [false] 2 B_is_row
/- value(row, place): 0 row 1 place -/
noncomputable def B_value : Ss := (.cons (.ret (.call M_plus [false, false] (.cons (.call M_times [false, false] (.cons (.idx (.var 1) (.con (.int 0))) (.cons (.idx (.var 0) (.con (.int 0))) .nil))) (.cons (.call M_times [false, false] (.cons (.idx (.var 1) (.con (.int 1))) (.cons (.idx (.var 0) (.con (.int 1))) .nil))) .nil))))
    .nil)
noncomputable def M_value : MF := mkM [false, false] 2 B_value
/- keeps(row, place): 0 row 1 place -/
noncomputable def B_keeps : Ss := (.cons (.ret (.nt (.call M_is_less [false, false] (.cons (.tup (.cons (.idx (.var 0) (.con (.int 2))) (.cons (.con (.int 1)) .nil))) (.cons (.call M_value [false, false] (.cons (.var 0) (.cons (.var 1) .nil))) .nil)))))
    .nil)
noncomputable def M_keeps : MF := mkM [false, false] 2 B_keeps
/- is_tight(row, place): 0 row 1 place -/
noncomputable def B_is_tight : Ss := (.cons (.ret (.cmp .eq (.call M_value [false, false] (.cons (.var 0) (.cons (.var 1) .nil))) (.tup (.cons (.idx (.var 0) (.con (.int 2))) (.cons (.con (.int 1)) .nil)))))
    .nil)
noncomputable def M_is_tight : MF := mkM [false, false] 2 B_is_tight
/- shortened(row): 0 row 1 share -/
noncomputable def B_shortened : Ss := (.cons (.asg 1 (.call M_divisor [false, false] (.cons (.idx (.var 0) (.con (.int 0))) (.cons (.idx (.var 0) (.con (.int 1))) .nil))))
    (.cons (.ret (.tup (.cons (.bin .fdiv (.idx (.var 0) (.con (.int 0))) (.var 1)) (.cons (.bin .fdiv (.idx (.var 0) (.con (.int 1))) (.var 1)) (.cons (.bin .fdiv (.idx (.var 0) (.con (.int 2))) (.var 1)) .nil)))))
    .nil))
noncomputable def M_shortened : MF := mkM [false] 2 B_shortened
/- _law_cell_at(_law_script, _law_k): 0 _law_script 1 _law_k -/
noncomputable def B_law_cell_at : Ss := (.cons (.sif (.cmp .lt (.var 1) (.blt .len (.cons (.var 0) .nil)))
      (.cons (.ret (.idx (.var 0) (.var 1)))
    .nil)
      .nil)
    (.cons (.ret (.con (.int 0)))
    .nil))
noncomputable def M_law_cell_at : MF := mkM [false, false] 2 B_law_cell_at
/- _law_state(_law_script, _law_k): 0 _law_script 1 _law_k 2 _law_cell -/
noncomputable def B_law_state : Ss := (.cons (.asg 2 (.call M_law_cell_at [false, false] (.cons (.var 0) (.cons (.var 1) .nil))))
    (.cons (.sif (.cmp .ge (.var 2) (.bin .pow (.con (.int 10)) (.con (.int 18))))
      (.cons (.ret (.lst (.cons (.bin .sub (.var 2) (.bin .pow (.con (.int 10)) (.con (.int 18)))) (.cons (.con (.bool true)) .nil))))
    .nil)
      .nil)
    (.cons (.ret (.lst (.cons (.bin .mod (.var 2) (.con (.int 2147483647))) (.cons (.con (.bool false)) .nil))))
    .nil)))
noncomputable def M_law_state : MF := mkM [false, false] 3 B_law_state
/- _law_take(_law_state_here, _law_many): 0 _law_state_here 1 _law_many 2 _law_found 3 _law_stirred -/
noncomputable def B_law_take : Ss := (.cons (.sif (.idx (.var 0) (.con (.int 1)))
      (.cons (.asg 2 (.bin .mod (.idx (.var 0) (.con (.int 0))) (.var 1)))
    (.cons (.sti 0 (.con (.int 0)) (.bin .fdiv (.idx (.var 0) (.con (.int 0))) (.var 1)))
    (.cons (.retv 2)
    .nil)))
      .nil)
    (.cons (.sti 0 (.con (.int 0)) (.bin .mod (.bin .add (.bin .mul (.idx (.var 0) (.con (.int 0))) (.con (.int 48271))) (.con (.int 29))) (.con (.int 2147483647))))
    (.cons (.asg 3 (.bin .mod (.bin .add (.bin .add (.bin .mul (.idx (.var 0) (.con (.int 0))) (.idx (.var 0) (.con (.int 0)))) (.bin .mul (.con (.int 39373)) (.idx (.var 0) (.con (.int 0))))) (.con (.int 7))) (.con (.int 2147483629))))
    (.cons (.asg 3 (.bin .mod (.bin .add (.bin .mul (.var 3) (.var 3)) (.bin .mul (.con (.int 16807)) (.var 3))) (.con (.int 2147483587))))
    (.cons (.ret (.bin .mod (.bin .fdiv (.var 3) (.con (.int 8))) (.var 1)))
    .nil)))))
noncomputable def M_law_take : MF := mkM [true, false] 4 B_law_take
/- _law_divisor(_law_one, _law_other): 0 _law_one 1 _law_other -/
noncomputable def B_law_divisor : Ss := (.cons (.whl (.cmp .ne (.var 1) (.con (.int 0)))
      (.cons (.par [0, 1] (.cons (.var 1) (.cons (.bin .mod (.var 0) (.var 1)) .nil)))
    .nil))
    (.cons (.ret (.blt .abs (.cons (.var 0) .nil)))
    .nil))
noncomputable def M_law_divisor : MF := mkM [false, false] 2 B_law_divisor
/- _law_low(_law_top, _law_bottom): 0 _law_top 1 _law_bottom 2 _law_by -/
noncomputable def B_law_low : Ss := (.cons (.asg 2 (.call M_law_divisor [false, false] (.cons (.var 0) (.cons (.var 1) .nil))))
    (.cons (.sif (.cmp .lt (.var 1) (.con (.int 0)))
      (.cons (.asg 2 (.bin .sub (.con (.int 0)) (.var 2)))
    .nil)
      .nil)
    (.cons (.ret (.tup (.cons (.bin .fdiv (.var 0) (.var 2)) (.cons (.bin .fdiv (.var 1) (.var 2)) .nil))))
    .nil)))
noncomputable def M_law_low : MF := mkM [false, false] 3 B_law_low
/- _law_value(_law_row, _law_place): 0 _law_row 1 _law_place 2 _law_x 3 _law_y -/
noncomputable def B_law_value : Ss := (.cons (.unp [2, 3] (.var 1))
    (.cons (.ret (.call M_law_low [false, false] (.cons (.bin .add (.bin .mul (.bin .mul (.idx (.var 0) (.con (.int 0))) (.idx (.var 2) (.con (.int 0)))) (.idx (.var 3) (.con (.int 1)))) (.bin .mul (.bin .mul (.idx (.var 0) (.con (.int 1))) (.idx (.var 3) (.con (.int 0)))) (.idx (.var 2) (.con (.int 1))))) (.cons (.bin .mul (.idx (.var 2) (.con (.int 1))) (.idx (.var 3) (.con (.int 1)))) .nil))))
    .nil))
noncomputable def M_law_value : MF := mkM [false, false] 4 B_law_value
/- _law_place(_law_state_here): 0 _law_state_here 1 _law_x -/
noncomputable def B_law_place : Ss := (.cons (.asg 1 (.call M_law_low [false, false] (.cons (.bin .sub (.call M_law_take [true, false] (.cons (.var 0) (.cons (.con (.int 25)) .nil))) (.con (.int 12))) (.cons (.bin .add (.con (.int 1)) (.call M_law_take [true, false] (.cons (.var 0) (.cons (.con (.int 4)) .nil)))) .nil))))
    (.cons (.ret (.tup (.cons (.var 1) (.cons (.call M_law_low [false, false] (.cons (.bin .sub (.call M_law_take [true, false] (.cons (.var 0) (.cons (.con (.int 25)) .nil))) (.con (.int 12))) (.cons (.bin .add (.con (.int 1)) (.call M_law_take [true, false] (.cons (.var 0) (.cons (.con (.int 4)) .nil)))) .nil))) .nil))))
    .nil))
noncomputable def M_law_place : MF := mkM [true] 2 B_law_place
/- _law_same(_law_found, _law_due_here): 0 _law_found 1 _law_due_here 2 _law_one 3 _law_other -/
noncomputable def B_law_same (f : MF) : Ss := (.cons (.sif (.isi (.var 1) ["tuple", "list"])
      (.cons (.sif (.or (.cmp .ne (.isi (.var 0) ["tuple"]) (.isi (.var 1) ["tuple"])) (.cmp .ne (.isi (.var 0) ["list"]) (.isi (.var 1) ["list"])))
      (.cons (.ret (.con (.bool false)))
    .nil)
      .nil)
    (.cons (.sif (.cmp .ne (.blt .len (.cons (.var 0) .nil)) (.blt .len (.cons (.var 1) .nil)))
      (.cons (.ret (.con (.bool false)))
    .nil)
      .nil)
    (.cons (.ret (.blt .all (.cons (.lc (.call f [false, false] (.cons (.var 2) (.cons (.var 3) .nil))) [2, 3] (.zp (.var 0) (.var 1)) (.con (.bool true)) [2, 3]) .nil)))
    .nil)))
      .nil)
    (.cons (.ret (.and (.cmp .eq (.var 0) (.var 1)) (.cmp .eq (.isi (.var 0) ["bool"]) (.isi (.var 1) ["bool"]))))
    .nil))
noncomputable def M_law_same : Nat → MF
  | 0 => noM
  | n + 1 => mkM [false, false] 4 (B_law_same (M_law_same n))
/- go_round(rows): 0 rows 1 a 2 b 3 c 4 u 5 v 6 row -/
noncomputable def B_go_round : Ss := (.cons (.sfor [1, 2, 3] (.sq (.var 0))
      (.cons (.sfor [4, 5] (.sq (.tup (.cons (.tup (.cons (.var 2) (.cons (.bin .sub (.con (.int 0)) (.var 1)) .nil))) (.cons (.tup (.cons (.bin .sub (.con (.int 0)) (.var 2)) (.cons (.var 1) .nil))) .nil))))
      (.cons (.sif (.nt (.blt .any (.cons (.lc (.cmp .gt (.bin .add (.bin .mul (.idx (.var 6) (.con (.int 0))) (.var 4)) (.bin .mul (.idx (.var 6) (.con (.int 1))) (.var 5))) (.con (.int 0))) [6] (.sq (.var 0)) (.con (.bool true)) [6]) .nil)))
      (.cons (.ret (.con (.bool false)))
    .nil)
      .nil)
    .nil))
    .nil))
    (.cons (.ret (.cmp .ne (.var 0) (.tup .nil)))
    .nil))
noncomputable def M_go_round : MF := mkM [false] 7 B_go_round
/- _law_field(_law_state_here): 0 _law_state_here 1 _law_way 2 _law_rows 3 _law_a 4 _law_b 5 _law_by 6 _law_turn 7 _law_near 8 _law_k 9 _law_some 10 _law_u 11 _law_v 12 _law_c -/
noncomputable def B_law_field : Ss := (.cons (.asg 1 (.call M_law_take [true, false] (.cons (.var 0) (.cons (.con (.int 6)) .nil))))
    (.cons (.asg 2 (.lst .nil))
    (.cons (.sif (.cmp .lt (.var 1) (.con (.int 4)))
      (.cons (.sfor [3, 4] (.sq (.lst (.cons (.tup (.cons (.neg (.con (.int 1))) (.cons (.con (.int 0)) .nil))) (.cons (.tup (.cons (.con (.int 1)) (.cons (.con (.int 0)) .nil))) (.cons (.tup (.cons (.con (.int 0)) (.cons (.neg (.con (.int 1))) .nil))) (.cons (.tup (.cons (.con (.int 0)) (.cons (.con (.int 1)) .nil))) .nil))))))
      (.cons (.asg 5 (.bin .add (.con (.int 1)) (.call M_law_take [true, false] (.cons (.var 0) (.cons (.con (.int 3)) .nil)))))
    (.cons (.mth 2 .append (.cons (.tup (.cons (.bin .mul (.var 3) (.var 5)) (.cons (.bin .mul (.var 4) (.var 5)) (.cons (.bin .add (.bin .mul (.var 5) (.call M_law_take [true, false] (.cons (.var 0) (.cons (.con (.int 5)) .nil)))) (.call M_law_take [true, false] (.cons (.var 0) (.cons (.var 5) .nil)))) .nil)))) .nil))
    .nil)))
    (.cons (.sfor [6] (.rg (.call M_law_take [true, false] (.cons (.var 0) (.cons (.con (.int 4)) .nil))))
      (.cons (.par [3, 4] (.cons (.bin .sub (.call M_law_take [true, false] (.cons (.var 0) (.cons (.con (.int 13)) .nil))) (.con (.int 6))) (.cons (.bin .sub (.call M_law_take [true, false] (.cons (.var 0) (.cons (.con (.int 13)) .nil))) (.con (.int 6))) .nil)))
    (.cons (.sif (.and (.cmp .eq (.var 3) (.con (.int 0))) (.cmp .eq (.var 4) (.con (.int 0))))
      (.cons (.asg 3 (.con (.int 2)))
    .nil)
      .nil)
    (.cons (.asg 7 (.bin .add (.bin .mul (.var 3) (.bin .sub (.call M_law_take [true, false] (.cons (.var 0) (.cons (.con (.int 5)) .nil))) (.con (.int 2)))) (.bin .mul (.var 4) (.bin .sub (.call M_law_take [true, false] (.cons (.var 0) (.cons (.con (.int 5)) .nil))) (.con (.int 2))))))
    (.cons (.mth 2 .append (.cons (.tup (.cons (.var 3) (.cons (.var 4) (.cons (.bin .sub (.bin .add (.var 7) (.call M_law_take [true, false] (.cons (.var 0) (.cons (.con (.int 9)) .nil)))) (.con (.int 1))) .nil)))) .nil))
    .nil)))))
    (.cons (.sif (.cmp .eq (.call M_law_take [true, false] (.cons (.var 0) (.cons (.con (.int 8)) .nil))) (.con (.int 0)))
      (.cons (.mth 2 .append (.cons (.tup (.cons (.bin .sub (.con (.int 0)) (.idx (.idx (.var 2) (.neg (.con (.int 1)))) (.con (.int 0)))) (.cons (.bin .sub (.con (.int 0)) (.idx (.idx (.var 2) (.neg (.con (.int 1)))) (.con (.int 1)))) (.cons (.bin .sub (.con (.int 0)) (.idx (.idx (.var 2) (.neg (.con (.int 1)))) (.con (.int 2)))) .nil)))) .nil))
    .nil)
      .nil)
    .nil)))
      .nil)
    (.cons (.sif (.cmp .eq (.var 1) (.con (.int 4)))
      (.cons (.asg 8 (.bin .add (.con (.int 1)) (.call M_law_take [true, false] (.cons (.var 0) (.cons (.con (.int 7)) .nil)))))
    (.cons (.asg 2 (.lst (.cons (.tup (.cons (.neg (.con (.int 1))) (.cons (.con (.int 0)) (.cons (.con (.int 0)) .nil)))) (.cons (.tup (.cons (.con (.int 1)) (.cons (.bin .mul (.neg (.con (.int 2))) (.var 8)) (.cons (.con (.int 0)) .nil)))) (.cons (.tup (.cons (.con (.int 1)) (.cons (.bin .mul (.con (.int 2)) (.var 8)) (.cons (.bin .mul (.con (.int 2)) (.var 8)) .nil)))) .nil)))))
    .nil))
      .nil)
    (.cons (.sif (.cmp .eq (.var 1) (.con (.int 5)))
      (.cons (.asg 9 (.idx (.lst (.cons (.lst (.cons (.tup (.cons (.neg (.con (.int 2))) (.cons (.con (.int 1)) .nil))) (.cons (.tup (.cons (.con (.int 1)) (.cons (.neg (.con (.int 3))) .nil))) (.cons (.tup (.cons (.con (.int 2)) (.cons (.con (.int 3)) .nil))) .nil)))) (.cons (.lst (.cons (.tup (.cons (.neg (.con (.int 3))) (.cons (.neg (.con (.int 2))) .nil))) (.cons (.tup (.cons (.con (.int 3)) (.cons (.neg (.con (.int 1))) .nil))) (.cons (.tup (.cons (.con (.int 1)) (.cons (.con (.int 4)) .nil))) .nil)))) .nil))) (.call M_law_take [true, false] (.cons (.var 0) (.cons (.con (.int 2)) .nil)))))
    (.cons (.asg 2 (.lc (.tup (.cons (.var 3) (.cons (.var 4) (.cons (.call M_law_take [true, false] (.cons (.var 0) (.cons (.con (.int 8)) .nil))) .nil)))) [3, 4] (.sq (.var 9)) (.con (.bool true)) [3, 4]))
    .nil))
      .nil)
    (.cons (.par [10, 11] (.cons (.bin .sub (.call M_law_take [true, false] (.cons (.var 0) (.cons (.con (.int 7)) .nil))) (.con (.int 3))) (.cons (.bin .sub (.call M_law_take [true, false] (.cons (.var 0) (.cons (.con (.int 7)) .nil))) (.con (.int 3))) .nil)))
    (.cons (.asg 2 (.lc (.tup (.cons (.var 3) (.cons (.var 4) (.cons (.bin .add (.bin .add (.var 12) (.bin .mul (.var 3) (.var 10))) (.bin .mul (.var 4) (.var 11))) .nil)))) [3, 4, 12] (.sq (.var 2)) (.con (.bool true)) [3, 4, 12]))
    (.cons (.asg 6 (.call M_law_take [true, false] (.cons (.var 0) (.cons (.blt .len (.cons (.var 2) .nil)) .nil))))
    (.cons (.ret (.blt .tuple (.cons (.bin .add (.slc (.var 2) (.var 6) (.con .none)) (.slc (.var 2) (.con .none) (.var 6))) .nil)))
    .nil)))))))))
noncomputable def M_law_field : MF := mkM [true] 13 B_law_field
/- twist(one, other): 0 one 1 other -/
noncomputable def B_twist : Ss := (.cons (.ret (.bin .sub (.bin .mul (.idx (.var 0) (.con (.int 0))) (.idx (.var 1) (.con (.int 1)))) (.bin .mul (.idx (.var 0) (.con (.int 1))) (.idx (.var 1) (.con (.int 0))))))
    .nil)
noncomputable def M_twist : MF := mkM [false, false] 2 B_twist
/- crossing(one, other): 0 one 1 other 2 by 3 x -/
noncomputable def B_crossing : Ss := (.cons (.asg 2 (.call M_twist [false, false] (.cons (.var 0) (.cons (.var 1) .nil))))
    (.cons (.asg 3 (.call M_ratio [false, false] (.cons (.bin .sub (.bin .mul (.idx (.var 0) (.con (.int 2))) (.idx (.var 1) (.con (.int 1)))) (.bin .mul (.idx (.var 0) (.con (.int 1))) (.idx (.var 1) (.con (.int 2))))) (.cons (.var 2) .nil))))
    (.cons (.ret (.tup (.cons (.var 3) (.cons (.call M_ratio [false, false] (.cons (.bin .sub (.bin .mul (.idx (.var 0) (.con (.int 0))) (.idx (.var 1) (.con (.int 2)))) (.bin .mul (.idx (.var 0) (.con (.int 2))) (.idx (.var 1) (.con (.int 0))))) (.cons (.var 2) .nil))) .nil))))
    .nil)))
noncomputable def M_crossing : MF := mkM [false, false] 4 B_crossing
/- found_corners(rows): 0 rows 1 found 2 at 3 one 4 other 5 place 6 row -/
noncomputable def B_found_corners : Ss := (.cons (.asg 1 (.lst .nil))
    (.cons (.sfor [2, 3] (.en (.var 0))
      (.cons (.sfor [4] (.sq (.slc (.var 0) (.bin .add (.var 2) (.con (.int 1))) (.con .none)))
      (.cons (.sif (.cmp .ne (.call M_twist [false, false] (.cons (.var 3) (.cons (.var 4) .nil))) (.con (.int 0)))
      (.cons (.asg 5 (.call M_crossing [false, false] (.cons (.var 3) (.cons (.var 4) .nil))))
    (.cons (.sif (.and (.cmp .notin (.var 5) (.var 1)) (.blt .all (.cons (.lc (.call M_keeps [false, false] (.cons (.var 6) (.cons (.var 5) .nil))) [6] (.sq (.var 0)) (.con (.bool true)) [6]) .nil)))
      (.cons (.mth 1 .append (.cons (.var 5) .nil))
    .nil)
      .nil)
    .nil))
      .nil)
    .nil))
    .nil))
    (.cons (.retv 1)
    .nil)))
noncomputable def M_found_corners : MF := mkM [false] 7 B_found_corners
/- is_near(place): 0 place 1 one -/
noncomputable def B_is_near : Ss := (.cons (.ret (.nt (.blt .any (.cons (.lc (.call M_is_less [false, false] (.cons (.tup (.cons (.con (.int 12)) (.cons (.con (.int 1)) .nil))) (.cons (.tup (.cons (.blt .abs (.cons (.idx (.var 1) (.con (.int 0))) .nil)) (.cons (.idx (.var 1) (.con (.int 1))) .nil))) .nil))) [1] (.sq (.var 0)) (.con (.bool true)) [1]) .nil))))
    .nil)
noncomputable def M_is_near : MF := mkM [false] 2 B_is_near
/- is_field(thing): 0 thing 1 row 2 a 3 b 4 c 5 place -/
noncomputable def B_is_field : Ss := (.cons (.sif (.or (.nt (.isi (.var 0) ["tuple"])) (.nt (.chn .le .le (.con (.int 3)) (.blt .len (.cons (.var 0) .nil)) (.con (.int 8)))))
      (.cons (.ret (.con (.bool false)))
    .nil)
      .nil)
    (.cons (.sif (.nt (.blt .all (.cons (.lc (.call M_is_row [false] (.cons (.var 1) .nil)) [1] (.sq (.var 0)) (.con (.bool true)) [1]) .nil)))
      (.cons (.ret (.con (.bool false)))
    .nil)
      .nil)
    (.cons (.sfor [2, 3, 4] (.sq (.var 0))
      (.cons (.sif (.or (.cmp .gt (.blt .max2 (.cons (.blt .abs (.cons (.var 2) .nil)) (.cons (.blt .abs (.cons (.var 3) .nil)) .nil))) (.con (.int 30))) (.cmp .gt (.blt .abs (.cons (.var 4) .nil)) (.con (.int 1000))))
      (.cons (.ret (.con (.bool false)))
    .nil)
      .nil)
    .nil))
    (.cons (.ret (.and (.call M_go_round [false] (.cons (.var 0) .nil)) (.blt .all (.cons (.lc (.call M_is_near [false] (.cons (.var 5) .nil)) [5] (.sq (.call M_found_corners [false] (.cons (.var 0) .nil))) (.con (.bool true)) [5]) .nil))))
    .nil))))
noncomputable def M_is_field : MF := mkM [false] 6 B_is_field
/- _law_crossing(_law_one, _law_other): 0 _law_one 1 _law_other 2 _law_by 3 _law_x -/
noncomputable def B_law_crossing : Ss := (.cons (.asg 2 (.bin .sub (.bin .mul (.idx (.var 0) (.con (.int 0))) (.idx (.var 1) (.con (.int 1)))) (.bin .mul (.idx (.var 0) (.con (.int 1))) (.idx (.var 1) (.con (.int 0))))))
    (.cons (.sif (.cmp .eq (.var 2) (.con (.int 0)))
      (.cons (.ret (.con .none))
    .nil)
      .nil)
    (.cons (.asg 3 (.call M_law_low [false, false] (.cons (.bin .sub (.bin .mul (.idx (.var 0) (.con (.int 2))) (.idx (.var 1) (.con (.int 1)))) (.bin .mul (.idx (.var 0) (.con (.int 1))) (.idx (.var 1) (.con (.int 2))))) (.cons (.var 2) .nil))))
    (.cons (.ret (.tup (.cons (.var 3) (.cons (.call M_law_low [false, false] (.cons (.bin .sub (.bin .mul (.idx (.var 0) (.con (.int 0))) (.idx (.var 1) (.con (.int 2)))) (.bin .mul (.idx (.var 0) (.con (.int 2))) (.idx (.var 1) (.con (.int 0))))) (.cons (.var 2) .nil))) .nil))))
    .nil))))
noncomputable def M_law_crossing : MF := mkM [false, false] 4 B_law_crossing
/- _law_keeps(_law_row, _law_place): 0 _law_row 1 _law_place 2 _law_here -/
noncomputable def B_law_keeps : Ss := (.cons (.asg 2 (.call M_law_value [false, false] (.cons (.var 0) (.cons (.var 1) .nil))))
    (.cons (.ret (.cmp .le (.idx (.var 2) (.con (.int 0))) (.bin .mul (.idx (.var 0) (.con (.int 2))) (.idx (.var 2) (.con (.int 1))))))
    .nil))
noncomputable def M_law_keeps : MF := mkM [false, false] 3 B_law_keeps
/- _law_less(_law_one, _law_other): 0 _law_one 1 _law_other -/
noncomputable def B_law_less : Ss := (.cons (.ret (.cmp .lt (.bin .mul (.idx (.var 0) (.con (.int 0))) (.idx (.var 1) (.con (.int 1)))) (.bin .mul (.idx (.var 1) (.con (.int 0))) (.idx (.var 0) (.con (.int 1))))))
    .nil)
noncomputable def M_law_less : MF := mkM [false, false] 2 B_law_less
/- _law_minus(_law_one, _law_other): 0 _law_one 1 _law_other -/
noncomputable def B_law_minus : Ss := (.cons (.ret (.call M_law_low [false, false] (.cons (.bin .sub (.bin .mul (.idx (.var 0) (.con (.int 0))) (.idx (.var 1) (.con (.int 1)))) (.bin .mul (.idx (.var 1) (.con (.int 0))) (.idx (.var 0) (.con (.int 1))))) (.cons (.bin .mul (.idx (.var 0) (.con (.int 1))) (.idx (.var 1) (.con (.int 1)))) .nil))))
    .nil)
noncomputable def M_law_minus : MF := mkM [false, false] 2 B_law_minus
/- _law_times(_law_one, _law_other): 0 _law_one 1 _law_other -/
noncomputable def B_law_times : Ss := (.cons (.ret (.call M_law_low [false, false] (.cons (.bin .mul (.idx (.var 0) (.con (.int 0))) (.idx (.var 1) (.con (.int 0)))) (.cons (.bin .mul (.idx (.var 0) (.con (.int 1))) (.idx (.var 1) (.con (.int 1)))) .nil))))
    .nil)
noncomputable def M_law_times : MF := mkM [false, false] 2 B_law_times
/- _law_cross(_law_one, _law_other, _law_third): 0 _law_one 1 _law_other 2 _law_third 3 _law_first -/
noncomputable def B_law_cross : Ss := (.cons (.asg 3 (.call M_law_times [false, false] (.cons (.call M_law_minus [false, false] (.cons (.idx (.var 1) (.con (.int 0))) (.cons (.idx (.var 0) (.con (.int 0))) .nil))) (.cons (.call M_law_minus [false, false] (.cons (.idx (.var 2) (.con (.int 1))) (.cons (.idx (.var 0) (.con (.int 1))) .nil))) .nil))))
    (.cons (.ret (.idx (.call M_law_minus [false, false] (.cons (.var 3) (.cons (.call M_law_times [false, false] (.cons (.call M_law_minus [false, false] (.cons (.idx (.var 1) (.con (.int 1))) (.cons (.idx (.var 0) (.con (.int 1))) .nil))) (.cons (.call M_law_minus [false, false] (.cons (.idx (.var 2) (.con (.int 0))) (.cons (.idx (.var 0) (.con (.int 0))) .nil))) .nil))) .nil))) (.con (.int 0))))
    .nil))
noncomputable def M_law_cross : MF := mkM [false, false, false] 4 B_law_cross
/- _law_all_left(_law_here, _law_place, _law_some): 0 _law_here 1 _law_place 2 _law_some 3 _law_one -/
noncomputable def B_law_all_left : Ss := (.cons (.ret (.cmp .eq (.lc (.var 3) [3] (.sq (.var 2)) (.cmp .lt (.call M_law_cross [false, false, false] (.cons (.var 0) (.cons (.var 1) (.cons (.var 3) .nil)))) (.con (.int 0))) [3]) (.lst .nil)))
    .nil)
noncomputable def M_law_all_left : MF := mkM [false, false, false] 4 B_law_all_left
/- _law_bend(_law_one, _law_other, _law_third): 0 _law_one 1 _law_other 2 _law_third 3 _law_ahead_here -/
noncomputable def B_law_bend : Ss := (.cons (.asg 3 (.call M_law_times [false, false] (.cons (.call M_law_minus [false, false] (.cons (.idx (.var 1) (.con (.int 0))) (.cons (.idx (.var 0) (.con (.int 0))) .nil))) (.cons (.call M_law_minus [false, false] (.cons (.idx (.var 2) (.con (.int 1))) (.cons (.idx (.var 0) (.con (.int 1))) .nil))) .nil))))
    (.cons (.ret (.idx (.call M_law_minus [false, false] (.cons (.var 3) (.cons (.call M_law_times [false, false] (.cons (.call M_law_minus [false, false] (.cons (.idx (.var 1) (.con (.int 1))) (.cons (.idx (.var 0) (.con (.int 1))) .nil))) (.cons (.call M_law_minus [false, false] (.cons (.idx (.var 2) (.con (.int 0))) (.cons (.idx (.var 0) (.con (.int 0))) .nil))) .nil))) .nil))) (.con (.int 0))))
    .nil))
noncomputable def M_law_bend : MF := mkM [false, false, false] 4 B_law_bend
/- _law_chain(_law_places): 0 _law_places 1 _law_found 2 _law_place -/
noncomputable def B_law_chain : Ss := (.cons (.asg 1 (.lst .nil))
    (.cons (.sfor [2] (.sq (.var 0))
      (.cons (.whl (.and (.cmp .gt (.blt .len (.cons (.var 1) .nil)) (.con (.int 1))) (.cmp .le (.call M_law_bend [false, false, false] (.cons (.idx (.var 1) (.neg (.con (.int 2)))) (.cons (.idx (.var 1) (.neg (.con (.int 1)))) (.cons (.var 2) .nil)))) (.con (.int 0))))
      (.cons (.mth 1 .pop .nil)
    .nil))
    (.cons (.mth 1 .append (.cons (.var 2) .nil))
    .nil)))
    (.cons (.retv 1)
    .nil)))
noncomputable def M_law_chain : MF := mkM [false] 3 B_law_chain
/- _law_ahead(_law_one, _law_other): 0 _law_one 1 _law_other -/
noncomputable def B_law_ahead : Ss := (.cons (.sif (.cmp .ne (.idx (.var 0) (.con (.int 0))) (.idx (.var 1) (.con (.int 0))))
      (.cons (.ret (.call M_law_less [false, false] (.cons (.idx (.var 0) (.con (.int 0))) (.cons (.idx (.var 1) (.con (.int 0))) .nil))))
    .nil)
      .nil)
    (.cons (.ret (.call M_law_less [false, false] (.cons (.idx (.var 0) (.con (.int 1))) (.cons (.idx (.var 1) (.con (.int 1))) .nil))))
    .nil))
noncomputable def M_law_ahead : MF := mkM [false, false] 2 B_law_ahead
/- _law_ring(_law_places): 0 _law_places 1 _law_some 2 _law_place 3 _law_other -/
noncomputable def B_law_ring : Ss := (.cons (.asg 1 (.lst .nil))
    (.cons (.sfor [2] (.sq (.var 0))
      (.cons (.sif (.cmp .notin (.var 2) (.var 1))
      (.cons (.mth 1 .insert (.cons (.blt .len (.cons (.lc (.var 3) [3] (.sq (.var 1)) (.call M_law_ahead [false, false] (.cons (.var 3) (.cons (.var 2) .nil))) [3]) .nil)) (.cons (.var 2) .nil)))
    .nil)
      .nil)
    .nil))
    (.cons (.sif (.cmp .lt (.blt .len (.cons (.var 1) .nil)) (.con (.int 3)))
      (.cons (.retv 1)
    .nil)
      .nil)
    (.cons (.ret (.bin .add (.slc (.call M_law_chain [false] (.cons (.var 1) .nil)) (.con .none) (.neg (.con (.int 1)))) (.slc (.call M_law_chain [false] (.cons (.rvs (.var 1)) .nil)) (.con .none) (.neg (.con (.int 1))))))
    .nil))))
noncomputable def M_law_ring : MF := mkM [false] 4 B_law_ring
/- _law_corners(_law_rows): 0 _law_rows 1 _law_found 2 _law_at 3 _law_other 4 _law_place 5 _law_row -/
noncomputable def B_law_corners : Ss := (.cons (.asg 1 (.lst .nil))
    (.cons (.sfor [2] (.rg (.blt .len (.cons (.var 0) .nil)))
      (.cons (.sfor [3] (.sq (.slc (.var 0) (.bin .add (.var 2) (.con (.int 1))) (.con .none)))
      (.cons (.asg 4 (.call M_law_crossing [false, false] (.cons (.idx (.var 0) (.var 2)) (.cons (.var 3) .nil))))
    (.cons (.sif (.and (.cmp .isnot (.var 4) (.con .none)) (.cmp .eq (.lc (.var 5) [5] (.sq (.var 0)) (.nt (.call M_law_keeps [false, false] (.cons (.var 5) (.cons (.var 4) .nil)))) [5]) (.lst .nil)))
      (.cons (.mth 1 .append (.cons (.var 4) .nil))
    .nil)
      .nil)
    .nil)))
    .nil))
    (.cons (.ret (.call M_law_ring [false] (.cons (.var 1) .nil)))
    .nil)))
noncomputable def M_law_corners : MF := mkM [false] 6 B_law_corners
/- _law_whole(_law_thing): 0 _law_thing -/
noncomputable def B_law_whole : Ss := (.cons (.ret (.and (.isi (.var 0) ["int"]) (.nt (.isi (.var 0) ["bool"]))))
    .nil)
noncomputable def M_law_whole : MF := mkM [false] 1 B_law_whole
/- minus(one, other): 0 one 1 other -/
noncomputable def B_minus : Ss := (.cons (.ret (.call M_ratio [false, false] (.cons (.bin .sub (.bin .mul (.idx (.var 0) (.con (.int 0))) (.idx (.var 1) (.con (.int 1)))) (.bin .mul (.idx (.var 1) (.con (.int 0))) (.idx (.var 0) (.con (.int 1))))) (.cons (.bin .mul (.idx (.var 0) (.con (.int 1))) (.idx (.var 1) (.con (.int 1)))) .nil))))
    .nil)
noncomputable def M_minus : MF := mkM [false, false] 2 B_minus
/- product(one, other): 0 one 1 other -/
noncomputable def B_product : Ss := (.cons (.ret (.call M_ratio [false, false] (.cons (.bin .mul (.idx (.var 0) (.con (.int 0))) (.idx (.var 1) (.con (.int 0)))) (.cons (.bin .mul (.idx (.var 0) (.con (.int 1))) (.idx (.var 1) (.con (.int 1)))) .nil))))
    .nil)
noncomputable def M_product : MF := mkM [false, false] 2 B_product
/- less_place(one, other): 0 one 1 other -/
noncomputable def B_less_place : Ss := (.cons (.sif (.cmp .ne (.idx (.var 0) (.con (.int 0))) (.idx (.var 1) (.con (.int 0))))
      (.cons (.ret (.call M_is_less [false, false] (.cons (.idx (.var 0) (.con (.int 0))) (.cons (.idx (.var 1) (.con (.int 0))) .nil))))
    .nil)
      .nil)
    (.cons (.ret (.call M_is_less [false, false] (.cons (.idx (.var 0) (.con (.int 1))) (.cons (.idx (.var 1) (.con (.int 1))) .nil))))
    .nil))
noncomputable def M_less_place : MF := mkM [false, false] 2 B_less_place
/- in_order(places): 0 places 1 found 2 place 3 at 4 other -/
noncomputable def B_in_order : Ss := (.cons (.asg 1 (.lst .nil))
    (.cons (.sfor [2] (.sq (.var 0))
      (.cons (.asg 3 (.blt .len (.cons (.lc (.var 4) [4] (.sq (.var 1)) (.call M_less_place [false, false] (.cons (.var 4) (.cons (.var 2) .nil))) [4]) .nil)))
    (.cons (.mth 1 .insert (.cons (.var 3) (.cons (.var 2) .nil)))
    .nil)))
    (.cons (.retv 1)
    .nil)))
noncomputable def M_in_order : MF := mkM [false] 5 B_in_order
/- is_left(one, other, third): 0 one 1 other 2 third 3 ahead -/
noncomputable def B_is_left : Ss := (.cons (.asg 3 (.call M_product [false, false] (.cons (.call M_minus [false, false] (.cons (.idx (.var 1) (.con (.int 0))) (.cons (.idx (.var 0) (.con (.int 0))) .nil))) (.cons (.call M_minus [false, false] (.cons (.idx (.var 2) (.con (.int 1))) (.cons (.idx (.var 0) (.con (.int 1))) .nil))) .nil))))
    (.cons (.ret (.call M_is_less [false, false] (.cons (.call M_product [false, false] (.cons (.call M_minus [false, false] (.cons (.idx (.var 1) (.con (.int 1))) (.cons (.idx (.var 0) (.con (.int 1))) .nil))) (.cons (.call M_minus [false, false] (.cons (.idx (.var 2) (.con (.int 0))) (.cons (.idx (.var 0) (.con (.int 0))) .nil))) .nil))) (.cons (.var 3) .nil))))
    .nil))
noncomputable def M_is_left : MF := mkM [false, false, false] 4 B_is_left
/- need_field(field): 0 field -/
noncomputable def B_need_field : Ss := (.cons (.sif (.nt (.call M_is_field [false] (.cons (.var 0) .nil)))
      (.cons (.rais (Str.ofString "NoField"))
    .nil)
      .nil)
    .nil)
noncomputable def M_need_field : MF := mkM [false] 1 B_need_field
/- tight(field, place): 0 field 1 place 2 number 3 row -/
noncomputable def B_tight : Ss := (.cons (.exp (.call M_need_field [false] (.cons (.var 0) .nil)))
    (.cons (.ret (.blt .tuple (.cons (.lc (.var 2) [2, 3] (.en (.var 0)) (.call M_is_tight [false, false] (.cons (.var 3) (.cons (.var 1) .nil))) [2, 3]) .nil)))
    .nil))
noncomputable def M_tight : MF := mkM [false, false] 4 B_tight
/- is_whole_place(place): 0 place -/
noncomputable def B_is_whole_place : Ss := (.cons (.ret (.and (.cmp .eq (.idx (.idx (.var 0) (.con (.int 0))) (.con (.int 1))) (.con (.int 1))) (.cmp .eq (.idx (.idx (.var 0) (.con (.int 1))) (.con (.int 1))) (.con (.int 1)))))
    .nil)
noncomputable def M_is_whole_place : MF := mkM [false] 1 B_is_whole_place
/- _law_is_tight(_law_row, _law_place): 0 _law_row 1 _law_place -/
noncomputable def B_law_is_tight : Ss := (.cons (.ret (.cmp .eq (.call M_law_value [false, false] (.cons (.var 0) (.cons (.var 1) .nil))) (.tup (.cons (.idx (.var 0) (.con (.int 2))) (.cons (.con (.int 1)) .nil)))))
    .nil)
noncomputable def M_law_is_tight : MF := mkM [false, false] 2 B_law_is_tight
/- greatest_at(places, a, b): 0 places 1 a 2 b 3 best 4 place 5 here -/
noncomputable def B_greatest_at : Ss := (.cons (.asg 3 (.con .none))
    (.cons (.sfor [4] (.sq (.var 0))
      (.cons (.asg 5 (.call M_value [false, false] (.cons (.tup (.cons (.var 1) (.cons (.var 2) .nil))) (.cons (.var 4) .nil))))
    (.cons (.sif (.or (.cmp .is (.var 3) (.con .none)) (.call M_is_less [false, false] (.cons (.idx (.var 3) (.con (.int 0))) (.cons (.var 5) .nil))))
      (.cons (.asg 3 (.tup (.cons (.var 5) (.cons (.var 4) .nil))))
    .nil)
      .nil)
    .nil)))
    (.cons (.retv 3)
    .nil)))
noncomputable def M_greatest_at : MF := mkM [false, false, false] 6 B_greatest_at
/- _law_greatest(_law_places, _law_a, _law_b): 0 _law_places 1 _law_a 2 _law_b 3 _law_most_here 4 _law_place 5 _law_here -/
noncomputable def B_law_greatest : Ss := (.cons (.asg 3 (.call M_law_value [false, false] (.cons (.tup (.cons (.var 1) (.cons (.var 2) .nil))) (.cons (.idx (.var 0) (.con (.int 0))) .nil))))
    (.cons (.sfor [4] (.sq (.slc (.var 0) (.con (.int 1)) (.con .none)))
      (.cons (.asg 5 (.call M_law_value [false, false] (.cons (.tup (.cons (.var 1) (.cons (.var 2) .nil))) (.cons (.var 4) .nil))))
    (.cons (.sif (.call M_law_less [false, false] (.cons (.var 3) (.cons (.var 5) .nil)))
      (.cons (.asg 3 (.var 5))
    .nil)
      .nil)
    .nil)))
    (.cons (.retv 3)
    .nil)))
noncomputable def M_law_greatest : MF := mkM [false, false, false] 6 B_law_greatest
/- _law_plus(_law_one, _law_other): 0 _law_one 1 _law_other -/
noncomputable def B_law_plus : Ss := (.cons (.ret (.call M_law_low [false, false] (.cons (.bin .add (.bin .mul (.idx (.var 0) (.con (.int 0))) (.idx (.var 1) (.con (.int 1)))) (.bin .mul (.idx (.var 1) (.con (.int 0))) (.idx (.var 0) (.con (.int 1))))) (.cons (.bin .mul (.idx (.var 0) (.con (.int 1))) (.idx (.var 1) (.con (.int 1)))) .nil))))
    .nil)
noncomputable def M_law_plus : MF := mkM [false, false] 2 B_law_plus
/- _law_inside(_law_places, _law_place): 0 _law_places 1 _law_place 2 _law_one 3 _law_other 4 _law_k -/
noncomputable def B_law_inside : Ss := (.cons (.sif (.cmp .eq (.var 0) (.lst .nil))
      (.cons (.ret (.con (.bool false)))
    .nil)
      .nil)
    (.cons (.sif (.cmp .eq (.blt .len (.cons (.var 0) .nil)) (.con (.int 1)))
      (.cons (.ret (.cmp .eq (.var 1) (.idx (.var 0) (.con (.int 0)))))
    .nil)
      .nil)
    (.cons (.sif (.cmp .eq (.blt .len (.cons (.var 0) .nil)) (.con (.int 2)))
      (.cons (.unp [2, 3] (.var 0))
    (.cons (.sif (.cmp .ne (.call M_law_bend [false, false, false] (.cons (.var 2) (.cons (.var 3) (.cons (.var 1) .nil)))) (.con (.int 0)))
      (.cons (.ret (.con (.bool false)))
    .nil)
      .nil)
    (.cons (.ret (.and (.nt (.call M_law_ahead [false, false] (.cons (.var 1) (.cons (.var 2) .nil)))) (.nt (.call M_law_ahead [false, false] (.cons (.var 3) (.cons (.var 1) .nil))))))
    .nil)))
      .nil)
    (.cons (.ret (.cmp .eq (.lc (.var 4) [4] (.rg (.blt .len (.cons (.var 0) .nil))) (.cmp .lt (.call M_law_bend [false, false, false] (.cons (.idx (.var 0) (.bin .sub (.var 4) (.con (.int 1)))) (.cons (.idx (.var 0) (.var 4)) (.cons (.var 1) .nil)))) (.con (.int 0))) [4]) (.lst .nil)))
    .nil))))
noncomputable def M_law_inside : MF := mkM [false, false] 5 B_law_inside
/- is_fraction(thing): 0 thing -/
noncomputable def B_is_fraction : Ss := (.cons (.sif (.or (.nt (.isi (.var 0) ["tuple"])) (.or (.cmp .ne (.blt .len (.cons (.var 0) .nil)) (.con (.int 2))) (.or (.nt (.call M_is_whole [false] (.cons (.idx (.var 0) (.con (.int 0))) .nil))) (.nt (.call M_is_whole [false] (.cons (.idx (.var 0) (.con (.int 1))) .nil))))))
      (.cons (.ret (.con (.bool false)))
    .nil)
      .nil)
    (.cons (.ret (.and (.cmp .gt (.idx (.var 0) (.con (.int 1))) (.con (.int 0))) (.cmp .eq (.call M_divisor [false, false] (.cons (.idx (.var 0) (.con (.int 0))) (.cons (.idx (.var 0) (.con (.int 1))) .nil))) (.con (.int 1)))))
    .nil))
noncomputable def M_is_fraction : MF := mkM [false] 1 B_is_fraction
/- floor_of(one): 0 one -/
noncomputable def B_floor_of : Ss := (.cons (.ret (.bin .fdiv (.idx (.var 0) (.con (.int 0))) (.idx (.var 0) (.con (.int 1)))))
    .nil)
noncomputable def M_floor_of : MF := mkM [false] 1 B_floor_of
/- are_weights(field, thing): 0 field 1 thing 2 one -/
noncomputable def B_are_weights : Ss := (.cons (.sif (.or (.nt (.isi (.var 1) ["tuple"])) (.or (.cmp .ne (.blt .len (.cons (.var 1) .nil)) (.blt .len (.cons (.var 0) .nil))) (.nt (.blt .all (.cons (.lc (.call M_is_fraction [false] (.cons (.var 2) .nil)) [2] (.sq (.var 1)) (.con (.bool true)) [2]) .nil)))))
      (.cons (.ret (.con (.bool false)))
    .nil)
      .nil)
    (.cons (.ret (.nt (.blt .any (.cons (.lc (.call M_is_less [false, false] (.cons (.var 2) (.cons (.con (.tuple [(.int 0), (.int 1)])) .nil))) [2] (.sq (.var 1)) (.con (.bool true)) [2]) .nil))))
    .nil))
noncomputable def M_are_weights : MF := mkM [false, false] 3 B_are_weights
/- need_weights(field, weights): 0 field 1 weights -/
noncomputable def B_need_weights : Ss := (.cons (.sif (.nt (.call M_are_weights [false, false] (.cons (.var 0) (.cons (.var 1) .nil))))
      (.cons (.rais (Str.ofString "NoWeights"))
    .nil)
      .nil)
    .nil)
noncomputable def M_need_weights : MF := mkM [false, false] 2 B_need_weights
/- summed(field, weights): 0 field 1 weights 2 found 3 row 4 weight 5 at -/
noncomputable def B_summed : Ss := (.cons (.asg 2 (.lst (.cons (.con (.tuple [(.int 0), (.int 1)])) (.cons (.con (.tuple [(.int 0), (.int 1)])) (.cons (.con (.tuple [(.int 0), (.int 1)])) .nil)))))
    (.cons (.sfor [3, 4] (.zp (.var 0) (.var 1))
      (.cons (.sfor [5] (.sq (.tup (.cons (.con (.int 0)) (.cons (.con (.int 1)) (.cons (.con (.int 2)) .nil)))))
      (.cons (.sti 2 (.var 5) (.call M_plus [false, false] (.cons (.idx (.var 2) (.var 5)) (.cons (.call M_times [false, false] (.cons (.var 4) (.cons (.idx (.var 3) (.var 5)) .nil))) .nil))))
    .nil))
    .nil))
    (.cons (.ret (.tup (.cons (.idx (.var 2) (.con (.int 0))) (.cons (.idx (.var 2) (.con (.int 1))) (.cons (.idx (.var 2) (.con (.int 2))) .nil)))))
    .nil)))
noncomputable def M_summed : MF := mkM [false, false] 6 B_summed
/- sum_by(field, weights): 0 field 1 weights -/
noncomputable def B_sum_by : Ss := (.cons (.exp (.call M_need_field [false] (.cons (.var 0) .nil)))
    (.cons (.exp (.call M_need_weights [false, false] (.cons (.var 0) (.cons (.var 1) .nil))))
    (.cons (.ret (.call M_summed [false, false] (.cons (.var 0) (.cons (.var 1) .nil))))
    .nil)))
noncomputable def M_sum_by : MF := mkM [false, false] 2 B_sum_by
/- cut_of(field, weights): 0 field 1 weights 2 a 3 b 4 c -/
noncomputable def B_cut_of : Ss := (.cons (.unp [2, 3, 4] (.call M_summed [false, false] (.cons (.var 0) (.cons (.var 1) .nil))))
    (.cons (.sif (.or (.cmp .ne (.idx (.var 2) (.con (.int 1))) (.con (.int 1))) (.or (.cmp .ne (.idx (.var 3) (.con (.int 1))) (.con (.int 1))) (.cmp .eq (.tup (.cons (.var 2) (.cons (.var 3) .nil))) (.tup (.cons (.con (.tuple [(.int 0), (.int 1)])) (.cons (.con (.tuple [(.int 0), (.int 1)])) .nil))))))
      (.cons (.ret (.con .none))
    .nil)
      .nil)
    (.cons (.ret (.tup (.cons (.idx (.var 2) (.con (.int 0))) (.cons (.idx (.var 3) (.con (.int 0))) (.cons (.call M_floor_of [false] (.cons (.var 4) .nil)) .nil)))))
    .nil)))
noncomputable def M_cut_of : MF := mkM [false, false] 5 B_cut_of
/- cut_by(field, weights): 0 field 1 weights 2 found -/
noncomputable def B_cut_by : Ss := (.cons (.exp (.call M_need_field [false] (.cons (.var 0) .nil)))
    (.cons (.exp (.call M_need_weights [false, false] (.cons (.var 0) (.cons (.var 1) .nil))))
    (.cons (.asg 2 (.call M_cut_of [false, false] (.cons (.var 0) (.cons (.var 1) .nil))))
    (.cons (.sif (.cmp .is (.var 2) (.con .none))
      (.cons (.rais (Str.ofString "NoCut"))
    .nil)
      .nil)
    (.cons (.retv 2)
    .nil)))))
noncomputable def M_cut_by : MF := mkM [false, false] 3 B_cut_by
/- _law_weights(_law_state_here, _law_rows): 0 _law_state_here 1 _law_rows 2 _law_many 3 _law_found 4 _law_way 5 _law_row 6 _law_one 7 _law_other 8 _law_by -/
noncomputable def B_law_weights : Ss := (.cons (.asg 2 (.blt .len (.cons (.var 1) .nil)))
    (.cons (.asg 3 (.bin .mul (.lst (.cons (.tup (.cons (.con (.int 0)) (.cons (.con (.int 1)) .nil))) .nil)) (.var 2)))
    (.cons (.asg 4 (.call M_law_take [true, false] (.cons (.var 0) (.cons (.con (.int 4)) .nil))))
    (.cons (.sif (.cmp .eq (.var 4) (.con (.int 0)))
      (.cons (.ret (.blt .tuple (.cons (.lc (.call M_law_low [false, false] (.cons (.call M_law_take [true, false] (.cons (.var 0) (.cons (.con (.int 7)) .nil))) (.cons (.bin .add (.con (.int 1)) (.call M_law_take [true, false] (.cons (.var 0) (.cons (.con (.int 4)) .nil)))) .nil))) [5] (.sq (.var 1)) (.con (.bool true)) [5]) .nil)))
    .nil)
      .nil)
    (.cons (.par [6, 7] (.cons (.call M_law_take [true, false] (.cons (.var 0) (.cons (.var 2) .nil))) (.cons (.call M_law_take [true, false] (.cons (.var 0) (.cons (.var 2) .nil))) .nil)))
    (.cons (.asg 8 (.blt .max2 (.cons (.con (.int 1)) (.cons (.blt .abs (.cons (.bin .sub (.bin .mul (.idx (.idx (.var 1) (.var 6)) (.con (.int 0))) (.idx (.idx (.var 1) (.var 7)) (.con (.int 1)))) (.bin .mul (.idx (.idx (.var 1) (.var 6)) (.con (.int 1))) (.idx (.idx (.var 1) (.var 7)) (.con (.int 0))))) .nil)) .nil))))
    (.cons (.sti 3 (.var 6) (.call M_law_low [false, false] (.cons (.call M_law_take [true, false] (.cons (.var 0) (.cons (.bin .mul (.con (.int 2)) (.var 8)) .nil))) (.cons (.var 8) .nil))))
    (.cons (.sti 3 (.var 7) (.call M_law_low [false, false] (.cons (.call M_law_take [true, false] (.cons (.var 0) (.cons (.bin .add (.var 8) (.con (.int 1))) .nil))) (.cons (.var 8) .nil))))
    (.cons (.sif (.cmp .eq (.var 4) (.con (.int 1)))
      (.cons (.sti 3 (.call M_law_take [true, false] (.cons (.var 0) (.cons (.var 2) .nil))) (.tup (.cons (.call M_law_take [true, false] (.cons (.var 0) (.cons (.con (.int 4)) .nil))) (.cons (.con (.int 1)) .nil))))
    .nil)
      .nil)
    (.cons (.ret (.blt .tuple (.cons (.var 3) .nil)))
    .nil))))))))))
noncomputable def M_law_weights : MF := mkM [true, false] 9 B_law_weights
/- _law_summed(_law_rows, _law_weights): 0 _law_rows 1 _law_weights 2 _law_found 3 _law_row 4 _law_weight 5 _law_at -/
noncomputable def B_law_summed : Ss := (.cons (.asg 2 (.lst (.cons (.tup (.cons (.con (.int 0)) (.cons (.con (.int 1)) .nil))) (.cons (.tup (.cons (.con (.int 0)) (.cons (.con (.int 1)) .nil))) (.cons (.tup (.cons (.con (.int 0)) (.cons (.con (.int 1)) .nil))) .nil)))))
    (.cons (.sfor [3, 4] (.zp (.var 0) (.var 1))
      (.cons (.sfor [5] (.rg (.con (.int 3)))
      (.cons (.sti 2 (.var 5) (.call M_law_plus [false, false] (.cons (.idx (.var 2) (.var 5)) (.cons (.call M_law_times [false, false] (.cons (.var 4) (.cons (.tup (.cons (.idx (.var 3) (.var 5)) (.cons (.con (.int 1)) .nil))) .nil))) .nil))))
    .nil))
    .nil))
    (.cons (.ret (.blt .tuple (.cons (.var 2) .nil)))
    .nil)))
noncomputable def M_law_summed : MF := mkM [false, false] 6 B_law_summed
/- _law_cut(_law_rows, _law_weights): 0 _law_rows 1 _law_weights 2 _law_a 3 _law_b 4 _law_c -/
noncomputable def B_law_cut : Ss := (.cons (.unp [2, 3, 4] (.call M_law_summed [false, false] (.cons (.var 0) (.cons (.var 1) .nil))))
    (.cons (.sif (.or (.cmp .ne (.idx (.var 2) (.con (.int 1))) (.con (.int 1))) (.or (.cmp .ne (.idx (.var 3) (.con (.int 1))) (.con (.int 1))) (.and (.cmp .eq (.idx (.var 2) (.con (.int 0))) (.con (.int 0))) (.cmp .eq (.idx (.var 3) (.con (.int 0))) (.con (.int 0))))))
      (.cons (.ret (.con .none))
    .nil)
      .nil)
    (.cons (.ret (.tup (.cons (.idx (.var 2) (.con (.int 0))) (.cons (.idx (.var 3) (.con (.int 0))) (.cons (.bin .fdiv (.idx (.var 4) (.con (.int 0))) (.idx (.var 4) (.con (.int 1)))) .nil)))))
    .nil)))
noncomputable def M_law_cut : MF := mkM [false, false] 5 B_law_cut
/- is_paper(field, thing): 0 field 1 thing -/
noncomputable def B_is_paper : Ss := (.cons (.exp (.call M_need_field [false] (.cons (.var 0) .nil)))
    (.cons (.sif (.or (.nt (.isi (.var 1) ["tuple"])) (.or (.cmp .ne (.blt .len (.cons (.var 1) .nil)) (.con (.int 2))) (.or (.nt (.call M_are_weights [false, false] (.cons (.var 0) (.cons (.idx (.var 1) (.con (.int 0))) .nil)))) (.nt (.call M_is_row [false] (.cons (.idx (.var 1) (.con (.int 1))) .nil))))))
      (.cons (.ret (.con (.bool false)))
    .nil)
      .nil)
    (.cons (.ret (.cmp .eq (.call M_cut_of [false, false] (.cons (.var 0) (.cons (.idx (.var 1) (.con (.int 0))) .nil))) (.idx (.var 1) (.con (.int 1)))))
    .nil)))
noncomputable def M_is_paper : MF := mkM [false, false] 2 B_is_paper
/- _law_is_fraction(_law_thing): 0 _law_thing -/
noncomputable def B_law_is_fraction : Ss := (.cons (.sif (.or (.nt (.isi (.var 0) ["tuple"])) (.or (.cmp .ne (.blt .len (.cons (.var 0) .nil)) (.con (.int 2))) (.or (.nt (.call M_law_whole [false] (.cons (.idx (.var 0) (.con (.int 0))) .nil))) (.nt (.call M_law_whole [false] (.cons (.idx (.var 0) (.con (.int 1))) .nil))))))
      (.cons (.ret (.con (.bool false)))
    .nil)
      .nil)
    (.cons (.ret (.and (.cmp .gt (.idx (.var 0) (.con (.int 1))) (.con (.int 0))) (.cmp .eq (.call M_law_divisor [false, false] (.cons (.idx (.var 0) (.con (.int 0))) (.cons (.idx (.var 0) (.con (.int 1))) .nil))) (.con (.int 1)))))
    .nil))
noncomputable def M_law_is_fraction : MF := mkM [false] 1 B_law_is_fraction
/- shares(one, other, third): 0 one 1 other 2 third 3 by -/
noncomputable def B_shares : Ss := (.cons (.asg 3 (.call M_twist [false, false] (.cons (.var 0) (.cons (.var 1) .nil))))
    (.cons (.ret (.tup (.cons (.call M_ratio [false, false] (.cons (.call M_twist [false, false] (.cons (.var 2) (.cons (.var 1) .nil))) (.cons (.var 3) .nil))) (.cons (.call M_ratio [false, false] (.cons (.call M_twist [false, false] (.cons (.var 0) (.cons (.var 2) .nil))) (.cons (.var 3) .nil))) .nil))))
    .nil))
noncomputable def M_shares : MF := mkM [false, false, false] 4 B_shares
/- short(one): 0 one 1 share -/
noncomputable def B_short : Ss := (.cons (.asg 1 (.call M_divisor [false, false] (.cons (.idx (.var 0) (.con (.int 0))) (.cons (.idx (.var 0) (.con (.int 1))) .nil))))
    (.cons (.ret (.tup (.cons (.bin .fdiv (.idx (.var 0) (.con (.int 0))) (.var 1)) (.cons (.bin .fdiv (.idx (.var 0) (.con (.int 1))) (.var 1)) .nil))))
    .nil))
noncomputable def M_short : MF := mkM [false] 2 B_short
/- half(one): 0 one -/
noncomputable def B_half : Ss := (.cons (.ret (.blt .int (.cons (.or (.cmp .lt (.idx (.var 0) (.con (.int 1))) (.con (.int 0))) (.and (.cmp .eq (.idx (.var 0) (.con (.int 1))) (.con (.int 0))) (.cmp .lt (.idx (.var 0) (.con (.int 0))) (.con (.int 0))))) .nil)))
    .nil)
noncomputable def M_half : MF := mkM [false] 1 B_half
/- is_ahead(one, other): 0 one 1 other -/
noncomputable def B_is_ahead : Ss := (.cons (.sif (.cmp .ne (.call M_half [false] (.cons (.var 0) .nil)) (.call M_half [false] (.cons (.var 1) .nil)))
      (.cons (.ret (.cmp .lt (.call M_half [false] (.cons (.var 0) .nil)) (.call M_half [false] (.cons (.var 1) .nil))))
    .nil)
      .nil)
    (.cons (.ret (.cmp .gt (.call M_twist [false, false] (.cons (.var 0) (.cons (.var 1) .nil))) (.con (.int 0))))
    .nil))
noncomputable def M_is_ahead : MF := mkM [false, false] 2 B_is_ahead
/- turned_round(rows, place): 0 rows 1 place 2 found 3 known 4 number 5 row 6 at 7 other -/
noncomputable def B_turned_round : Ss := (.cons (.asg 2 (.lst .nil))
    (.cons (.asg 3 .dct)
    (.cons (.sfor [4, 5] (.en (.var 0))
      (.cons (.sif (.and (.call M_is_tight [false, false] (.cons (.var 5) (.cons (.var 1) .nil))) (.cmp .notin (.call M_short [false] (.cons (.var 5) .nil)) (.var 3)))
      (.cons (.sti 3 (.call M_short [false] (.cons (.var 5) .nil)) (.con (.bool true)))
    (.cons (.asg 6 (.blt .len (.cons (.lc (.var 7) [7] (.sq (.var 2)) (.call M_is_ahead [false, false] (.cons (.idx (.var 0) (.var 7)) (.cons (.var 5) .nil))) [7]) .nil)))
    (.cons (.mth 2 .insert (.cons (.var 6) (.cons (.var 4) .nil)))
    .nil)))
      .nil)
    .nil))
    (.cons (.retv 2)
    .nil))))
noncomputable def M_turned_round : MF := mkM [false, false] 8 B_turned_round
/- neighbours(rows, place): 0 rows 1 place 2 some 3 found 4 one 5 other -/
noncomputable def B_neighbours : Ss := (.cons (.asg 2 (.call M_turned_round [false, false] (.cons (.var 0) (.cons (.var 1) .nil))))
    (.cons (.asg 3 (.lst .nil))
    (.cons (.sfor [4, 5] (.zp (.var 2) (.bin .add (.slc (.var 2) (.con (.int 1)) (.con .none)) (.slc (.var 2) (.con .none) (.con (.int 1)))))
      (.cons (.sif (.cmp .gt (.call M_twist [false, false] (.cons (.idx (.var 0) (.var 4)) (.cons (.idx (.var 0) (.var 5)) .nil))) (.con (.int 0)))
      (.cons (.mth 3 .append (.cons (.tup (.cons (.var 4) (.cons (.var 5) .nil))) .nil))
    .nil)
      .nil)
    .nil))
    (.cons (.retv 3)
    .nil))))
noncomputable def M_neighbours : MF := mkM [false, false] 6 B_neighbours
/- pair_towards(rows, place, direction): 0 rows 1 place 2 direction 3 one 4 other 5 mine 6 theirs -/
noncomputable def B_pair_towards : Ss := (.cons (.sfor [3, 4] (.sq (.call M_neighbours [false, false] (.cons (.var 0) (.cons (.var 1) .nil))))
      (.cons (.unp [5, 6] (.call M_shares [false, false, false] (.cons (.idx (.var 0) (.var 3)) (.cons (.idx (.var 0) (.var 4)) (.cons (.var 2) .nil)))))
    (.cons (.sif (.and (.nt (.call M_is_less [false, false] (.cons (.var 5) (.cons (.con (.tuple [(.int 0), (.int 1)])) .nil)))) (.nt (.call M_is_less [false, false] (.cons (.var 6) (.cons (.con (.tuple [(.int 0), (.int 1)])) .nil)))))
      (.cons (.ret (.lst (.cons (.tup (.cons (.var 3) (.cons (.var 5) .nil))) (.cons (.tup (.cons (.var 4) (.cons (.var 6) .nil))) .nil))))
    .nil)
      .nil)
    .nil)))
    (.cons (.ret (.lst .nil))
    .nil))
noncomputable def M_pair_towards : MF := mkM [false, false, false] 7 B_pair_towards
/- weights_of(field, some): 0 field 1 some 2 found 3 number 4 weight -/
noncomputable def B_weights_of : Ss := (.cons (.asg 2 (.bin .mul (.lst (.cons (.con (.tuple [(.int 0), (.int 1)])) .nil)) (.blt .len (.cons (.var 0) .nil))))
    (.cons (.sfor [3, 4] (.sq (.var 1))
      (.cons (.sti 2 (.var 3) (.call M_plus [false, false] (.cons (.idx (.var 2) (.var 3)) (.cons (.var 4) .nil))))
    .nil))
    (.cons (.ret (.blt .tuple (.cons (.var 2) .nil)))
    .nil)))
noncomputable def M_weights_of : MF := mkM [false, false] 5 B_weights_of
/- _law_whole_left(_law_rows, _law_places): 0 _law_rows 1 _law_places 2 _law_lows 3 _law_place 4 _law_at 5 _law_highs 6 _law_found 7 _law_x 8 _law_y 9 _law_row -/
noncomputable def B_law_whole_left : Ss := (.cons (.sif (.cmp .eq (.var 1) (.lst .nil))
      (.cons (.ret (.lst .nil))
    .nil)
      .nil)
    (.cons (.asg 2 (.lc (.blt .min1 (.cons (.lc (.bin .fdiv (.idx (.idx (.var 3) (.var 4)) (.con (.int 0))) (.idx (.idx (.var 3) (.var 4)) (.con (.int 1)))) [3] (.sq (.var 1)) (.con (.bool true)) [3]) .nil)) [4] (.sq (.tup (.cons (.con (.int 0)) (.cons (.con (.int 1)) .nil)))) (.con (.bool true)) [4]))
    (.cons (.asg 5 (.lc (.blt .max1 (.cons (.lc (.bin .fdiv (.idx (.idx (.var 3) (.var 4)) (.con (.int 0))) (.idx (.idx (.var 3) (.var 4)) (.con (.int 1)))) [3] (.sq (.var 1)) (.con (.bool true)) [3]) .nil)) [4] (.sq (.tup (.cons (.con (.int 0)) (.cons (.con (.int 1)) .nil)))) (.con (.bool true)) [4]))
    (.cons (.asg 6 (.lst .nil))
    (.cons (.sfor [7] (.rg2 (.idx (.var 2) (.con (.int 0))) (.bin .add (.idx (.var 5) (.con (.int 0))) (.con (.int 1))))
      (.cons (.sfor [8] (.rg2 (.idx (.var 2) (.con (.int 1))) (.bin .add (.idx (.var 5) (.con (.int 1))) (.con (.int 1))))
      (.cons (.sif (.cmp .eq (.lc (.var 9) [9] (.sq (.var 0)) (.cmp .gt (.bin .add (.bin .mul (.idx (.var 9) (.con (.int 0))) (.var 7)) (.bin .mul (.idx (.var 9) (.con (.int 1))) (.var 8))) (.idx (.var 9) (.con (.int 2)))) [9]) (.lst .nil))
      (.cons (.mth 6 .append (.cons (.tup (.cons (.tup (.cons (.var 7) (.cons (.con (.int 1)) .nil))) (.cons (.tup (.cons (.var 8) (.cons (.con (.int 1)) .nil))) .nil))) .nil))
    .nil)
      .nil)
    .nil))
    .nil))
    (.cons (.retv 6)
    .nil))))))
noncomputable def M_law_whole_left : MF := mkM [false, false] 10 B_law_whole_left
/- need_turn(one, other): 0 one 1 other -/
noncomputable def B_need_turn : Ss := (.cons (.sif (.cmp .le (.call M_twist [false, false] (.cons (.var 0) (.cons (.var 1) .nil))) (.con (.int 0)))
      (.cons (.rais (Str.ofString "NoTurn"))
    .nil)
      .nil)
    .nil)
noncomputable def M_need_turn : MF := mkM [false, false] 2 B_need_turn
/- parts(one, other, thing): 0 one 1 other 2 thing 3 found -/
noncomputable def B_parts : Ss := (.cons (.exp (.call M_need_turn [false, false] (.cons (.var 0) (.cons (.var 1) .nil))))
    (.cons (.sif (.or (.nt (.isi (.var 2) ["tuple"])) (.or (.cmp .ne (.blt .len (.cons (.var 2) .nil)) (.con (.int 2))) (.or (.nt (.call M_is_whole [false] (.cons (.idx (.var 2) (.con (.int 0))) .nil))) (.nt (.call M_is_whole [false] (.cons (.idx (.var 2) (.con (.int 1))) .nil))))))
      (.cons (.ret (.con .none))
    .nil)
      .nil)
    (.cons (.asg 3 (.call M_shares [false, false, false] (.cons (.var 0) (.cons (.var 1) (.cons (.var 2) .nil)))))
    (.cons (.sif (.or (.cmp .eq (.var 2) (.tup (.cons (.con (.int 0)) (.cons (.con (.int 0)) .nil)))) (.or (.call M_is_less [false, false] (.cons (.idx (.var 3) (.con (.int 0))) (.cons (.con (.tuple [(.int 0), (.int 1)])) .nil))) (.call M_is_less [false, false] (.cons (.idx (.var 3) (.con (.int 1))) (.cons (.con (.tuple [(.int 0), (.int 1)])) .nil)))))
      (.cons (.ret (.con .none))
    .nil)
      .nil)
    (.cons (.retv 3)
    .nil)))))
noncomputable def M_parts : MF := mkM [false, false, false] 4 B_parts
/- first_beside(one): 0 one 1 a 2 b 3 rest 4 more 5 by 6 here 7 there -/
noncomputable def B_first_beside : Ss := (.cons (.unp [1, 2] (.var 0))
    (.cons (.par [3, 4] (.cons (.tup (.cons (.var 1) (.cons (.con (.int 1)) (.cons (.con (.int 0)) .nil)))) (.cons (.tup (.cons (.var 2) (.cons (.con (.int 0)) (.cons (.con (.int 1)) .nil)))) .nil)))
    (.cons (.whl (.cmp .ne (.idx (.var 4) (.con (.int 0))) (.con (.int 0)))
      (.cons (.asg 5 (.bin .fdiv (.idx (.var 3) (.con (.int 0))) (.idx (.var 4) (.con (.int 0)))))
    (.cons (.par [3, 4] (.cons (.var 4) (.cons (.blt .tuple (.cons (.lc (.bin .sub (.var 6) (.bin .mul (.var 5) (.var 7))) [6, 7] (.zp (.var 3) (.var 4)) (.con (.bool true)) [6, 7]) .nil)) .nil)))
    .nil)))
    (.cons (.ret (.tup (.cons (.bin .sub (.con (.int 0)) (.bin .mul (.idx (.var 3) (.con (.int 0))) (.idx (.var 3) (.con (.int 2))))) (.cons (.bin .mul (.idx (.var 3) (.con (.int 0))) (.idx (.var 3) (.con (.int 1)))) .nil))))
    .nil))))
noncomputable def M_first_beside : MF := mkM [false] 8 B_first_beside
/- next_least(here, last): 0 here 1 last 2 some 3 many -/
noncomputable def B_next_least : Ss := (.cons (.asg 2 (.call M_first_beside [false] (.cons (.var 0) .nil)))
    (.cons (.asg 3 (.bin .fdiv (.call M_twist [false, false] (.cons (.var 2) (.cons (.var 1) .nil))) (.call M_twist [false, false] (.cons (.var 0) (.cons (.var 1) .nil)))))
    (.cons (.ret (.tup (.cons (.bin .sub (.idx (.var 2) (.con (.int 0))) (.bin .mul (.var 3) (.idx (.var 0) (.con (.int 0))))) (.cons (.bin .sub (.idx (.var 2) (.con (.int 1))) (.bin .mul (.var 3) (.idx (.var 0) (.con (.int 1))))) .nil))))
    .nil)))
noncomputable def M_next_least : MF := mkM [false, false] 4 B_next_least
/- least_between(one, other): 0 one 1 other 2 last 3 found -/
noncomputable def B_least_between : Ss := (.cons (.asg 2 (.call M_short [false] (.cons (.var 1) .nil)))
    (.cons (.asg 3 (.lst (.cons (.call M_short [false] (.cons (.var 0) .nil)) .nil)))
    (.cons (.whl (.cmp .ne (.idx (.var 3) (.neg (.con (.int 1)))) (.var 2))
      (.cons (.mth 3 .append (.cons (.call M_next_least [false, false] (.cons (.idx (.var 3) (.neg (.con (.int 1)))) (.cons (.var 2) .nil))) .nil))
    .nil))
    (.cons (.retv 3)
    .nil))))
noncomputable def M_least_between : MF := mkM [false, false] 4 B_least_between
/- between(one, other): 0 one 1 other -/
noncomputable def B_between : Ss := (.cons (.exp (.call M_need_turn [false, false] (.cons (.var 0) (.cons (.var 1) .nil))))
    (.cons (.ret (.call M_least_between [false, false] (.cons (.var 0) (.cons (.var 1) .nil))))
    .nil))
noncomputable def M_between : MF := mkM [false, false] 2 B_between
/- over(one, other): 0 one 1 other -/
noncomputable def B_over : Ss := (.cons (.ret (.call M_ratio [false, false] (.cons (.bin .mul (.idx (.var 0) (.con (.int 0))) (.idx (.var 1) (.con (.int 1)))) (.cons (.bin .mul (.idx (.var 0) (.con (.int 1))) (.idx (.var 1) (.con (.int 0)))) .nil))))
    .nil)
noncomputable def M_over : MF := mkM [false, false] 2 B_over
/- room(row, place): 0 row 1 place -/
noncomputable def B_room : Ss := (.cons (.ret (.call M_minus [false, false] (.cons (.tup (.cons (.idx (.var 0) (.con (.int 2))) (.cons (.con (.int 1)) .nil))) (.cons (.call M_value [false, false] (.cons (.var 0) (.cons (.var 1) .nil))) .nil))))
    .nil)
noncomputable def M_room : MF := mkM [false, false] 2 B_room
/- between_places(one, other, row): 0 one 1 other 2 row 3 here 4 share 5 found 6 at -/
noncomputable def B_between_places : Ss := (.cons (.asg 3 (.call M_room [false, false] (.cons (.var 2) (.cons (.var 0) .nil))))
    (.cons (.asg 4 (.call M_over [false, false] (.cons (.var 3) (.cons (.call M_minus [false, false] (.cons (.var 3) (.cons (.call M_room [false, false] (.cons (.var 2) (.cons (.var 1) .nil))) .nil))) .nil))))
    (.cons (.asg 5 (.lst .nil))
    (.cons (.sfor [6] (.sq (.tup (.cons (.con (.int 0)) (.cons (.con (.int 1)) .nil))))
      (.cons (.mth 5 .append (.cons (.call M_plus [false, false] (.cons (.idx (.var 0) (.var 6)) (.cons (.call M_product [false, false] (.cons (.var 4) (.cons (.call M_minus [false, false] (.cons (.idx (.var 1) (.var 6)) (.cons (.idx (.var 0) (.var 6)) .nil))) .nil))) .nil))) .nil))
    .nil))
    (.cons (.ret (.tup (.cons (.idx (.var 5) (.con (.int 0))) (.cons (.idx (.var 5) (.con (.int 1))) .nil))))
    .nil)))))
noncomputable def M_between_places : MF := mkM [false, false, false] 7 B_between_places
/- unlike(places): 0 places 1 found 2 place -/
noncomputable def B_unlike : Ss := (.cons (.asg 1 (.lst .nil))
    (.cons (.sfor [2] (.sq (.var 0))
      (.cons (.sif (.cmp .notin (.var 2) (.var 1))
      (.cons (.mth 1 .append (.cons (.var 2) .nil))
    .nil)
      .nil)
    .nil))
    (.cons (.retv 1)
    .nil)))
noncomputable def M_unlike : MF := mkM [false] 3 B_unlike
/- cuts_at(rows, place): 0 rows 1 place 2 found 3 one 4 other 5 a 6 b 7 mine 8 theirs 9 most -/
noncomputable def B_cuts_at : Ss := (.cons (.asg 2 (.lst .nil))
    (.cons (.sfor [3, 4] (.sq (.call M_neighbours [false, false] (.cons (.var 0) (.cons (.var 1) .nil))))
      (.cons (.sfor [5, 6] (.sq (.call M_least_between [false, false] (.cons (.idx (.var 0) (.var 3)) (.cons (.idx (.var 0) (.var 4)) .nil))))
      (.cons (.unp [7, 8] (.call M_shares [false, false, false] (.cons (.idx (.var 0) (.var 3)) (.cons (.idx (.var 0) (.var 4)) (.cons (.tup (.cons (.var 5) (.cons (.var 6) .nil))) .nil)))))
    (.cons (.asg 9 (.call M_plus [false, false] (.cons (.call M_times [false, false] (.cons (.var 7) (.cons (.idx (.idx (.var 0) (.var 3)) (.con (.int 2))) .nil))) (.cons (.call M_times [false, false] (.cons (.var 8) (.cons (.idx (.idx (.var 0) (.var 4)) (.con (.int 2))) .nil))) .nil))))
    (.cons (.mth 2 .append (.cons (.tup (.cons (.tup (.cons (.tup (.cons (.var 3) (.cons (.var 7) .nil))) (.cons (.tup (.cons (.var 4) (.cons (.var 8) .nil))) .nil))) (.cons (.tup (.cons (.var 5) (.cons (.var 6) (.cons (.call M_floor_of [false] (.cons (.var 9) .nil)) .nil)))) .nil))) .nil))
    .nil))))
    .nil))
    (.cons (.retv 2)
    .nil)))
noncomputable def M_cuts_at : MF := mkM [false, false] 10 B_cuts_at
/- cuts_of(rows, points): 0 rows 1 points 2 found 3 known 4 place 5 some 6 row -/
noncomputable def B_cuts_of : Ss := (.cons (.asg 2 (.lst .nil))
    (.cons (.asg 3 .dct)
    (.cons (.sfor [4] (.sq (.var 1))
      (.cons (.sfor [5, 6] (.sq (.call M_cuts_at [false, false] (.cons (.var 0) (.cons (.var 4) .nil))))
      (.cons (.sif (.cmp .notin (.var 6) (.var 3))
      (.cons (.sti 3 (.var 6) (.con (.bool true)))
    (.cons (.mth 2 .append (.cons (.tup (.cons (.var 5) (.cons (.var 6) .nil))) .nil))
    .nil))
      .nil)
    .nil))
    .nil))
    (.cons (.retv 2)
    .nil))))
noncomputable def M_cuts_of : MF := mkM [false, false] 7 B_cuts_of
/- _law_all_cuts(_law_rows): 0 _law_rows 1 _law_found 2 _law_at 3 _law_a 4 _law_b 5 _law_c 6 _law_d 7 _law_e 8 _law_f 9 _law_by 10 _law_p 11 _law_q 12 _law_u 13 _law_v -/
noncomputable def B_law_all_cuts : Ss := (.cons (.asg 1 .dct)
    (.cons (.sfor [2] (.rg (.blt .len (.cons (.var 0) .nil)))
      (.cons (.sfor [3, 4, 5] (.sq (.slc (.var 0) (.bin .add (.var 2) (.con (.int 1))) (.con .none)))
      (.cons (.unp [6, 7, 8] (.idx (.var 0) (.var 2)))
    (.cons (.asg 9 (.blt .abs (.cons (.bin .sub (.bin .mul (.var 3) (.var 7)) (.bin .mul (.var 4) (.var 6))) .nil)))
    (.cons (.sfor [10] (.rg (.var 9))
      (.cons (.sfor [11] (.rg (.var 9))
      (.cons (.par [12, 13] (.cons (.bin .add (.bin .mul (.var 10) (.var 3)) (.bin .mul (.var 11) (.var 6))) (.cons (.bin .add (.bin .mul (.var 10) (.var 4)) (.bin .mul (.var 11) (.var 7))) .nil)))
    (.cons (.sif (.and (.cmp .eq (.bin .mod (.var 12) (.var 9)) (.con (.int 0))) (.and (.cmp .eq (.bin .mod (.var 13) (.var 9)) (.con (.int 0))) (.or (.cmp .ne (.var 12) (.con (.int 0))) (.cmp .ne (.var 13) (.con (.int 0))))))
      (.cons (.sti 1 (.tup (.cons (.bin .fdiv (.var 12) (.var 9)) (.cons (.bin .fdiv (.var 13) (.var 9)) (.cons (.bin .fdiv (.bin .add (.bin .mul (.var 10) (.var 5)) (.bin .mul (.var 11) (.var 8))) (.var 9)) .nil)))) (.con (.bool true)))
    .nil)
      .nil)
    .nil)))
    .nil))
    .nil))))
    .nil))
    (.cons (.ret (.blt .list (.cons (.var 1) .nil)))
    .nil)))
noncomputable def M_law_all_cuts : MF := mkM [false] 14 B_law_all_cuts
/- _law_over(_law_one, _law_other): 0 _law_one 1 _law_other -/
noncomputable def B_law_over : Ss := (.cons (.ret (.call M_law_low [false, false] (.cons (.bin .mul (.idx (.var 0) (.con (.int 0))) (.idx (.var 1) (.con (.int 1)))) (.cons (.bin .mul (.idx (.var 0) (.con (.int 1))) (.idx (.var 1) (.con (.int 0)))) .nil))))
    .nil)
noncomputable def M_law_over : MF := mkM [false, false] 2 B_law_over
/- _law_part(_law_one, _law_other, _law_row): 0 _law_one 1 _law_other 2 _law_row 3 _law_here 4 _law_share 5 _law_k -/
noncomputable def B_law_part : Ss := (.cons (.asg 3 (.call M_law_minus [false, false] (.cons (.tup (.cons (.idx (.var 2) (.con (.int 2))) (.cons (.con (.int 1)) .nil))) (.cons (.call M_law_value [false, false] (.cons (.var 2) (.cons (.var 0) .nil))) .nil))))
    (.cons (.asg 4 (.call M_law_over [false, false] (.cons (.var 3) (.cons (.call M_law_minus [false, false] (.cons (.call M_law_value [false, false] (.cons (.var 2) (.cons (.var 1) .nil))) (.cons (.call M_law_value [false, false] (.cons (.var 2) (.cons (.var 0) .nil))) .nil))) .nil))))
    (.cons (.ret (.blt .tuple (.cons (.lc (.call M_law_plus [false, false] (.cons (.idx (.var 0) (.var 5)) (.cons (.call M_law_times [false, false] (.cons (.var 4) (.cons (.call M_law_minus [false, false] (.cons (.idx (.var 1) (.var 5)) (.cons (.idx (.var 0) (.var 5)) .nil))) .nil))) .nil))) [5] (.rg (.con (.int 2))) (.con (.bool true)) [5]) .nil)))
    .nil)))
noncomputable def M_law_part : MF := mkM [false, false, false] 6 B_law_part
/- _law_clipped(_law_places, _law_row): 0 _law_places 1 _law_row 2 _law_place 3 _law_found 4 _law_one 5 _law_other -/
noncomputable def B_law_clipped : Ss := (.cons (.sif (.cmp .eq (.lc (.var 2) [2] (.sq (.var 0)) (.nt (.call M_law_keeps [false, false] (.cons (.var 1) (.cons (.var 2) .nil)))) [2]) (.lst .nil))
      (.cons (.retv 0)
    .nil)
      .nil)
    (.cons (.asg 3 (.lst .nil))
    (.cons (.sfor [4, 5] (.zp (.var 0) (.bin .add (.slc (.var 0) (.con (.int 1)) (.con .none)) (.slc (.var 0) (.con .none) (.con (.int 1)))))
      (.cons (.sif (.call M_law_keeps [false, false] (.cons (.var 1) (.cons (.var 4) .nil)))
      (.cons (.mth 3 .append (.cons (.var 4) .nil))
    .nil)
      .nil)
    (.cons (.sif (.cmp .ne (.call M_law_keeps [false, false] (.cons (.var 1) (.cons (.var 4) .nil))) (.call M_law_keeps [false, false] (.cons (.var 1) (.cons (.var 5) .nil))))
      (.cons (.mth 3 .append (.cons (.call M_law_part [false, false, false] (.cons (.var 4) (.cons (.var 5) (.cons (.var 1) .nil)))) .nil))
    .nil)
      .nil)
    .nil)))
    (.cons (.ret (.call M_law_ring [false] (.cons (.var 3) .nil)))
    .nil))))
noncomputable def M_law_clipped : MF := mkM [false, false] 6 B_law_clipped
/- _law_round(_law_places, _law_most_here): 0 _law_places 1 _law_most_here 2 _law_left 3 _law_a 4 _law_b 5 _law_top -/
noncomputable def B_law_round : Ss := (.cons (.asg 2 (.var 0))
    (.cons (.sfor [3] (.rg2 (.bin .sub (.con (.int 0)) (.var 1)) (.bin .add (.var 1) (.con (.int 1))))
      (.cons (.sfor [4] (.rg2 (.bin .sub (.con (.int 0)) (.var 1)) (.bin .add (.var 1) (.con (.int 1))))
      (.cons (.sif (.and (.cmp .ne (.tup (.cons (.var 3) (.cons (.var 4) .nil))) (.tup (.cons (.con (.int 0)) (.cons (.con (.int 0)) .nil)))) (.cmp .ne (.var 2) (.lst .nil)))
      (.cons (.asg 5 (.call M_law_greatest [false, false, false] (.cons (.var 0) (.cons (.var 3) (.cons (.var 4) .nil)))))
    (.cons (.asg 2 (.call M_law_clipped [false, false] (.cons (.var 2) (.cons (.tup (.cons (.var 3) (.cons (.var 4) (.cons (.bin .fdiv (.idx (.var 5) (.con (.int 0))) (.idx (.var 5) (.con (.int 1)))) .nil)))) .nil))))
    .nil))
      .nil)
    .nil))
    .nil))
    (.cons (.retv 2)
    .nil)))
noncomputable def M_law_round : MF := mkM [false, false] 6 B_law_round
/- _law_is_paper(_law_field_here, _law_thing): 0 _law_field_here 1 _law_thing 2 _law_one -/
noncomputable def B_law_is_paper : Ss := (.cons (.sif (.or (.nt (.isi (.var 1) ["tuple"])) (.or (.cmp .ne (.blt .len (.cons (.var 1) .nil)) (.con (.int 2))) (.nt (.isi (.idx (.var 1) (.con (.int 0))) ["tuple"]))))
      (.cons (.ret (.con (.bool false)))
    .nil)
      .nil)
    (.cons (.sif (.or (.cmp .ne (.blt .len (.cons (.idx (.var 1) (.con (.int 0))) .nil)) (.blt .len (.cons (.var 0) .nil))) (.cmp .ne (.lc (.var 2) [2] (.sq (.idx (.var 1) (.con (.int 0)))) (.or (.nt (.call M_law_is_fraction [false] (.cons (.var 2) .nil))) (.cmp .lt (.idx (.var 2) (.con (.int 0))) (.con (.int 0)))) [2]) (.lst .nil)))
      (.cons (.ret (.con (.bool false)))
    .nil)
      .nil)
    (.cons (.ret (.and (.isi (.idx (.var 1) (.con (.int 1))) ["tuple"]) (.cmp .eq (.call M_law_cut [false, false] (.cons (.var 0) (.cons (.idx (.var 1) (.con (.int 0))) .nil))) (.idx (.var 1) (.con (.int 1))))))
    .nil)))
noncomputable def M_law_is_paper : MF := mkM [false, false] 3 B_law_is_paper
/- is_done(points): 0 points 1 place -/
noncomputable def B_is_done : Ss := (.cons (.ret (.blt .all (.cons (.lc (.call M_is_whole_place [false] (.cons (.var 1) .nil)) [1] (.sq (.var 0)) (.con (.bool true)) [1]) .nil)))
    .nil)
noncomputable def M_is_done : MF := mkM [false] 2 B_is_done
/- _law_whole_place(_law_place): 0 _law_place -/
noncomputable def B_law_whole_place : Ss := (.cons (.ret (.and (.cmp .eq (.idx (.idx (.var 0) (.con (.int 0))) (.con (.int 1))) (.con (.int 1))) (.cmp .eq (.idx (.idx (.var 0) (.con (.int 1))) (.con (.int 1))) (.con (.int 1)))))
    .nil)
noncomputable def M_law_whole_place : MF := mkM [false] 1 B_law_whole_place
/- _law_most(_law_rows): 0 _law_rows 1 _law_row -/
noncomputable def B_law_most : Ss := (.cons (.ret (.blt .max1 (.cons (.lc (.blt .max2 (.cons (.blt .abs (.cons (.idx (.var 1) (.con (.int 0))) .nil)) (.cons (.blt .abs (.cons (.idx (.var 1) (.con (.int 1))) .nil)) .nil))) [1] (.sq (.var 0)) (.con (.bool true)) [1]) .nil)))
    .nil)
noncomputable def M_law_most : MF := mkM [false] 2 B_law_most
/- _law_rounds(_law_field_here): 0 _law_field_here 1 _law_found 2 _law_place -/
noncomputable def B_law_rounds : Ss := (.cons (.asg 1 (.lst (.cons (.call M_law_corners [false] (.cons (.var 0) .nil)) .nil)))
    (.cons (.whl (.cmp .ne (.lc (.var 2) [2] (.sq (.idx (.var 1) (.neg (.con (.int 1))))) (.nt (.call M_law_whole_place [false] (.cons (.var 2) .nil))) [2]) (.lst .nil))
      (.cons (.mth 1 .append (.cons (.call M_law_round [false, false] (.cons (.idx (.var 1) (.neg (.con (.int 1)))) (.cons (.call M_law_most [false] (.cons (.var 0) .nil)) .nil))) .nil))
    .nil))
    (.cons (.retv 1)
    .nil)))
noncomputable def M_law_rounds : MF := mkM [false] 3 B_law_rounds
/- _law_box(_law_state_here): 0 _law_state_here 1 _law_rows 2 _law_a 3 _law_b 4 _law_many 5 _law_turn 6 _law_x 7 _law_y -/
noncomputable def B_law_box : Ss := (.cons (.asg 1 (.lst .nil))
    (.cons (.sfor [2, 3] (.sq (.lst (.cons (.tup (.cons (.con (.int 1)) (.cons (.con (.int 0)) .nil))) (.cons (.tup (.cons (.neg (.con (.int 1))) (.cons (.con (.int 0)) .nil))) (.cons (.tup (.cons (.con (.int 0)) (.cons (.con (.int 1)) .nil))) (.cons (.tup (.cons (.con (.int 0)) (.cons (.neg (.con (.int 1))) .nil))) .nil))))))
      (.cons (.asg 4 (.bin .add (.con (.int 1)) (.call M_law_take [true, false] (.cons (.var 0) (.cons (.con (.int 4)) .nil)))))
    (.cons (.mth 1 .append (.cons (.tup (.cons (.bin .mul (.var 2) (.var 4)) (.cons (.bin .mul (.var 3) (.var 4)) (.cons (.call M_law_take [true, false] (.cons (.var 0) (.cons (.bin .add (.bin .mul (.con (.int 3)) (.var 4)) (.con (.int 1))) .nil))) .nil)))) .nil))
    .nil)))
    (.cons (.sfor [5] (.rg (.call M_law_take [true, false] (.cons (.var 0) (.cons (.con (.int 4)) .nil))))
      (.cons (.par [2, 3] (.cons (.bin .sub (.call M_law_take [true, false] (.cons (.var 0) (.cons (.con (.int 9)) .nil))) (.con (.int 4))) (.cons (.bin .sub (.call M_law_take [true, false] (.cons (.var 0) (.cons (.con (.int 9)) .nil))) (.con (.int 4))) .nil)))
    (.cons (.sif (.and (.cmp .eq (.var 2) (.con (.int 0))) (.cmp .eq (.var 3) (.con (.int 0))))
      (.cons (.asg 2 (.con (.int 3)))
    .nil)
      .nil)
    (.cons (.par [6, 7] (.cons (.bin .sub (.call M_law_take [true, false] (.cons (.var 0) (.cons (.con (.int 5)) .nil))) (.con (.int 2))) (.cons (.bin .sub (.call M_law_take [true, false] (.cons (.var 0) (.cons (.con (.int 5)) .nil))) (.con (.int 2))) .nil)))
    (.cons (.mth 1 .insert (.cons (.call M_law_take [true, false] (.cons (.var 0) (.cons (.bin .add (.blt .len (.cons (.var 1) .nil)) (.con (.int 1))) .nil))) (.cons (.tup (.cons (.var 2) (.cons (.var 3) (.cons (.bin .sub (.bin .add (.bin .add (.bin .mul (.var 2) (.var 6)) (.bin .mul (.var 3) (.var 7))) (.call M_law_take [true, false] (.cons (.var 0) (.cons (.con (.int 4)) .nil)))) (.con (.int 1))) .nil)))) .nil)))
    .nil)))))
    (.cons (.retv 1)
    .nil))))
noncomputable def M_law_box : MF := mkM [true] 8 B_law_box
/- _law_spike(_law_state_here): 0 _law_state_here 1 _law_long 2 _law_rows -/
noncomputable def B_law_spike : Ss := (.cons (.asg 1 (.bin .add (.con (.int 1)) (.call M_law_take [true, false] (.cons (.var 0) (.cons (.con (.int 4)) .nil)))))
    (.cons (.asg 2 (.lst (.cons (.tup (.cons (.neg (.con (.int 1))) (.cons (.con (.int 0)) (.cons (.con (.int 0)) .nil)))) (.cons (.tup (.cons (.con (.int 1)) (.cons (.bin .mul (.neg (.con (.int 2))) (.var 1)) (.cons (.con (.int 0)) .nil)))) (.cons (.tup (.cons (.con (.int 1)) (.cons (.bin .mul (.con (.int 2)) (.var 1)) (.cons (.bin .mul (.con (.int 2)) (.var 1)) .nil)))) .nil)))))
    (.cons (.sif (.cmp .eq (.call M_law_take [true, false] (.cons (.var 0) (.cons (.con (.int 2)) .nil))) (.con (.int 1)))
      (.cons (.mth 2 .append (.cons (.tup (.cons (.call M_law_take [true, false] (.cons (.var 0) (.cons (.con (.int 3)) .nil))) (.cons (.bin .add (.con (.int 1)) (.call M_law_take [true, false] (.cons (.var 0) (.cons (.con (.int 2)) .nil)))) (.cons (.bin .add (.con (.int 1)) (.call M_law_take [true, false] (.cons (.var 0) (.cons (.con (.int 4)) .nil)))) .nil)))) .nil))
    .nil)
      .nil)
    (.cons (.retv 2)
    .nil))))
noncomputable def M_law_spike : MF := mkM [true] 3 B_law_spike
/- keeps_all(rows, place): 0 rows 1 place 2 row -/
noncomputable def B_keeps_all : Ss := (.cons (.ret (.blt .all (.cons (.lc (.call M_keeps [false, false] (.cons (.var 2) (.cons (.var 1) .nil))) [2] (.sq (.var 0)) (.con (.bool true)) [2]) .nil)))
    .nil)
noncomputable def M_keeps_all : MF := mkM [false, false] 3 B_keeps_all
/- whole_places(field): 0 field 1 found 2 x 3 some 4 y 5 place -/
noncomputable def B_whole_places : Ss := (.cons (.exp (.call M_need_field [false] (.cons (.var 0) .nil)))
    (.cons (.asg 1 (.lst .nil))
    (.cons (.sfor [2] (.rg2 (.bin .sub (.con (.int 0)) (.con (.int 12))) (.bin .add (.con (.int 12)) (.con (.int 1))))
      (.cons (.asg 3 (.lc (.tup (.cons (.tup (.cons (.var 2) (.cons (.con (.int 1)) .nil))) (.cons (.tup (.cons (.var 4) (.cons (.con (.int 1)) .nil))) .nil))) [4] (.rg2 (.bin .sub (.con (.int 0)) (.con (.int 12))) (.bin .add (.con (.int 12)) (.con (.int 1)))) (.con (.bool true)) [4]))
    (.cons (.mth 1 .extend (.cons (.lc (.var 5) [5] (.sq (.var 3)) (.call M_keeps_all [false, false] (.cons (.var 0) (.cons (.var 5) .nil))) [5]) .nil))
    .nil)))
    (.cons (.retv 1)
    .nil))))
noncomputable def M_whole_places : MF := mkM [false] 6 B_whole_places
/- half_ring(places): 0 places 1 found 2 place -/
noncomputable def B_half_ring : Ss := (.cons (.asg 1 (.lst .nil))
    (.cons (.sfor [2] (.sq (.var 0))
      (.cons (.whl (.and (.cmp .gt (.blt .len (.cons (.var 1) .nil)) (.con (.int 1))) (.nt (.call M_is_left [false, false, false] (.cons (.idx (.var 1) (.neg (.con (.int 2)))) (.cons (.idx (.var 1) (.neg (.con (.int 1)))) (.cons (.var 2) .nil))))))
      (.cons (.mth 1 .pop .nil)
    .nil))
    (.cons (.mth 1 .append (.cons (.var 2) .nil))
    .nil)))
    (.cons (.retv 1)
    .nil)))
noncomputable def M_half_ring : MF := mkM [false] 3 B_half_ring
/- _law_whole_places(_law_rows): 0 _law_rows 1 _law_found 2 _law_x 3 _law_y 4 _law_row -/
noncomputable def B_law_whole_places : Ss := (.cons (.asg 1 (.lst .nil))
    (.cons (.sfor [2] (.rg2 (.neg (.con (.int 12))) (.con (.int 13)))
      (.cons (.sfor [3] (.rg2 (.neg (.con (.int 12))) (.con (.int 13)))
      (.cons (.sif (.cmp .eq (.lc (.var 4) [4] (.sq (.var 0)) (.cmp .gt (.bin .add (.bin .mul (.idx (.var 4) (.con (.int 0))) (.var 2)) (.bin .mul (.idx (.var 4) (.con (.int 1))) (.var 3))) (.idx (.var 4) (.con (.int 2)))) [4]) (.lst .nil))
      (.cons (.mth 1 .append (.cons (.tup (.cons (.tup (.cons (.var 2) (.cons (.con (.int 1)) .nil))) (.cons (.tup (.cons (.var 3) (.cons (.con (.int 1)) .nil))) .nil))) .nil))
    .nil)
      .nil)
    .nil))
    .nil))
    (.cons (.retv 1)
    .nil)))
noncomputable def M_law_whole_places : MF := mkM [false] 5 B_law_whole_places
/- _wall(k): 0 k -/
noncomputable def B_wall : Ss := (.cons (.whl (.con (.bool true))
      (.cons .pass
    .nil))
    .nil)
noncomputable def M_wall : MF := mkM [false] 1 B_wall
/- _law_wanted(_law_state_here, _law_field_here, _law_rounds_here): 0 _law_state_here 1 _law_field_here 2 _law_rounds_here 3 _law_a 4 _law_b 5 _law_places 6 _law_c 7 _law_top -/
noncomputable def B_law_wanted : Ss := (.cons (.par [3, 4] (.cons (.bin .sub (.call M_law_take [true, false] (.cons (.var 0) (.cons (.con (.int 9)) .nil))) (.con (.int 4))) (.cons (.bin .sub (.call M_law_take [true, false] (.cons (.var 0) (.cons (.con (.int 9)) .nil))) (.con (.int 4))) .nil)))
    (.cons (.sif (.and (.cmp .eq (.var 3) (.con (.int 0))) (.cmp .eq (.var 4) (.con (.int 0))))
      (.cons (.asg 4 (.neg (.con (.int 2))))
    .nil)
      .nil)
    (.cons (.asg 5 (.idx (.var 2) (.call M_law_take [true, false] (.cons (.var 0) (.cons (.blt .len (.cons (.var 2) .nil)) .nil)))))
    (.cons (.asg 6 (.bin .sub (.call M_law_take [true, false] (.cons (.var 0) (.cons (.con (.int 15)) .nil))) (.con (.int 7))))
    (.cons (.sif (.and (.cmp .ne (.var 5) (.lst .nil)) (.cmp .gt (.call M_law_take [true, false] (.cons (.var 0) (.cons (.con (.int 4)) .nil))) (.con (.int 0))))
      (.cons (.asg 7 (.call M_law_greatest [false, false, false] (.cons (.var 5) (.cons (.var 3) (.cons (.var 4) .nil)))))
    (.cons (.asg 6 (.bin .add (.bin .fdiv (.idx (.var 7) (.con (.int 0))) (.idx (.var 7) (.con (.int 1)))) (.idx (.lst (.cons (.con (.int 0)) (.cons (.con (.int 0)) (.cons (.con (.int 1)) (.cons (.neg (.con (.int 1))) .nil))))) (.call M_law_take [true, false] (.cons (.var 0) (.cons (.con (.int 4)) .nil))))))
    .nil))
      .nil)
    (.cons (.ret (.tup (.cons (.var 3) (.cons (.var 4) (.cons (.var 6) .nil)))))
    .nil))))))
noncomputable def M_law_wanted : MF := mkM [true, false, false] 8 B_law_wanted
/- _law_depth(_law_rounds_here, _law_row): 0 _law_rounds_here 1 _law_row 2 _law_number 3 _law_places -/
noncomputable def B_law_depth : Ss := (.cons (.sfor [2, 3] (.en (.var 0))
      (.cons (.sif (.or (.cmp .eq (.var 3) (.lst .nil)) (.nt (.call M_law_less [false, false] (.cons (.tup (.cons (.idx (.var 1) (.con (.int 2))) (.cons (.con (.int 1)) .nil))) (.cons (.call M_law_greatest [false, false, false] (.cons (.var 3) (.cons (.idx (.var 1) (.con (.int 0))) (.cons (.idx (.var 1) (.con (.int 1))) .nil)))) .nil)))))
      (.cons (.retv 2)
    .nil)
      .nil)
    .nil))
    (.cons (.ret (.con .none))
    .nil))
noncomputable def M_law_depth : MF := mkM [false, false] 4 B_law_depth
/- against(rows, one, other, third): 0 rows 1 one 2 other 3 third 4 lesser 5 mine 6 theirs -/
noncomputable def B_against : Ss := (.cons (.asg 4 (.tup (.cons (.bin .sub (.con (.int 0)) (.idx (.idx (.var 0) (.var 3)) (.con (.int 0)))) (.cons (.bin .sub (.con (.int 0)) (.idx (.idx (.var 0) (.var 3)) (.con (.int 1)))) .nil))))
    (.cons (.unp [5, 6] (.call M_shares [false, false, false] (.cons (.idx (.var 0) (.var 1)) (.cons (.idx (.var 0) (.var 2)) (.cons (.var 4) .nil)))))
    (.cons (.sif (.or (.call M_is_less [false, false] (.cons (.var 5) (.cons (.con (.tuple [(.int 0), (.int 1)])) .nil))) (.call M_is_less [false, false] (.cons (.var 6) (.cons (.con (.tuple [(.int 0), (.int 1)])) .nil))))
      (.cons (.ret (.con .none))
    .nil)
      .nil)
    (.cons (.ret (.lst (.cons (.tup (.cons (.var 1) (.cons (.var 5) .nil))) (.cons (.tup (.cons (.var 2) (.cons (.var 6) .nil))) (.cons (.tup (.cons (.var 3) (.cons (.tup (.cons (.con (.int 1)) (.cons (.con (.int 1)) .nil))) .nil))) .nil)))))
    .nil))))
noncomputable def M_against : MF := mkM [false, false, false, false] 7 B_against
/- opposed(rows, one, other): 0 rows 1 one 2 other 3 a 4 b 5 d 6 e -/
noncomputable def B_opposed : Ss := (.cons (.unp [3, 4] (.slc (.idx (.var 0) (.var 1)) (.con .none) (.con (.int 2))))
    (.cons (.unp [5, 6] (.slc (.idx (.var 0) (.var 2)) (.con .none) (.con (.int 2))))
    (.cons (.sif (.cmp .ge (.bin .add (.bin .mul (.var 3) (.var 5)) (.bin .mul (.var 4) (.var 6))) (.con (.int 0)))
      (.cons (.ret (.con .none))
    .nil)
      .nil)
    (.cons (.ret (.lst (.cons (.tup (.cons (.var 1) (.cons (.tup (.cons (.con (.int 1)) (.cons (.con (.int 1)) .nil))) .nil))) (.cons (.tup (.cons (.var 2) (.cons (.call M_ratio [false, false] (.cons (.bin .add (.bin .mul (.var 3) (.var 3)) (.bin .mul (.var 4) (.var 4))) (.cons (.bin .sub (.bin .sub (.con (.int 0)) (.bin .mul (.var 3) (.var 5))) (.bin .mul (.var 4) (.var 6))) .nil))) .nil))) .nil))))
    .nil))))
noncomputable def M_opposed : MF := mkM [false, false, false] 7 B_opposed
/- with_two(rows, one, other): 0 rows 1 one 2 other 3 found 4 third 5 some -/
noncomputable def B_with_two : Ss := (.cons (.sif (.cmp .eq (.call M_twist [false, false] (.cons (.idx (.var 0) (.var 1)) (.cons (.idx (.var 0) (.var 2)) .nil))) (.con (.int 0)))
      (.cons (.asg 3 (.lst (.cons (.call M_opposed [false, false, false] (.cons (.var 0) (.cons (.var 1) (.cons (.var 2) .nil)))) .nil)))
    .nil)
      (.cons (.asg 3 (.lc (.call M_against [false, false, false, false] (.cons (.var 0) (.cons (.var 1) (.cons (.var 2) (.cons (.var 4) .nil))))) [4] (.rg (.blt .len (.cons (.var 0) .nil))) (.con (.bool true)) [4]))
    .nil))
    (.cons (.ret (.lc (.var 5) [5] (.sq (.var 3)) (.cmp .isnot (.var 5) (.con .none)) [5]))
    .nil))
noncomputable def M_with_two : MF := mkM [false, false, false] 6 B_with_two
/- sum_of_c(rows, some): 0 rows 1 some 2 found 3 number 4 weight -/
noncomputable def B_sum_of_c : Ss := (.cons (.asg 2 (.con (.tuple [(.int 0), (.int 1)])))
    (.cons (.sfor [3, 4] (.sq (.var 1))
      (.cons (.asg 2 (.call M_plus [false, false] (.cons (.var 2) (.cons (.call M_times [false, false] (.cons (.var 4) (.cons (.idx (.idx (.var 0) (.var 3)) (.con (.int 2))) .nil))) .nil))))
    .nil))
    (.cons (.retv 2)
    .nil)))
noncomputable def M_sum_of_c : MF := mkM [false, false] 5 B_sum_of_c
/- void_by(rows): 0 rows 1 one 2 other 3 some 4 total 5 number 6 weight -/
noncomputable def B_void_by : Ss := (.cons (.sfor [1] (.rg (.blt .len (.cons (.var 0) .nil)))
      (.cons (.sfor [2] (.rg2 (.bin .add (.var 1) (.con (.int 1))) (.blt .len (.cons (.var 0) .nil)))
      (.cons (.sfor [3] (.sq (.call M_with_two [false, false, false] (.cons (.var 0) (.cons (.var 1) (.cons (.var 2) .nil)))))
      (.cons (.asg 4 (.call M_sum_of_c [false, false] (.cons (.var 0) (.cons (.var 3) .nil))))
    (.cons (.sif (.call M_is_less [false, false] (.cons (.var 4) (.cons (.con (.tuple [(.int 0), (.int 1)])) .nil)))
      (.cons (.ret (.lc (.tup (.cons (.var 5) (.cons (.call M_over [false, false] (.cons (.var 6) (.cons (.tup (.cons (.bin .sub (.con (.int 0)) (.idx (.var 4) (.con (.int 0)))) (.cons (.idx (.var 4) (.con (.int 1))) .nil))) .nil))) .nil))) [5, 6] (.sq (.var 3)) (.con (.bool true)) [5, 6]))
    .nil)
      .nil)
    .nil)))
    .nil))
    .nil))
    (.cons (.ret (.lst .nil))
    .nil))
noncomputable def M_void_by : MF := mkM [false] 7 B_void_by
/- any_pair(rows, direction): 0 rows 1 direction 2 one 3 other 4 mine 5 theirs -/
noncomputable def B_any_pair : Ss := (.cons (.sfor [2] (.rg (.blt .len (.cons (.var 0) .nil)))
      (.cons (.sfor [3] (.rg (.blt .len (.cons (.var 0) .nil)))
      (.cons (.sif (.cmp .gt (.call M_twist [false, false] (.cons (.idx (.var 0) (.var 2)) (.cons (.idx (.var 0) (.var 3)) .nil))) (.con (.int 0)))
      (.cons (.unp [4, 5] (.call M_shares [false, false, false] (.cons (.idx (.var 0) (.var 2)) (.cons (.idx (.var 0) (.var 3)) (.cons (.var 1) .nil)))))
    (.cons (.sif (.and (.nt (.call M_is_less [false, false] (.cons (.var 4) (.cons (.con (.tuple [(.int 0), (.int 1)])) .nil)))) (.nt (.call M_is_less [false, false] (.cons (.var 5) (.cons (.con (.tuple [(.int 0), (.int 1)])) .nil)))))
      (.cons (.ret (.lst (.cons (.tup (.cons (.var 2) (.cons (.var 4) .nil))) (.cons (.tup (.cons (.var 3) (.cons (.var 5) .nil))) .nil))))
    .nil)
      .nil)
    .nil))
      .nil)
    .nil))
    .nil))
    (.cons (.ret (.lst .nil))
    .nil))
noncomputable def M_any_pair : MF := mkM [false, false] 6 B_any_pair
/- line_by(rows, places, some, row): 0 rows 1 places 2 some 3 row 4 number 5 weight -/
noncomputable def B_line_by : Ss := (.cons (.ret (.tup (.cons (.call M_weights_of [false, false] (.cons (.var 0) (.cons (.lc (.tup (.cons (.idx (.var 1) (.var 4)) (.cons (.var 5) .nil))) [4, 5] (.sq (.var 2)) (.con (.bool true)) [4, 5]) .nil))) (.cons (.var 3) .nil))))
    .nil)
noncomputable def M_line_by : MF := mkM [false, false, false, false] 6 B_line_by
/- are_numbers(thing): 0 thing 1 one -/
noncomputable def B_are_numbers : Ss := (.cons (.ret (.and (.isi (.var 0) ["tuple"]) (.and (.cmp .eq (.blt .len (.cons (.var 0) .nil)) (.con (.int 3))) (.blt .all (.cons (.lc (.call M_is_whole [false] (.cons (.var 1) .nil)) [1] (.sq (.var 0)) (.con (.bool true)) [1]) .nil)))))
    .nil)
noncomputable def M_are_numbers : MF := mkM [false] 2 B_are_numbers
/- line_depth(rows, depths, line): 0 rows 1 depths 2 line 3 a 4 b 5 c 6 used 7 depth 8 weight -/
noncomputable def B_line_depth : Ss := (.cons (.sif (.or (.nt (.isi (.var 2) ["tuple"])) (.or (.cmp .ne (.blt .len (.cons (.var 2) .nil)) (.con (.int 2))) (.or (.nt (.call M_are_weights [false, false] (.cons (.var 0) (.cons (.idx (.var 2) (.con (.int 0))) .nil)))) (.nt (.call M_are_numbers [false] (.cons (.idx (.var 2) (.con (.int 1))) .nil))))))
      (.cons (.ret (.con .none))
    .nil)
      .nil)
    (.cons (.unp [3, 4, 5] (.call M_summed [false, false] (.cons (.var 0) (.cons (.idx (.var 2) (.con (.int 0))) .nil))))
    (.cons (.sif (.or (.cmp .ne (.var 3) (.tup (.cons (.idx (.idx (.var 2) (.con (.int 1))) (.con (.int 0))) (.cons (.con (.int 1)) .nil)))) (.or (.cmp .ne (.var 4) (.tup (.cons (.idx (.idx (.var 2) (.con (.int 1))) (.con (.int 1))) (.cons (.con (.int 1)) .nil)))) (.cmp .gt (.call M_floor_of [false] (.cons (.var 5) .nil)) (.idx (.idx (.var 2) (.con (.int 1))) (.con (.int 2))))))
      (.cons (.ret (.con .none))
    .nil)
      .nil)
    (.cons (.asg 6 (.lc (.var 7) [7, 8] (.zp (.var 1) (.idx (.var 2) (.con (.int 0)))) (.cmp .ne (.var 8) (.con (.tuple [(.int 0), (.int 1)]))) [7, 8]))
    (.cons (.ret (.bin .add (.blt .max1 (.cons (.bin .add (.lst (.cons (.con (.int 0)) .nil)) (.var 6)) .nil)) (.blt .int (.cons (.call M_is_less [false, false] (.cons (.tup (.cons (.idx (.idx (.var 2) (.con (.int 1))) (.con (.int 2))) (.cons (.con (.int 1)) .nil))) (.cons (.var 5) .nil))) .nil))))
    .nil)))))
noncomputable def M_line_depth : MF := mkM [false, false, false] 9 B_line_depth
/- way_shows(field, thing): 0 field 1 thing 2 rows 3 depths 4 line 5 depth -/
noncomputable def B_way_shows : Ss := (.cons (.exp (.call M_need_field [false] (.cons (.var 0) .nil)))
    (.cons (.sif (.or (.nt (.isi (.var 1) ["list"])) (.nt (.chn .le .le (.con (.int 1)) (.blt .len (.cons (.var 1) .nil)) (.con (.int 2000)))))
      (.cons (.ret (.con .none))
    .nil)
      .nil)
    (.cons (.asg 2 (.blt .list (.cons (.var 0) .nil)))
    (.cons (.asg 3 (.bin .mul (.lst (.cons (.con (.int 0)) .nil)) (.blt .len (.cons (.var 0) .nil))))
    (.cons (.sfor [4] (.sq (.var 1))
      (.cons (.asg 5 (.call M_line_depth [false, false, false] (.cons (.var 2) (.cons (.var 3) (.cons (.var 4) .nil)))))
    (.cons (.sif (.cmp .is (.var 5) (.con .none))
      (.cons (.ret (.con .none))
    .nil)
      .nil)
    (.cons (.mth 2 .append (.cons (.idx (.var 4) (.con (.int 1))) .nil))
    (.cons (.mth 3 .append (.cons (.var 5) .nil))
    .nil)))))
    (.cons (.ret (.tup (.cons (.idx (.var 2) (.neg (.con (.int 1)))) (.cons (.idx (.var 3) (.neg (.con (.int 1)))) .nil))))
    .nil))))))
noncomputable def M_way_shows : MF := mkM [false, false] 6 B_way_shows
/- _law_line(_law_rows, _law_depths, _law_line_here): 0 _law_rows 1 _law_depths 2 _law_line_here 3 _law_weight 4 _law_one 5 _law_sums 6 _law_row 7 _law_k 8 _law_a 9 _law_b 10 _law_c 11 _law_most_here 12 _law_depth -/
noncomputable def B_law_line : Ss := (.cons (.sif (.or (.nt (.isi (.var 2) ["tuple"])) (.or (.cmp .ne (.blt .len (.cons (.var 2) .nil)) (.con (.int 2))) (.or (.nt (.isi (.idx (.var 2) (.con (.int 0))) ["tuple"])) (.cmp .ne (.blt .len (.cons (.idx (.var 2) (.con (.int 0))) .nil)) (.blt .len (.cons (.var 0) .nil))))))
      (.cons (.ret (.con .none))
    .nil)
      .nil)
    (.cons (.sfor [3] (.sq (.idx (.var 2) (.con (.int 0))))
      (.cons (.sif (.or (.nt (.call M_law_is_fraction [false] (.cons (.var 3) .nil))) (.cmp .lt (.idx (.var 3) (.con (.int 0))) (.con (.int 0))))
      (.cons (.ret (.con .none))
    .nil)
      .nil)
    .nil))
    (.cons (.sif (.or (.nt (.isi (.idx (.var 2) (.con (.int 1))) ["tuple"])) (.or (.cmp .ne (.blt .len (.cons (.idx (.var 2) (.con (.int 1))) .nil)) (.con (.int 3))) (.nt (.blt .all (.cons (.lc (.call M_law_whole [false] (.cons (.var 4) .nil)) [4] (.sq (.idx (.var 2) (.con (.int 1)))) (.con (.bool true)) [4]) .nil)))))
      (.cons (.ret (.con .none))
    .nil)
      .nil)
    (.cons (.asg 5 (.lst (.cons (.tup (.cons (.con (.int 0)) (.cons (.con (.int 1)) .nil))) (.cons (.tup (.cons (.con (.int 0)) (.cons (.con (.int 1)) .nil))) (.cons (.tup (.cons (.con (.int 0)) (.cons (.con (.int 1)) .nil))) .nil)))))
    (.cons (.sfor [6, 3] (.zp (.var 0) (.idx (.var 2) (.con (.int 0))))
      (.cons (.asg 5 (.lc (.call M_law_plus [false, false] (.cons (.idx (.var 5) (.var 7)) (.cons (.call M_law_times [false, false] (.cons (.var 3) (.cons (.tup (.cons (.idx (.var 6) (.var 7)) (.cons (.con (.int 1)) .nil))) .nil))) .nil))) [7] (.rg (.con (.int 3))) (.con (.bool true)) [7]))
    .nil))
    (.cons (.unp [8, 9, 10] (.idx (.var 2) (.con (.int 1))))
    (.cons (.sif (.or (.cmp .ne (.idx (.var 5) (.con (.int 0))) (.tup (.cons (.var 8) (.cons (.con (.int 1)) .nil)))) (.or (.cmp .ne (.idx (.var 5) (.con (.int 1))) (.tup (.cons (.var 9) (.cons (.con (.int 1)) .nil)))) (.cmp .gt (.bin .fdiv (.idx (.idx (.var 5) (.con (.int 2))) (.con (.int 0))) (.idx (.idx (.var 5) (.con (.int 2))) (.con (.int 1)))) (.var 10))))
      (.cons (.ret (.con .none))
    .nil)
      .nil)
    (.cons (.asg 11 (.blt .max1 (.cons (.bin .add (.lst (.cons (.con (.int 0)) .nil)) (.lc (.var 12) [12, 3] (.zp (.var 1) (.idx (.var 2) (.con (.int 0)))) (.cmp .gt (.idx (.var 3) (.con (.int 0))) (.con (.int 0))) [12, 3])) .nil)))
    (.cons (.ret (.bin .add (.var 11) (.blt .int (.cons (.call M_law_less [false, false] (.cons (.tup (.cons (.var 10) (.cons (.con (.int 1)) .nil))) (.cons (.idx (.var 5) (.con (.int 2))) .nil))) .nil))))
    .nil)))))))))
noncomputable def M_law_line : MF := mkM [false, false, false] 13 B_law_line
/- _law_shown(_law_field_here, _law_thing): 0 _law_field_here 1 _law_thing 2 _law_rows 3 _law_depths 4 _law_line_here 5 _law_depth -/
noncomputable def B_law_shown : Ss := (.cons (.sif (.or (.nt (.isi (.var 1) ["list"])) (.nt (.chn .le .le (.con (.int 1)) (.blt .len (.cons (.var 1) .nil)) (.con (.int 2000)))))
      (.cons (.ret (.con .none))
    .nil)
      .nil)
    (.cons (.asg 2 (.blt .list (.cons (.var 0) .nil)))
    (.cons (.asg 3 (.bin .mul (.lst (.cons (.con (.int 0)) .nil)) (.blt .len (.cons (.var 0) .nil))))
    (.cons (.sfor [4] (.sq (.var 1))
      (.cons (.asg 5 (.call M_law_line [false, false, false] (.cons (.var 2) (.cons (.var 3) (.cons (.var 4) .nil)))))
    (.cons (.sif (.cmp .is (.var 5) (.con .none))
      (.cons (.ret (.con .none))
    .nil)
      .nil)
    (.cons (.mth 2 .append (.cons (.idx (.var 4) (.con (.int 1))) .nil))
    (.cons (.mth 3 .append (.cons (.var 5) .nil))
    .nil)))))
    (.cons (.ret (.tup (.cons (.idx (.var 2) (.neg (.con (.int 1)))) (.cons (.idx (.var 3) (.neg (.con (.int 1)))) .nil))))
    .nil)))))
noncomputable def M_law_shown : MF := mkM [false, false] 6 B_law_shown
/- shows_nothing(field, thing): 0 field 1 thing 2 a 3 b 4 c -/
noncomputable def B_shows_nothing : Ss := (.cons (.exp (.call M_need_field [false] (.cons (.var 0) .nil)))
    (.cons (.sif (.nt (.call M_are_weights [false, false] (.cons (.var 0) (.cons (.var 1) .nil))))
      (.cons (.ret (.con (.bool false)))
    .nil)
      .nil)
    (.cons (.unp [2, 3, 4] (.call M_summed [false, false] (.cons (.var 0) (.cons (.var 1) .nil))))
    (.cons (.ret (.and (.cmp .eq (.var 2) (.con (.tuple [(.int 0), (.int 1)]))) (.and (.cmp .eq (.var 3) (.con (.tuple [(.int 0), (.int 1)]))) (.call M_is_less [false, false] (.cons (.var 4) (.cons (.con (.tuple [(.int 0), (.int 1)])) .nil))))))
    .nil))))
noncomputable def M_shows_nothing : MF := mkM [false, false] 5 B_shows_nothing
/- _law_bare(_law_state_here): 0 _law_state_here 1 _law_field_here 2 _law_way 3 _law_a 4 _law_b 5 _law_c -/
noncomputable def B_law_bare : Ss := (.cons (.asg 1 (.call M_law_field [true] (.cons (.var 0) .nil)))
    (.cons (.asg 2 (.call M_law_take [true, false] (.cons (.var 0) (.cons (.con (.int 5)) .nil))))
    (.cons (.sif (.and (.cmp .lt (.var 2) (.con (.int 2))) (.cmp .lt (.blt .len (.cons (.var 1) .nil)) (.con (.int 7))))
      (.cons (.par [3, 4] (.cons (.bin .add (.con (.int 1)) (.call M_law_take [true, false] (.cons (.var 0) (.cons (.con (.int 3)) .nil)))) (.cons (.bin .sub (.call M_law_take [true, false] (.cons (.var 0) (.cons (.con (.int 5)) .nil))) (.con (.int 2))) .nil)))
    (.cons (.asg 5 (.bin .sub (.call M_law_take [true, false] (.cons (.var 0) (.cons (.con (.int 9)) .nil))) (.con (.int 4))))
    (.cons (.asg 1 (.bin .add (.var 1) (.tup (.cons (.tup (.cons (.bin .mul (.con (.int 3)) (.var 3)) (.cons (.bin .mul (.con (.int 3)) (.var 4)) (.cons (.bin .add (.bin .mul (.con (.int 3)) (.var 5)) (.con (.int 2))) .nil)))) (.cons (.tup (.cons (.bin .mul (.neg (.con (.int 3))) (.var 3)) (.cons (.bin .mul (.neg (.con (.int 3))) (.var 4)) (.cons (.bin .sub (.neg (.con (.int 1))) (.bin .mul (.con (.int 3)) (.var 5))) .nil)))) .nil)))))
    .nil)))
      .nil)
    (.cons (.sif (.cmp .eq (.var 2) (.con (.int 2)))
      (.cons (.par [3, 4] (.cons (.bin .sub (.call M_law_take [true, false] (.cons (.var 0) (.cons (.con (.int 5)) .nil))) (.con (.int 2))) (.cons (.bin .add (.con (.int 1)) (.call M_law_take [true, false] (.cons (.var 0) (.cons (.con (.int 3)) .nil)))) .nil)))
    (.cons (.asg 1 (.bin .add (.var 1) (.tup (.cons (.tup (.cons (.var 3) (.cons (.var 4) (.cons (.bin .sub (.bin .sub (.con (.int 0)) (.con (.int 7))) (.call M_law_take [true, false] (.cons (.var 0) (.cons (.con (.int 20)) .nil)))) .nil)))) .nil))))
    .nil))
      .nil)
    (.cons (.retv 1)
    .nil)))))
noncomputable def M_law_bare : MF := mkM [true] 6 B_law_bare
/- as_field(rows): 0 rows 1 found -/
noncomputable def B_as_field : Ss := (.cons (.asg 1 (.blt .tuple (.cons (.var 0) .nil)))
    (.cons (.sif (.nt (.call M_is_field [false] (.cons (.var 1) .nil)))
      (.cons (.rais (Str.ofString "NoField"))
    .nil)
      .nil)
    (.cons (.retv 1)
    .nil)))
noncomputable def M_as_field : MF := mkM [false] 2 B_as_field
/- moved(field, u, v): 0 field 1 u 2 v 3 step 4 a 5 b 6 c -/
noncomputable def B_moved : Ss := (.cons (.exp (.call M_need_field [false] (.cons (.var 0) .nil)))
    (.cons (.sfor [3] (.sq (.tup (.cons (.var 1) (.cons (.var 2) .nil))))
      (.cons (.sif (.or (.nt (.call M_is_whole [false] (.cons (.var 3) .nil))) (.cmp .gt (.blt .abs (.cons (.var 3) .nil)) (.con (.int 24))))
      (.cons (.rais (Str.ofString "NoNumber"))
    .nil)
      .nil)
    .nil))
    (.cons (.ret (.call M_as_field [false] (.cons (.lc (.tup (.cons (.var 4) (.cons (.var 5) (.cons (.bin .add (.bin .add (.var 6) (.bin .mul (.var 4) (.var 1))) (.bin .mul (.var 5) (.var 2))) .nil)))) [4, 5, 6] (.sq (.var 0)) (.con (.bool true)) [4, 5, 6]) .nil)))
    .nil)))
noncomputable def M_moved : MF := mkM [false, false, false] 7 B_moved
/- size_of(lead): 0 lead -/
noncomputable def B_size_of : Ss := (.cons (.ret (.bin .sub (.bin .mul (.idx (.var 0) (.con (.int 0))) (.idx (.var 0) (.con (.int 3)))) (.bin .mul (.idx (.var 0) (.con (.int 1))) (.idx (.var 0) (.con (.int 2))))))
    .nil)
noncomputable def M_size_of : MF := mkM [false] 1 B_size_of
/- is_lead(thing): 0 thing 1 one -/
noncomputable def B_is_lead : Ss := (.cons (.sif (.or (.nt (.isi (.var 0) ["tuple"])) (.or (.cmp .ne (.blt .len (.cons (.var 0) .nil)) (.con (.int 4))) (.nt (.blt .all (.cons (.lc (.call M_is_whole [false] (.cons (.var 1) .nil)) [1] (.sq (.var 0)) (.con (.bool true)) [1]) .nil)))))
      (.cons (.ret (.con (.bool false)))
    .nil)
      .nil)
    (.cons (.sif (.blt .any (.cons (.lc (.cmp .gt (.blt .abs (.cons (.var 1) .nil)) (.con (.int 30))) [1] (.sq (.var 0)) (.con (.bool true)) [1]) .nil))
      (.cons (.ret (.con (.bool false)))
    .nil)
      .nil)
    (.cons (.ret (.cmp .eq (.blt .abs (.cons (.call M_size_of [false] (.cons (.var 0) .nil)) .nil)) (.con (.int 1))))
    .nil)))
noncomputable def M_is_lead : MF := mkM [false] 2 B_is_lead
/- need_lead(lead): 0 lead -/
noncomputable def B_need_lead : Ss := (.cons (.sif (.nt (.call M_is_lead [false] (.cons (.var 0) .nil)))
      (.cons (.rais (Str.ofString "NoTurn"))
    .nil)
      .nil)
    .nil)
noncomputable def M_need_lead : MF := mkM [false] 1 B_need_lead
/- led_to(lead, place): 0 lead 1 place 2 p 3 q 4 r 5 s 6 x 7 y -/
noncomputable def B_led_to : Ss := (.cons (.exp (.call M_need_lead [false] (.cons (.var 0) .nil)))
    (.cons (.unp [2, 3, 4, 5] (.var 0))
    (.cons (.unp [6, 7] (.var 1))
    (.cons (.ret (.tup (.cons (.call M_plus [false, false] (.cons (.call M_times [false, false] (.cons (.var 6) (.cons (.var 2) .nil))) (.cons (.call M_times [false, false] (.cons (.var 7) (.cons (.var 3) .nil))) .nil))) (.cons (.call M_plus [false, false] (.cons (.call M_times [false, false] (.cons (.var 6) (.cons (.var 4) .nil))) (.cons (.call M_times [false, false] (.cons (.var 7) (.cons (.var 5) .nil))) .nil))) .nil))))
    .nil))))
noncomputable def M_led_to : MF := mkM [false, false] 8 B_led_to
/- back_of(lead): 0 lead 1 by 2 p 3 q 4 r 5 s -/
noncomputable def B_back_of : Ss := (.cons (.asg 1 (.call M_size_of [false] (.cons (.var 0) .nil)))
    (.cons (.unp [2, 3, 4, 5] (.var 0))
    (.cons (.ret (.tup (.cons (.bin .mul (.var 1) (.var 5)) (.cons (.bin .sub (.con (.int 0)) (.bin .mul (.var 1) (.var 3))) (.cons (.bin .sub (.con (.int 0)) (.bin .mul (.var 1) (.var 4))) (.cons (.bin .mul (.var 1) (.var 2)) .nil))))))
    .nil)))
noncomputable def M_back_of : MF := mkM [false] 6 B_back_of
/- turn_back(lead): 0 lead -/
noncomputable def B_turn_back : Ss := (.cons (.exp (.call M_need_lead [false] (.cons (.var 0) .nil)))
    (.cons (.ret (.call M_back_of [false] (.cons (.var 0) .nil)))
    .nil))
noncomputable def M_turn_back : MF := mkM [false] 1 B_turn_back
/- turned(field, lead): 0 field 1 lead 2 p 3 q 4 r 5 s 6 a 7 b 8 c -/
noncomputable def B_turned : Ss := (.cons (.exp (.call M_need_field [false] (.cons (.var 0) .nil)))
    (.cons (.exp (.call M_need_lead [false] (.cons (.var 1) .nil)))
    (.cons (.unp [2, 3, 4, 5] (.call M_back_of [false] (.cons (.var 1) .nil)))
    (.cons (.ret (.call M_as_field [false] (.cons (.lc (.tup (.cons (.bin .add (.bin .mul (.var 6) (.var 2)) (.bin .mul (.var 7) (.var 4))) (.cons (.bin .add (.bin .mul (.var 6) (.var 3)) (.bin .mul (.var 7) (.var 5))) (.cons (.var 8) .nil)))) [6, 7, 8] (.sq (.var 0)) (.con (.bool true)) [6, 7, 8]) .nil)))
    .nil))))
noncomputable def M_turned : MF := mkM [false, false] 9 B_turned
/- _law_lead_back(_law_lead_here): 0 _law_lead_here 1 _law_p 2 _law_q 3 _law_r 4 _law_s 5 _law_size -/
noncomputable def B_law_lead_back : Ss := (.cons (.unp [1, 2, 3, 4] (.var 0))
    (.cons (.asg 5 (.bin .sub (.bin .mul (.var 1) (.var 4)) (.bin .mul (.var 2) (.var 3))))
    (.cons (.ret (.tup (.cons (.bin .mul (.var 4) (.var 5)) (.cons (.bin .sub (.con (.int 0)) (.bin .mul (.var 2) (.var 5))) (.cons (.bin .sub (.con (.int 0)) (.bin .mul (.var 3) (.var 5))) (.cons (.bin .mul (.var 1) (.var 5)) .nil))))))
    .nil)))
noncomputable def M_law_lead_back : MF := mkM [false] 6 B_law_lead_back
/- _law_is_near(_law_place): 0 _law_place 1 _law_one -/
noncomputable def B_law_is_near : Ss := (.cons (.ret (.cmp .eq (.lc (.var 1) [1] (.sq (.var 0)) (.cmp .gt (.blt .abs (.cons (.idx (.var 1) (.con (.int 0))) .nil)) (.bin .mul (.con (.int 12)) (.idx (.var 1) (.con (.int 1))))) [1]) (.lst .nil)))
    .nil)
noncomputable def M_law_is_near : MF := mkM [false] 2 B_law_is_near
/- _law_is_field(_law_rows): 0 _law_rows 1 _law_a 2 _law_b 3 _law_c 4 _law_place -/
noncomputable def B_law_is_field : Ss := (.cons (.sfor [1, 2, 3] (.sq (.var 0))
      (.cons (.sif (.or (.cmp .gt (.blt .max2 (.cons (.blt .abs (.cons (.var 1) .nil)) (.cons (.blt .abs (.cons (.var 2) .nil)) .nil))) (.con (.int 30))) (.cmp .gt (.blt .abs (.cons (.var 3) .nil)) (.con (.int 1000))))
      (.cons (.ret (.con (.bool false)))
    .nil)
      .nil)
    .nil))
    (.cons (.ret (.cmp .eq (.lc (.var 4) [4] (.sq (.call M_law_corners [false] (.cons (.var 0) .nil))) (.nt (.call M_law_is_near [false] (.cons (.var 4) .nil))) [4]) (.lst .nil)))
    .nil))
noncomputable def M_law_is_field : MF := mkM [false] 5 B_law_is_field
/- _law_lead(_law_state_here): 0 _law_state_here 1 _law_lead_here 2 _law_turn 3 _law_p 4 _law_q 5 _law_r 6 _law_s 7 _law_by -/
noncomputable def B_law_lead : Ss := (.cons (.asg 1 (.idx (.lst (.cons (.tup (.cons (.con (.int 1)) (.cons (.con (.int 0)) (.cons (.con (.int 0)) (.cons (.con (.int 1)) .nil))))) (.cons (.tup (.cons (.con (.int 0)) (.cons (.con (.int 1)) (.cons (.con (.int 1)) (.cons (.con (.int 0)) .nil))))) (.cons (.tup (.cons (.con (.int 0)) (.cons (.neg (.con (.int 1))) (.cons (.con (.int 1)) (.cons (.con (.int 0)) .nil))))) (.cons (.tup (.cons (.con (.int 1)) (.cons (.con (.int 0)) (.cons (.con (.int 0)) (.cons (.neg (.con (.int 1))) .nil))))) .nil))))) (.call M_law_take [true, false] (.cons (.var 0) (.cons (.con (.int 4)) .nil)))))
    (.cons (.sfor [2] (.rg (.bin .add (.con (.int 1)) (.call M_law_take [true, false] (.cons (.var 0) (.cons (.con (.int 2)) .nil)))))
      (.cons (.unp [3, 4, 5, 6] (.var 1))
    (.cons (.asg 7 (.bin .sub (.call M_law_take [true, false] (.cons (.var 0) (.cons (.con (.int 5)) .nil))) (.con (.int 2))))
    (.cons (.asg 1 (.idx (.lst (.cons (.tup (.cons (.bin .add (.var 3) (.bin .mul (.var 7) (.var 5))) (.cons (.bin .add (.var 4) (.bin .mul (.var 7) (.var 6))) (.cons (.var 5) (.cons (.var 6) .nil))))) (.cons (.tup (.cons (.var 3) (.cons (.var 4) (.cons (.bin .add (.var 5) (.bin .mul (.var 7) (.var 3))) (.cons (.bin .add (.var 6) (.bin .mul (.var 7) (.var 4))) .nil))))) .nil))) (.call M_law_take [true, false] (.cons (.var 0) (.cons (.con (.int 2)) .nil)))))
    .nil))))
    (.cons (.retv 1)
    .nil)))
noncomputable def M_law_lead : MF := mkM [true] 8 B_law_lead
/- side(field, k): 0 field 1 k 2 a 3 b 4 c -/
noncomputable def B_side : Ss := (.cons (.exp (.call M_need_field [false] (.cons (.var 0) .nil)))
    (.cons (.sif (.or (.nt (.call M_is_whole [false] (.cons (.var 1) .nil))) (.nt (.chn .le .lt (.con (.int 0)) (.var 1) (.blt .len (.cons (.var 0) .nil)))))
      (.cons (.rais (Str.ofString "NoNumber"))
    .nil)
      .nil)
    (.cons (.sif (.cmp .gt (.blt .len (.cons (.var 0) .nil)) (.con (.int 7)))
      (.cons (.rais (Str.ofString "NoField"))
    .nil)
      .nil)
    (.cons (.unp [2, 3, 4] (.idx (.var 0) (.var 1)))
    (.cons (.ret (.bin .add (.var 0) (.tup (.cons (.tup (.cons (.bin .sub (.con (.int 0)) (.var 2)) (.cons (.bin .sub (.con (.int 0)) (.var 3)) (.cons (.bin .sub (.con (.int 0)) (.var 4)) .nil)))) .nil))))
    .nil)))))
noncomputable def M_side : MF := mkM [false, false] 5 B_side
end Rc

set_option maxRecDepth 100000
set_option maxHeartbeats 4000000
/-! What the laws' own small defs answer. -/
namespace Rc
open PySem
theorem bits_le {i : Int} {k : Nat} (h : i.natAbs < 2 ^ (k + 1)) : bits i ≤ k := by
  unfold bits
  by_cases z : i.natAbs = 0
  · rw [z]
    have : Nat.log2 0 = 0 := by decide
    omega
  · have := (Nat.log2_lt z).mpr h
    omega
theorem mulOk_of {i j : Int} (k l : Nat) (hi : i.natAbs < 2 ^ (k + 1)) (hj : j.natAbs < 2 ^ (l + 1)) (h : k + l < 1000000) : mulOk i j := by
  have := bits_le hi
  have := bits_le hj
  unfold mulOk
  omega
theorem mulOk_small {i j : Int} (hi : -18446744073709551616 < i ∧ i < 18446744073709551616) (hj : -18446744073709551616 < j ∧ j < 18446744073709551616) : mulOk i j :=
  mulOk_of 63 63 (by omega) (by omega) (by omega)
theorem divOk_small {j : Int} (h0 : j ≠ 0) (hj : -18446744073709551616 < j ∧ j < 18446744073709551616) : divOk j :=
  ⟨h0, by have := bits_le (k := 63) (i := j) (by omega); omega⟩
/-! ### the state -/
structure St where
  s : Int
  b : Bool
  h : b = false → 0 ≤ s ∧ s < 2147483647
def stD (a : St) : D := .list [.int a.s, .bool a.b]
theorem fm_lo (a : Int) {b : Int} (h : 0 < b) : 0 ≤ a.fmod b := Int.fmod_nonneg_of_pos a h
theorem fm_lt (a : Int) {b : Int} (h : 0 < b) : a.fmod b < b := Int.fmod_lt_of_pos a h
def step1 (s : Int) : Int := (s * 48271 + 29).fmod 2147483647
def step2 (s : Int) : Int := (s * s + 39373 * s + 7).fmod 2147483629
def step3 (s : Int) : Int := (s * s + 16807 * s).fmod 2147483587
/-- the number taken, the state behind -/
def tkV (a : St) (n : Int) : Int := match a.b with
  | true => a.s.fmod n
  | false => ((step3 (step2 (step1 a.s))).fdiv 8).fmod n
def tkS (a : St) (n : Int) : St := match a with
  | ⟨s, true, _⟩ => ⟨s.fdiv n, true, fun h => by cases h⟩
  | ⟨s, false, _⟩ => ⟨step1 s, false, fun _ => ⟨fm_lo _ (by decide), fm_lt _ (by decide)⟩⟩
theorem tkV_lo (a : St) {n : Int} (h : 0 < n) : 0 ≤ tkV a n := by
  unfold tkV
  split <;> exact fm_lo _ h
theorem tkV_lt (a : St) {n : Int} (h : 0 < n) : tkV a n < n := by
  unfold tkV
  split <;> exact fm_lt _ h
theorem take_eq (a : St) (n : Int) (h : 0 < n) (h2 : n < 18446744073709551616) : M_law_take [(true, stD a), (false, .int n)] = .ok (false, .int (tkV a n), [(true, stD (tkS a n)), (false, .int n)]) := by
  have hn : n ≠ 0 := by omega
  have hd : divOk n := divOk_small hn (by omega)
  obtain ⟨s, b, hs⟩ := a
  cases b with
  | true => simp [M_law_take, mkM, flg, runFn, B_law_take, x_ss1, stD, tkV, tkS, hn, hd, stiF, L2.ixN]
  | false =>
    obtain ⟨h0, h1⟩ := hs rfl
    have a0 : 0 ≤ step1 s ∧ step1 s < 2147483647 := ⟨fm_lo _ (by decide), fm_lt _ (by decide)⟩
    have a1 : 0 ≤ step2 (step1 s) ∧ step2 (step1 s) < 2147483629 := ⟨fm_lo _ (by decide), fm_lt _ (by decide)⟩
    have m1 : mulOk s 48271 := mulOk_small (by omega) (by omega)
    have m2 : mulOk (step1 s) (step1 s) := mulOk_small (by omega) (by omega)
    have m3 : mulOk 39373 (step1 s) := mulOk_small (by omega) (by omega)
    have m4 : mulOk (step2 (step1 s)) (step2 (step1 s)) := mulOk_small (by omega) (by omega)
    have m5 : mulOk 16807 (step2 (step1 s)) := mulOk_small (by omega) (by omega)
    have d8 : divOk 8 := divOk_small (by decide) (by decide)
    have e1 : (s * 48271 + 29).fmod 2147483647 = step1 s := rfl
    have e2 : (step1 s * step1 s + 39373 * step1 s + 7).fmod 2147483629 = step2 (step1 s) := rfl
    have e3 : (step2 (step1 s) * step2 (step1 s) + 16807 * step2 (step1 s)).fmod 2147483587 = step3 (step2 (step1 s)) := rfl
    simp [M_law_take, mkM, flg, runFn, B_law_take, x_ss1, stD, tkV, tkS, hn, hd, stiF, L2.ixN, m1, m2, m3, m4, m5, d8, e1, e2, e3]
/-! ### cells -/
theorem i_scr (ns : List Int) (k : Int) : idxF (scrD ns) (.int k) = L2.atI (ns.map PyData.int) k := rfl
theorem cell_eq (ns : List Int) (k : Int) (h : 0 ≤ k) : M_law_cell_at [(false, scrD ns), (false, .int k)] = .ok (false, .int (ns.getD k.toNat 0), [(false, scrD ns), (false, .int k)]) := by
  by_cases hk : k < (ns.length : Int)
  · have hl : k.toNat < ns.length := by omega
    have e : L2.ixN ns.length k = some k.toNat := by
      unfold L2.ixN
      simp [h, hl, hk]
    simp [M_law_cell_at, mkM, flg, runFn, B_law_cell_at, x_ss1, hk, e, hl, i_scr, L2.atI]
  · have hl : ¬ k.toNat < ns.length := by omega
    simp [M_law_cell_at, mkM, flg, runFn, B_law_cell_at, x_ss1, hk, hl]
end Rc
namespace Rc
open PySem
/-- the state a cell gives -/
def mkSt (c : Int) : St := if h : c ≥ 1000000000000000000 then ⟨c - 1000000000000000000, true, fun h => by cases h⟩ else ⟨c.fmod 2147483647, false, fun _ => ⟨fm_lo _ (by decide), fm_lt _ (by decide)⟩⟩
theorem state_eq (ns : List Int) (k : Int) (h : 0 ≤ k) : M_law_state [(false, scrD ns), (false, .int k)] = .ok (true, stD (mkSt (ns.getD k.toNat 0)), [(false, scrD ns), (false, .int k)]) := by
  have e : ((10 : Int) ^ 18) = 1000000000000000000 := by decide
  have lo : lenOk 2 := by decide
  by_cases hc : 1000000000000000000 ≤ ns.getD k.toNat 0
  · simp [M_law_state, mkM, flg, runFn, B_law_state, x_ss1, cell_eq ns k h, e, lo, stD, mkSt]
    simp at hc
    simp [hc, x_ss1, lo, e]
  · simp [M_law_state, mkM, flg, runFn, B_law_state, x_ss1, cell_eq ns k h, e, lo, stD, mkSt]
    simp at hc
    have hc' : ¬ 1000000000000000000 ≤ ns[k.toNat]?.getD 0 := by omega
    simp [hc', x_ss1, lo, e]
end Rc
namespace Rc
open PySem
/-! ### same -/
inductive Nice : Nat → D → Prop
  | non (n : Nat) : Nice (n + 1) .none
  | int (n : Nat) (i : Int) : Nice (n + 1) (.int i)
  | bool (n : Nat) (b : Bool) : Nice (n + 1) (.bool b)
  | tup {n : Nat} {xs : List D} : (∀ x ∈ xs, Nice n x) → lenOk xs.length → Nice (n + 1) (.tuple xs)
  | lst {n : Nat} {xs : List D} : (∀ x ∈ xs, Nice n x) → lenOk xs.length → Nice (n + 1) (.list xs)
@[simp] theorem sh_bool (b : Bool) : SeqAt.shaped (.bool b) = true := by simp [SeqAt.shaped, PyData.canLay0, PyData.depth]
@[simp] theorem sh_none : SeqAt.shaped .none = true := by simp [SeqAt.shaped, PyData.canLay0, PyData.depth]
@[simp] theorem c_eqB (a b : Bool) : cop .eq (.bool a) (.bool b) = some (a == b) := by
  show (if SeqAt.shaped (.bool a) = true ∧ SeqAt.shaped (.bool b) = true then some (PyData.eqv (.bool a) (.bool b)) else none) = _
  rw [if_pos ⟨sh_bool a, sh_bool b⟩]
  cases a <;> cases b <;> simp [PyData.eqv]
@[simp] theorem c_neB (a b : Bool) : cop .ne (.bool a) (.bool b) = some (a != b) := by
  show (if SeqAt.shaped (.bool a) = true ∧ SeqAt.shaped (.bool b) = true then some (!PyData.eqv (.bool a) (.bool b)) else none) = _
  rw [if_pos ⟨sh_bool a, sh_bool b⟩]
  cases a <;> cases b <;> simp [PyData.eqv]
theorem c_eqN : cop .eq .none .none = some true := by
  show (if SeqAt.shaped .none = true ∧ SeqAt.shaped .none = true then some (PyData.eqv .none .none) else none) = _
  rw [if_pos ⟨sh_none, sh_none⟩]
  simp [PyData.eqv]
theorem zip_self {α β : Type} (f : α → α → β) : ∀ xs : List α, List.zipWith f xs xs = xs.map fun x => f x x
  | [] => rfl
  | x :: xs => by simp [zip_self f xs]
theorem all_true {α : Type} : ∀ xs : List α, allB (xs.map fun _ => PyData.bool true) = some true
  | [] => rfl
  | x :: xs => by simp [allB, all_true xs]
theorem same_eq : ∀ (n : Nat) (d : D), Nice n d → M_law_same n [(false, d), (false, d)] = .ok (false, .bool true, [(false, d), (false, d)]) := by
  intro n d h
  induction h with
  | non n => simp [M_law_same, mkM, flg, runFn, B_law_same, x_ss1, isiD, tyOf, isiB, c_eqN]
  | int n i => simp [M_law_same, mkM, flg, runFn, B_law_same, x_ss1, isiD, tyOf, isiB]
  | bool n b => simp [M_law_same, mkM, flg, runFn, B_law_same, x_ss1, isiD, tyOf, isiB]
  | @tup n xs hx hl ih =>
    have q := lc_map (srcs := []) (own := [2, 3]) (g := [2, 3]) (cnd := evC (.con (.bool true))) (elt := evT (.call (M_law_same n) [false, false] (.cons (.var 2) (.cons (.var 3) .nil)))) (m := [some (false, .tuple xs), some (false, .tuple xs), none, none])
      (fun x => PyData.tuple [x, x]) (fun _ => PyData.bool true) xs trivial fun x hx => ⟨[some (false, .tuple xs), some (false, .tuple xs), some (false, x), some (false, x)], [some (false, .tuple xs), some (false, .tuple xs), some (false, x), some (false, x)], by simp [bindT], by simp, by simp [evT, ih x hx], by simp [wipeE]⟩
    simp [M_law_same, mkM, flg, runFn, B_law_same, x_ss1, isiD, tyOf, isiB, x_lcE, isL, seqD, srcsOf, zip_self, wipeE, q, shO, backE, all_true, hl]
  | @lst n xs hx hl ih =>
    have q := lc_map (srcs := []) (own := [2, 3]) (g := [2, 3]) (cnd := evC (.con (.bool true))) (elt := evT (.call (M_law_same n) [false, false] (.cons (.var 2) (.cons (.var 3) .nil)))) (m := [some (false, .list xs), some (false, .list xs), none, none])
      (fun x => PyData.tuple [x, x]) (fun _ => PyData.bool true) xs trivial fun x hx => ⟨[some (false, .list xs), some (false, .list xs), some (false, x), some (false, x)], [some (false, .list xs), some (false, .list xs), some (false, x), some (false, x)], by simp [bindT], by simp, by simp [evT, ih x hx], by simp [wipeE]⟩
    simp [M_law_same, mkM, flg, runFn, B_law_same, x_ss1, isiD, tyOf, isiB, x_lcE, isL, seqD, srcsOf, zip_self, wipeE, q, shO, backE, all_true, hl]
end Rc

set_option maxRecDepth 100000
set_option maxHeartbeats 4000000
/-! Rows, fields drawn. -/
namespace Rc
open PySem
@[simp] theorem Wp_ok {α : Type} {a : α} {Q : α → Prop} : Wp (.ok a) Q ↔ Q a := ⟨fun ⟨b, e, q⟩ => by cases e; exact q, Wp.ok⟩
theorem Wp_lb {α β : Type} {a : Res α} {k : α → Res β} {Q : β → Prop} (h : Wp a fun x => Wp (k x) Q) : Wp (@lb α β a ⟨k⟩) Q := Wp.bind h
theorem Wp_of {α : Type} {a b : Res α} {Q : α → Prop} (e : a = b) (h : Wp b Q) : Wp a Q := by rw [e]; exact h
/-- a def, read to its end -/
theorem run_wp {ms : List Bool} {n : Nat} {b : Ss} {as : List (Bool × D)} {Q : Bool × D × List (Bool × D) → Prop} (h : flg ms as = true) (w : Wp (exSs b (as.map some ++ List.replicate (n - as.length) none)) fun f => match f with
      | .nx m => ∃ fs, finsOf 0 as m = some fs ∧ Q (false, .none, fs)
      | .rt fr d m => ∃ fs, finsOf 0 as m = some fs ∧ Q (fr, d, fs)
      | _ => False) : Wp (mkM ms n b as) Q := by
  obtain ⟨f, e, q⟩ := w
  rw [run_of h]
  unfold runFn
  show Wp ((exSs b (as.map some ++ List.replicate (n - as.length) none)).bind _) Q
  rw [e, bind_ok]
  cases f with
  | nx m =>
    obtain ⟨fs, e2, q⟩ := q
    show Wp ((Res.ofO (finsOf 0 as m)).bind _) Q
    rw [e2]
    exact .ok q
  | rt fr d m =>
    obtain ⟨fs, e2, q⟩ := q
    show Wp ((Res.ofO (finsOf 0 as m)).bind _) Q
    rw [e2]
    exact .ok q
  | bk m => exact q.elim
  | ct m => exact q.elim
abbrev Row := Int × Int × Int
def rowD (r : Row) : D := .tuple [.int r.1, .int r.2.1, .int r.2.2]
def fieldD (rs : List Row) : D := .tuple (rs.map rowD)
def nz (r : Row) : Prop := r.1 ≠ 0 ∨ r.2.1 ≠ 0
/-- within bounds -/
def Bd (n : Nat) (i : Int) : Prop := -(n : Int) ≤ i ∧ i ≤ n
def RowIn (p q : Nat) (r : Row) : Prop := nz r ∧ Bd p r.1 ∧ Bd p r.2.1 ∧ Bd q r.2.2
theorem Bd.mul {m n : Nat} {i j : Int} (h1 : Bd m i) (h2 : Bd n j) : Bd (m * n) (i * j) := by
  unfold Bd at *
  have : (i * j).natAbs ≤ m * n := by
    rw [Int.natAbs_mul]
    exact Nat.mul_le_mul (by omega) (by omega)
  omega
theorem Bd.ok {m n : Nat} {i j : Int} (h1 : Bd m i) (h2 : Bd n j) (hm : m < 18446744073709551616) (hn : n < 18446744073709551616) : mulOk i j := by
  unfold Bd at *
  exact mulOk_small (by omega) (by omega)
theorem len_ok {n : Nat} (h : n ≤ 1000000) : lenOk n := by
  have : (1000000 : Nat) ≤ sizeLine := by decide
  unfold lenOk
  omega
theorem rng_mem {lo hi : Int} {d : D} (h : d ∈ rngD lo hi) : ∃ i, d = .int i ∧ lo ≤ i ∧ i < hi := by
  unfold rngD at h
  rw [List.mem_map] at h
  obtain ⟨k, hk, rfl⟩ := h
  rw [List.mem_range] at hk
  exact ⟨lo + k, rfl, by omega, by omega⟩
def RowsIn (p q n : Nat) (rs : List Row) : Prop := rs.length ≤ n ∧ ∀ r ∈ rs, RowIn p q r
theorem RowsIn.snoc {p q n : Nat} {rs : List Row} {r : Row} (h : RowsIn p q n rs) (h2 : RowIn p q r) : RowsIn p q (n + 1) (rs ++ [r]) := ⟨by simp; exact h.1, fun x hx => by
  rcases List.mem_append.mp hx with z | z
  · exact h.2 x z
  · simp at z; subst z; exact h2⟩
theorem RowsIn.nil {p q n : Nat} : RowsIn p q n [] := ⟨by simp, fun _ h => by simp at h⟩
theorem RowsIn.mono {p q n p' q' n' : Nat} {rs : List Row} (h : RowsIn p q n rs) (a : p ≤ p') (b : q ≤ q') (c : n ≤ n') : RowsIn p' q' n' rs := ⟨Nat.le_trans h.1 c, fun r hr => by
  obtain ⟨h1, h2, h3, h4⟩ := h.2 r hr
  unfold Bd at *
  exact ⟨h1, ⟨by omega, by omega⟩, ⟨by omega, by omega⟩, ⟨by omega, by omega⟩⟩⟩
/-! ### drawn fields: the parts -/
theorem tk_bd (a : St) (n : Int) (h : 0 < n) : 0 ≤ tkV a n ∧ tkV a n < n := ⟨tkV_lo a h, tkV_lt a h⟩
def FE (p q n : Nat) (w : Int) (m : Env) : Prop := ∃ st rs x3 x4 x5 x6 x7 x8 x9, m = [some (true, stD st), some (false, .int w), some (true, .list (rs.map rowD)), x3, x4, x5, x6, x7, x8, x9, none, none, none] ∧ rs.length = n ∧ RowsIn p q 8 rs ∧ shO x3 = true ∧ shO x4 = true
theorem FE.mk {p q n : Nat} {w : Int} {st : St} {rs : List Row} {x3 x4 x5 x6 x7 x8 x9 : Option (Bool × D)} (h1 : rs.length = n) (h2 : RowsIn p q 8 rs) (s3 : shO x3 = true) (s4 : shO x4 = true) : FE p q n w [some (true, stD st), some (false, .int w), some (true, .list (rs.map rowD)), x3, x4, x5, x6, x7, x8, x9, none, none, none] :=
  ⟨st, rs, x3, x4, x5, x6, x7, x8, x9, rfl, h1, h2, s3, s4⟩
theorem FE.snoc {p q n : Nat} {w : Int} {st : St} {rs : List Row} {a b c : Int} {x3 x4 x5 x6 x7 x8 x9 : Option (Bool × D)} (h1 : rs.length = n) (hn : n < 8) (h2 : RowsIn p q 8 rs) (h3 : RowIn p q (a, b, c)) (s3 : shO x3 = true) (s4 : shO x4 = true) :
    FE p q (n + 1) w [some (true, stD st), some (false, .int w), some (true, .list (rs.map rowD ++ [.tuple [.int a, .int b, .int c]])), x3, x4, x5, x6, x7, x8, x9, none, none, none] := by
  have e : rs.map rowD ++ [.tuple [.int a, .int b, .int c]] = (rs ++ [(a, b, c)]).map rowD := by simp [rowD]
  rw [e]
  have q : RowsIn p q 7 rs := ⟨by omega, h2.2⟩
  exact FE.mk (by simp [h1]) (q.snoc h3) s3 s4
noncomputable def L1 : Ss := (.cons (.asg 5 (.bin .add (.con (.int 1)) (.call M_law_take [true, false] (.cons (.var 0) (.cons (.con (.int 3)) .nil)))))
    (.cons (.mth 2 .append (.cons (.tup (.cons (.bin .mul (.var 3) (.var 5)) (.cons (.bin .mul (.var 4) (.var 5)) (.cons (.bin .add (.bin .mul (.var 5) (.call M_law_take [true, false] (.cons (.var 0) (.cons (.con (.int 5)) .nil)))) (.call M_law_take [true, false] (.cons (.var 0) (.cons (.var 5) .nil)))) .nil)))) .nil))
    .nil))
theorem f_loop1 {w : Int} : ∀ (ds : List D) (n : Nat) (m : Env), n + ds.length ≤ 4 → (∀ d ∈ ds, ∃ u v, d = .tuple [.int u, .int v] ∧ (u ≠ 0 ∨ v ≠ 0) ∧ Bd 1 u ∧ Bd 1 v) → FE 3 14 n w m → Wp (forL [] [3, 4] (exSs L1) ds m) fun f => ∃ m', f = .nx m' ∧ FE 3 14 (n + ds.length) w m' := by
  intro ds n m hn hd hm
  refine for_rule (srcs := []) (I := fun r m => ∃ k, k + r.length = n + ds.length ∧ k + r.length ≤ 4 ∧ (∀ d ∈ r, ∃ u v, d = .tuple [.int u, .int v] ∧ (u ≠ 0 ∨ v ≠ 0) ∧ Bd 1 u ∧ Bd 1 v) ∧ FE 3 14 k w m) (fun r m h => trivial) ?_ ?_ ds m ⟨n, rfl, hn, hd, hm⟩
  · rintro d r m ⟨k, hk, hk4, hd, st, rs, x3, x4, x5, x6, x7, x8, x9, rfl, hl, hr, s3, s4⟩
    obtain ⟨u, v, rfl, hz, hu, hv⟩ := hd d List.mem_cons_self
    have t3 := tk_bd st 3 (by decide)
    have t5 := tk_bd (tkS st 3) 5 (by decide)
    have hb : 0 < 1 + tkV st 3 := by omega
    have hb2 : 1 + tkV st 3 < 18446744073709551616 := by omega
    have tb := tkV_lo (tkS (tkS st 3) 5) hb
    have tb' := tkV_lt (tkS (tkS st 3) 5) hb
    have b1 : Bd 3 (1 + tkV st 3) := ⟨by omega, by omega⟩
    have b2 : Bd 4 (tkV (tkS st 3) 5) := ⟨by omega, by omega⟩
    have m1 := hu.ok b1 (by decide) (by decide)
    have m2 := hv.ok b1 (by decide) (by decide)
    have m3 := b1.ok b2 (by decide) (by decide)
    have e1 := hu.mul b1
    have e2 := hv.mul b1
    have e3 := b1.mul b2
    have ln : lenOk (rs.length + 1) := len_ok (by have := hr.1; omega)
    refine ⟨_, rfl, ?_⟩
    simp [L1, x_ss1, take_eq, hb, hb2, m1, m2, m3, len_ok, mthF, ln]
    refine ⟨k + 1, by simp at hk; omega, by simp at hk4; omega, fun d hd' => hd d (List.mem_cons_of_mem _ hd'), FE.snoc hl (by simp at hk4; omega) hr ⟨?_, ?_, ?_, ?_⟩ rfl rfl⟩
    · have nb : 1 + tkV st 3 ≠ 0 := by omega
      rcases hz with z | z
      · exact .inl (Int.mul_ne_zero z nb)
      · exact .inr (Int.mul_ne_zero z nb)
    · exact ⟨by unfold Bd at e1; simp only; omega, by unfold Bd at e1; simp only; omega⟩
    · exact ⟨by unfold Bd at e2; simp only; omega, by unfold Bd at e2; simp only; omega⟩
    · have : 0 ≤ (1 + tkV st 3) * tkV (tkS st 3) 5 := Int.mul_nonneg (by omega) (by omega)
      unfold Bd at e3 ⊢
      simp only
      omega
  · rintro m ⟨k, hk, _, _, h⟩
    simp at hk
    subst hk
    exact ⟨_, rfl, h⟩
theorem FE.up {p q p' q' n : Nat} {w : Int} {m : Env} (h : FE p q n w m) (a : p ≤ p') (b : q ≤ q') : FE p' q' n w m := by
  obtain ⟨st, rs, x3, x4, x5, x6, x7, x8, x9, rfl, h1, h2, s3, s4⟩ := h
  exact .mk h1 (h2.mono a b (Nat.le_refl _)) s3 s4
noncomputable def L2X : Ss := (.cons (.par [3, 4] (.cons (.bin .sub (.call M_law_take [true, false] (.cons (.var 0) (.cons (.con (.int 13)) .nil))) (.con (.int 6))) (.cons (.bin .sub (.call M_law_take [true, false] (.cons (.var 0) (.cons (.con (.int 13)) .nil))) (.con (.int 6))) .nil)))
    (.cons (.sif (.and (.cmp .eq (.var 3) (.con (.int 0))) (.cmp .eq (.var 4) (.con (.int 0))))
      (.cons (.asg 3 (.con (.int 2)))
    .nil)
      .nil)
    (.cons (.asg 7 (.bin .add (.bin .mul (.var 3) (.bin .sub (.call M_law_take [true, false] (.cons (.var 0) (.cons (.con (.int 5)) .nil))) (.con (.int 2)))) (.bin .mul (.var 4) (.bin .sub (.call M_law_take [true, false] (.cons (.var 0) (.cons (.con (.int 5)) .nil))) (.con (.int 2))))))
    (.cons (.mth 2 .append (.cons (.tup (.cons (.var 3) (.cons (.var 4) (.cons (.bin .sub (.bin .add (.var 7) (.call M_law_take [true, false] (.cons (.var 0) (.cons (.con (.int 9)) .nil)))) (.con (.int 1))) .nil)))) .nil))
    .nil))))
/-- the tail of a turn -/
noncomputable def L2Y : Ss := (.cons (.asg 7 (.bin .add (.bin .mul (.var 3) (.bin .sub (.call M_law_take [true, false] (.cons (.var 0) (.cons (.con (.int 5)) .nil))) (.con (.int 2)))) (.bin .mul (.var 4) (.bin .sub (.call M_law_take [true, false] (.cons (.var 0) (.cons (.con (.int 5)) .nil))) (.con (.int 2))))))
    (.cons (.mth 2 .append (.cons (.tup (.cons (.var 3) (.cons (.var 4) (.cons (.bin .sub (.bin .add (.var 7) (.call M_law_take [true, false] (.cons (.var 0) (.cons (.con (.int 9)) .nil)))) (.con (.int 1))) .nil)))) .nil))
    .nil))
theorem f_tail {w : Int} {st : St} {rs : List Row} {n : Nat} {a b : Int} {x5 x6 x7 x8 x9 : Option (Bool × D)} (hl : rs.length = n) (hn : n < 8) (hr : RowsIn 6 40 8 rs) (hz : a ≠ 0 ∨ b ≠ 0) (ha : Bd 6 a) (hb : Bd 6 b) :
    Wp (exSs L2Y [some (true, stD st), some (false, .int w), some (true, .list (rs.map rowD)), some (false, .int a), some (false, .int b), x5, x6, x7, x8, x9, none, none, none]) fun f => ∃ m', f = .nx m' ∧ FE 6 40 (n + 1) w m' := by
  have t1 := tk_bd st 5 (by decide)
  have t2 := tk_bd (tkS st 5) 5 (by decide)
  have t3 := tk_bd (tkS (tkS st 5) 5) 9 (by decide)
  have b1 : Bd 2 (tkV st 5 - 2) := ⟨by omega, by omega⟩
  have b2 : Bd 2 (tkV (tkS st 5) 5 - 2) := ⟨by omega, by omega⟩
  have m1 := ha.ok b1 (by decide) (by decide)
  have m2 := hb.ok b2 (by decide) (by decide)
  have e1 := ha.mul b1
  have e2 := hb.mul b2
  have ln : lenOk (rs.length + 1) := len_ok (by omega)
  simp [L2Y, x_ss1, take_eq, m1, m2, len_ok, mthF, ln]
  exact FE.snoc hl hn hr ⟨hz, ha, hb, by unfold Bd at e1 e2 ⊢; simp only; omega⟩ rfl rfl
theorem f_loop2 {w : Int} : ∀ (ds : List D) (n : Nat) (m : Env), n + ds.length ≤ 7 → FE 6 40 n w m → Wp (forL [] [6] (exSs L2X) ds m) fun f => ∃ m', f = .nx m' ∧ FE 6 40 (n + ds.length) w m' := by
  intro ds n m hn hm
  refine for_rule (srcs := []) (I := fun r m => ∃ k, k + r.length = n + ds.length ∧ k + r.length ≤ 7 ∧ FE 6 40 k w m) (fun r m h => trivial) ?_ ?_ ds m ⟨n, rfl, hn, hm⟩
  · rintro d r m ⟨k, hk, hk4, st, rs, x3, x4, x5, x6, x7, x8, x9, rfl, hl, hr, s3, s4⟩
    have t1 := tk_bd st 13 (by decide)
    have t2 := tk_bd (tkS st 13) 13 (by decide)
    simp at hk hk4
    refine ⟨_, rfl, ?_⟩
    have key : ∀ a b : Int, (a ≠ 0 ∨ b ≠ 0) → Bd 6 a → Bd 6 b → Wp (exSs L2Y [some (true, stD (tkS (tkS st 13) 13)), some (false, .int w), some (true, .list (rs.map rowD)), some (false, .int a), some (false, .int b), x5, some (false, d), x7, x8, x9, none, none, none]) fun f => match f with
      | .nx m2 => ∃ k, k + r.length = n + ds.length ∧ k + r.length ≤ 7 ∧ FE 6 40 k w m2
      | .ct m2 => ∃ k, k + r.length = n + ds.length ∧ k + r.length ≤ 7 ∧ FE 6 40 k w m2
      | .bk m2 => ∃ m', Fw.nx m2 = .nx m' ∧ FE 6 40 (n + ds.length) w m'
      | .rt fr d m2 => ∃ m', Fw.rt fr d m2 = .nx m' ∧ FE 6 40 (n + ds.length) w m' := fun a b hz ha hb => by
      refine (f_tail hl (by omega) hr hz ha hb).imp fun f h => ?_
      obtain ⟨m', rfl, h⟩ := h
      exact ⟨k + 1, by omega, by omega, h⟩
    by_cases z1 : tkV st 13 - 6 = 0
    · by_cases z2 : tkV (tkS st 13) 13 - 6 = 0
      · have := key 2 (tkV (tkS st 13) 13 - 6) (.inl (by decide)) ⟨by decide, by decide⟩ ⟨by omega, by omega⟩
        unfold L2Y at this
        unfold L2X
        simp [x_ss1 (.par _ _), x_ss1 (.sif _ _ _), x_ss1 (.asg 3 _), take_eq, z1, z2, len_ok] at this ⊢
        exact this
      · have := key (tkV st 13 - 6) (tkV (tkS st 13) 13 - 6) (.inr z2) ⟨by omega, by omega⟩ ⟨by omega, by omega⟩
        unfold L2Y at this
        unfold L2X
        simp [x_ss1 (.par _ _), x_ss1 (.sif _ _ _), x_ss1 (.asg 3 _), take_eq, z1, z2, len_ok] at this ⊢
        exact this
    · have := key (tkV st 13 - 6) (tkV (tkS st 13) 13 - 6) (.inl z1) ⟨by omega, by omega⟩ ⟨by omega, by omega⟩
      unfold L2Y at this
      unfold L2X
      simp [x_ss1 (.par _ _), x_ss1 (.sif _ _ _), x_ss1 (.asg 3 _), take_eq, z1, len_ok] at this ⊢
      exact this
  · rintro m ⟨k, hk, _, h⟩
    simp at hk
    subst hk
    exact ⟨_, rfl, h⟩
theorem cut_from (xs : List D) (t : Int) (h0 : 0 ≤ t) (h1 : t ≤ xs.length) : cutD xs (some t) none = xs.drop t.toNat := by
  have e : HT.sIx xs.length 0 (some t) = t.toNat := by
    have := HT.sIx_nat xs.length 0 t.toNat
    rw [Int.toNat_of_nonneg h0] at this
    rw [this]
    omega
  unfold cutD
  rw [e, HT.sIx_none]
  exact List.take_of_length_le (by simp)
theorem cut_to (xs : List D) (t : Int) (h0 : 0 ≤ t) (h1 : t ≤ xs.length) : cutD xs none (some t) = xs.take t.toNat := by
  have e : HT.sIx xs.length xs.length (some t) = t.toNat := by
    have := HT.sIx_nat xs.length xs.length t.toNat
    rw [Int.toNat_of_nonneg h0] at this
    rw [this]
    omega
  unfold cutD
  rw [e, HT.sIx_none]
  simp
@[simp] theorem slc_list (xs : List D) (lo hi : Option Int) : slcF (.list xs) lo hi = some (true, .list (cutD xs lo hi)) := rfl
@[simp] theorem slc_tup (xs : List D) (lo hi : Option Int) : slcF (.tuple xs) lo hi = some (false, .tuple (cutD xs lo hi)) := rfl
@[simp] theorem p_none (d : D) : partI (.con .none) d = some none := rfl
@[simp] theorem p_var (k : Nat) (i : Int) : partI (.var k) (.int i) = some (some i) := rfl
@[simp] theorem shO_n : shO none = true := rfl
@[simp] theorem shO_f (d : D) : shO (some (false, d)) = true := rfl
/-- the field is moved, its rows turned about -/
noncomputable def LEnd : Ss := (.cons (.par [10, 11] (.cons (.bin .sub (.call M_law_take [true, false] (.cons (.var 0) (.cons (.con (.int 7)) .nil))) (.con (.int 3))) (.cons (.bin .sub (.call M_law_take [true, false] (.cons (.var 0) (.cons (.con (.int 7)) .nil))) (.con (.int 3))) .nil)))
    (.cons (.asg 2 (.lc (.tup (.cons (.var 3) (.cons (.var 4) (.cons (.bin .add (.bin .add (.var 12) (.bin .mul (.var 3) (.var 10))) (.bin .mul (.var 4) (.var 11))) .nil)))) [3, 4, 12] (.sq (.var 2)) (.con (.bool true)) [3, 4, 12]))
    (.cons (.asg 6 (.call M_law_take [true, false] (.cons (.var 0) (.cons (.blt .len (.cons (.var 2) .nil)) .nil))))
    (.cons (.ret (.blt .tuple (.cons (.bin .add (.slc (.var 2) (.var 6) (.con .none)) (.slc (.var 2) (.con .none) (.var 6))) .nil)))
    .nil))))
def shift (u v : Int) (r : Row) : Row := (r.1, r.2.1, r.2.2 + r.1 * u + r.2.1 * v)
theorem f_end {w : Int} {n : Nat} {m : Env} (h : FE 14 58 n w m) (hn : 0 < n) : Wp (exSs LEnd m) fun f => ∃ rs st m', f = .rt false (fieldD rs) m' ∧ geti m' 0 = some (true, stD st) ∧ rs ≠ [] ∧ RowsIn 14 142 8 rs := by
  obtain ⟨st, rs, x3, x4, x5, x6, x7, x8, x9, rfl, hl, hr, s3, s4⟩ := h
  have t1 := tk_bd st 7 (by decide)
  have t2 := tk_bd (tkS st 7) 7 (by decide)
  have lr := hr.1
  have ln : lenOk rs.length := len_ok (by omega)
  have l0 : (0 : Int) < rs.length := by omega
  have l1 : (rs.length : Int) < 18446744073709551616 := by omega
  have t3 := tkV_lo (tkS (tkS st 7) 7) l0
  have t4 := tkV_lt (tkS (tkS st 7) 7) l0
  have bu : Bd 3 (tkV st 7 - 3) := ⟨by omega, by omega⟩
  have bv : Bd 3 (tkV (tkS st 7) 7 - 3) := ⟨by omega, by omega⟩
  have q := lc_map (srcs := [(2, rs.map rowD)]) (own := [3, 4, 12]) (g := [3, 4, 12]) (cnd := evC (.con (.bool true))) (elt := evT (.tup (.cons (.var 3) (.cons (.var 4) (.cons (.bin .add (.bin .add (.var 12) (.bin .mul (.var 3) (.var 10))) (.bin .mul (.var 4) (.var 11))) .nil)))))
      (m := [some (true, stD (tkS (tkS st 7) 7)), some (false, .int w), some (true, .list (rs.map rowD)), none, none, x5, x6, x7, x8, x9, some (false, .int (tkV st 7 - 3)), some (false, .int (tkV (tkS st 7) 7 - 3)), none])
      rowD (fun r => rowD (shift (tkV st 7 - 3) (tkV (tkS st 7) 7 - 3) r)) rs ⟨⟨true, rfl⟩, trivial⟩ fun r hrs => by
    obtain ⟨h1, h2, h3, h4⟩ := hr.2 r hrs
    have m1 := h2.ok bu (by decide) (by decide)
    have m2 := h3.ok bv (by decide) (by decide)
    exact ⟨_, _, rfl, by simp, by simp [evT, m1, m2, len_ok]; exact ⟨rfl, rfl⟩, by simp [wipeE]⟩
  have e1 := cut_from ((rs.map (shift (tkV st 7 - 3) (tkV (tkS st 7) 7 - 3))).map rowD) (tkV (tkS (tkS st 7) 7) rs.length) t3 (by simp; omega)
  have e2 := cut_to ((rs.map (shift (tkV st 7 - 3) (tkV (tkS st 7) 7 - 3))).map rowD) (tkV (tkS (tkS st 7) 7) rs.length) t3 (by simp; omega)
  simp only [List.map_map, Function.comp_def] at e1 e2
  have lx : lenOk (rs.length - (tkV (tkS (tkS st 7) 7) rs.length).toNat + min (tkV (tkS (tkS st 7) 7) rs.length).toNat rs.length) := len_ok (by omega)
  simp [LEnd, x_ss1, take_eq, len_ok, x_lcE, seqD, srcsOf, s3, s4, wipeE, q, ln, backE, take_eq (tkS (tkS st 7) 7) rs.length l0 l1, e1, e2, lx]
  have cong : ∀ rs' : List Row, rs'.length = rs.length → (∀ r ∈ rs', ∃ r0 ∈ rs, r = shift (tkV st 7 - 3) (tkV (tkS st 7) 7 - 3) r0) → rs' ≠ [] ∧ RowsIn 14 142 8 rs' := fun rs' hl' hm => by
    refine ⟨fun z => ?_, by omega, fun r hr' => ?_⟩
    · rw [z] at hl'
      simp at hl'
      omega
    · obtain ⟨r0, h0, rfl⟩ := hm r hr'
      obtain ⟨h1, h2, h3, h4⟩ := hr.2 r0 h0
      have e1 := h2.mul bu
      have e2 := h3.mul bv
      refine ⟨h1, h2, h3, ?_⟩
      unfold shift Bd at *
      simp only at *
      omega
  refine ⟨(rs.map (shift (tkV st 7 - 3) (tkV (tkS st 7) 7 - 3))).drop (tkV (tkS (tkS st 7) 7) rs.length).toNat ++ (rs.map (shift (tkV st 7 - 3) (tkV (tkS st 7) 7 - 3))).take (tkV (tkS (tkS st 7) 7) rs.length).toNat, _, _, ⟨?_, rfl⟩, rfl, ?_⟩
  · simp [fieldD, List.map_drop, List.map_take, Function.comp_def]
  · refine cong _ (by simp; omega) fun r hr' => ?_
    rw [List.mem_append] at hr'
    have : r ∈ rs.map (shift (tkV st 7 - 3) (tkV (tkS st 7) 7 - 3)) := hr'.elim List.mem_of_mem_drop List.mem_of_mem_take
    rw [List.mem_map] at this
    obtain ⟨r0, a, b⟩ := this
    exact ⟨r0, a, b.symm⟩
end Rc

set_option maxRecDepth 100000
set_option maxHeartbeats 4000000
namespace Rc
open PySem
instance (n : Nat) (i : Int) : Decidable (Bd n i) := inferInstanceAs (Decidable (_ ∧ _))
theorem snoc_of {α : Type} {xs : List α} (h : xs ≠ []) : ∃ ys y, xs = ys ++ [y] := ⟨xs.dropLast, xs.getLast h, (List.dropLast_concat_getLast h).symm⟩
theorem rng_len (lo hi : Int) : (rngD lo hi).length = (hi - lo).toNat := by simp [rngD]
@[simp] theorem a_last (xs : List D) (x : D) : L2.atI (xs ++ [x]) (-1) = some x := L2.atI_last _ _
abbrev FQ : Fw → Prop := fun f => ∃ rs st m', f = .rt false (fieldD rs) m' ∧ geti m' 0 = some (true, stD st) ∧ rs ≠ [] ∧ RowsIn 14 142 8 rs
noncomputable def LIf5 : S := (.sif (.cmp .eq (.var 1) (.con (.int 5)))
      (.cons (.asg 9 (.idx (.lst (.cons (.lst (.cons (.tup (.cons (.neg (.con (.int 2))) (.cons (.con (.int 1)) .nil))) (.cons (.tup (.cons (.con (.int 1)) (.cons (.neg (.con (.int 3))) .nil))) (.cons (.tup (.cons (.con (.int 2)) (.cons (.con (.int 3)) .nil))) .nil)))) (.cons (.lst (.cons (.tup (.cons (.neg (.con (.int 3))) (.cons (.neg (.con (.int 2))) .nil))) (.cons (.tup (.cons (.con (.int 3)) (.cons (.neg (.con (.int 1))) .nil))) (.cons (.tup (.cons (.con (.int 1)) (.cons (.con (.int 4)) .nil))) .nil)))) .nil))) (.call M_law_take [true, false] (.cons (.var 0) (.cons (.con (.int 2)) .nil)))))
    (.cons (.asg 2 (.lc (.tup (.cons (.var 3) (.cons (.var 4) (.cons (.call M_law_take [true, false] (.cons (.var 0) (.cons (.con (.int 8)) .nil))) .nil)))) [3, 4] (.sq (.var 9)) (.con (.bool true)) [3, 4]))
    .nil))
      .nil)
noncomputable def LIf4 : S := (.sif (.cmp .eq (.var 1) (.con (.int 4)))
      (.cons (.asg 8 (.bin .add (.con (.int 1)) (.call M_law_take [true, false] (.cons (.var 0) (.cons (.con (.int 7)) .nil)))))
    (.cons (.asg 2 (.lst (.cons (.tup (.cons (.neg (.con (.int 1))) (.cons (.con (.int 0)) (.cons (.con (.int 0)) .nil)))) (.cons (.tup (.cons (.con (.int 1)) (.cons (.bin .mul (.neg (.con (.int 2))) (.var 8)) (.cons (.con (.int 0)) .nil)))) (.cons (.tup (.cons (.con (.int 1)) (.cons (.bin .mul (.con (.int 2)) (.var 8)) (.cons (.bin .mul (.con (.int 2)) (.var 8)) .nil)))) .nil)))))
    .nil))
      .nil)
/-- way below 4, behind the drawing -/
theorem f_low {w : Int} {n : Nat} {m : Env} (h : FE 14 58 n w m) (hn : 0 < n) (hw : w < 4) : Wp (exSs (.cons LIf4 (.cons LIf5 LEnd)) m) FQ := by
  have e := f_end h hn
  obtain ⟨st, rs, x3, x4, x5, x6, x7, x8, x9, rfl, hl, hr, s3, s4⟩ := h
  have n4 : ¬ w = 4 := by omega
  have n5 : ¬ w = 5 := by omega
  simp [x_ss1 (.sif (.cmp _ (.var 1) _) _ _), LIf4, LIf5, n4, n5]
  exact e
theorem f_four (st : St) : Wp (exSs (.cons LIf4 (.cons LIf5 LEnd)) [some (true, stD st), some (false, .int 4), some (true, .list []), none, none, none, none, none, none, none, none, none, none]) FQ := by
  have t1 := tk_bd st 7 (by decide)
  have b1 : Bd 7 (1 + tkV st 7) := ⟨by omega, by omega⟩
  have m1 : mulOk (-2) (1 + tkV st 7) := mulOk_small (by decide) (by omega)
  have m2 : mulOk 2 (1 + tkV st 7) := mulOk_small (by decide) (by omega)
  have e := f_end (w := 4) (n := 3) (FE.mk (p := 14) (q := 58) (w := 4) (st := tkS st 7) (rs := [(-1, 0, 0), (1, -2 * (1 + tkV st 7), 0), (1, 2 * (1 + tkV st 7), 2 * (1 + tkV st 7))]) (x3 := none) (x4 := none) (x5 := none) (x6 := none) (x7 := none) (x8 := some (false, .int (1 + tkV st 7))) (x9 := none) rfl ⟨by simp, fun r hr => by
    simp only [List.mem_cons, List.not_mem_nil, or_false] at hr
    rcases hr with rfl | rfl | rfl
    · exact ⟨.inl (by decide), ⟨by decide, by decide⟩, ⟨by decide, by decide⟩, ⟨by decide, by decide⟩⟩
    · exact ⟨.inl (by simp), ⟨by simp, by simp⟩, ⟨by simp only; omega, by simp only; omega⟩, ⟨by simp, by simp⟩⟩
    · exact ⟨.inl (by simp), ⟨by simp, by simp⟩, ⟨by simp only; omega, by simp only; omega⟩, ⟨by simp only; omega, by simp only; omega⟩⟩⟩ rfl rfl) (by decide)
  simp [x_ss1 (.sif (.cmp _ (.var 1) _) _ _), x_ss1 (.asg 8 _), x_ss1 (.asg 2 (.lst _)), LIf4, LIf5, take_eq, m1, m2, len_ok]
  exact e
theorem f_five (st : St) : Wp (exSs (.cons LIf4 (.cons LIf5 LEnd)) [some (true, stD st), some (false, .int 5), some (true, .list []), none, none, none, none, none, none, none, none, none, none]) FQ := by
  have t1 := tk_bd st 2 (by decide)
  have t2 := tk_bd (tkS st 2) 8 (by decide)
  have t3 := tk_bd (tkS (tkS st 2) 8) 8 (by decide)
  have t4 := tk_bd (tkS (tkS (tkS st 2) 8) 8) 8 (by decide)
  have key : ∀ (a1 b1 a2 b2 a3 b3 : Int) (x9 : Option (Bool × D)), (a1 ≠ 0 ∧ a2 ≠ 0 ∧ a3 ≠ 0) → (Bd 4 a1 ∧ Bd 4 b1 ∧ Bd 4 a2 ∧ Bd 4 b2 ∧ Bd 4 a3 ∧ Bd 4 b3) →
      Wp (exSs LEnd [some (true, stD (tkS (tkS (tkS (tkS st 2) 8) 8) 8)), some (false, .int 5), some (true, .list [.tuple [.int a1, .int b1, .int (tkV (tkS st 2) 8)], .tuple [.int a2, .int b2, .int (tkV (tkS (tkS st 2) 8) 8)], .tuple [.int a3, .int b3, .int (tkV (tkS (tkS (tkS st 2) 8) 8) 8)]]), none, none, none, none, none, none, x9, none, none, none]) FQ := by
    intro a1 b1 a2 b2 a3 b3 x9 hz hb
    refine f_end (w := 5) (n := 3) (FE.mk (p := 14) (q := 58) (w := 5) (st := tkS (tkS (tkS (tkS st 2) 8) 8) 8) (rs := [(a1, b1, tkV (tkS st 2) 8), (a2, b2, tkV (tkS (tkS st 2) 8) 8), (a3, b3, tkV (tkS (tkS (tkS st 2) 8) 8) 8)]) (x3 := none) (x4 := none) (x5 := none) (x6 := none) (x7 := none) (x8 := none) (x9 := x9) rfl ⟨by simp, fun r hr => ?_⟩ rfl rfl) (by decide)
    simp only [List.mem_cons, List.not_mem_nil, or_false] at hr
    obtain ⟨z1, z2, z3⟩ := hz
    unfold Bd at hb
    rcases hr with rfl | rfl | rfl
    · exact ⟨.inl z1, ⟨by simp only; omega, by simp only; omega⟩, ⟨by simp only; omega, by simp only; omega⟩, ⟨by simp only; omega, by simp only; omega⟩⟩
    · exact ⟨.inl z2, ⟨by simp only; omega, by simp only; omega⟩, ⟨by simp only; omega, by simp only; omega⟩, ⟨by simp only; omega, by simp only; omega⟩⟩
    · exact ⟨.inl z3, ⟨by simp only; omega, by simp only; omega⟩, ⟨by simp only; omega, by simp only; omega⟩, ⟨by simp only; omega, by simp only; omega⟩⟩
  have hv : tkV st 2 = 0 ∨ tkV st 2 = 1 := by omega
  rcases hv with hv | hv
  · have := key (-2) 1 1 (-3) 2 3 (some (false, .list [.tuple [.int (-2), .int 1], .tuple [.int 1, .int (-3)], .tuple [.int 2, .int 3]])) (by decide) (by decide)
    simp [x_ss1 (.sif (.cmp _ (.var 1) _) _ _), x_ss1 (.asg 9 _), x_ss1 (.asg 2 (.lc _ _ _ _ _)), LIf4, LIf5, take_eq, len_ok, hv, x_lcE, seqD, srcsOf, wipeE, lcL, srcOk, bindT, evT, backE]
    exact this
  · have := key (-3) (-2) 3 (-1) 1 4 (some (false, .list [.tuple [.int (-3), .int (-2)], .tuple [.int 3, .int (-1)], .tuple [.int 1, .int 4]])) (by decide) (by decide)
    simp [x_ss1 (.sif (.cmp _ (.var 1) _) _ _), x_ss1 (.asg 9 _), x_ss1 (.asg 2 (.lc _ _ _ _ _)), LIf4, LIf5, take_eq, len_ok, hv, x_lcE, seqD, srcsOf, wipeE, lcL, srcOk, bindT, evT, backE]
    exact this
theorem field_t (a : St) : Wp (M_law_field [(true, stD a)]) fun r => ∃ rs st, r = (false, fieldD rs, [(true, stD st)]) ∧ rs ≠ [] ∧ RowsIn 14 142 8 rs := by
  have h6 := tk_bd a 6 (by decide)
  have fin : ∀ {m : Env} {ss : Ss}, Wp (exSs ss m) FQ → Wp (exSs ss m) fun f => match f with
      | .nx m => ∃ fs, finsOf 0 [(true, stD a)] m = some fs ∧ ∃ rs st, ((false, PyData.none, fs) : Bool × D × List (Bool × D)) = (false, fieldD rs, [(true, stD st)]) ∧ rs ≠ [] ∧ RowsIn 14 142 8 rs
      | .rt fr d m => ∃ fs, finsOf 0 [(true, stD a)] m = some fs ∧ ∃ rs st, (fr, d, fs) = (false, fieldD rs, [(true, stD st)]) ∧ rs ≠ [] ∧ RowsIn 14 142 8 rs
      | _ => False := fun h => h.imp fun f ⟨rs, st, m', e, g, h1, h2⟩ => by
    subst e
    exact ⟨[(true, stD st)], by simp [g], rs, st, rfl, h1, h2⟩
  refine run_wp rfl ?_
  refine fin ?_
  by_cases hw : tkV a 6 < 4
  · simp [B_law_field, x_ss1 (.asg _ _), x_ss1 (.sif (.cmp .lt _ _) _ _), x_ss1 (.sfor _ _ _), take_eq, hw, len_ok, x_sfor, seqD, srcsOf]
    refine Wp_lb (Wp_lb ((f_loop1 (w := tkV a 6) _ 0 _ (by decide) (fun d hd => ?_) (FE.mk (rs := []) rfl RowsIn.nil rfl rfl)).imp fun f h => ?_))
    · simp only [List.mem_cons, List.not_mem_nil, or_false] at hd
      rcases hd with rfl | rfl | rfl | rfl
      · exact ⟨-1, 0, rfl, by decide, by decide, by decide⟩
      · exact ⟨1, 0, rfl, by decide, by decide, by decide⟩
      · exact ⟨0, -1, rfl, by decide, by decide, by decide⟩
      · exact ⟨0, 1, rfl, by decide, by decide, by decide⟩
    obtain ⟨m', rfl, hm⟩ := h
    have hm := hm.up (show 3 ≤ 6 by decide) (show 14 ≤ 40 by decide)
    obtain ⟨st, rs, x3, x4, x5, x6, x7, x8, x9, rfl, hl, hr, s3, s4⟩ := hm
    have t4 := tk_bd st 4 (by decide)
    have sm : smallI (tkV st 4) := ⟨by omega, by omega⟩
    simp [x_ss1 (.sfor _ _ _), take_eq, x_sfor, sm]
    refine Wp_lb ((f_loop2 (w := tkV a 6) _ 4 _ (by rw [rng_len]; omega) (FE.mk hl hr s3 s4)).imp fun f h => ?_)
    obtain ⟨m', rfl, hm⟩ := h
    obtain ⟨st, rs, x3, x4, x5, x6, x7, x8, x9, rfl, hl, hr, s3, s4⟩ := hm
    have hk := rng_len 0 (tkV st 4)
    obtain ⟨rs0, ⟨a1, b1, c1⟩, rfl⟩ := snoc_of (xs := rs) (fun z => by rw [z] at hl; simp at hl; omega)
    have t8 := tk_bd st 8 (by decide)
    have r1 := hr.2 (a1, b1, c1) (by simp)
    rw [rng_len] at hl
    simp at hl
    have ln : lenOk (rs0.length + 1 + 1) := len_ok (by omega)
    by_cases z : tkV st 8 = 0
    · simp [x_ss1 (.sif (.cmp _ (.call _ _ _) _) _ _), x_ss1 (.mth _ _ _), take_eq, z, rowD, len_ok, mthF, ln]
      refine f_low (n := rs0.length + 2) ?_ (by omega) hw
      have := FE.snoc (p := 6) (q := 40) (w := tkV a 6) (st := tkS st 8) (rs := rs0 ++ [(a1, b1, c1)]) (a := -a1) (b := -b1) (c := -c1) (x3 := x3) (x4 := x4) (x5 := x5) (x6 := x6) (x7 := x7) (x8 := x8) (x9 := x9) (n := rs0.length + 1) (by simp) (by omega) hr ?_ s3 s4
      · simp [rowD] at this
        exact this.up (by decide) (by decide)
      · obtain ⟨h1, h2, h3, h4⟩ := r1
        refine ⟨?_, ?_, ?_, ?_⟩
        · rcases h1 with h1 | h1
          · exact .inl (by simpa using h1)
          · exact .inr (by simpa using h1)
        · unfold Bd at *; simp only at *; omega
        · unfold Bd at *; simp only at *; omega
        · unfold Bd at *; simp only at *; omega
    · simp [x_ss1 (.sif (.cmp _ (.call _ _ _) _) _ _), take_eq, z]
      have := (FE.mk (p := 6) (q := 40) (w := tkV a 6) (st := tkS st 8) (x5 := x5) (x6 := x6) (x7 := x7) (x8 := x8) (x9 := x9) rfl hr s3 s4)
      refine f_low (n := rs0.length + 1) ?_ (by omega) hw
      simp at this
      exact this.up (by decide) (by decide)
  · have h45 : tkV a 6 = 4 ∨ tkV a 6 = 5 := by omega
    rcases h45 with h | h
    · have := f_four (tkS a 6)
      simp [B_law_field, x_ss1 (.asg _ _), x_ss1 (.sif (.cmp .lt _ _) _ _), take_eq, h, len_ok]
      exact this
    · have := f_five (tkS a 6)
      simp [B_law_field, x_ss1 (.asg _ _), x_ss1 (.sif (.cmp .lt _ _) _ _), take_eq, h, len_ok]
      exact this
end Rc

set_option maxRecDepth 100000
set_option maxHeartbeats 4000000
/-! Fractions. -/
namespace Rc
open PySem
def fracD (q : Rat) : D := .tuple [.int q.num, .int q.den]
theorem fmod_small (a : Int) {b : Int} (h : b ≠ 0) : (a.fmod b).natAbs < b.natAbs := by
  rcases Int.lt_or_gt_of_ne h with hb | hb
  · have e : a.fmod b = a - b * a.fdiv b := Int.fmod_def a b
    have q : a.fdiv b = (-a).fdiv (-b) := (Int.neg_fdiv_neg a b).symm
    have r : (-a).fmod (-b) = -a - (-b) * (-a).fdiv (-b) := Int.fmod_def _ _
    have l1 := fm_lo (-a) (b := -b) (by omega)
    have l2 := fm_lt (-a) (b := -b) (by omega)
    have : a.fmod b = -((-a).fmod (-b)) := by rw [e, r, q]; grind
    omega
  · have l1 := fm_lo a hb
    have l2 := fm_lt a hb
    omega
theorem fmod_gcd (a b : Int) : b.gcd (a.fmod b) = a.gcd b := by
  rw [Int.fmod_def, Int.gcd_sub_mul_left_right, Int.gcd_comm]
noncomputable def DvB : Ss := (.cons (.par [0, 1] (.cons (.var 1) (.cons (.bin .mod (.var 0) (.var 1)) .nil)))
    .nil)
theorem dv_loop : ∀ (n : Nat) (a b : Int), b.natAbs ≤ n → ∃ g : Int, wh (evC (.cmp .ne (.var 1) (.con (.int 0)))) (exSs DvB) [some (false, .int a), some (false, .int b)] = .ok (.nx [some (false, .int g), some (false, .int 0)]) ∧ g.natAbs = a.gcd b
  | 0, a, b, h => by
    have hb : b = 0 := by omega
    subst hb
    refine ⟨a, wh_stop ?_, by simp⟩
    simp [wturn]
  | n + 1, a, b, h => by
    by_cases hb : b = 0
    · subst hb
      refine ⟨a, wh_stop ?_, by simp⟩
      simp [wturn]
    · obtain ⟨g, e1, e2⟩ := dv_loop n b (a.fmod b) (by have := fmod_small a hb; omega)
      refine ⟨g, ?_, by rw [e2, fmod_gcd]⟩
      rw [wh_go (m2 := [some (false, .int b), some (false, .int (a.fmod b))])]
      · exact e1
      · simp [wturn, hb, DvB, x_ss1]
theorem divisor_eq (a b : Int) : M_divisor [(false, .int a), (false, .int b)] = .ok (false, .int (a.gcd b), [(false, .int a), (false, .int b)]) := by
  obtain ⟨g, e1, e2⟩ := dv_loop _ a b (Nat.le_refl _)
  have ab : (if g < 0 then -g else g) = (a.gcd b : Int) := by rw [← e2]; split <;> omega
  have e3 : exS (.whl (.cmp .ne (.var 1) (.con (.int 0))) DvB) [some (false, .int a), some (false, .int b)] = .ok (.nx [some (false, .int g), some (false, .int 0)]) := by rw [x_whl]; exact e1
  unfold DvB at e3
  simp [M_divisor, mkM, flg, runFn, B_divisor, x_ss1, e3, ab]
theorem law_divisor_eq (a b : Int) : M_law_divisor [(false, .int a), (false, .int b)] = .ok (false, .int (a.gcd b), [(false, .int a), (false, .int b)]) := divisor_eq a b
theorem gcd_pos {p q : Int} (h : q ≠ 0) : 0 < (p.gcd q : Int) := by
  have : 0 < p.gcd q := Int.gcd_pos_of_ne_zero_right _ h
  omega
/-- the fraction of two numbers, as the program has it -/
theorem frac_parts (p q : Int) (hq : q ≠ 0) : (if q < 0 then p.fdiv (0 - (p.gcd q : Int)) else p.fdiv (p.gcd q : Int)) = (Rat.divInt p q).num ∧
    (if q < 0 then q.fdiv (0 - (p.gcd q : Int)) else q.fdiv (p.gcd q : Int)) = ((Rat.divInt p q).den : Int) := by
  have g0 := gcd_pos (p := p) hq
  have d1 : (p.gcd q : Int) ∣ p := Int.gcd_dvd_left p q
  have d2 : (p.gcd q : Int) ∣ q := Int.gcd_dvd_right p q
  rw [Rat.num_divInt, Rat.den_divInt, if_neg hq, Int.gcd_comm q p]
  rcases Int.lt_or_gt_of_ne hq with h | h
  · rw [if_pos h, if_pos h, Int.sign_eq_neg_one_of_neg h]
    have n1 : (0 - (p.gcd q : Int)) ∣ p := by rw [Int.zero_sub]; exact Int.neg_dvd.mpr d1
    have n2 : (0 - (p.gcd q : Int)) ∣ q := by rw [Int.zero_sub]; exact Int.neg_dvd.mpr d2
    rw [Int.fdiv_eq_ediv_of_dvd n1, Int.fdiv_eq_ediv_of_dvd n2, Int.zero_sub, Int.ediv_neg, Int.ediv_neg]
    constructor
    · rw [show (-1 : Int) * p = -p by omega, Int.neg_ediv_of_dvd d1]
    · rw [← Int.neg_ediv_of_dvd d2, Int.natCast_ediv]
      congr 1
      omega
  · rw [if_neg (by omega), if_neg (by omega), Int.sign_eq_one_of_pos h]
    rw [Int.fdiv_eq_ediv_of_dvd d1, Int.fdiv_eq_ediv_of_dvd d2]
    constructor
    · rw [Int.one_mul]
    · rw [Int.natCast_ediv]
      congr 1
      omega
/-- the divisor is not too great -/
def small9 (q : Int) : Prop := q.natAbs < 2 ^ 9000
theorem gcd_div {p q : Int} (hq : q ≠ 0) (h : small9 q) : divOk (p.gcd q : Int) ∧ divOk (0 - (p.gcd q : Int)) := by
  have g0 := gcd_pos (p := p) hq
  have le : p.gcd q ≤ q.natAbs := Nat.le_of_dvd (by omega) (by
    have := Int.natAbs_dvd_natAbs.mpr (Int.gcd_dvd_right p q)
    rwa [Int.natAbs_natCast] at this)
  unfold small9 at h
  constructor
  · refine ⟨by omega, ?_⟩
    have := bits_le (k := 8999) (i := (p.gcd q : Int)) (by omega)
    omega
  · refine ⟨by omega, ?_⟩
    have := bits_le (k := 8999) (i := 0 - (p.gcd q : Int)) (by omega)
    omega
theorem ratio_eq (p q : Int) (hq : q ≠ 0) (h : small9 q) : M_ratio [(false, .int p), (false, .int q)] = .ok (false, fracD (Rat.divInt p q), [(false, .int p), (false, .int q)]) := by
  obtain ⟨d1, d2⟩ := gcd_div (p := p) hq h
  obtain ⟨e1, e2⟩ := frac_parts p q hq
  have l2 : lenOk 2 := by decide
  by_cases n : q < 0
  · rw [if_pos n] at e1 e2
    rw [Int.zero_sub] at e1 e2 d2
    simp [M_ratio, mkM, flg, runFn, B_ratio, x_ss1, divisor_eq, n, d2, l2, fracD, e1, e2]
  · rw [if_neg n] at e1 e2
    simp [M_ratio, mkM, flg, runFn, B_ratio, x_ss1, divisor_eq, n, d1, l2, fracD, e1, e2]
theorem low_eq (p q : Int) (hq : q ≠ 0) (h : small9 q) : M_law_low [(false, .int p), (false, .int q)] = .ok (false, fracD (Rat.divInt p q), [(false, .int p), (false, .int q)]) := ratio_eq p q hq h
/-! sizes -/
/-- numerator and denominator below 2^n -/
def Sz (n : Nat) (q : Rat) : Prop := q.num.natAbs < 2 ^ n ∧ q.den < 2 ^ n
theorem lt_mul {a b m n : Nat} (h1 : a < 2 ^ m) (h2 : b < 2 ^ n) : a * b < 2 ^ (m + n) := by
  rw [Nat.pow_add]
  rcases Nat.eq_zero_or_pos b with z | z
  · rw [z, Nat.mul_zero]
    exact Nat.mul_pos (Nat.two_pow_pos _) (Nat.two_pow_pos _)
  · exact Nat.lt_of_lt_of_le ((Nat.mul_lt_mul_right z).mpr h1) (Nat.mul_le_mul_left _ (Nat.le_of_lt h2))
/-- an int below 2^n -/
def Ib (n : Nat) (i : Int) : Prop := i.natAbs < 2 ^ n
theorem Ib.mul {m n : Nat} {i j : Int} (h1 : Ib m i) (h2 : Ib n j) : Ib (m + n) (i * j) := by
  unfold Ib
  rw [Int.natAbs_mul]
  exact lt_mul h1 h2
theorem Ib.mono {m n : Nat} {i : Int} (h : Ib m i) (l : m ≤ n) : Ib n i := Nat.lt_of_lt_of_le h (Nat.pow_le_pow_right (by decide) l)
theorem Ib.add {n : Nat} {i j : Int} (h1 : Ib n i) (h2 : Ib n j) : Ib (n + 1) (i + j) := by
  unfold Ib at *
  rw [Nat.pow_succ]
  omega
theorem Ib.sub {n : Nat} {i j : Int} (h1 : Ib n i) (h2 : Ib n j) : Ib (n + 1) (i - j) := by
  unfold Ib at *
  rw [Nat.pow_succ]
  omega
theorem Ib.ok {m n : Nat} {i j : Int} (h1 : Ib m i) (h2 : Ib n j) (h : m + n < 1000000) : mulOk i j := by
  refine mulOk_of m n (Nat.lt_of_lt_of_le h1 (Nat.pow_le_pow_right (by decide) (by omega))) (Nat.lt_of_lt_of_le h2 (Nat.pow_le_pow_right (by decide) (by omega))) h
theorem Ib.small {n : Nat} {i : Int} (h : Ib n i) (l : n ≤ 9000) : small9 i := h.mono l
theorem Sz.num {n : Nat} {q : Rat} (h : Sz n q) : Ib n q.num := h.1
theorem Sz.den {n : Nat} {q : Rat} (h : Sz n q) : Ib n (q.den : Int) := by unfold Ib; rw [Int.natAbs_natCast]; exact h.2
theorem Sz.divInt {n : Nat} {p q : Int} (hp : Ib n p) (hq : Ib n q) (z : q ≠ 0) : Sz n (Rat.divInt p q) := by
  have g0 := gcd_pos (p := p) z
  unfold Sz
  rw [Rat.num_divInt, Rat.den_divInt, if_neg z]
  constructor
  · refine Nat.lt_of_le_of_lt ?_ hp
    refine Nat.le_trans (Int.natAbs_ediv_le_natAbs _ _) ?_
    rw [Int.natAbs_mul]
    have : q.sign.natAbs = 1 := by
      rcases Int.lt_or_gt_of_ne z with h | h
      · rw [Int.sign_eq_neg_one_of_neg h]; rfl
      · rw [Int.sign_eq_one_of_pos h]; rfl
    rw [this]
    omega
  · exact Nat.lt_of_le_of_lt (Nat.div_le_self _ _) hq
theorem den_pos (q : Rat) : (0 : Int) < q.den := by have := q.den_pos; omega
theorem den_ne (q : Rat) : (q.den : Int) ≠ 0 := by have := den_pos q; omega
/-! the program's sums -/
theorem mul_ne {a b : Int} (h1 : a ≠ 0) (h2 : b ≠ 0) : a * b ≠ 0 := Int.mul_ne_zero h1 h2
theorem add_num (a b : Rat) : Rat.divInt (a.num * b.den + b.num * a.den) (a.den * b.den) = a + b := by
  rw [← Rat.divInt_add_divInt _ _ (den_ne a) (den_ne b), Rat.num_divInt_den, Rat.num_divInt_den]
theorem plus_eq (a b : Rat) (n : Nat) (ha : Sz n a) (hb : Sz n b) (hn : n ≤ 4000) : M_plus [(false, fracD a), (false, fracD b)] = .ok (false, fracD (a + b), [(false, fracD a), (false, fracD b)]) := by
  have m1 := ha.num.ok hb.den (by omega)
  have m2 := hb.num.ok ha.den (by omega)
  have m3 := ha.den.ok hb.den (by omega)
  have r := ratio_eq (a.num * b.den + b.num * a.den) (a.den * b.den) (mul_ne (den_ne a) (den_ne b)) ((ha.den.mul hb.den).small (by omega))
  rw [add_num] at r
  simp only [fracD] at r
  simp [M_plus, mkM, flg, runFn, B_plus, x_ss1, fracD, m1, m2, m3, r]
theorem mul_num (a : Rat) (k : Int) : Rat.divInt (a.num * k) a.den = a * k := by
  have h1 : Rat.divInt k 1 = (k : Rat) := Rat.num_divInt_den (k : Rat)
  have : a * (k : Rat) = Rat.divInt a.num a.den * Rat.divInt k 1 := by rw [Rat.num_divInt_den, h1]
  rw [this, Rat.divInt_mul_divInt]
  simp
theorem times_eq (a : Rat) (k : Int) (n : Nat) (ha : Sz n a) (hk : Ib n k) (hn : n ≤ 4000) : M_times [(false, fracD a), (false, .int k)] = .ok (false, fracD (a * k), [(false, fracD a), (false, .int k)]) := by
  have m1 := ha.num.ok hk (by omega)
  have r := ratio_eq (a.num * k) a.den (den_ne a) (ha.den.small (by omega))
  rw [mul_num] at r
  simp only [fracD] at r
  simp [M_times, mkM, flg, runFn, B_times, x_ss1, fracD, m1, r]
theorem is_less_eq (a b : Rat) (n : Nat) (ha : Sz n a) (hb : Sz n b) (hn : n ≤ 4000) : M_is_less [(false, fracD a), (false, fracD b)] = .ok (false, .bool (decide (a < b)), [(false, fracD a), (false, fracD b)]) := by
  have m1 := ha.num.ok hb.den (by omega)
  have m2 := hb.num.ok ha.den (by omega)
  have e : (a < b) = (a.num * b.den < b.num * a.den) := propext (Rat.lt_iff a b)
  simp [M_is_less, mkM, flg, runFn, B_is_less, x_ss1, fracD, m1, m2, e]
theorem Sz.add {n : Nat} {a b : Rat} (ha : Sz n a) (hb : Sz n b) : Sz (2 * n + 1) (a + b) := by
  rw [← add_num]
  refine Sz.divInt ?_ ?_ (mul_ne (den_ne a) (den_ne b))
  · have := (ha.num.mul hb.den).add (hb.num.mul ha.den)
    rwa [show n + n + 1 = 2 * n + 1 by omega] at this
  · exact (ha.den.mul hb.den).mono (by omega)
theorem Sz.mulI {m n : Nat} {a : Rat} {k : Int} (ha : Sz n a) (hk : Ib m k) : Sz (n + m) (a * k) := by
  rw [← mul_num]
  exact Sz.divInt (ha.num.mul hk) (ha.den.mono (by omega)) (den_ne a)
theorem Sz.mono {m n : Nat} {a : Rat} (h : Sz m a) (l : m ≤ n) : Sz n a := ⟨Nat.lt_of_lt_of_le h.1 (Nat.pow_le_pow_right (by decide) l), Nat.lt_of_lt_of_le h.2 (Nat.pow_le_pow_right (by decide) l)⟩
theorem Sz.int {n : Nat} {k : Int} (h : Ib n k) (hn : 0 < n) : Sz n (k : Rat) := ⟨h, by
  show 1 < 2 ^ n
  exact Nat.one_lt_two_pow (by omega)⟩
/-! places and rows -/
abbrev Place := Rat × Rat
def placeD (p : Place) : D := .tuple [fracD p.1, fracD p.2]
def val (r : Row) (p : Place) : Rat := p.1 * r.1 + p.2 * r.2.1
def SzR (n : Nat) (r : Row) : Prop := Ib n r.1 ∧ Ib n r.2.1 ∧ Ib n r.2.2
def SzP (n : Nat) (p : Place) : Prop := Sz n p.1 ∧ Sz n p.2
theorem value_eq (r : Row) (p : Place) (n : Nat) (hr : SzR n r) (hp : SzP n p) (hn : n ≤ 2000) : M_value [(false, rowD r), (false, placeD p)] = .ok (false, fracD (val r p), [(false, rowD r), (false, placeD p)]) := by
  have e1 := times_eq p.1 r.1 n hp.1 hr.1 (by omega)
  have e2 := times_eq p.2 r.2.1 n hp.2 hr.2.1 (by omega)
  have s1 := hp.1.mulI hr.1
  have s2 := hp.2.mulI hr.2.1
  have e3 := plus_eq (p.1 * r.1) (p.2 * r.2.1) (n + n) s1 s2 (by omega)
  simp [M_value, mkM, flg, runFn, B_value, x_ss1, rowD, placeD, e1, e2, e3, val]
theorem val_sz {r : Row} {p : Place} {n : Nat} (hr : SzR n r) (hp : SzP n p) : Sz (4 * n + 1) (val r p) := by
  have s1 := hp.1.mulI hr.1
  have s2 := hp.2.mulI hr.2.1
  have := s1.add s2
  rwa [show 2 * (n + n) + 1 = 4 * n + 1 by omega] at this
theorem frac_int (k : Int) : fracD (k : Rat) = .tuple [.int k, .int 1] := rfl
theorem keeps_eq (r : Row) (p : Place) (n : Nat) (hr : SzR n r) (hp : SzP n p) (h0 : 0 < n) (hn : n ≤ 900) : M_keeps [(false, rowD r), (false, placeD p)] = .ok (false, .bool (decide (val r p ≤ r.2.2)), [(false, rowD r), (false, placeD p)]) := by
  have e1 := value_eq r p n hr hp (by omega)
  have s := val_sz hr hp
  have e2 := is_less_eq (r.2.2 : Rat) (val r p) (4 * n + 1) (Sz.int (hr.2.2.mono (by omega)) (by omega)) s (by omega)
  have l2 : lenOk 2 := by decide
  have e3 : (!decide ((r.2.2 : Rat) < val r p)) = decide (val r p ≤ r.2.2) := by
    rw [Bool.eq_iff_iff]
    simp [Rat.not_lt]
  rw [← e3]
  simp only [rowD] at e1
  simp only [frac_int] at e2
  simp [M_keeps, mkM, flg, runFn, B_keeps, x_ss1, rowD, e1, e2, l2]
end Rc

set_option maxRecDepth 100000
set_option maxHeartbeats 4000000
namespace Rc
open PySem
/-- some row lies on the side of u, v -/
def posd (rs : List Row) (u v : Int) : Prop := ∃ s ∈ rs, s.1 * u + s.2.1 * v > 0
theorem any_map {α : Type} (p : α → Bool) : ∀ xs : List α, anyB (xs.map fun x => PyData.bool (p x)) = some (xs.any p)
  | [] => rfl
  | x :: xs => by simp [anyB, any_map p xs]
theorem all_map {α : Type} (p : α → Bool) : ∀ xs : List α, allB (xs.map fun x => PyData.bool (p x)) = some (xs.all p)
  | [] => rfl
  | x :: xs => by simp [allB, all_map p xs]
@[simp] theorem seq_tup (xs : List D) : seqD (.tuple xs) = some xs := rfl
@[simp] theorem seq_list (xs : List D) : seqD (.list xs) = some xs := rfl
theorem wp_eq {α : Type} {r : Res α} {Q : α → Prop} (h : Wp r Q) : ∃ a, r = .ok a ∧ Q a := h
theorem canL (rs : List Row) : PyData.canLayAll0 (rs.map rowD) = true := by
  induction rs with
  | nil => rfl
  | cons r rs ih => simp [PyData.canLayAll0, PyData.canLay0, rowD, ih]
theorem ne_nil (rs : List Row) : cop .ne (fieldD rs) (.tuple []) = some (!rs.isEmpty) := by
  have h1 : SeqAt.shaped (fieldD rs) = true := by
    have : ∀ rs : List Row, PyData.depthAll (rs.map rowD) ≤ 3 := fun rs => by
      induction rs with
      | nil => simp [PyData.depthAll]
      | cons r rs ih => simp [PyData.depthAll, PyData.depth, rowD]; omega
    have q := this rs
    simp [SeqAt.shaped, PyData.canLay0, PyData.depth, fieldD, canL]
    omega
  have h2 : SeqAt.shaped (.tuple []) = true := by simp [SeqAt.shaped, PyData.canLay0, PyData.depth, PyData.canLayAll0, PyData.depthAll]
  show (if SeqAt.shaped (fieldD rs) = true ∧ SeqAt.shaped (.tuple []) = true then some (!PyData.eqv (fieldD rs) (.tuple [])) else none) = _
  rw [if_pos ⟨h1, h2⟩]
  cases rs <;> simp [fieldD, PyData.eqv, PyData.eqvAll]
noncomputable def GB2 : Ss := (.cons (.sif (.nt (.blt .any (.cons (.lc (.cmp .gt (.bin .add (.bin .mul (.idx (.var 6) (.con (.int 0))) (.var 4)) (.bin .mul (.idx (.var 6) (.con (.int 1))) (.var 5))) (.con (.int 0))) [6] (.sq (.var 0)) (.con (.bool true)) [6]) .nil)))
      (.cons (.ret (.con (.bool false)))
    .nil)
      .nil)
    .nil)
noncomputable def GB1 : Ss := (.cons (.sfor [4, 5] (.sq (.tup (.cons (.tup (.cons (.var 2) (.cons (.bin .sub (.con (.int 0)) (.var 1)) .nil))) (.cons (.tup (.cons (.bin .sub (.con (.int 0)) (.var 2)) (.cons (.var 1) .nil))) .nil)))) GB2) .nil)
def ge (rs : List Row) (q : Row) (u v : Int) : Env := [some (false, fieldD rs), some (false, .int q.1), some (false, .int q.2.1), some (false, .int q.2.2), some (false, .int u), some (false, .int v), none]
open Classical in
theorem gb2 {n : Nat} {rs : List Row} (h : RowsIn 1000 1000 n rs) (hn : n ≤ 1000) (q : Row) (u v : Int) (hu : Bd 1000 u) (hv : Bd 1000 v) : exSs GB2 (ge rs q u v) = if posd rs u v then .ok (.nx (ge rs q u v)) else .ok (.rt false (.bool false) (ge rs q u v)) := by
  have ln : lenOk rs.length := len_ok (by have := h.1; omega)
  have c : lcL [] [6] [6] (evC (.con (.bool true))) (evT (.cmp .gt (.bin .add (.bin .mul (.idx (.var 6) (.con (.int 0))) (.var 4)) (.bin .mul (.idx (.var 6) (.con (.int 1))) (.var 5))) (.con (.int 0)))) (rs.map rowD)
      (ge rs q u v) = .ok (rs.map fun s => .bool (decide (0 < s.1 * u + s.2.1 * v)), ge rs q u v) :=
    lc_map rowD _ rs trivial fun r hr => by
      obtain ⟨h1, h2, h3, h4⟩ := h.2 r hr
      have m1 := h2.ok hu (by decide) (by decide)
      have m2 := h3.ok hv (by decide) (by decide)
      exact ⟨_, _, rfl, by simp, by simp [evT, ge, m1, m2, rowD]; rfl, by simp [wipeE, ge]⟩
  have t1 : (rs.any fun s => decide (0 < s.1 * u + s.2.1 * v)) = true ↔ posd rs u v := by simp [posd]
  simp only [ge, fieldD] at c
  by_cases p : posd rs u v
  · have a := t1.mpr p
    rw [if_pos p]
    simp [GB2, x_ss1, x_lcE, ge, fieldD, srcsOf, wipeE, c, ln, any_map, a, backE]
  · have a : (rs.any fun s => decide (0 < s.1 * u + s.2.1 * v)) = false := by
      rw [← Bool.not_eq_true, t1]; exact p
    rw [if_neg p]
    simp [GB2, x_ss1, x_lcE, ge, fieldD, srcsOf, wipeE, c, ln, any_map, a, backE]
def goodR (rs : List Row) (r : Row) : Prop := posd rs r.2.1 (0 - r.1) ∧ posd rs (0 - r.2.1) r.1
open Classical in
theorem gb1 {n : Nat} {rs : List Row} (h : RowsIn 1000 1000 n rs) (hn : n ≤ 1000) (q : Row) (hq : q ∈ rs) (x4 x5 : Option (Bool × D)) :
    ∃ u v, exSs GB1 [some (false, fieldD rs), some (false, .int q.1), some (false, .int q.2.1), some (false, .int q.2.2), x4, x5, none] = if goodR rs q then .ok (.nx (ge rs q u v)) else .ok (.rt false (.bool false) (ge rs q u v)) := by
  obtain ⟨h1, h2, h3, h4⟩ := h.2 q hq
  have b1 : Bd 1000 (0 - q.1) := by unfold Bd at *; omega
  have b2 : Bd 1000 (0 - q.2.1) := by unfold Bd at *; omega
  have g1 := gb2 h hn q _ _ h3 b1
  have g2 := gb2 h hn q _ _ b2 h2
  have l2 : lenOk 2 := by decide
  have e : exSs GB1 [some (false, fieldD rs), some (false, .int q.1), some (false, .int q.2.1), some (false, .int q.2.2), x4, x5, none] = @lb _ _ (forL [] [4, 5] (exSs GB2) [.tuple [.int q.2.1, .int (0 - q.1)], .tuple [.int (0 - q.2.1), .int q.1]] [some (false, fieldD rs), some (false, .int q.1), some (false, .int q.2.1), some (false, .int q.2.2), x4, x5, none])
      ⟨fun f => match f with
      | .nx m1 => exSs .nil m1
      | .rt fr d m1 => .ok (.rt fr d m1)
      | .bk m1 => .ok (.bk m1)
      | .ct m1 => .ok (.ct m1)⟩ := by
    simp [GB1, x_ss1 (.sfor _ _ _), x_sfor, srcsOf, l2]
  rw [e]
  unfold goodR
  by_cases p1 : posd rs q.2.1 (0 - q.1)
  · rw [if_pos p1] at g1
    by_cases p2 : posd rs (0 - q.2.1) q.1
    · rw [if_pos p2] at g2
      refine ⟨0 - q.2.1, q.1, ?_⟩
      rw [if_pos ⟨p1, p2⟩]
      rw [forL_nx (m1 := ge rs q q.2.1 (0 - q.1)) rfl g1, forL_nx (m1 := ge rs q (0 - q.2.1) q.1) rfl g2, forL_nil]
      rfl
    · rw [if_neg p2] at g2
      refine ⟨0 - q.2.1, q.1, ?_⟩
      rw [if_neg fun z => p2 z.2]
      rw [forL_nx (m1 := ge rs q q.2.1 (0 - q.1)) rfl g1, forL_rt (m1 := ge rs q (0 - q.2.1) q.1) rfl g2]
      rfl
  · rw [if_neg p1] at g1
    refine ⟨q.2.1, 0 - q.1, ?_⟩
    rw [if_neg fun z => p1 z.1]
    rw [forL_rt (m1 := ge rs q q.2.1 (0 - q.1)) rfl g1]
    rfl
theorem go_round_t {n : Nat} (rs : List Row) (h : RowsIn 1000 1000 n rs) (hn : n ≤ 1000) : ∃ v : Bool, M_go_round [(false, fieldD rs)] = .ok (false, .bool v, [(false, fieldD rs)]) ∧ (v = true ↔ rs ≠ [] ∧ ∀ r ∈ rs, goodR rs r) := by
  have key : Wp (M_go_round [(false, fieldD rs)]) fun res => ∃ v : Bool, res = (false, .bool v, [(false, fieldD rs)]) ∧ (v = true ↔ rs ≠ [] ∧ ∀ r ∈ rs, goodR rs r) := by
    refine run_wp rfl ?_
    have e : exSs B_go_round [some (false, fieldD rs), none, none, none, none, none, none] = @lb _ _ (forL [] [1, 2, 3] (exSs GB1) (rs.map rowD) [some (false, fieldD rs), none, none, none, none, none, none]) ⟨fun f => match f with
      | .nx m1 => exSs (.cons (.ret (.cmp .ne (.var 0) (.tup .nil))) .nil) m1
      | .rt fr d m1 => .ok (.rt fr d m1)
      | .bk m1 => .ok (.bk m1)
      | .ct m1 => .ok (.ct m1)⟩ := by
      simp [B_go_round, x_ss1 (.sfor _ _ _), x_sfor, srcsOf, fieldD]
      rfl
    show Wp (exSs B_go_round [some (false, fieldD rs), none, none, none, none, none, none]) _
    rw [e]
    refine Wp_lb (for_rule (srcs := []) (I := fun r m => ∃ rest done x1 x2 x3 x4 x5, r = rest.map rowD ∧ rs = done ++ rest ∧ (∀ r ∈ done, goodR rs r) ∧ m = [some (false, fieldD rs), x1, x2, x3, x4, x5, none]) (fun _ _ _ => trivial) ?_ ?_ _ _ ⟨rs, [], none, none, none, none, none, rfl, rfl, by simp, rfl⟩)
    · rintro d r m ⟨rest, done, x1, x2, x3, x4, x5, e1, e2, e3, rfl⟩
      cases rest with
      | nil => simp at e1
      | cons q rest =>
        simp only [List.map_cons, List.cons.injEq] at e1
        obtain ⟨rfl, rfl⟩ := e1
        have hq : q ∈ rs := by rw [e2]; simp
        obtain ⟨u, v, g⟩ := gb1 h hn q hq x4 x5
        refine ⟨_, rfl, Wp_of g ?_⟩
        by_cases p : goodR rs q
        · rw [if_pos p]
          exact .ok ⟨rest, done ++ [q], _, _, _, _, _, rfl, by simp [e2], fun r hr => (List.mem_append.mp hr).elim (e3 r) fun z => by
            simp at z
            subst z
            exact p, rfl⟩
        · rw [if_neg p]
          exact .ok (.ok ⟨_, rfl, false, rfl, by simp; intro _; exact ⟨q.1, q.2.1, q.2.2, hq, p⟩⟩)
    · rintro m ⟨rest, done, x1, x2, x3, x4, x5, e1, e2, e3, rfl⟩
      have e4 : rest = [] := by simpa using e1.symm
      subst e4
      rw [List.append_nil] at e2
      subst e2
      have := ne_nil rs
      simp [x_ss1, lenOk, this]
      by_cases z : rs = []
      · exact .inl ⟨z, fun h => absurd z h⟩
      · exact .inr ⟨z, fun a b c h => e3 _ h⟩
  obtain ⟨r, e, v, rfl, q⟩ := key
  exact ⟨v, e, q⟩
end Rc

set_option maxRecDepth 100000
set_option maxHeartbeats 4000000
namespace Rc
open PySem
/-- a loop that looks at each item, and leaves at the first that is not right -/
theorem for_all {srcs : List (Nat × List D)} {g : List Nat} {body : Env → Res Fw} (E : Env → Prop) (P : D → Prop) (R : Bool → D → Env → Prop) (hs : ∀ m, E m → srcOk m srcs) : ∀ (ds : List D) (m : Env), E m →
    (∀ d ∈ ds, ∀ m, E m → ∃ m1, bindT g d m = some m1 ∧ ((P d ∧ ∃ m2, body m1 = .ok (.nx m2) ∧ E m2) ∨ (¬ P d ∧ ∃ fr v m2, body m1 = .ok (.rt fr v m2) ∧ R fr v m2))) →
    ((∀ d ∈ ds, P d) ∧ ∃ m', forL srcs g body ds m = .ok (.nx m') ∧ E m') ∨ ((¬ ∀ d ∈ ds, P d) ∧ ∃ fr v m', forL srcs g body ds m = .ok (.rt fr v m') ∧ R fr v m')
  | [], m, h, _ => .inl ⟨by simp, m, by rw [forL, if_pos (hs m h)], h⟩
  | d :: ds, m, h, st => by
    obtain ⟨m1, b, c⟩ := st d List.mem_cons_self m h
    rcases c with ⟨p, m2, e, h2⟩ | ⟨p, fr, v, m2, e, r⟩
    · have eq : forL srcs g body (d :: ds) m = forL srcs g body ds m2 := by rw [forL, if_pos (hs m h), b, ofO_some, bind_ok, e, bind_ok]
      rw [eq]
      rcases for_all E P R hs ds m2 h2 fun d' hd' => st d' (List.mem_cons_of_mem _ hd') with ⟨q1, q2⟩ | ⟨q1, q2⟩
      · exact .inl ⟨fun x hx => (List.mem_cons.mp hx).elim (fun e => e ▸ p) (q1 x), q2⟩
      · exact .inr ⟨fun z => q1 fun x hx => z x (List.mem_cons_of_mem _ hx), q2⟩
    · refine .inr ⟨fun z => p (z d List.mem_cons_self), fr, v, m2, ?_, r⟩
      rw [forL, if_pos (hs m h), b, ofO_some, bind_ok, e, bind_ok]
theorem ints_app : ∀ xs ys : List D, intsOf (xs ++ ys) = (intsOf xs).bind fun a => (intsOf ys).map (a ++ ·)
  | [], ys => by cases h : intsOf ys <;> simp [intsOf, h]
  | x :: xs, ys => by
    cases x <;> simp [intsOf]
    rw [ints_app xs ys]
    cases intsOf xs <;> cases intsOf ys <;> simp
theorem ints_map {α : Type} (f : α → Int) : ∀ xs : List α, intsOf (xs.map fun x => PyData.int (f x)) = some (xs.map f)
  | [] => rfl
  | x :: xs => by simp [intsOf, ints_map f xs]
theorem foldl_maxI : ∀ (xs : List Int) (a b : Int), xs.foldl max a ≤ b ↔ a ≤ b ∧ ∀ x ∈ xs, x ≤ b
  | [], a, b => by simp
  | x :: xs, a, b => by
    rw [List.foldl_cons, foldl_maxI xs]
    simp only [List.mem_cons, forall_eq_or_imp]
    constructor
    · rintro ⟨h1, h2⟩
      exact ⟨by omega, by omega, h2⟩
    · rintro ⟨h1, h2, h3⟩
      exact ⟨by omega, h3⟩
theorem maxL_some {xs : List Int} (h : xs ≠ []) : ∃ m, maxL xs = some m ∧ ∀ b, m ≤ b ↔ ∀ x ∈ xs, x ≤ b := by
  cases xs with
  | nil => exact absurd rfl h
  | cons x xs => exact ⟨_, rfl, fun b => by rw [foldl_maxI]; simp⟩
theorem rng_has {lo hi i : Int} (h1 : lo ≤ i) (h2 : i < hi) : PyData.int i ∈ rngD lo hi := by
  unfold rngD
  rw [List.mem_map]
  exact ⟨(i - lo).toNat, List.mem_range.mpr (by omega), by congr 1; omega⟩
end Rc

set_option maxRecDepth 100000
set_option maxHeartbeats 4000000
namespace K01
open PySem L2 Rc
def N_is_whole : List Str := ["thing"]
def N_divisor : List Str := ["one", "other"]
def N_ratio : List Str := ["top", "bottom", "share"]
def N_plus : List Str := ["one", "other"]
def N_times : List Str := ["one", "number"]
def N_is_less : List Str := ["one", "other"]
def N_is_row : List Str := ["thing", "one"]
def N_value : List Str := ["row", "place"]
def N_keeps : List Str := ["row", "place"]
def N_is_tight : List Str := ["row", "place"]
def N_shortened : List Str := ["row", "share"]
def N_law_cell_at : List Str := ["_law_script", "_law_k"]
def N_law_state : List Str := ["_law_script", "_law_k", "_law_cell"]
def N_law_take : List Str := ["_law_state_here", "_law_many", "_law_found", "_law_stirred"]
def N_law_divisor : List Str := ["_law_one", "_law_other"]
def N_law_low : List Str := ["_law_top", "_law_bottom", "_law_by"]
def N_law_value : List Str := ["_law_row_here", "_law_place_here", "_law_x", "_law_y"]
def N_law_place : List Str := ["_law_state_here", "_law_x"]
def N_law_same : List Str := ["_law_found", "_law_due", "_law_one", "_law_other"]
def N_law_row : List Str := ["_law_state_here", "_law_by", "_law_row_here"]
/- _law_row(_law_state_here): 0 _law_state_here 1 _law_by 2 _law_row_here -/
noncomputable def B_law_row : Ss := (.cons (.asg 1 (.idx (.lst (.cons (.con (.int 1)) (.cons (.con (.int 2)) (.cons (.con (.int 3)) (.cons (.con (.int 6)) (.cons (.bin .pow (.con (.int 10)) (.con (.int 12))) .nil)))))) (.call M_law_take [true, false] (.cons (.var 0) (.cons (.con (.int 5)) .nil)))))
    (.cons (.asg 2 (.lst (.cons (.bin .mul (.var 1) (.bin .sub (.call M_law_take [true, false] (.cons (.var 0) (.cons (.con (.int 13)) .nil))) (.con (.int 6)))) (.cons (.bin .mul (.var 1) (.bin .sub (.call M_law_take [true, false] (.cons (.var 0) (.cons (.con (.int 13)) .nil))) (.con (.int 6)))) (.cons (.bin .sub (.call M_law_take [true, false] (.cons (.var 0) (.cons (.con (.int 101)) .nil))) (.con (.int 50))) .nil)))))
    (.cons (.sif (.and (.cmp .eq (.idx (.var 2) (.con (.int 0))) (.con (.int 0))) (.cmp .eq (.idx (.var 2) (.con (.int 1))) (.con (.int 0))))
      (.cons (.sti 2 (.call M_law_take [true, false] (.cons (.var 0) (.cons (.con (.int 2)) .nil))) (.var 1))
    .nil)
      .nil)
    (.cons (.sif (.cmp .eq (.call M_law_take [true, false] (.cons (.var 0) (.cons (.con (.int 5)) .nil))) (.con (.int 0)))
      (.cons (.sti 2 (.con (.int 2)) (.bin .sub (.call M_law_take [true, false] (.cons (.var 0) (.cons (.bin .mul (.con (.int 2)) (.bin .pow (.con (.int 10)) (.con (.int 28)))) .nil))) (.bin .pow (.con (.int 10)) (.con (.int 28)))))
    .nil)
      .nil)
    (.cons (.ret (.blt .tuple (.cons (.var 2) .nil)))
    .nil)))))
noncomputable def M_law_row : MF := mkM [true] 3 B_law_row
def N_law_no_row : List Str := ["_law_state_here", "_law_row_here", "_law_a", "_law_b", "_law_c", "_law_some"]
/- _law_no_row(_law_state_here, _law_row_here): 0 _law_state_here 1 _law_row_here 2 _law_a 3 _law_b 4 _law_c 5 _law_some -/
noncomputable def B_law_no_row : Ss := (.cons (.unp [2, 3, 4] (.var 1))
    (.cons (.asg 5 (.lst (.cons (.tup (.cons (.con (.int 0)) (.cons (.con (.int 0)) (.cons (.var 4) .nil)))) (.cons (.tup (.cons (.var 2) (.cons (.var 3) .nil))) (.cons (.tup (.cons (.var 2) (.cons (.var 3) (.cons (.var 4) (.cons (.con (.int 0)) .nil))))) (.cons (.lst (.cons (.var 2) (.cons (.var 3) (.cons (.var 4) .nil)))) (.cons (.tup (.cons (.con (.bool true)) (.cons (.var 3) (.cons (.var 4) .nil)))) (.cons (.tup (.cons (.var 2) (.cons (.var 3) (.cons (.tup (.cons (.var 4) (.cons (.con (.int 1)) .nil))) .nil)))) (.cons (.tup (.cons (.var 2) (.cons (.con .none) (.cons (.var 4) .nil)))) (.cons (.con .none) (.cons (.var 2) (.cons (.con (.str (Str.ofString "1 2 3"))) .nil))))))))))))
    (.cons (.asg 5 (.bin .add (.var 5) (.lst (.cons (.tup (.cons (.tup (.cons (.var 2) (.cons (.var 3) .nil))) (.cons (.var 4) .nil))) (.cons (.tup .nil) (.cons .dct (.cons (.tup (.cons (.con (.int 0)) (.cons (.con (.bool false)) (.cons (.var 4) .nil)))) (.cons (.tup (.cons (.var 2) (.cons (.var 3) (.cons (.con (.str (Str.ofString "0"))) .nil)))) (.cons (.tup (.cons (.tup (.cons (.var 2) (.cons (.con (.int 1)) .nil))) (.cons (.tup (.cons (.var 3) (.cons (.con (.int 1)) .nil))) (.cons (.tup (.cons (.var 4) (.cons (.con (.int 1)) .nil))) .nil)))) .nil)))))))))
    (.cons (.ret (.idx (.var 5) (.call M_law_take [true, false] (.cons (.var 0) (.cons (.con (.int 16)) .nil)))))
    .nil))))
noncomputable def M_law_no_row : MF := mkM [true, false] 6 B_law_no_row
def N_law_right : List Str := ["_law_row_here", "_law_place_here", "_law_due"]
/- _law_right(_law_row_here, _law_place_here): 0 _law_row_here 1 _law_place_here 2 _law_due -/
noncomputable def B_law_right : Ss := (.cons (.asg 2 (.call M_law_value [false, false] (.cons (.var 0) (.cons (.var 1) .nil))))
    (.cons (.sif (.or (.nt (.call (M_law_same 8) [false, false] (.cons (.call M_value [false, false] (.cons (.var 0) (.cons (.var 1) .nil))) (.cons (.var 2) .nil)))) (.nt (.call (M_law_same 8) [false, false] (.cons (.call M_keeps [false, false] (.cons (.var 0) (.cons (.var 1) .nil))) (.cons (.cmp .le (.idx (.var 2) (.con (.int 0))) (.bin .mul (.idx (.var 0) (.con (.int 2))) (.idx (.var 2) (.con (.int 1))))) .nil)))))
      (.cons (.ret (.con (.bool false)))
    .nil)
      .nil)
    (.cons (.ret (.call (M_law_same 8) [false, false] (.cons (.call M_is_tight [false, false] (.cons (.var 0) (.cons (.var 1) .nil))) (.cons (.cmp .eq (.var 2) (.tup (.cons (.idx (.var 0) (.con (.int 2))) (.cons (.con (.int 1)) .nil)))) .nil))))
    .nil)))
noncomputable def M_law_right : MF := mkM [false, false] 3 B_law_right
def N_law : List Str := ["_law_script", "_law_k", "_law_state_here", "_law_row_here", "_law_by", "_law_less", "_law_whole", "_law_here", "_law_edge", "_law_one", "_law_place_here"]
/- law(_law_script): 0 _law_script 1 _law_k 2 _law_state_here 3 _law_row_here 4 _law_by 5 _law_less 6 _law_whole 7 _law_here 8 _law_edge 9 _law_one 10 _law_place_here -/
noncomputable def B_law : Ss := (.cons (.sfor [1] (.rg (.blt .max2 (.cons (.con (.int 1)) (.cons (.blt .min2 (.cons (.blt .len (.cons (.var 0) .nil)) (.cons (.con (.int 10)) .nil))) .nil))))
      (.cons (.asg 2 (.call M_law_state [false, false] (.cons (.var 0) (.cons (.var 1) .nil))))
    (.cons (.asg 3 (.call M_law_row [true] (.cons (.var 2) .nil)))
    (.cons (.sif (.or (.cmp .isnot (.call M_is_row [false] (.cons (.var 3) .nil)) (.con (.bool true))) (.cmp .isnot (.call M_is_row [false] (.cons (.call M_law_no_row [true, false] (.cons (.var 2) (.cons (.var 3) .nil))) .nil)) (.con (.bool false))))
      (.cons (.ret (.con (.bool false)))
    .nil)
      .nil)
    (.cons (.asg 4 (.call M_law_divisor [false, false] (.cons (.idx (.var 3) (.con (.int 0))) (.cons (.idx (.var 3) (.con (.int 1))) .nil))))
    (.cons (.asg 5 (.call M_shortened [false] (.cons (.var 3) .nil)))
    (.cons (.sif (.nt (.call (M_law_same 8) [false, false] (.cons (.var 5) (.cons (.tup (.cons (.bin .fdiv (.idx (.var 3) (.con (.int 0))) (.var 4)) (.cons (.bin .fdiv (.idx (.var 3) (.con (.int 1))) (.var 4)) (.cons (.bin .fdiv (.idx (.var 3) (.con (.int 2))) (.var 4)) .nil)))) .nil))))
      (.cons (.ret (.con (.bool false)))
    .nil)
      .nil)
    (.cons (.asg 6 (.tup (.cons (.tup (.cons (.bin .sub (.call M_law_take [true, false] (.cons (.var 2) (.cons (.con (.int 9)) .nil))) (.con (.int 4))) (.cons (.con (.int 1)) .nil))) (.cons (.tup (.cons (.bin .sub (.call M_law_take [true, false] (.cons (.var 2) (.cons (.con (.int 9)) .nil))) (.con (.int 4))) (.cons (.con (.int 1)) .nil))) .nil))))
    (.cons (.asg 7 (.idx (.call M_law_value [false, false] (.cons (.var 3) (.cons (.var 6) .nil))) (.con (.int 0))))
    (.cons (.asg 8 (.tup (.cons (.idx (.var 3) (.con (.int 0))) (.cons (.idx (.var 3) (.con (.int 1))) (.cons (.var 7) .nil)))))
    (.cons (.sfor [9, 10] (.sq (.lst (.cons (.tup (.cons (.var 3) (.cons (.call M_law_place [true] (.cons (.var 2) .nil)) .nil))) (.cons (.tup (.cons (.var 3) (.cons (.var 6) .nil))) (.cons (.tup (.cons (.var 8) (.cons (.var 6) .nil))) (.cons (.tup (.cons (.var 5) (.cons (.var 6) .nil))) .nil))))))
      (.cons (.sif (.nt (.call M_law_right [false, false] (.cons (.var 9) (.cons (.var 10) .nil))))
      (.cons (.ret (.con (.bool false)))
    .nil)
      .nil)
    .nil))
    (.cons (.sif (.cmp .ne (.call M_keeps [false, false] (.cons (.var 3) (.cons (.var 6) .nil))) (.call M_keeps [false, false] (.cons (.var 5) (.cons (.var 6) .nil))))
      (.cons (.ret (.con (.bool false)))
    .nil)
      .nil)
    .nil))))))))))))
    (.cons (.ret (.con (.bool true)))
    .nil))
noncomputable def M_law : MF := mkM [false] 11 B_law
end K01

set_option maxRecDepth 100000
set_option maxHeartbeats 4000000
namespace Rc
open PySem
theorem sh_frac (a : Rat) : SeqAt.shaped (fracD a) = true := by simp [SeqAt.shaped, PyData.canLay0, PyData.depth, fracD, PyData.canLayAll0, PyData.depthAll]
theorem eq_frac (a b : Rat) : cop .eq (fracD a) (fracD b) = some (decide (a = b)) := by
  show (if SeqAt.shaped (fracD a) = true ∧ SeqAt.shaped (fracD b) = true then some (PyData.eqv (fracD a) (fracD b)) else none) = _
  rw [if_pos ⟨sh_frac a, sh_frac b⟩]
  congr 1
  rw [Bool.eq_iff_iff]
  simp only [fracD, PyData.eqv, PyData.eqvAll, Bool.and_true, Bool.and_eq_true, beq_iff_eq, decide_eq_true_eq]
  constructor
  · rintro ⟨h1, h2⟩
    exact Rat.ext h1 (by omega)
  · rintro rfl
    exact ⟨rfl, rfl⟩
theorem eq_fracT (a b : Rat) : cop .eq (.tuple [.int a.num, .int a.den]) (.tuple [.int b.num, .int b.den]) = some (decide (a = b)) := eq_frac a b
theorem nice_frac (n : Nat) (a : Rat) : Nice (n + 2) (fracD a) := .tup (fun x hx => by
  simp only [List.mem_cons, List.not_mem_nil, or_false] at hx
  rcases hx with rfl | rfl
  · exact .int n _
  · exact .int n _) (len_ok (by simp))
theorem nice_row (n : Nat) (r : Row) : Nice (n + 2) (rowD r) := .tup (fun x hx => by
  simp only [List.mem_cons, List.not_mem_nil, or_false] at hx
  rcases hx with rfl | rfl | rfl
  · exact .int n _
  · exact .int n _
  · exact .int n _) (len_ok (by simp))
theorem is_tight_eq (r : Row) (p : Place) (n : Nat) (hr : SzR n r) (hp : SzP n p) (hn : n ≤ 900) : M_is_tight [(false, rowD r), (false, placeD p)] = .ok (false, .bool (decide (val r p = r.2.2)), [(false, rowD r), (false, placeD p)]) := by
  have e1 := value_eq r p n hr hp (by omega)
  have e2 := eq_frac (val r p) (r.2.2 : Rat)
  have l2 : lenOk 2 := by decide
  simp only [rowD] at e1
  simp only [frac_int] at e2
  simp [M_is_tight, mkM, flg, runFn, B_is_tight, x_ss1, rowD, e1, e2, l2]
theorem value_num (r : Row) (p : Place) : Rat.divInt (r.1 * p.1.num * p.2.den + r.2.1 * p.2.num * p.1.den) (p.1.den * p.2.den) = val r p := by
  unfold val
  rw [← mul_num, ← mul_num, Rat.divInt_add_divInt _ _ (den_ne _) (den_ne _)]
  congr 1
  grind
theorem law_value_eq (r : Row) (p : Place) (n : Nat) (hr : SzR n r) (hp : SzP n p) (hn : n ≤ 2000) : M_law_value [(false, rowD r), (false, placeD p)] = .ok (false, fracD (val r p), [(false, rowD r), (false, placeD p)]) := by
  have m1 := hr.1.ok hp.1.num (by omega)
  have m2 := (hr.1.mul hp.1.num).ok hp.2.den (by omega)
  have m3 := hr.2.1.ok hp.2.num (by omega)
  have m4 := (hr.2.1.mul hp.2.num).ok hp.1.den (by omega)
  have m5 := hp.1.den.ok hp.2.den (by omega)
  have e := low_eq (r.1 * p.1.num * p.2.den + r.2.1 * p.2.num * p.1.den) (p.1.den * p.2.den) (mul_ne (den_ne _) (den_ne _)) ((hp.1.den.mul hp.2.den).small (by omega))
  rw [value_num] at e
  simp [M_law_value, mkM, flg, runFn, B_law_value, x_ss1, rowD, placeD, fracD, bindT, m1, m2, m3, m4, m5]
  simp only [fracD] at e
  rw [e]
  simp
theorem le_num (q : Rat) (k : Int) : q.num ≤ k * q.den ↔ q ≤ (k : Rat) := by
  rw [Rat.le_iff]
  show _ ↔ q.num * ((1 : Nat) : Int) ≤ k * q.den
  simp
theorem is_whole_int (i : Int) : M_is_whole [(false, .int i)] = .ok (false, .bool true, [(false, .int i)]) := by
  simp [M_is_whole, mkM, flg, runFn, B_is_whole, x_ss1, isiD, tyOf, isiB]
end Rc
namespace K01
open PySem L2 Rc
theorem right_eq (r : Row) (p : Rc.Place) (n : Nat) (hr : SzR n r) (hp : SzP n p) (h0 : 0 < n) (hn : n ≤ 900) : M_law_right [(false, rowD r), (false, placeD p)] = .ok (false, .bool true, [(false, rowD r), (false, placeD p)]) := by
  have e1 := law_value_eq r p n hr hp (by omega)
  have e2 := value_eq r p n hr hp (by omega)
  have e3 := keeps_eq r p n hr hp h0 hn
  have e4 := is_tight_eq r p n hr hp hn
  have sv := val_sz hr hp
  have s1 := same_eq 8 _ (nice_frac 6 (val r p))
  have s2 := fun b => same_eq 8 _ (Nice.bool 7 b)
  have m1 := (hr.2.2).ok sv.den (by omega)
  have c1 : decide ((val r p).num ≤ r.2.2 * (val r p).den) = decide (val r p ≤ r.2.2) := by
    rw [Bool.eq_iff_iff]
    simp [le_num]
  have c2 := eq_frac (val r p) (r.2.2 : Rat)
  have l2 : lenOk 2 := by decide
  simp only [frac_int] at c2
  simp only [fracD] at e1 e2 s1 c2
  simp only [rowD] at e1 e2 e3 e4
  simp [M_law_right, mkM, flg, runFn, B_law_right, x_ss1, rowD, e1, e2, e3, e4, s1, s2, m1, c1, c2, l2]
theorem shortened_eq (r : Row) (n : Nat) (hr : SzR n r) (hz : nz r) (hn : n ≤ 8000) : M_shortened [(false, rowD r)] = .ok (false, rowD (r.1.fdiv (r.1.gcd r.2.1), r.2.1.fdiv (r.1.gcd r.2.1), r.2.2.fdiv (r.1.gcd r.2.1)), [(false, rowD r)]) := by
  have dv : divOk (r.1.gcd r.2.1 : Int) := by
    rcases hz with z | z
    · have := (gcd_div (p := r.2.1) z (hr.1.small (by omega))).1
      rwa [Int.gcd_comm] at this
    · exact (gcd_div (p := r.1) z (hr.2.1.small (by omega))).1
  have l3 : lenOk 3 := by decide
  simp [M_shortened, mkM, flg, runFn, B_shortened, x_ss1, rowD, divisor_eq, dv, l3]
end K01

set_option maxRecDepth 100000
set_option maxHeartbeats 4000000
namespace K01
open PySem L2 Rc
/-- a row drawn -/
theorem ib_of {n : Nat} {i : Int} (h1 : -(2 ^ n) < i) (h2 : i < 2 ^ n) : Ib n i := by
  unfold Ib
  have : ((2 ^ n : Nat) : Int) = 2 ^ n := by simp
  omega
theorem row_tail (by' t1 t2 t3 : Int) : True := trivial
theorem take_big (a : Rc.St) (n : Int) (h : 0 < n) (h2 : divOk n) : M_law_take [(true, stD a), (false, .int n)] = .ok (false, .int (tkV a n), [(true, stD (tkS a n)), (false, .int n)]) := by
  have hn : n ≠ 0 := by omega
  obtain ⟨s, b, hs⟩ := a
  cases b with
  | true => simp [M_law_take, mkM, flg, runFn, B_law_take, x_ss1, stD, tkV, tkS, hn, h2, stiF, L2.ixN]
  | false =>
    obtain ⟨h0, h1⟩ := hs rfl
    have a0 : 0 ≤ step1 s ∧ step1 s < 2147483647 := ⟨fm_lo _ (by decide), fm_lt _ (by decide)⟩
    have a1 : 0 ≤ step2 (step1 s) ∧ step2 (step1 s) < 2147483629 := ⟨fm_lo _ (by decide), fm_lt _ (by decide)⟩
    have m1 : mulOk s 48271 := mulOk_small (by omega) (by omega)
    have m2 : mulOk (step1 s) (step1 s) := mulOk_small (by omega) (by omega)
    have m3 : mulOk 39373 (step1 s) := mulOk_small (by omega) (by omega)
    have m4 : mulOk (step2 (step1 s)) (step2 (step1 s)) := mulOk_small (by omega) (by omega)
    have m5 : mulOk 16807 (step2 (step1 s)) := mulOk_small (by omega) (by omega)
    have d8 : divOk 8 := divOk_small (by decide) (by decide)
    have e1 : (s * 48271 + 29).fmod 2147483647 = step1 s := rfl
    have e2 : (step1 s * step1 s + 39373 * step1 s + 7).fmod 2147483629 = step2 (step1 s) := rfl
    have e3 : (step2 (step1 s) * step2 (step1 s) + 16807 * step2 (step1 s)).fmod 2147483587 = step3 (step2 (step1 s)) := rfl
    simp [M_law_take, mkM, flg, runFn, B_law_take, x_ss1, stD, tkV, tkS, hn, h2, stiF, L2.ixN, m1, m2, m3, m4, m5, d8, e1, e2, e3]
noncomputable def RT : Ss := (.cons (.sif (.cmp .eq (.call M_law_take [true, false] (.cons (.var 0) (.cons (.con (.int 5)) .nil))) (.con (.int 0)))
      (.cons (.sti 2 (.con (.int 2)) (.bin .sub (.call M_law_take [true, false] (.cons (.var 0) (.cons (.bin .mul (.con (.int 2)) (.bin .pow (.con (.int 10)) (.con (.int 28)))) .nil))) (.bin .pow (.con (.int 10)) (.con (.int 28)))))
    .nil)
      .nil)
    (.cons (.ret (.blt .tuple (.cons (.var 2) .nil)))
    .nil))
theorem rt_t (st : Rc.St) (a b c : Int) (x1 : Option (Bool × D)) (hz : a ≠ 0 ∨ b ≠ 0) (ha : Ib 100 a) (hb : Ib 100 b) (hc : Ib 100 c) :
    Wp (exSs RT [some (true, stD st), x1, some (true, .list [.int a, .int b, .int c])]) fun f => ∃ r st' m', f = .rt false (rowD r) m' ∧ geti m' 0 = some (true, stD st') ∧ nz r ∧ SzR 100 r := by
  have p28 : ((10 : Int) ^ 28) = 10000000000000000000000000000 := by decide
  have m1 : mulOk 2 10000000000000000000000000000 := mulOk_of 2 100 (by decide) (by decide) (by decide)
  have dv : divOk 20000000000000000000000000000 := ⟨by decide, by decide⟩
  have t1 := tk_bd (tkS st 5) 20000000000000000000000000000 (by decide)
  have e1 := take_big (tkS st 5) 20000000000000000000000000000 (by decide) dv
  by_cases z : tkV st 5 = 0
  · have e : exSs RT [some (true, stD st), x1, some (true, .list [.int a, .int b, .int c])] = .ok (.rt false (rowD (a, b, tkV (tkS st 5) 20000000000000000000000000000 - 10000000000000000000000000000)) [some (true, stD (tkS (tkS st 5) 20000000000000000000000000000)), x1, some (true, .list [.int a, .int b, .int (tkV (tkS st 5) 20000000000000000000000000000 - 10000000000000000000000000000)])]) := by
      simp [RT, x_ss1, take_eq, z, p28, m1, e1, stiF, L2.ixN, rowD]
    have hc' : Ib 100 (tkV (tkS st 5) 20000000000000000000000000000 - 10000000000000000000000000000) := ib_of (by omega) (by omega)
    exact Wp_of e (.ok ⟨_, _, _, rfl, rfl, hz, ha, hb, hc'⟩)
  · have e : exSs RT [some (true, stD st), x1, some (true, .list [.int a, .int b, .int c])] = .ok (.rt false (rowD (a, b, c)) [some (true, stD (tkS st 5)), x1, some (true, .list [.int a, .int b, .int c])]) := by
      simp [RT, x_ss1, take_eq, z, rowD]
    exact Wp_of e (.ok ⟨_, _, _, rfl, rfl, hz, ha, hb, hc⟩)
noncomputable def RM : Ss := (.cons (.asg 2 (.lst (.cons (.bin .mul (.var 1) (.bin .sub (.call M_law_take [true, false] (.cons (.var 0) (.cons (.con (.int 13)) .nil))) (.con (.int 6)))) (.cons (.bin .mul (.var 1) (.bin .sub (.call M_law_take [true, false] (.cons (.var 0) (.cons (.con (.int 13)) .nil))) (.con (.int 6)))) (.cons (.bin .sub (.call M_law_take [true, false] (.cons (.var 0) (.cons (.con (.int 101)) .nil))) (.con (.int 50))) .nil)))))
    (.cons (.sif (.and (.cmp .eq (.idx (.var 2) (.con (.int 0))) (.con (.int 0))) (.cmp .eq (.idx (.var 2) (.con (.int 1))) (.con (.int 0))))
      (.cons (.sti 2 (.call M_law_take [true, false] (.cons (.var 0) (.cons (.con (.int 2)) .nil))) (.var 1))
    .nil)
      .nil)
    RT))
abbrev RQ : Fw → Prop := fun f => ∃ r st' m', f = .rt false (rowD r) m' ∧ geti m' 0 = some (true, stD st') ∧ nz r ∧ SzR 100 r
theorem rm_t (st : Rc.St) (k : Int) (hk : 0 < k) (hk2 : Ib 90 k) : Wp (exSs RM [some (true, stD st), some (false, .int k), none]) RQ := by
  have t1 := tk_bd st 13 (by decide)
  have t2 := tk_bd (tkS st 13) 13 (by decide)
  have t3 := tk_bd (tkS (tkS st 13) 13) 101 (by decide)
  have t4 := tk_bd (tkS (tkS (tkS st 13) 13) 101) 2 (by decide)
  have b1 : Ib 5 (tkV st 13 - 6) := ib_of (by omega) (by omega)
  have b2 : Ib 5 (tkV (tkS st 13) 13 - 6) := ib_of (by omega) (by omega)
  have c0 : Ib 100 (tkV (tkS (tkS st 13) 13) 101 - 50) := (ib_of (n := 10) (by omega) (by omega)).mono (by decide)
  have m1 := hk2.ok b1 (by decide)
  have m2 := hk2.ok b2 (by decide)
  have i1 : Ib 100 (k * (tkV st 13 - 6)) := (hk2.mul b1).mono (by decide)
  have i2 : Ib 100 (k * (tkV (tkS st 13) 13 - 6)) := (hk2.mul b2).mono (by decide)
  have ik : Ib 100 k := hk2.mono (by decide)
  have i0 : Ib 100 0 := ib_of (by decide) (by decide)
  have l3 : lenOk 3 := by decide
  have kn : k ≠ 0 := by omega
  by_cases za : k * (tkV st 13 - 6) = 0
  · by_cases zb : k * (tkV (tkS st 13) 13 - 6) = 0
    · have c : tkV (tkS (tkS (tkS st 13) 13) 101) 2 = 0 ∨ tkV (tkS (tkS (tkS st 13) 13) 101) 2 = 1 := by omega
      rcases c with c | c
      · have e := rt_t (tkS (tkS (tkS (tkS st 13) 13) 101) 2) k 0 (tkV (tkS (tkS st 13) 13) 101 - 50) (some (false, .int k)) (.inl kn) ik i0 c0
        refine Wp_of ?_ e
        simp [RM, x_ss1 (.asg _ _), x_ss1 (.sif (.and _ _) _ _), x_ss1 (.sti _ (.call _ _ _) _), take_eq, m1, m2, za, zb, c, l3, stiF, L2.ixN]
      · have e := rt_t (tkS (tkS (tkS (tkS st 13) 13) 101) 2) 0 k (tkV (tkS (tkS st 13) 13) 101 - 50) (some (false, .int k)) (.inr kn) i0 ik c0
        refine Wp_of ?_ e
        simp [RM, x_ss1 (.asg _ _), x_ss1 (.sif (.and _ _) _ _), x_ss1 (.sti _ (.call _ _ _) _), take_eq, m1, m2, za, zb, c, l3, stiF, L2.ixN]
    · have e := rt_t (tkS (tkS (tkS st 13) 13) 101) 0 (k * (tkV (tkS st 13) 13 - 6)) (tkV (tkS (tkS st 13) 13) 101 - 50) (some (false, .int k)) (.inr zb) i0 i2 c0
      refine Wp_of ?_ e
      simp only [RM, x_ss1 (.asg _ _), x_ss1 (.sif (.and _ _) _ _)]
      simp [take_eq, m1, m2, za, l3]
      simp [x_ss1 (.sif (.and _ _) _ _), zb] at *
  · have e := rt_t (tkS (tkS (tkS st 13) 13) 101) (k * (tkV st 13 - 6)) (k * (tkV (tkS st 13) 13 - 6)) (tkV (tkS (tkS st 13) 13) 101 - 50) (some (false, .int k)) (.inl za) i1 i2 c0
    refine Wp_of ?_ e
    simp [RM, x_ss1 (.asg _ _), x_ss1 (.sif (.and _ _) _ _), take_eq, m1, m2, za, l3]
end K01
namespace K01
open PySem L2 Rc
theorem row_t (a : Rc.St) : ∃ r st', M_law_row [(true, stD a)] = .ok (false, rowD r, [(true, stD st')]) ∧ nz r ∧ SzR 100 r := by
  have key : Wp (M_law_row [(true, stD a)]) fun res => ∃ r st', res = (false, rowD r, [(true, stD st')]) ∧ nz r ∧ SzR 100 r := by
    refine run_wp rfl ?_
    have t5 := tk_bd a 5 (by decide)
    have l5 : lenOk 5 := by decide
    have l0 : lenOk 0 := by decide
    have p12 : ((10 : Int) ^ 12) = 1000000000000 := by decide
    have fin : ∀ (k : Int), 0 < k → Ib 90 k → exSs B_law_row [some (true, stD a), none, none] = exSs RM [some (true, stD (tkS a 5)), some (false, .int k), none] → Wp (exSs B_law_row ([(true, stD a)].map some ++ List.replicate (3 - [(true, stD a)].length) none)) fun f => match f with
        | .nx m => ∃ fs, finsOf 0 [(true, stD a)] m = some fs ∧ ∃ r st', ((false, PyData.none, fs) : Bool × D × List (Bool × D)) = (false, rowD r, [(true, stD st')]) ∧ nz r ∧ SzR 100 r
        | .rt fr d m => ∃ fs, finsOf 0 [(true, stD a)] m = some fs ∧ ∃ r st', (fr, d, fs) = (false, rowD r, [(true, stD st')]) ∧ nz r ∧ SzR 100 r
        | _ => False := fun k hk hk2 e => by
      refine Wp_of e ((rm_t (tkS a 5) k hk hk2).imp fun f h => ?_)
      obtain ⟨r, st', m', rfl, g, h1, h2⟩ := h
      exact ⟨[(true, stD st')], by simp [g], r, st', rfl, h1, h2⟩
    have c : tkV a 5 = 0 ∨ tkV a 5 = 1 ∨ tkV a 5 = 2 ∨ tkV a 5 = 3 ∨ tkV a 5 = 4 := by omega
    rcases c with c | c | c | c | c
    · exact fin 1 (by decide) (ib_of (by decide) (by decide)) (by simp [B_law_row, x_ss1 (.asg 1 _), take_eq, c, l5, p12, L2.atI, L2.ixN]; rfl)
    · exact fin 2 (by decide) (ib_of (by decide) (by decide)) (by simp [B_law_row, x_ss1 (.asg 1 _), take_eq, c, l5, p12, L2.atI, L2.ixN]; rfl)
    · exact fin 3 (by decide) (ib_of (by decide) (by decide)) (by simp [B_law_row, x_ss1 (.asg 1 _), take_eq, c, l5, p12, L2.atI, L2.ixN]; rfl)
    · exact fin 6 (by decide) (ib_of (by decide) (by decide)) (by simp [B_law_row, x_ss1 (.asg 1 _), take_eq, c, l5, p12, L2.atI, L2.ixN]; rfl)
    · exact fin 1000000000000 (by decide) (ib_of (by decide) (by decide)) (by simp [B_law_row, x_ss1 (.asg 1 _), take_eq, c, l5, p12, L2.atI, L2.ixN]; rfl)
  obtain ⟨res, e, r, st', rfl, h1, h2⟩ := key
  exact ⟨r, st', e, h1, h2⟩
theorem place_t (a : Rc.St) : ∃ p st', M_law_place [(true, stD a)] = .ok (false, placeD p, [(true, stD st')]) ∧ SzP 100 p := by
  have t1 := tk_bd a 25 (by decide)
  have t2 := tk_bd (tkS a 25) 4 (by decide)
  have t3 := tk_bd (tkS (tkS a 25) 4) 25 (by decide)
  have t4 := tk_bd (tkS (tkS (tkS a 25) 4) 25) 4 (by decide)
  have n1 : 1 + tkV (tkS a 25) 4 ≠ 0 := by omega
  have n2 : 1 + tkV (tkS (tkS (tkS a 25) 4) 25) 4 ≠ 0 := by omega
  have i1 : Ib 100 (tkV a 25 - 12) := (ib_of (n := 10) (by omega) (by omega)).mono (by decide)
  have i2 : Ib 100 (1 + tkV (tkS a 25) 4) := (ib_of (n := 10) (by omega) (by omega)).mono (by decide)
  have i3 : Ib 100 (tkV (tkS (tkS a 25) 4) 25 - 12) := (ib_of (n := 10) (by omega) (by omega)).mono (by decide)
  have i4 : Ib 100 (1 + tkV (tkS (tkS (tkS a 25) 4) 25) 4) := (ib_of (n := 10) (by omega) (by omega)).mono (by decide)
  have e1 := low_eq (tkV a 25 - 12) _ n1 (i2.small (by decide))
  have e2 := low_eq (tkV (tkS (tkS a 25) 4) 25 - 12) _ n2 (i4.small (by decide))
  have l2 : lenOk 2 := by decide
  refine ⟨(Rat.divInt (tkV a 25 - 12) (1 + tkV (tkS a 25) 4), Rat.divInt (tkV (tkS (tkS a 25) 4) 25 - 12) (1 + tkV (tkS (tkS (tkS a 25) 4) 25) 4)), tkS (tkS (tkS (tkS a 25) 4) 25) 4, ?_, Sz.divInt i1 i2 n1, Sz.divInt i3 i4 n2⟩
  simp [M_law_place, mkM, flg, runFn, B_law_place, x_ss1, take_eq, e1, e2, l2, placeD]
end K01

set_option maxRecDepth 100000
set_option maxHeartbeats 4000000
namespace Rc
open PySem
/-- which things are whole numbers -/
def wholeB : D → Bool
  | .int _ => true
  | _ => false
/-- the kinds that the program's looks meet -/
def kind : D → Bool
  | .none => true | .bool _ => true | .int _ => true | .str _ => true | .list _ => true | .tuple _ => true
  | _ => false
theorem is_whole_eq (d : D) (h : kind d = true) : M_is_whole [(false, d)] = .ok (false, .bool (wholeB d), [(false, d)]) := by
  cases d <;> simp [kind] at h <;> simp [M_is_whole, mkM, flg, runFn, B_is_whole, x_ss1, isiD, tyOf, isiB, wholeB]
theorem row_lc (ds : List D) (hk : ∀ d ∈ ds, kind d = true) : lcL [] [1] [1] (evC (.con (.bool true))) (evT (.call M_is_whole [false] (.cons (.var 1) .nil))) ds [some (false, .tuple ds), none] = .ok (ds.map fun d => .bool (wholeB d), [some (false, .tuple ds), none]) := by
  have q := lc_map (srcs := []) (own := [1]) (g := [1]) (cnd := evC (.con (.bool true))) (elt := evT (.call M_is_whole [false] (.cons (.var 1) .nil))) (m := [some (false, .tuple ds), none]) id (fun d => PyData.bool (wholeB d)) ds trivial fun d hd => ⟨[some (false, .tuple ds), some (false, d)], [some (false, .tuple ds), some (false, d)], rfl, by simp, by simp [evT, is_whole_eq d (hk d hd)], by simp [wipeE]⟩
  rwa [List.map_id] at q
theorem is_row_tup (ds : List D) (hk : ∀ d ∈ ds, kind d = true) (hl : lenOk ds.length) (hn : ds.length ≠ 3 ∨ ds.all wholeB = false) : M_is_row [(false, .tuple ds)] = .ok (false, .bool false, [(false, .tuple ds)]) := by
  by_cases h3 : ds.length = 3
  · have ha : ds.all wholeB = false := hn.resolve_left fun z => z h3
    have h3' : (ds.length : Int) = 3 := by omega
    simp [M_is_row, mkM, flg, runFn, B_is_row, x_ss1, isiD, tyOf, isiB, h3', x_lcE, srcsOf, wipeE, row_lc ds hk, hl, all_map, ha, backE]
  · have h3' : ¬ (ds.length : Int) = 3 := by omega
    simp [M_is_row, mkM, flg, runFn, B_is_row, x_ss1, isiD, tyOf, isiB, h3']
theorem is_row_not (v : D) (h : isiD v ["tuple"] = some false) : M_is_row [(false, v)] = .ok (false, .bool false, [(false, v)]) := by
  simp [M_is_row, mkM, flg, runFn, B_is_row, x_ss1, h]
theorem is_row_row (r : Row) : M_is_row [(false, rowD r)] = .ok (false, .bool (decide (r.1 ≠ 0) || decide (r.2.1 ≠ 0)), [(false, rowD r)]) := by
  have l3 : lenOk 3 := by decide
  obtain ⟨a, b, c⟩ := r
  by_cases h : a = 0
  · subst h
    have q := row_lc [.int 0, .int b, .int c] (by simp [kind])
    simp [M_is_row, mkM, flg, runFn, B_is_row, x_ss1, isiD, tyOf, isiB, rowD, x_lcE, srcsOf, wipeE, q, l3, wholeB, allB, backE]
  · have q := row_lc [.int a, .int b, .int c] (by simp [kind])
    simp [M_is_row, mkM, flg, runFn, B_is_row, x_ss1, isiD, tyOf, isiB, rowD, x_lcE, srcsOf, wipeE, q, l3, wholeB, allB, backE, h]
theorem atI_mem {xs : List D} {i : Int} (h0 : 0 ≤ i) (h1 : i < xs.length) : ∃ v, L2.atI xs i = some v ∧ v ∈ xs := by
  have lt : i.toNat < xs.length := by omega
  refine ⟨xs[i.toNat], ?_, List.getElem_mem lt⟩
  simp [L2.atI, L2.ixN, h0, h1, lt]
end Rc
namespace K01
open PySem L2 Rc
def NR (r : Row) : List D := [.tuple [.int 0, .int 0, .int r.2.2], .tuple [.int r.1, .int r.2.1], .tuple [.int r.1, .int r.2.1, .int r.2.2, .int 0], .list [.int r.1, .int r.2.1, .int r.2.2], .tuple [.bool true, .int r.2.1, .int r.2.2], .tuple [.int r.1, .int r.2.1, .tuple [.int r.2.2, .int 1]], .tuple [.int r.1, .none, .int r.2.2], .none, .int r.1, .str (Str.ofString "1 2 3"),
  .tuple [.tuple [.int r.1, .int r.2.1], .int r.2.2], .tuple [], .dict [], .tuple [.int 0, .bool false, .int r.2.2], .tuple [.int r.1, .int r.2.1, .str (Str.ofString "0")], .tuple [.tuple [.int r.1, .int 1], .tuple [.int r.2.1, .int 1], .tuple [.int r.2.2, .int 1]]]
theorem nr_no (r : Row) : ∀ v ∈ NR r, M_is_row [(false, v)] = .ok (false, .bool false, [(false, v)]) := by
  intro v hv
  have ln : ∀ n : Nat, n ≤ 4 → lenOk n := fun n h => len_ok (by omega)
  simp only [NR, List.mem_cons, List.not_mem_nil, or_false] at hv
  rcases hv with rfl | rfl | rfl | rfl | rfl | rfl | rfl | rfl | rfl | rfl | rfl | rfl | rfl | rfl | rfl | rfl
  · have := is_row_row (0, 0, r.2.2)
    simp [rowD] at this
    exact this
  · exact is_row_tup _ (by simp [kind]) (ln _ (by simp)) (by simp)
  · exact is_row_tup _ (by simp [kind]) (ln _ (by simp)) (by simp)
  · exact is_row_not _ (by simp [isiD, tyOf, isiB])
  · exact is_row_tup _ (by simp [kind]) (ln _ (by simp)) (.inr (by simp [wholeB]))
  · exact is_row_tup _ (by simp [kind]) (ln _ (by simp)) (.inr (by simp [wholeB]))
  · exact is_row_tup _ (by simp [kind]) (ln _ (by simp)) (.inr (by simp [wholeB]))
  · exact is_row_not _ (by simp [isiD, tyOf, isiB])
  · exact is_row_not _ (by simp [isiD, tyOf, isiB])
  · exact is_row_not _ (by simp [isiD, tyOf, isiB])
  · exact is_row_tup _ (by simp [kind]) (ln _ (by simp)) (by simp)
  · exact is_row_tup _ (by simp [kind]) (ln _ (by simp)) (by simp)
  · exact is_row_not _ (by simp [isiD, tyOf, isiB])
  · exact is_row_tup _ (by simp [kind]) (ln _ (by simp)) (.inr (by simp [wholeB]))
  · exact is_row_tup _ (by simp [kind]) (ln _ (by simp)) (.inr (by simp [wholeB]))
  · exact is_row_tup _ (by simp [kind]) (ln _ (by simp)) (.inr (by simp [wholeB]))
theorem no_row_t (a : Rc.St) (r : Row) : ∃ v st', M_law_no_row [(true, stD a), (false, rowD r)] = .ok (false, v, [(true, stD st'), (false, rowD r)]) ∧ v ∈ NR r := by
  have t := tk_bd a 16 (by decide)
  obtain ⟨v, e, hv⟩ := atI_mem (xs := NR r) t.1 (by simp [NR]; omega)
  refine ⟨v, tkS a 16, ?_, hv⟩
  have ln : ∀ n : Nat, n ≤ 16 → lenOk n := fun n h => len_ok (by omega)
  have l0 := ln 0 (by decide)
  have l2 := ln 2 (by decide)
  have l3 := ln 3 (by decide)
  have l4 := ln 4 (by decide)
  have l6 := ln 6 (by decide)
  have l10 := ln 10 (by decide)
  have l16 := ln 16 (by decide)
  simp only [NR] at e
  simp [M_law_no_row, mkM, flg, runFn, B_law_no_row, x_ss1, rowD, bindT, l0, l2, l3, l4, l6, l10, l16, take_eq, e]
end K01

set_option maxRecDepth 100000
set_option maxHeartbeats 4000000
namespace K01
open PySem L2 Rc
noncomputable def I1 : Ss := (.cons (.sif (.nt (.call M_law_right [false, false] (.cons (.var 9) (.cons (.var 10) .nil))))
      (.cons (.ret (.con (.bool false)))
    .nil)
      .nil)
    .nil)
noncomputable def T2 : Ss := (.cons (.sif (.cmp .ne (.call M_keeps [false, false] (.cons (.var 3) (.cons (.var 6) .nil))) (.call M_keeps [false, false] (.cons (.var 5) (.cons (.var 6) .nil))))
      (.cons (.ret (.con (.bool false)))
    .nil)
      .nil)
    .nil)
noncomputable def SF : S := (.sfor [9, 10] (.sq (.lst (.cons (.tup (.cons (.var 3) (.cons (.call M_law_place [true] (.cons (.var 2) .nil)) .nil))) (.cons (.tup (.cons (.var 3) (.cons (.var 6) .nil))) (.cons (.tup (.cons (.var 8) (.cons (.var 6) .nil))) (.cons (.tup (.cons (.var 5) (.cons (.var 6) .nil))) .nil)))))) I1)
noncomputable def A2 : Ss := (.cons (.asg 2 (.call M_law_state [false, false] (.cons (.var 0) (.cons (.var 1) .nil))))
    (.cons (.asg 3 (.call M_law_row [true] (.cons (.var 2) .nil)))
    (.cons (.sif (.or (.cmp .isnot (.call M_is_row [false] (.cons (.var 3) .nil)) (.con (.bool true))) (.cmp .isnot (.call M_is_row [false] (.cons (.call M_law_no_row [true, false] (.cons (.var 2) (.cons (.var 3) .nil))) .nil)) (.con (.bool false))))
      (.cons (.ret (.con (.bool false)))
    .nil)
      .nil)
    (.cons (.asg 4 (.call M_law_divisor [false, false] (.cons (.idx (.var 3) (.con (.int 0))) (.cons (.idx (.var 3) (.con (.int 1))) .nil))))
    (.cons (.asg 5 (.call M_shortened [false] (.cons (.var 3) .nil)))
    (.cons (.sif (.nt (.call (M_law_same 8) [false, false] (.cons (.var 5) (.cons (.tup (.cons (.bin .fdiv (.idx (.var 3) (.con (.int 0))) (.var 4)) (.cons (.bin .fdiv (.idx (.var 3) (.con (.int 1))) (.var 4)) (.cons (.bin .fdiv (.idx (.var 3) (.con (.int 2))) (.var 4)) .nil)))) .nil))))
      (.cons (.ret (.con (.bool false)))
    .nil)
      .nil)
    (.cons (.asg 6 (.tup (.cons (.tup (.cons (.bin .sub (.call M_law_take [true, false] (.cons (.var 2) (.cons (.con (.int 9)) .nil))) (.con (.int 4))) (.cons (.con (.int 1)) .nil))) (.cons (.tup (.cons (.bin .sub (.call M_law_take [true, false] (.cons (.var 2) (.cons (.con (.int 9)) .nil))) (.con (.int 4))) (.cons (.con (.int 1)) .nil))) .nil))))
    (.cons (.asg 7 (.idx (.call M_law_value [false, false] (.cons (.var 3) (.cons (.var 6) .nil))) (.con (.int 0))))
    (.cons (.asg 8 (.tup (.cons (.idx (.var 3) (.con (.int 0))) (.cons (.idx (.var 3) (.con (.int 1))) (.cons (.var 7) .nil)))))
    (.cons SF T2))))))))))
def less (r : Row) : Row := (r.1.fdiv (r.1.gcd r.2.1), r.2.1.fdiv (r.1.gcd r.2.1), r.2.2.fdiv (r.1.gcd r.2.1))
theorem gcd_nz {r : Row} (h : nz r) : 0 < (r.1.gcd r.2.1 : Int) := by
  rcases h with z | z
  · have := gcd_pos (p := r.2.1) z
    rwa [Int.gcd_comm] at this
  · exact gcd_pos z
theorem fdiv_ib {n : Nat} {x g : Int} (hg : 0 < g) (h : Ib n x) : Ib n (x.fdiv g) := by
  unfold Ib at *
  rw [Int.fdiv_eq_ediv_of_nonneg _ (by omega)]
  exact Nat.lt_of_le_of_lt (Int.natAbs_ediv_le_natAbs _ _) h
theorem val_int (r : Row) (x y : Int) : val r ((x : Rat), (y : Rat)) = ((x * r.1 + y * r.2.1 : Int) : Rat) := by
  unfold val
  rw [Rat.intCast_add, Rat.intCast_mul, Rat.intCast_mul]
theorem keeps_same {r : Row} (h : nz r) (x y : Int) : decide (val r ((x : Rat), (y : Rat)) ≤ r.2.2) = decide (val (less r) ((x : Rat), (y : Rat)) ≤ (less r).2.2) := by
  rw [Bool.eq_iff_iff, decide_eq_true_eq, decide_eq_true_eq, val_int, val_int, Rat.intCast_le_intCast, Rat.intCast_le_intCast]
  have g := gcd_nz h
  have d1 : (r.1.gcd r.2.1 : Int) ∣ r.1 := Int.gcd_dvd_left _ _
  have d2 : (r.1.gcd r.2.1 : Int) ∣ r.2.1 := Int.gcd_dvd_right _ _
  unfold less
  simp only
  rw [Int.fdiv_eq_ediv_of_dvd d1, Int.fdiv_eq_ediv_of_dvd d2, Int.fdiv_eq_ediv_of_nonneg _ (by omega), Int.le_ediv_iff_mul_le g]
  have e1 := Int.ediv_mul_cancel d1
  have e2 := Int.ediv_mul_cancel d2
  have : (x * (r.1 / (r.1.gcd r.2.1 : Int)) + y * (r.2.1 / (r.1.gcd r.2.1 : Int))) * (r.1.gcd r.2.1 : Int) = x * r.1 + y * r.2.1 := by
    grind
  rw [this]
theorem rights (L : List (Row × Rc.Place)) (hL : ∀ q ∈ L, SzR 900 q.1 ∧ SzP 900 q.2) (x0 x1 x2 x3 x4 x5 x6 x7 x8 x9 x10 : Option (Bool × D)) : ∃ y9 y10, forL [] [9, 10] (exSs I1) (L.map fun q => .tuple [rowD q.1, placeD q.2]) [x0, x1, x2, x3, x4, x5, x6, x7, x8, x9, x10] = .ok (.nx [x0, x1, x2, x3, x4, x5, x6, x7, x8, y9, y10]) := by
  have q := for_all (srcs := []) (g := [9, 10]) (body := exSs I1) (fun m => ∃ x9 x10, m = [x0, x1, x2, x3, x4, x5, x6, x7, x8, x9, x10]) (fun _ => True) (fun _ _ _ => True) (fun m _ => trivial) (L.map fun q => .tuple [rowD q.1, placeD q.2]) _ ⟨x9, x10, rfl⟩ (fun d hd m hm => by
    obtain ⟨a, b, rfl⟩ := hm
    obtain ⟨t, ht, rfl⟩ := List.mem_map.mp hd
    obtain ⟨h1, h2⟩ := hL t ht
    have e := right_eq t.1 t.2 900 h1 h2 (by decide) (by decide)
    refine ⟨_, rfl, .inl ⟨trivial, [x0, x1, x2, x3, x4, x5, x6, x7, x8, some (false, rowD t.1), some (false, placeD t.2)], ?_, _, _, rfl⟩⟩
    simp [I1, x_ss1, e])
  rcases q with ⟨_, m', e, a, b, rfl⟩ | ⟨p, _⟩
  · exact ⟨a, b, e⟩
  · exact absurd (fun _ _ => trivial) p
theorem SzR.up {m n : Nat} {r : Row} (h : SzR m r) (l : m ≤ n) : SzR n r := ⟨h.1.mono l, h.2.1.mono l, h.2.2.mono l⟩
theorem SzP.up {m n : Nat} {p : Rc.Place} (h : SzP m p) (l : m ≤ n) : SzP n p := ⟨h.1.mono l, h.2.mono l⟩
theorem row0 (r : Row) : idxF (rowD r) (.int 0) = some (.int r.1) := by simp [rowD]
theorem row1 (r : Row) : idxF (rowD r) (.int 1) = some (.int r.2.1) := by simp [rowD]
theorem row2 (r : Row) : idxF (rowD r) (.int 2) = some (.int r.2.2) := by simp [rowD]
theorem frac0 (q : Rat) : idxF (fracD q) (.int 0) = some (.int q.num) := by simp [fracD]
def minI (i j : Int) : Int := if j < i then j else i
def maxI (i j : Int) : Int := if j > i then j else i
theorem turn (ns : List Int) (k : Int) (hk : 0 ≤ k) (x2 x3 x4 x5 x6 x7 x8 x9 x10 : Option (Bool × D)) : ∃ y1 y2 y3 y4 y5 y6 y7 y8 y9 y10, exSs A2 [some (false, scrD ns), some (false, .int k), x2, x3, x4, x5, x6, x7, x8, x9, x10] = .ok (.nx [some (false, scrD ns), y1, y2, y3, y4, y5, y6, y7, y8, y9, y10]) := by
  have e0 := state_eq ns k hk
  generalize mkSt (ns.getD k.toNat 0) = a at e0
  obtain ⟨r, s1, e1, hz, hr⟩ := row_t a
  have e2 := is_row_row r
  have e2' : (decide (r.1 ≠ 0) || decide (r.2.1 ≠ 0)) = true := by
    rcases hz with z | z <;> simp [z]
  rw [e2'] at e2
  obtain ⟨v, s2, e3, hv⟩ := no_row_t s1 r
  have e4 := nr_no r v hv
  have g := gcd_nz hz
  have dv : divOk (r.1.gcd r.2.1 : Int) := by
    rcases hz with z | z
    · have := (gcd_div (p := r.2.1) z (hr.1.small (by decide))).1
      rwa [Int.gcd_comm] at this
    · exact (gcd_div (p := r.1) z (hr.2.1.small (by decide))).1
  have e5 := shortened_eq r 100 hr hz (by decide)
  have e5' : M_shortened [(false, rowD r)] = .ok (false, rowD (less r), [(false, rowD r)]) := e5
  have hl : SzR 100 (less r) := ⟨fdiv_ib g hr.1, fdiv_ib g hr.2.1, fdiv_ib g hr.2.2⟩
  have e6 := same_eq 8 _ (nice_row 6 (less r))
  have t1 := tk_bd s2 9 (by decide)
  have t2 := tk_bd (tkS s2 9) 9 (by decide)
  have ix : Ib 100 (tkV s2 9 - 4) := (ib_of (n := 10) (by omega) (by omega)).mono (by decide)
  have iy : Ib 100 (tkV (tkS s2 9) 9 - 4) := (ib_of (n := 10) (by omega) (by omega)).mono (by decide)
  have hw : SzP 100 (((tkV s2 9 - 4 : Int) : Rat), ((tkV (tkS s2 9) 9 - 4 : Int) : Rat)) := ⟨Sz.int ix (by decide), Sz.int iy (by decide)⟩
  have ks := keeps_same hz (tkV s2 9 - 4) (tkV (tkS s2 9) 9 - 4)
  generalize ex : tkV s2 9 - 4 = x at *
  generalize ey : tkV (tkS s2 9) 9 - 4 = y at *
  have ew : placeD ((x : Rat), (y : Rat)) = .tuple [.tuple [.int x, .int 1], .tuple [.int y, .int 1]] := rfl
  have e7 := law_value_eq r ((x : Rat), (y : Rat)) 100 hr hw (by decide)
  have sv := val_sz hr hw
  have he : SzR 900 (r.1, r.2.1, (val r ((x : Rat), (y : Rat))).num) := ⟨hr.1.mono (by decide), hr.2.1.mono (by decide), sv.num.mono (by decide)⟩
  obtain ⟨p, s3, e8, hp⟩ := place_t (tkS (tkS s2 9) 9)
  have k1 := keeps_eq r ((x : Rat), (y : Rat)) 100 hr hw (by decide) (by decide)
  have k2 := keeps_eq (less r) ((x : Rat), (y : Rat)) 100 hl hw (by decide) (by decide)
  obtain ⟨y9, y10, e9⟩ := rights [(r, p), (r, ((x : Rat), (y : Rat))), ((r.1, r.2.1, (val r ((x : Rat), (y : Rat))).num), ((x : Rat), (y : Rat))), (less r, ((x : Rat), (y : Rat)))] (fun q hq => by
    simp only [List.mem_cons, List.not_mem_nil, or_false] at hq
    rcases hq with rfl | rfl | rfl | rfl
    · exact ⟨SzR.up hr (by decide), SzP.up hp (by decide)⟩
    · exact ⟨SzR.up hr (by decide), SzP.up hw (by decide)⟩
    · exact ⟨he, SzP.up hw (by decide)⟩
    · exact ⟨SzR.up hl (by decide), SzP.up hw (by decide)⟩) (some (false, scrD ns)) (some (false, .int k)) (some (true, stD s3)) (some (false, rowD r)) (some (false, .int (r.1.gcd r.2.1))) (some (false, rowD (less r))) (some (false, placeD ((x : Rat), (y : Rat)))) (some (false, .int (val r ((x : Rat), (y : Rat))).num)) (some (false, rowD (r.1, r.2.1, (val r ((x : Rat), (y : Rat))).num))) x9 x10
  have ed : rowD (r.1, r.2.1, (val r ((x : Rat), (y : Rat))).num) = .tuple [.int r.1, .int r.2.1, .int (val r ((x : Rat), (y : Rat))).num] := rfl
  have e6t : M_law_same 8 [(false, rowD (less r)), (false, .tuple [.int (r.1.fdiv (r.1.gcd r.2.1)), .int (r.2.1.fdiv (r.1.gcd r.2.1)), .int (r.2.2.fdiv (r.1.gcd r.2.1))])] = .ok (false, .bool true, [(false, rowD (less r)), (false, .tuple [.int (r.1.fdiv (r.1.gcd r.2.1)), .int (r.2.1.fdiv (r.1.gcd r.2.1)), .int (r.2.2.fdiv (r.1.gcd r.2.1))])]) := e6
  simp only [List.map_cons, List.map_nil] at e9
  rw [ed] at e9
  rw [ew] at e9 e7 k1 k2
  have l2 : lenOk 2 := by decide
  have l3 : lenOk 3 := by decide
  have l4 : lenOk 4 := by decide
  refine ⟨some (false, .int k), some (true, stD s3), some (false, rowD r), some (false, .int (r.1.gcd r.2.1)), some (false, rowD (less r)), some (false, .tuple [.tuple [.int x, .int 1], .tuple [.int y, .int 1]]), some (false, .int (val r ((x : Rat), (y : Rat))).num), some (false, .tuple [.int r.1, .int r.2.1, .int (val r ((x : Rat), (y : Rat))).num]), y9, y10, ?_⟩
  have step1 : exSs A2 [some (false, scrD ns), some (false, .int k), x2, x3, x4, x5, x6, x7, x8, x9, x10] = exSs (.cons SF T2) [some (false, scrD ns), some (false, .int k), some (true, stD (tkS (tkS s2 9) 9)), some (false, rowD r), some (false, .int (r.1.gcd r.2.1)), some (false, rowD (less r)), some (false, .tuple [.tuple [.int x, .int 1], .tuple [.int y, .int 1]]), some (false, .int (val r ((x : Rat), (y : Rat))).num), some (false, .tuple [.int r.1, .int r.2.1, .int (val r ((x : Rat), (y : Rat))).num]), x9, x10] := by
    simp [A2, x_ss1 (.asg _ _), x_ss1 (.sif _ _ _), e0, e1, e2, e3, e4, e5', e6t, e7, take_eq, law_divisor_eq, row0, row1, row2, frac0, dv, l2, l3, ex, ey]
  have step2 : exSs (.cons SF T2) [some (false, scrD ns), some (false, .int k), some (true, stD (tkS (tkS s2 9) 9)), some (false, rowD r), some (false, .int (r.1.gcd r.2.1)), some (false, rowD (less r)), some (false, .tuple [.tuple [.int x, .int 1], .tuple [.int y, .int 1]]), some (false, .int (val r ((x : Rat), (y : Rat))).num), some (false, .tuple [.int r.1, .int r.2.1, .int (val r ((x : Rat), (y : Rat))).num]), x9, x10] = exSs T2 [some (false, scrD ns), some (false, .int k), some (true, stD s3), some (false, rowD r), some (false, .int (r.1.gcd r.2.1)), some (false, rowD (less r)), some (false, .tuple [.tuple [.int x, .int 1], .tuple [.int y, .int 1]]), some (false, .int (val r ((x : Rat), (y : Rat))).num), some (false, .tuple [.int r.1, .int r.2.1, .int (val r ((x : Rat), (y : Rat))).num]), y9, y10] := by
    rw [x_ss1]
    simp [SF, x_sfor, srcsOf, e8, l2, l4, e9]
  rw [step1, step2]
  simp [T2, x_ss1, k1, k2, ks]
theorem says : Says M_law := by
  intro ns hl _
  have key : Wp (M_law [(false, scrD ns)]) fun r => ∃ fs, r = (false, .bool true, fs) := by
    refine run_wp rfl ?_
    have lo : (1 : Int) ≤ maxI 1 (minI ns.length 10) := by unfold maxI; split <;> omega
    have hi : maxI 1 (minI ns.length 10) ≤ 10 := by
      unfold maxI minI
      split <;> (try split) <;> omega
    have sm : smallI (maxI 1 (minI ns.length 10)) := ⟨by omega, by omega⟩
    have e : exSs B_law ([(false, scrD ns)].map some ++ List.replicate (11 - [(false, scrD ns)].length) none) = @lb _ _ (forL [] [1] (exSs A2) (rngD 0 (maxI 1 (minI ns.length 10))) [some (false, scrD ns), none, none, none, none, none, none, none, none, none, none]) ⟨fun f => match f with
      | .nx m1 => exSs (.cons (.ret (.con (.bool true))) .nil) m1
      | .rt fr d m1 => .ok (.rt fr d m1)
      | .bk m1 => .ok (.bk m1)
      | .ct m1 => .ok (.ct m1)⟩ := by
      unfold maxI minI at sm
      simp [B_law, x_ss1 (.sfor _ _ _), x_sfor, maxI, minI, sm]
      rfl
    rw [e]
    refine Wp_lb (for_rule (srcs := []) (I := fun r m => (∀ d ∈ r, ∃ k : Int, d = .int k ∧ 0 ≤ k) ∧ ∃ x1 x2 x3 x4 x5 x6 x7 x8 x9 x10, m = [some (false, scrD ns), x1, x2, x3, x4, x5, x6, x7, x8, x9, x10]) (fun _ _ _ => trivial) ?_ ?_ _ _ ⟨fun d hd => ?_, _, _, _, _, _, _, _, _, _, _, rfl⟩)
    · rintro d r m ⟨hd, x1, x2, x3, x4, x5, x6, x7, x8, x9, x10, rfl⟩
      obtain ⟨k, rfl, hk⟩ := hd d List.mem_cons_self
      obtain ⟨y1, y2, y3, y4, y5, y6, y7, y8, y9, y10, et⟩ := turn ns k hk x2 x3 x4 x5 x6 x7 x8 x9 x10
      exact ⟨_, rfl, Wp_of et (.ok ⟨fun d hd' => hd d (List.mem_cons_of_mem _ hd'), _, _, _, _, _, _, _, _, _, _, rfl⟩)⟩
    · rintro m ⟨_, x1, x2, x3, x4, x5, x6, x7, x8, x9, x10, rfl⟩
      simp [x_ss1]
    · obtain ⟨i, rfl, h1, _⟩ := rng_mem hd
      exact ⟨i, rfl, h1⟩
  obtain ⟨r, e, fs, rfl⟩ := key
  exact ⟨fs, e⟩
end K01

set_option maxRecDepth 100000
set_option maxHeartbeats 4000000
namespace K01
open PySem L2 Rc
def top (i : Nat) : Stmt := PySem.Challenge.pw_roundcuts_k01_rows_and_places.main.body.getD i (.Pass ⟨0, 0, 0, 0⟩)
def CNS : List (Str × D) := []
def XCS : List Str := []
abbrev s_is_whole : Stmt := top 1
def P_is_whole : List Str := ["thing"]
theorem sc_is_whole : FnScope N_is_whole P_is_whole (defScope s_is_whole) := ⟨rfl, rfl, rfl, by decide +kernel, rfl, by decide +kernel, by decide +kernel⟩
theorem t_is_whole : trSs 60 ⟨N_is_whole, defScope s_is_whole, [], CNS⟩ (pmOf 0 [false]) XCS (defBody s_is_whole) = some (B_is_whole) := by with_unfolding_all rfl
abbrev s_divisor : Stmt := top 2
def P_divisor : List Str := ["one", "other"]
theorem sc_divisor : FnScope N_divisor P_divisor (defScope s_divisor) := ⟨rfl, rfl, rfl, by decide +kernel, rfl, by decide +kernel, by decide +kernel⟩
theorem t_divisor : trSs 60 ⟨N_divisor, defScope s_divisor, [], CNS⟩ (pmOf 0 [false, false]) XCS (defBody s_divisor) = some (B_divisor) := by with_unfolding_all rfl
abbrev s_ratio : Stmt := top 3
def P_ratio : List Str := ["top", "bottom"]
theorem sc_ratio : FnScope N_ratio P_ratio (defScope s_ratio) := ⟨rfl, rfl, rfl, by decide +kernel, rfl, by decide +kernel, by decide +kernel⟩
theorem t_ratio : trSs 60 ⟨N_ratio, defScope s_ratio, [("divisor", (⟨2, M_divisor, [false, false]⟩ : FnE))], CNS⟩ (pmOf 0 [false, false]) XCS (defBody s_ratio) = some (B_ratio) := by with_unfolding_all rfl
abbrev s_plus : Stmt := top 4
def P_plus : List Str := ["one", "other"]
theorem sc_plus : FnScope N_plus P_plus (defScope s_plus) := ⟨rfl, rfl, rfl, by decide +kernel, rfl, by decide +kernel, by decide +kernel⟩
theorem t_plus : trSs 60 ⟨N_plus, defScope s_plus, [("ratio", (⟨2, M_ratio, [false, false]⟩ : FnE))], CNS⟩ (pmOf 0 [false, false]) XCS (defBody s_plus) = some (B_plus) := by with_unfolding_all rfl
abbrev s_times : Stmt := top 5
def P_times : List Str := ["one", "number"]
theorem sc_times : FnScope N_times P_times (defScope s_times) := ⟨rfl, rfl, rfl, by decide +kernel, rfl, by decide +kernel, by decide +kernel⟩
theorem t_times : trSs 60 ⟨N_times, defScope s_times, [("ratio", (⟨2, M_ratio, [false, false]⟩ : FnE))], CNS⟩ (pmOf 0 [false, false]) XCS (defBody s_times) = some (B_times) := by with_unfolding_all rfl
abbrev s_is_less : Stmt := top 6
def P_is_less : List Str := ["one", "other"]
theorem sc_is_less : FnScope N_is_less P_is_less (defScope s_is_less) := ⟨rfl, rfl, rfl, by decide +kernel, rfl, by decide +kernel, by decide +kernel⟩
theorem t_is_less : trSs 60 ⟨N_is_less, defScope s_is_less, [], CNS⟩ (pmOf 0 [false, false]) XCS (defBody s_is_less) = some (B_is_less) := by with_unfolding_all rfl
abbrev s_is_row : Stmt := top 8
def P_is_row : List Str := ["thing"]
theorem sc_is_row : FnScope N_is_row P_is_row (defScope s_is_row) := ⟨rfl, rfl, rfl, by decide +kernel, rfl, by decide +kernel, by decide +kernel⟩
theorem t_is_row : trSs 60 ⟨N_is_row, defScope s_is_row, [("is_whole", (⟨1, M_is_whole, [false]⟩ : FnE))], CNS⟩ (pmOf 0 [false]) XCS (defBody s_is_row) = some (B_is_row) := by with_unfolding_all rfl
abbrev s_value : Stmt := top 9
def P_value : List Str := ["row", "place"]
theorem sc_value : FnScope N_value P_value (defScope s_value) := ⟨rfl, rfl, rfl, by decide +kernel, rfl, by decide +kernel, by decide +kernel⟩
theorem t_value : trSs 60 ⟨N_value, defScope s_value, [("plus", (⟨2, M_plus, [false, false]⟩ : FnE)), ("times", (⟨2, M_times, [false, false]⟩ : FnE))], CNS⟩ (pmOf 0 [false, false]) XCS (defBody s_value) = some (B_value) := by with_unfolding_all rfl
abbrev s_keeps : Stmt := top 10
def P_keeps : List Str := ["row", "place"]
theorem sc_keeps : FnScope N_keeps P_keeps (defScope s_keeps) := ⟨rfl, rfl, rfl, by decide +kernel, rfl, by decide +kernel, by decide +kernel⟩
theorem t_keeps : trSs 60 ⟨N_keeps, defScope s_keeps, [("is_less", (⟨2, M_is_less, [false, false]⟩ : FnE)), ("value", (⟨2, M_value, [false, false]⟩ : FnE))], CNS⟩ (pmOf 0 [false, false]) XCS (defBody s_keeps) = some (B_keeps) := by with_unfolding_all rfl
abbrev s_is_tight : Stmt := top 11
def P_is_tight : List Str := ["row", "place"]
theorem sc_is_tight : FnScope N_is_tight P_is_tight (defScope s_is_tight) := ⟨rfl, rfl, rfl, by decide +kernel, rfl, by decide +kernel, by decide +kernel⟩
theorem t_is_tight : trSs 60 ⟨N_is_tight, defScope s_is_tight, [("value", (⟨2, M_value, [false, false]⟩ : FnE))], CNS⟩ (pmOf 0 [false, false]) XCS (defBody s_is_tight) = some (B_is_tight) := by with_unfolding_all rfl
abbrev s_shortened : Stmt := top 12
def P_shortened : List Str := ["row"]
theorem sc_shortened : FnScope N_shortened P_shortened (defScope s_shortened) := ⟨rfl, rfl, rfl, by decide +kernel, rfl, by decide +kernel, by decide +kernel⟩
theorem t_shortened : trSs 60 ⟨N_shortened, defScope s_shortened, [("divisor", (⟨2, M_divisor, [false, false]⟩ : FnE))], CNS⟩ (pmOf 0 [false]) XCS (defBody s_shortened) = some (B_shortened) := by with_unfolding_all rfl
abbrev s_law_cell_at : Stmt := top 14
def P_law_cell_at : List Str := ["_law_script", "_law_k"]
theorem sc_law_cell_at : FnScope N_law_cell_at P_law_cell_at (defScope s_law_cell_at) := ⟨rfl, rfl, rfl, by decide +kernel, rfl, by decide +kernel, by decide +kernel⟩
theorem t_law_cell_at : trSs 60 ⟨N_law_cell_at, defScope s_law_cell_at, [], CNS⟩ (pmOf 0 [false, false]) XCS (defBody s_law_cell_at) = some (B_law_cell_at) := by with_unfolding_all rfl
abbrev s_law_state : Stmt := top 15
def P_law_state : List Str := ["_law_script", "_law_k"]
theorem sc_law_state : FnScope N_law_state P_law_state (defScope s_law_state) := ⟨rfl, rfl, rfl, by decide +kernel, rfl, by decide +kernel, by decide +kernel⟩
theorem t_law_state : trSs 60 ⟨N_law_state, defScope s_law_state, [("_law_cell_at", (⟨2, M_law_cell_at, [false, false]⟩ : FnE))], CNS⟩ (pmOf 0 [false, false]) XCS (defBody s_law_state) = some (B_law_state) := by with_unfolding_all rfl
abbrev s_law_take : Stmt := top 16
def P_law_take : List Str := ["_law_state_here", "_law_many"]
theorem sc_law_take : FnScope N_law_take P_law_take (defScope s_law_take) := ⟨rfl, rfl, rfl, by decide +kernel, rfl, by decide +kernel, by decide +kernel⟩
theorem t_law_take : trSs 60 ⟨N_law_take, defScope s_law_take, [], CNS⟩ (pmOf 0 [true, false]) XCS (defBody s_law_take) = some (B_law_take) := by with_unfolding_all rfl
abbrev s_law_divisor : Stmt := top 17
def P_law_divisor : List Str := ["_law_one", "_law_other"]
theorem sc_law_divisor : FnScope N_law_divisor P_law_divisor (defScope s_law_divisor) := ⟨rfl, rfl, rfl, by decide +kernel, rfl, by decide +kernel, by decide +kernel⟩
theorem t_law_divisor : trSs 60 ⟨N_law_divisor, defScope s_law_divisor, [], CNS⟩ (pmOf 0 [false, false]) XCS (defBody s_law_divisor) = some (B_law_divisor) := by with_unfolding_all rfl
abbrev s_law_low : Stmt := top 18
def P_law_low : List Str := ["_law_top", "_law_bottom"]
theorem sc_law_low : FnScope N_law_low P_law_low (defScope s_law_low) := ⟨rfl, rfl, rfl, by decide +kernel, rfl, by decide +kernel, by decide +kernel⟩
theorem t_law_low : trSs 60 ⟨N_law_low, defScope s_law_low, [("_law_divisor", (⟨2, M_law_divisor, [false, false]⟩ : FnE))], CNS⟩ (pmOf 0 [false, false]) XCS (defBody s_law_low) = some (B_law_low) := by with_unfolding_all rfl
abbrev s_law_value : Stmt := top 19
def P_law_value : List Str := ["_law_row_here", "_law_place_here"]
theorem sc_law_value : FnScope N_law_value P_law_value (defScope s_law_value) := ⟨rfl, rfl, rfl, by decide +kernel, rfl, by decide +kernel, by decide +kernel⟩
theorem t_law_value : trSs 60 ⟨N_law_value, defScope s_law_value, [("_law_low", (⟨2, M_law_low, [false, false]⟩ : FnE))], CNS⟩ (pmOf 0 [false, false]) XCS (defBody s_law_value) = some (B_law_value) := by with_unfolding_all rfl
abbrev s_law_place : Stmt := top 20
def P_law_place : List Str := ["_law_state_here"]
theorem sc_law_place : FnScope N_law_place P_law_place (defScope s_law_place) := ⟨rfl, rfl, rfl, by decide +kernel, rfl, by decide +kernel, by decide +kernel⟩
theorem t_law_place : trSs 60 ⟨N_law_place, defScope s_law_place, [("_law_low", (⟨2, M_law_low, [false, false]⟩ : FnE)), ("_law_take", (⟨2, M_law_take, [true, false]⟩ : FnE))], CNS⟩ (pmOf 0 [true]) XCS (defBody s_law_place) = some (B_law_place) := by with_unfolding_all rfl
abbrev s_law_same : Stmt := top 21
def P_law_same : List Str := ["_law_found", "_law_due"]
theorem sc_law_same : FnScope N_law_same P_law_same (defScope s_law_same) := ⟨rfl, rfl, rfl, by decide +kernel, rfl, by decide +kernel, by decide +kernel⟩
theorem t_law_same (f : MF) : trSs 60 ⟨N_law_same, defScope s_law_same, [("_law_same", (⟨2, f, [false, false]⟩ : FnE))], CNS⟩ (pmOf 0 [false, false]) XCS (defBody s_law_same) = some (B_law_same f) := by with_unfolding_all rfl
abbrev s_law_row : Stmt := top 22
def P_law_row : List Str := ["_law_state_here"]
theorem sc_law_row : FnScope N_law_row P_law_row (defScope s_law_row) := ⟨rfl, rfl, rfl, by decide +kernel, rfl, by decide +kernel, by decide +kernel⟩
theorem t_law_row : trSs 60 ⟨N_law_row, defScope s_law_row, [("_law_take", (⟨2, M_law_take, [true, false]⟩ : FnE))], CNS⟩ (pmOf 0 [true]) XCS (defBody s_law_row) = some (B_law_row) := by with_unfolding_all rfl
abbrev s_law_no_row : Stmt := top 23
def P_law_no_row : List Str := ["_law_state_here", "_law_row_here"]
theorem sc_law_no_row : FnScope N_law_no_row P_law_no_row (defScope s_law_no_row) := ⟨rfl, rfl, rfl, by decide +kernel, rfl, by decide +kernel, by decide +kernel⟩
theorem t_law_no_row : trSs 60 ⟨N_law_no_row, defScope s_law_no_row, [("_law_take", (⟨2, M_law_take, [true, false]⟩ : FnE))], CNS⟩ (pmOf 0 [true, false]) XCS (defBody s_law_no_row) = some (B_law_no_row) := by with_unfolding_all rfl
abbrev s_law_right : Stmt := top 24
def P_law_right : List Str := ["_law_row_here", "_law_place_here"]
theorem sc_law_right : FnScope N_law_right P_law_right (defScope s_law_right) := ⟨rfl, rfl, rfl, by decide +kernel, rfl, by decide +kernel, by decide +kernel⟩
theorem t_law_right : trSs 60 ⟨N_law_right, defScope s_law_right, [("_law_value", (⟨2, M_law_value, [false, false]⟩ : FnE)), ("_law_same", (⟨2, (M_law_same 8), [false, false]⟩ : FnE)), ("is_tight", (⟨2, M_is_tight, [false, false]⟩ : FnE)), ("value", (⟨2, M_value, [false, false]⟩ : FnE)), ("keeps", (⟨2, M_keeps, [false, false]⟩ : FnE))], CNS⟩ (pmOf 0 [false, false]) XCS (defBody s_law_right) = some (B_law_right) := by with_unfolding_all rfl
abbrev s_law : Stmt := top 25
def P_law : List Str := ["_law_script"]
theorem sc_law : FnScope N_law P_law (defScope s_law) := ⟨rfl, rfl, rfl, by decide +kernel, rfl, by decide +kernel, by decide +kernel⟩
theorem t_law : trSs 60 ⟨N_law, defScope s_law, [("_law_state", (⟨2, M_law_state, [false, false]⟩ : FnE)), ("_law_row", (⟨1, M_law_row, [true]⟩ : FnE)), ("_law_divisor", (⟨2, M_law_divisor, [false, false]⟩ : FnE)), ("shortened", (⟨1, M_shortened, [false]⟩ : FnE)), ("_law_same", (⟨2, (M_law_same 8), [false, false]⟩ : FnE)), ("_law_value", (⟨2, M_law_value, [false, false]⟩ : FnE)), ("keeps", (⟨2, M_keeps, [false, false]⟩ : FnE)), ("is_row", (⟨1, M_is_row, [false]⟩ : FnE)), ("_law_place", (⟨1, M_law_place, [true]⟩ : FnE)), ("_law_right", (⟨2, M_law_right, [false, false]⟩ : FnE)), ("_law_no_row", (⟨2, M_law_no_row, [true, false]⟩ : FnE)), ("_law_take", (⟨2, M_law_take, [true, false]⟩ : FnE))], CNS⟩ (pmOf 0 [false]) XCS (defBody s_law) = some (B_law) := by with_unfolding_all rfl
section
variable {P : Program} {w : World} {K : PySem.W.Frag} {mg : Str → Option Value} {base : Heap}
theorem chain (gl : Glob K mg CNS XCS) (D_is_whole : Dfd K mg "is_whole" s_is_whole P_is_whole) (D_divisor : Dfd K mg "divisor" s_divisor P_divisor) (D_ratio : Dfd K mg "ratio" s_ratio P_ratio) (D_plus : Dfd K mg "plus" s_plus P_plus) (D_times : Dfd K mg "times" s_times P_times) (D_is_less : Dfd K mg "is_less" s_is_less P_is_less) (D_is_row : Dfd K mg "is_row" s_is_row P_is_row) (D_value : Dfd K mg "value" s_value P_value) (D_keeps : Dfd K mg "keeps" s_keeps P_keeps) (D_is_tight : Dfd K mg "is_tight" s_is_tight P_is_tight) (D_shortened : Dfd K mg "shortened" s_shortened P_shortened) (D_law_cell_at : Dfd K mg "_law_cell_at" s_law_cell_at P_law_cell_at) (D_law_state : Dfd K mg "_law_state" s_law_state P_law_state) (D_law_take : Dfd K mg "_law_take" s_law_take P_law_take) (D_law_divisor : Dfd K mg "_law_divisor" s_law_divisor P_law_divisor) (D_law_low : Dfd K mg "_law_low" s_law_low P_law_low) (D_law_value : Dfd K mg "_law_value" s_law_value P_law_value) (D_law_place : Dfd K mg "_law_place" s_law_place P_law_place) (D_law_same : Dfd K mg "_law_same" s_law_same P_law_same) (D_law_row : Dfd K mg "_law_row" s_law_row P_law_row) (D_law_no_row : Dfd K mg "_law_no_row" s_law_no_row P_law_no_row) (D_law_right : Dfd K mg "_law_right" s_law_right P_law_right) {f fa : Addr} {fd : FuncData}
    (F : Fun K "law" "law" s_law f fd) (h1 : mg "law" = some (.ref fa)) (h2 : mg "law" = some (.ref f)) (says : Says M_law) : FnOk P w K mg base (L2.CX P w) 10 fa fd P_law (spLaw K) := by
  have E_is_whole : Ent P w K mg base 1 "is_whole" ⟨1, M_is_whole, [false]⟩ := ent_ok (k := 0) D_is_whole sc_is_whole t_is_whole ents_nil gl
  have E_divisor : Ent P w K mg base 1 "divisor" ⟨2, M_divisor, [false, false]⟩ := ent_ok (k := 0) D_divisor sc_divisor t_divisor ents_nil gl
  have E_ratio : Ent P w K mg base 2 "ratio" ⟨2, M_ratio, [false, false]⟩ := ent_ok (k := 1) D_ratio sc_ratio t_ratio (ents_cons E_divisor (by decide) ents_nil) gl
  have E_plus : Ent P w K mg base 3 "plus" ⟨2, M_plus, [false, false]⟩ := ent_ok (k := 2) D_plus sc_plus t_plus (ents_cons E_ratio (by decide) ents_nil) gl
  have E_times : Ent P w K mg base 3 "times" ⟨2, M_times, [false, false]⟩ := ent_ok (k := 2) D_times sc_times t_times (ents_cons E_ratio (by decide) ents_nil) gl
  have E_is_less : Ent P w K mg base 1 "is_less" ⟨2, M_is_less, [false, false]⟩ := ent_ok (k := 0) D_is_less sc_is_less t_is_less ents_nil gl
  have E_is_row : Ent P w K mg base 2 "is_row" ⟨1, M_is_row, [false]⟩ := ent_ok (k := 1) D_is_row sc_is_row t_is_row (ents_cons E_is_whole (by decide) ents_nil) gl
  have E_value : Ent P w K mg base 4 "value" ⟨2, M_value, [false, false]⟩ := ent_ok (k := 3) D_value sc_value t_value (ents_cons E_plus (by decide) (ents_cons E_times (by decide) ents_nil)) gl
  have E_keeps : Ent P w K mg base 5 "keeps" ⟨2, M_keeps, [false, false]⟩ := ent_ok (k := 4) D_keeps sc_keeps t_keeps (ents_cons E_is_less (by decide) (ents_cons E_value (by decide) ents_nil)) gl
  have E_is_tight : Ent P w K mg base 5 "is_tight" ⟨2, M_is_tight, [false, false]⟩ := ent_ok (k := 4) D_is_tight sc_is_tight t_is_tight (ents_cons E_value (by decide) ents_nil) gl
  have E_shortened : Ent P w K mg base 2 "shortened" ⟨1, M_shortened, [false]⟩ := ent_ok (k := 1) D_shortened sc_shortened t_shortened (ents_cons E_divisor (by decide) ents_nil) gl
  have E_law_cell_at : Ent P w K mg base 1 "_law_cell_at" ⟨2, M_law_cell_at, [false, false]⟩ := ent_ok (k := 0) D_law_cell_at sc_law_cell_at t_law_cell_at ents_nil gl
  have E_law_state : Ent P w K mg base 2 "_law_state" ⟨2, M_law_state, [false, false]⟩ := ent_ok (k := 1) D_law_state sc_law_state t_law_state (ents_cons E_law_cell_at (by decide) ents_nil) gl
  have E_law_take : Ent P w K mg base 1 "_law_take" ⟨2, M_law_take, [true, false]⟩ := ent_ok (k := 0) D_law_take sc_law_take t_law_take ents_nil gl
  have E_law_divisor : Ent P w K mg base 1 "_law_divisor" ⟨2, M_law_divisor, [false, false]⟩ := ent_ok (k := 0) D_law_divisor sc_law_divisor t_law_divisor ents_nil gl
  have E_law_low : Ent P w K mg base 2 "_law_low" ⟨2, M_law_low, [false, false]⟩ := ent_ok (k := 1) D_law_low sc_law_low t_law_low (ents_cons E_law_divisor (by decide) ents_nil) gl
  have E_law_value : Ent P w K mg base 3 "_law_value" ⟨2, M_law_value, [false, false]⟩ := ent_ok (k := 2) D_law_value sc_law_value t_law_value (ents_cons E_law_low (by decide) ents_nil) gl
  have E_law_place : Ent P w K mg base 3 "_law_place" ⟨1, M_law_place, [true]⟩ := ent_ok (k := 2) D_law_place sc_law_place t_law_place (ents_cons E_law_low (by decide) (ents_cons E_law_take (by decide) ents_nil)) gl
  have R_law_same : ∀ d, Ent P w K mg base (0 + d) "_law_same" ⟨2, M_law_same d, [false, false]⟩ := fun d => by
    induction d with
    | zero => exact (ent_no D_law_same).mono (Nat.zero_le _)
    | succ d ih => exact ent_ok (k := 0 + d) D_law_same sc_law_same (t_law_same _) (ents_cons ih (by omega) ents_nil) gl
  have E_law_same : Ent P w K mg base 8 "_law_same" ⟨2, M_law_same 8, [false, false]⟩ := R_law_same 8
  have E_law_row : Ent P w K mg base 2 "_law_row" ⟨1, M_law_row, [true]⟩ := ent_ok (k := 1) D_law_row sc_law_row t_law_row (ents_cons E_law_take (by decide) ents_nil) gl
  have E_law_no_row : Ent P w K mg base 2 "_law_no_row" ⟨2, M_law_no_row, [true, false]⟩ := ent_ok (k := 1) D_law_no_row sc_law_no_row t_law_no_row (ents_cons E_law_take (by decide) ents_nil) gl
  have E_law_right : Ent P w K mg base 9 "_law_right" ⟨2, M_law_right, [false, false]⟩ := ent_ok (k := 8) D_law_right sc_law_right t_law_right (ents_cons E_law_value (by decide) (ents_cons E_law_same (by decide) (ents_cons E_is_tight (by decide) (ents_cons E_value (by decide) (ents_cons E_keeps (by decide) ents_nil))))) gl
  exact law_at (k := 9) F h1 h2 sc_law t_law (ents_cons E_law_state (by decide) (ents_cons E_law_row (by decide) (ents_cons E_law_divisor (by decide) (ents_cons E_shortened (by decide) (ents_cons E_law_same (by decide) (ents_cons E_law_value (by decide) (ents_cons E_keeps (by decide) (ents_cons E_is_row (by decide) (ents_cons E_law_place (by decide) (ents_cons E_law_right (by decide) (ents_cons E_law_no_row (by decide) (ents_cons E_law_take (by decide) ents_nil)))))))))))) gl says
end
end K01

set_option maxRecDepth 100000
set_option maxHeartbeats 4000000
namespace K01
open PySem L2 Rc
theorem fin {P : Program} {w : World} {K : PySem.W.Frag} {mg : Str → Option Value} {h : Heap} {f fa : Addr} (X : K.In h) (G : h.Ns mainGlobals mg) (hfa : mg "law" = some (.ref fa)) (bl : ∀ x ∈ blts, mg x = none) (D_is_whole : Dfd K mg "is_whole" s_is_whole P_is_whole) (D_divisor : Dfd K mg "divisor" s_divisor P_divisor) (D_ratio : Dfd K mg "ratio" s_ratio P_ratio) (D_plus : Dfd K mg "plus" s_plus P_plus) (D_times : Dfd K mg "times" s_times P_times) (D_is_less : Dfd K mg "is_less" s_is_less P_is_less) (D_is_row : Dfd K mg "is_row" s_is_row P_is_row) (D_value : Dfd K mg "value" s_value P_value) (D_keeps : Dfd K mg "keeps" s_keeps P_keeps) (D_is_tight : Dfd K mg "is_tight" s_is_tight P_is_tight) (D_shortened : Dfd K mg "shortened" s_shortened P_shortened) (D_law_cell_at : Dfd K mg "_law_cell_at" s_law_cell_at P_law_cell_at) (D_law_state : Dfd K mg "_law_state" s_law_state P_law_state) (D_law_take : Dfd K mg "_law_take" s_law_take P_law_take) (D_law_divisor : Dfd K mg "_law_divisor" s_law_divisor P_law_divisor) (D_law_low : Dfd K mg "_law_low" s_law_low P_law_low) (D_law_value : Dfd K mg "_law_value" s_law_value P_law_value) (D_law_place : Dfd K mg "_law_place" s_law_place P_law_place) (D_law_same : Dfd K mg "_law_same" s_law_same P_law_same) (D_law_row : Dfd K mg "_law_row" s_law_row P_law_row) (D_law_no_row : Dfd K mg "_law_no_row" s_law_no_row P_law_no_row) (D_law_right : Dfd K mg "_law_right" s_law_right P_law_right)
    {oc : Value} {od an : Option Addr} {osl : Array (Option Value)} {kV doc pm cdv ct : Value} (a : PySem.W.nsIn K mainGlobals "law" = some (some (.ref f))) (l : K.lookup f = some ⟨oc, od, .func (PySem.W.fnOf "law" "law" (defArgs s_law) (defBody s_law) (defScope s_law) .none kV doc pm an cdv ct), osl⟩) (c : PySem.W.codeIn K cdv "law" = true) (k : PySem.W.keepIn K (.ref f) = true) :
    ∃ fd : FuncData, (∀ (s : Shared) (u : Value), BindsTo s fd ⟨[u], []⟩ [("_law_script", u)]) ∧ ∀ base : Heap, K.In base → base.Ns mainGlobals mg → FnOk P w K mg base (L2.CX P w) 10 fa fd ["_law_script"] (spLaw K) :=
  ⟨_, fun _ _ => .of_eq rfl, fun base _ _ => chain (glob_nil bl) D_is_whole D_divisor D_ratio D_plus D_times D_is_less D_is_row D_value D_keeps D_is_tight D_shortened D_law_cell_at D_law_state D_law_take D_law_divisor D_law_low D_law_value D_law_place D_law_same D_law_row D_law_no_row D_law_right (fun_mk l c k) hfa (PySem.W.mg_of X G a) says⟩
end K01
open PySem PySem.W PyProof.Rows
set_option maxHeartbeats 0 in
theorem PySem.Challenge.cw_roundcuts_k01_rows_and_places_holds : PySem.Challenge.rw_roundcuts_k01_rows_and_places.Holds := by
  w_on; o_law; k_head; (case hw => w_witness2)
  k_fill
  refine L2.walk_ofB (l := PySem.Challenge.rw_roundcuts_k01_rows_and_places) (n := 63) (k := 10) (x := "_law_script") (CX := fun w => L2.CX PySem.Challenge.pw_roundcuts_k01_rows_and_places w) (sp := fun w => Rc.spLaw _) rfl (by decide) rfl ⟨rfl, by decide, by decide⟩ (fun w h Y => PySem.W.kIn_of Y) ?F (fun _ _ a ns hl hb _ hS => ⟨a, ns, rfl, hS, hl, hb, fun _ => rfl⟩) ?X
  case X =>
    intro w H s e s1 h
    obtain ⟨_, _, _, _, _, _, _, _, _, _, _, _, z⟩ := h
    exact z.elim
  case F =>
    intro w mg fa h KX G hmg
    refine' Rc.cut (Rc.dfd_mk KX G (x := "is_whole") (st := K01.s_is_whole) (ps := K01.P_is_whole) (fun _ _ _ _ _ _ us hl => match us, hl with | [_], _ => rfl) ?a1 ?l1 ?c1 ?k1) ?n1; (case a1 => k_is); (case l1 => k_is); (case c1 => k_is); (case k1 => k_is); intro D_is_whole
    refine' Rc.cut (Rc.dfd_mk KX G (x := "divisor") (st := K01.s_divisor) (ps := K01.P_divisor) (fun _ _ _ _ _ _ us hl => match us, hl with | [_, _], _ => rfl) ?a2 ?l2 ?c2 ?k2) ?n2; (case a2 => k_is); (case l2 => k_is); (case c2 => k_is); (case k2 => k_is); intro D_divisor
    refine' Rc.cut (Rc.dfd_mk KX G (x := "ratio") (st := K01.s_ratio) (ps := K01.P_ratio) (fun _ _ _ _ _ _ us hl => match us, hl with | [_, _], _ => rfl) ?a3 ?l3 ?c3 ?k3) ?n3; (case a3 => k_is); (case l3 => k_is); (case c3 => k_is); (case k3 => k_is); intro D_ratio
    refine' Rc.cut (Rc.dfd_mk KX G (x := "plus") (st := K01.s_plus) (ps := K01.P_plus) (fun _ _ _ _ _ _ us hl => match us, hl with | [_, _], _ => rfl) ?a4 ?l4 ?c4 ?k4) ?n4; (case a4 => k_is); (case l4 => k_is); (case c4 => k_is); (case k4 => k_is); intro D_plus
    refine' Rc.cut (Rc.dfd_mk KX G (x := "times") (st := K01.s_times) (ps := K01.P_times) (fun _ _ _ _ _ _ us hl => match us, hl with | [_, _], _ => rfl) ?a5 ?l5 ?c5 ?k5) ?n5; (case a5 => k_is); (case l5 => k_is); (case c5 => k_is); (case k5 => k_is); intro D_times
    refine' Rc.cut (Rc.dfd_mk KX G (x := "is_less") (st := K01.s_is_less) (ps := K01.P_is_less) (fun _ _ _ _ _ _ us hl => match us, hl with | [_, _], _ => rfl) ?a6 ?l6 ?c6 ?k6) ?n6; (case a6 => k_is); (case l6 => k_is); (case c6 => k_is); (case k6 => k_is); intro D_is_less
    refine' Rc.cut (Rc.dfd_mk KX G (x := "is_row") (st := K01.s_is_row) (ps := K01.P_is_row) (fun _ _ _ _ _ _ us hl => match us, hl with | [_], _ => rfl) ?a8 ?l8 ?c8 ?k8) ?n8; (case a8 => k_is); (case l8 => k_is); (case c8 => k_is); (case k8 => k_is); intro D_is_row
    refine' Rc.cut (Rc.dfd_mk KX G (x := "value") (st := K01.s_value) (ps := K01.P_value) (fun _ _ _ _ _ _ us hl => match us, hl with | [_, _], _ => rfl) ?a9 ?l9 ?c9 ?k9) ?n9; (case a9 => k_is); (case l9 => k_is); (case c9 => k_is); (case k9 => k_is); intro D_value
    refine' Rc.cut (Rc.dfd_mk KX G (x := "keeps") (st := K01.s_keeps) (ps := K01.P_keeps) (fun _ _ _ _ _ _ us hl => match us, hl with | [_, _], _ => rfl) ?a10 ?l10 ?c10 ?k10) ?n10; (case a10 => k_is); (case l10 => k_is); (case c10 => k_is); (case k10 => k_is); intro D_keeps
    refine' Rc.cut (Rc.dfd_mk KX G (x := "is_tight") (st := K01.s_is_tight) (ps := K01.P_is_tight) (fun _ _ _ _ _ _ us hl => match us, hl with | [_, _], _ => rfl) ?a11 ?l11 ?c11 ?k11) ?n11; (case a11 => k_is); (case l11 => k_is); (case c11 => k_is); (case k11 => k_is); intro D_is_tight
    refine' Rc.cut (Rc.dfd_mk KX G (x := "shortened") (st := K01.s_shortened) (ps := K01.P_shortened) (fun _ _ _ _ _ _ us hl => match us, hl with | [_], _ => rfl) ?a12 ?l12 ?c12 ?k12) ?n12; (case a12 => k_is); (case l12 => k_is); (case c12 => k_is); (case k12 => k_is); intro D_shortened
    refine' Rc.cut (Rc.dfd_mk KX G (x := "_law_cell_at") (st := K01.s_law_cell_at) (ps := K01.P_law_cell_at) (fun _ _ _ _ _ _ us hl => match us, hl with | [_, _], _ => rfl) ?a14 ?l14 ?c14 ?k14) ?n14; (case a14 => k_is); (case l14 => k_is); (case c14 => k_is); (case k14 => k_is); intro D_law_cell_at
    refine' Rc.cut (Rc.dfd_mk KX G (x := "_law_state") (st := K01.s_law_state) (ps := K01.P_law_state) (fun _ _ _ _ _ _ us hl => match us, hl with | [_, _], _ => rfl) ?a15 ?l15 ?c15 ?k15) ?n15; (case a15 => k_is); (case l15 => k_is); (case c15 => k_is); (case k15 => k_is); intro D_law_state
    refine' Rc.cut (Rc.dfd_mk KX G (x := "_law_take") (st := K01.s_law_take) (ps := K01.P_law_take) (fun _ _ _ _ _ _ us hl => match us, hl with | [_, _], _ => rfl) ?a16 ?l16 ?c16 ?k16) ?n16; (case a16 => k_is); (case l16 => k_is); (case c16 => k_is); (case k16 => k_is); intro D_law_take
    refine' Rc.cut (Rc.dfd_mk KX G (x := "_law_divisor") (st := K01.s_law_divisor) (ps := K01.P_law_divisor) (fun _ _ _ _ _ _ us hl => match us, hl with | [_, _], _ => rfl) ?a17 ?l17 ?c17 ?k17) ?n17; (case a17 => k_is); (case l17 => k_is); (case c17 => k_is); (case k17 => k_is); intro D_law_divisor
    refine' Rc.cut (Rc.dfd_mk KX G (x := "_law_low") (st := K01.s_law_low) (ps := K01.P_law_low) (fun _ _ _ _ _ _ us hl => match us, hl with | [_, _], _ => rfl) ?a18 ?l18 ?c18 ?k18) ?n18; (case a18 => k_is); (case l18 => k_is); (case c18 => k_is); (case k18 => k_is); intro D_law_low
    refine' Rc.cut (Rc.dfd_mk KX G (x := "_law_value") (st := K01.s_law_value) (ps := K01.P_law_value) (fun _ _ _ _ _ _ us hl => match us, hl with | [_, _], _ => rfl) ?a19 ?l19 ?c19 ?k19) ?n19; (case a19 => k_is); (case l19 => k_is); (case c19 => k_is); (case k19 => k_is); intro D_law_value
    refine' Rc.cut (Rc.dfd_mk KX G (x := "_law_place") (st := K01.s_law_place) (ps := K01.P_law_place) (fun _ _ _ _ _ _ us hl => match us, hl with | [_], _ => rfl) ?a20 ?l20 ?c20 ?k20) ?n20; (case a20 => k_is); (case l20 => k_is); (case c20 => k_is); (case k20 => k_is); intro D_law_place
    refine' Rc.cut (Rc.dfd_mk KX G (x := "_law_same") (st := K01.s_law_same) (ps := K01.P_law_same) (fun _ _ _ _ _ _ us hl => match us, hl with | [_, _], _ => rfl) ?a21 ?l21 ?c21 ?k21) ?n21; (case a21 => k_is); (case l21 => k_is); (case c21 => k_is); (case k21 => k_is); intro D_law_same
    refine' Rc.cut (Rc.dfd_mk KX G (x := "_law_row") (st := K01.s_law_row) (ps := K01.P_law_row) (fun _ _ _ _ _ _ us hl => match us, hl with | [_], _ => rfl) ?a22 ?l22 ?c22 ?k22) ?n22; (case a22 => k_is); (case l22 => k_is); (case c22 => k_is); (case k22 => k_is); intro D_law_row
    refine' Rc.cut (Rc.dfd_mk KX G (x := "_law_no_row") (st := K01.s_law_no_row) (ps := K01.P_law_no_row) (fun _ _ _ _ _ _ us hl => match us, hl with | [_, _], _ => rfl) ?a23 ?l23 ?c23 ?k23) ?n23; (case a23 => k_is); (case l23 => k_is); (case c23 => k_is); (case k23 => k_is); intro D_law_no_row
    refine' Rc.cut (Rc.dfd_mk KX G (x := "_law_right") (st := K01.s_law_right) (ps := K01.P_law_right) (fun _ _ _ _ _ _ us hl => match us, hl with | [_, _], _ => rfl) ?a24 ?l24 ?c24 ?k24) ?n24; (case a24 => k_is); (case l24 => k_is); (case c24 => k_is); (case k24 => k_is); intro D_law_right
    refine' Rc.cut (PySem.W.mg_none_of KX G ?zlen : mg "len" = none) ?mlen; (case zlen => k_is); intro z_len
    refine' Rc.cut (PySem.W.mg_none_of KX G ?zabs : mg "abs" = none) ?mabs; (case zabs => k_is); intro z_abs
    refine' Rc.cut (PySem.W.mg_none_of KX G ?zall : mg "all" = none) ?mall; (case zall => k_is); intro z_all
    refine' Rc.cut (PySem.W.mg_none_of KX G ?zany : mg "any" = none) ?many; (case zany => k_is); intro z_any
    refine' Rc.cut (PySem.W.mg_none_of KX G ?zmax : mg "max" = none) ?mmax; (case zmax => k_is); intro z_max
    refine' Rc.cut (PySem.W.mg_none_of KX G ?zmin : mg "min" = none) ?mmin; (case zmin => k_is); intro z_min
    refine' Rc.cut (PySem.W.mg_none_of KX G ?ztuple : mg "tuple" = none) ?mtuple; (case ztuple => k_is); intro z_tuple
    refine' Rc.cut (PySem.W.mg_none_of KX G ?zlist : mg "list" = none) ?mlist; (case zlist => k_is); intro z_list
    refine' Rc.cut (PySem.W.mg_none_of KX G ?zint : mg "int" = none) ?mint; (case zint => k_is); intro z_int
    refine' Rc.cut (PySem.W.mg_none_of KX G ?zisinstance : mg "isinstance" = none) ?misinstance; (case zisinstance => k_is); intro z_isinstance
    refine' Rc.cut (PySem.W.mg_none_of KX G ?zrange : mg "range" = none) ?mrange; (case zrange => k_is); intro z_range
    refine' Rc.cut (PySem.W.mg_none_of KX G ?zzip : mg "zip" = none) ?mzip; (case zzip => k_is); intro z_zip
    refine' Rc.cut (PySem.W.mg_none_of KX G ?zenumerate : mg "enumerate" = none) ?menumerate; (case zenumerate => k_is); intro z_enumerate
    refine' Rc.cut (PySem.W.mg_none_of KX G ?zreversed : mg "reversed" = none) ?mreversed; (case zreversed => k_is); intro z_reversed
    refine' Rc.cut (PySem.W.mg_none_of KX G ?zbool : mg "bool" = none) ?mbool; (case zbool => k_is); intro z_bool
    refine' Rc.cut (PySem.W.mg_none_of KX G ?zstr : mg "str" = none) ?mstr; (case zstr => k_is); intro z_str
    refine' Rc.cut (PySem.W.mg_none_of KX G ?zdict : mg "dict" = none) ?mdict; (case zdict => k_is); intro z_dict
    have bl : ∀ x ∈ Rc.blts, mg x = none := by
      intro x hx
      simp only [Rc.blts, List.mem_cons, List.not_mem_nil, or_false] at hx
      rcases hx with rfl | rfl | rfl | rfl | rfl | rfl | rfl | rfl | rfl | rfl | rfl | rfl | rfl | rfl | rfl | rfl | rfl
      all_goals assumption
    refine' K01.fin KX G hmg bl D_is_whole D_divisor D_ratio D_plus D_times D_is_less D_is_row D_value D_keeps D_is_tight D_shortened D_law_cell_at D_law_state D_law_take D_law_divisor D_law_low D_law_value D_law_place D_law_same D_law_row D_law_no_row D_law_right ?a ?l ?c ?k; (case a => k_is); (case l => k_is); (case c => k_is); (case k => k_is)

