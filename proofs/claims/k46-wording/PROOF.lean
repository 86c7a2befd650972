import PyProof.Rows.All
import HandS.ForMost
import HandS.Gcd
import HandS.Wide
import HandS.TupMul
import HandS.IsInst
import HandS.Style
import HandS.ExcOwn
import HandS.CallSlots
import HandS.TupAny
import HandS.Deep
import HandS.Dict
import HandS.SortInts
import HandS.More
import HandS.Flow
import HandS.Comp
import HandS.Iter
import HandS.Zip
import HandS.TryOnly
import KE.GoesEnum
import PyProof.EnumMake
import HandS.Conv
import HandS.Small
import HandS.Text
import HandS.FStr
import HandS.Defaults
import HandS.Head0
import HandS.Head1
import HandS.Head2
import HandS.HeadEnd
import HandS.HeadHook1
import HandS.HeadHook2
import HandS.Head3
import HandS.EndBits
import HandS.Words
import HandS.WordsExc
import PySem.Challenge.RW_whateverzero_k46_wording
import PyProof.StrLaws
/-! ## GEv -/
set_option Elab.async false
set_option linter.all false
set_option maxRecDepth 100000
namespace G
open PySem

/-! ## data -/
inductive D where
  | non
  | bl (b : Bool)
  | int (i : Int)
  | str (x : Str)
  | tup (xs : List D)
  | loc (n : Nat)
  deriving Inhabited
mutual
def D.eqb : D → D → Bool
  | .non, .non => true
  | .bl a, .bl b => a == b
  | .int a, .int b => decide (a = b)
  | .str a, .str b => decide (a = b)
  | .tup a, .tup b => D.eqbs a b
  | .loc a, .loc b => decide (a = b)
  | _, _ => false
def D.eqbs : List D → List D → Bool
  | [], [] => true
  | x :: xs, y :: ys => D.eqb x y && D.eqbs xs ys
  | _, _ => false
end
mutual
theorem D.eqb_ok : ∀ a b : D, D.eqb a b = true ↔ a = b
  | .non, b => by cases b <;> simp [D.eqb]
  | .bl a, b => by cases b <;> simp [D.eqb]
  | .int a, b => by cases b <;> simp [D.eqb]
  | .str a, b => by cases b <;> simp [D.eqb]
  | .loc a, b => by cases b <;> simp [D.eqb]
  | .tup a, b => by
    cases b with
    | tup ys => simp only [D.eqb, D.tup.injEq]; exact D.eqbs_ok a ys
    | _ => simp [D.eqb]
theorem D.eqbs_ok : ∀ a b : List D, D.eqbs a b = true ↔ a = b
  | [], b => by cases b <;> simp [D.eqbs]
  | x :: xs, b => by
    cases b with
    | nil => simp [D.eqbs]
    | cons y ys => simp only [D.eqbs, Bool.and_eq_true, List.cons.injEq, D.eqb_ok x y, D.eqbs_ok xs ys]
end
instance : DecidableEq D := fun a b => decidable_of_iff _ (D.eqb_ok a b)

mutual
def D.pure : D → Bool
  | .tup xs => D.pures xs
  | .loc _ => false
  | .str x => PySem.PyData.strOk x
  | _ => true
def D.pures : List D → Bool
  | [] => true
  | x :: xs => D.pure x && D.pures xs
end
mutual
def D.deep : D → Nat
  | .tup xs => D.deeps xs + 1
  | _ => 0
def D.deeps : List D → Nat
  | [] => 0
  | x :: xs => max (D.deep x) (D.deeps xs)
end
mutual
def D.eqv : D → D → Bool
  | .non, .non => true
  | .bl a, .bl b => a == b
  | .bl a, .int j => (if a then 1 else 0) == j
  | .int i, .bl b => i == (if b then 1 else 0)
  | .int a, .int b => a == b
  | .str a, .str b => a == b
  | .tup a, .tup b => D.eqvs a b
  | _, _ => false
def D.eqvs : List D → List D → Bool
  | [], [] => true
  | x :: xs, y :: ys => D.eqv x y && D.eqvs xs ys
  | _, _ => false
end

/-! ## states -/
inductive Slot where
  | no
  | val (d : D)
  | own (xs : List D)
  | ro (xs : List D)
inductive Cell where
  | lst (xs : List D)
  | dct (kvs : List (Str × D))
structure S where
  v : List Slot
  M : List Cell
structure Xc where
  cls : Str
  fs : List (Str × D)
inductive R (α : Type) where
  | ok (a : α) (s : S)
  | exc (x : Xc) (s : S)
  | bad
inductive RF where
  | ok (o : Slot) (M : List Cell)
  | exc (x : Xc) (M : List Cell)
  | bad
def R.bind {α β : Type} : R α → (α → S → R β) → R β
  | .ok a s, f => f a s
  | .exc x s, _ => .exc x s
  | .bad, _ => .bad
/-- what an expression gives: a value; a new list; the list of the i-th name -/
inductive SV where
  | val (d : D)
  | new (xs : List D)
  | var (i : Nat)
inductive Fl where
  | nx | bk | ct
  | rt (o : Slot)
def lif {α : Type} : Option α → S → R α
  | some a, s => .ok a s
  | none, _ => .bad

/-! ## syntax -/
inductive Ty where
  | int | bool | str | tuple | list
  deriving DecidableEq
inductive Bi where
  | abs | int | str | len | gcd | all | any | sum | max | min | tuple | list | sorted
  deriving DecidableEq
inductive Sm' where
  | join | startswith | split
  deriving DecidableEq
inductive Mt where
  | append | pop | extend | insert | reverse
  deriving DecidableEq
mutual
inductive Ex where
  | cst (d : D)
  | var (i : Nat)
  | glob (x : Str)
  | bin (op : Operator) (a b : Ex)
  | neg (a : Ex)
  | not (a : Ex)
  | bool (isAnd : Bool) (es : Exs)
  | cmp (op : CmpOp) (a b : Ex)
  | chain (o1 o2 : CmpOp) (a b c : Ex)
  | ife (t : Te) (a b : Ex)
  | tup (es : Exs)
  | lst (es : Exs)
  | dct (ks : List Str) (es : Exs)
  | lrng (e : Ex)
  | smeth (o : Ex) (m : Sm') (e : Ex)
  | fstr (es : Exs)
  | comp (elt : Ex) (tg : Tg) (it : It) (ifs : Tes) (own : List Nat)
  | call (f : Str) (es : Ags)
  | callk (f : Str) (n : Nat) (ks : List Str) (es : Ags)
  | bi (b : Bi) (es : Exs)
  | isi (e : Ex) (tys : List Ty)
  | meth (o : Ex) (m : Mt) (es : Exs)
  | sub (a i : Ex)
  | slc (a : Ex) (lo hi : Ox)
inductive Exs where
  | nil
  | cons (e : Ex) (es : Exs)
inductive Te where
  | x (e : Ex)
  | n (t : Te)
  | b (isAnd : Bool) (ts : Tes)
inductive Tes where
  | nil
  | cons (t : Te) (ts : Tes)
inductive Ag where
  | v (e : Ex)
  | b (e : Ex)
inductive Ags where
  | nil
  | cons (a : Ag) (as : Ags)
inductive It where
  | q (e : Ex)
  | rng (es : Exs)
  | enum (e : Ex)
  | zip (a b : Ex)
inductive Ox where
  | no
  | yes (e : Ex)
inductive Tg where
  | name (i : Nat)
  | tup (ts : Tgs)
  | sub (o i : Ex)
inductive Tgs where
  | nil
  | cons (t : Tg) (ts : Tgs)
end
mutual
inductive Stm where
  | ex (e : Ex)
  | asg (t : Tg) (e : Ex)
  | own (i : Nat) (e : Ex)
  | par2 (i j : Nat) (a b : Ex)
  | par3 (i j k : Nat) (a b c : Ex)
  | aug (i : Nat) (op : Operator) (e : Ex)
  | ret (e : Ex)
  | retN
  | ite (t : Te) (a b : Stms)
  | whl (t : Te) (b : Stms)
  | fors (t : Tg) (it : It) (b : Stms)
  | pass
  | brk
  | cnt
inductive Stms where
  | nil
  | cons (s : Stm) (ss : Stms)
end
def Tgs.len : Tgs → Nat
  | .nil => 0
  | .cons _ ts => ts.len + 1
structure Fn where
  ps : List Str
  N : List Str
  dfl : List D
  body : Stms
structure Cn where
  call : Str → List Slot → List Cell → RF
  kb : Str → Nat → List Str → List Slot → Option (List Slot)
  gl : Str → Option D

/-! ## primitive steps -/
def LIM : Nat := 60000000
/-- small enough for a product -/
def Sm (i : Int) : Bool := Nat.blt i.natAbs.log2 LIM
/-- small enough for a divisor -/
def Sd (i : Int) : Bool := Nat.blt i.natAbs.log2 9000
def St' (x y : Str) : Bool := Nat.ble (x.length + y.length) sizeLine
def fits (n : Nat) : Bool := Nat.ble n sizeLine
def powOk (i j : Int) : Bool := decide (0 ≤ j) && decide (j ≤ 1000000) && decide (i.natAbs < 2 ^ 64)
def intOp : Operator → Int → Int → Option Int
  | .Add, i, j => some (i + j)
  | .Sub, i, j => some (i - j)
  | .Mult, i, j => if Sm i && Sm j then some (i * j) else none
  | .FloorDiv, i, j => if decide (j ≠ 0) && Sd j then some (i.fdiv j) else none
  | .Mod, i, j => if j ≠ 0 then some (i.fmod j) else none
  | .Pow, i, j => if powOk i j then some (i ^ j.toNat) else none
  | .LShift, i, j => if powOk i j then some (i * 2 ^ j.toNat) else none
  | _, _, _ => none
def cell (M : List Cell) (n : Nat) : Option (List D) := match M[n]? with
  | some (.lst xs) => some xs
  | _ => none
/-- the pairs of a dict -/
def dctOf (s : S) : SV → Option (List (Str × D))
  | .val (.loc n) => (match s.M[n]? with
    | some (.dct kvs) => some kvs
    | _ => none)
  | _ => none
def asStrs : List D → Option (List Str)
  | [] => some []
  | .str z :: r => (asStrs r).map (z :: ·)
  | _ => none
def fmtD : SV → Option Str
  | .val (.str z) => if fits z.length then some z else none
  | .val (.int i) => if Nat.blt i.natAbs.log2 1920 then some (toString i) else none
  | _ => none
def putS (kvs : List (Str × D)) (k : Str) (d : D) : List (Str × D) := match kvs with
  | [] => [(k, d)]
  | p :: r => if p.1 = k then (k, d) :: r else p :: putS r k d
def getS (kvs : List (Str × D)) (k : Str) : Option D := match kvs with
  | [] => none
  | p :: r => if p.1 = k then some p.2 else getS r k
def insI (x : Int) : List Int → List Int
  | [] => [x]
  | y :: r => if x ≤ y then x :: y :: r else y :: insI x r
def isort : List Int → List Int
  | [] => []
  | x :: r => insI x (isort r)
/-- the items of a list or a tuple -/
def seq (s : S) : SV → Option (List D)
  | .val (.tup xs) => some xs
  | .val (.loc n) => cell s.M n
  | .new xs => some xs
  | .var i => (match s.v[i]? with
    | some (.own xs) => some xs
    | some (.ro xs) => some xs
    | _ => none)
  | _ => none
/-- the items of a list that is no borrowed one -/
def lis (s : S) : SV → Option (List D)
  | .val (.loc n) => cell s.M n
  | .new xs => some xs
  | .var i => (match s.v[i]? with
    | some (.own xs) => some xs
    | _ => none)
  | _ => none
def strOp : Operator → Str → Str → Option Str
  | .Add, x, y => if St' x y then some (x ++ y) else none
  | _, _, _ => none
def catOk (xs ys : List D) : Bool := fits (xs.length + ys.length)
def binD (op : Operator) (x y : SV) (s : S) : Option SV := match x, y with
  | .val (.int i), .val (.int j) => (intOp op i j).map fun k => .val (.int k)
  | .val (.str i), .val (.str j) => (strOp op i j).map fun k => .val (.str k)
  | .val (.bl i), .val (.bl j) => (match op with
    | .Sub => some (.val (.int ((if i = true then 1 else 0) - (if j = true then 1 else 0))))
    | _ => none)
  | .val (.tup xs), .val (.tup ys) => (match op with
    | .Add => if catOk xs ys then some (.val (.tup (xs ++ ys))) else none
    | _ => none)
  | .val (.tup xs), .val (.int k) => (match op with
    | .Mult => if (!xs.isEmpty) && decide (2 ≤ k) && decide (k ≤ 1000) && Nat.ble xs.length 1000 then some (.val (.tup (List.replicate k.toNat xs).flatten)) else none
    | _ => none)
  | x, .val (.int k) => (match op, lis s x with
    | .Mult, some xs => if decide (-(2 ^ 63) ≤ k) && decide (k < 2 ^ 63) && fits (xs.length * k.toNat) then some (.new (List.replicate k.toNat xs).flatten) else none
    | _, _ => none)
  | x, y => (match op, lis s x, lis s y with
    | .Add, some xs, some ys => if catOk xs ys then some (.new (xs ++ ys)) else none
    | _, _, _ => none)
def negD : SV → Option SV
  | .val (.int i) => some (.val (.int (-i)))
  | _ => none
def pure60 (d : D) : Bool := d.pure && Nat.ble d.deep 60
def eqD (x y : D) : Option Bool := match x, y with
  | .str a, .str b => some (decide (a = b))
  | x, y => if pure60 x && pure60 y then some (D.eqv x y) else none
def flat : D → Bool
  | .non => true | .bl _ => true | .int _ => true | .str _ => true
  | _ => false
def inD (x : D) (xs : List D) : Option Bool := if (flat x && xs.all flat) || (pure60 x && xs.all pure60) then some (xs.any fun y => D.eqv y x) else none
/-- a method of a text -/
def smD (m : Sm') (a : Str) (y : SV) (s : S) : Option SV := match m, y with
  | .join, y => (seq s y).bind fun ds => (asStrs ds).bind fun ys => if Nat.ble ((ys.map (·.length)).sum + ys.length * a.length) 16777216 then some (.val (.str (Txt.join a ys))) else none
  | .startswith, .val (.str b) => some (.val (.bl (Txt.startswith a b)))
  | .split, .val (.str b) => if (b.length != 0) && Nat.ble (a.length + 2) sizeLine then some (.new ((Txt.split a b).map D.str)) else none
  | _, _ => none
def inS (a : D) (y : SV) (s : S) : Option Bool := match a, dctOf s y with
  | .str k, some kvs => some (getS kvs k).isSome
  | _, some _ => none
  | a, none => (seq s y).bind fun ys => inD a ys
def cmpD (op : CmpOp) (x y : SV) (s : S) : Option Bool := match op, x, y with
  | .Eq, .val a, .val b => eqD a b
  | .NotEq, .val a, .val b => (eqD a b).map (!·)
  | .Lt, .val (.int i), .val (.int j) => some (decide (i < j))
  | .LtE, .val (.int i), .val (.int j) => some (decide (i ≤ j))
  | .Gt, .val (.int i), .val (.int j) => some (decide (j < i))
  | .GtE, .val (.int i), .val (.int j) => some (decide (j ≤ i))
  | .Is, .val a, .val .non => some (decide (a = .non))
  | .IsNot, .val a, .val .non => some (!decide (a = .non))
  | .In, .val a, y => inS a y s
  | .NotIn, .val a, y => (inS a y s).map (!·)
  | _, _, _ => none
def isTy (s : S) (t : Ty) : SV → Option Bool
  | .val .non => some false
  | .val (.bl _) => some (decide (t = .bool) || decide (t = .int))
  | .val (.int _) => some (decide (t = .int))
  | .val (.str _) => some (decide (t = .str))
  | .val (.tup _) => some (decide (t = .tuple))
  | .val (.loc n) => (match s.M[n]? with
    | some (.lst _) => some (decide (t = .list))
    | _ => none)
  | .new _ => some (decide (t = .list))
  | .var i => (match s.v[i]? with
    | some (.own _) => some (decide (t = .list))
    | some (.ro _) => some (decide (t = .list))
    | _ => none)
def isTys (s : S) (x : SV) : List Ty → Option Bool
  | [] => none
  | [t] => isTy s t x
  | t :: ts => (isTy s t x).bind fun b => (isTys s x ts).map (b || ·)
def asInts : List D → Option (List Int)
  | [] => some []
  | .int i :: r => (asInts r).map (i :: ·)
  | _ :: _ => none
def asBools : List D → Option (List Bool)
  | [] => some []
  | .bl i :: r => (asBools r).map (i :: ·)
  | _ :: _ => none
def maxL : List Int → Int
  | [] => 0
  | [x] => x
  | x :: y :: r => max x (maxL (y :: r))
def minL : List Int → Int
  | [] => 0
  | [x] => x
  | x :: y :: r => min x (minL (y :: r))
def strI (i : Int) : Option SV := if Nat.blt i.natAbs.log2 1920 then some (.val (.str (toString i))) else none
def bi1 (b : Bi) (x : SV) (s : S) : Option SV := match b, x with
  | .abs, .val (.int i) => some (.val (.int (if i < 0 then -i else i)))
  | .int, .val (.int i) => some (.val (.int i))
  | .int, .val (.bl k) => some (.val (.int (if k then 1 else 0)))
  | .str, .val (.int i) => strI i
  | .len, .val (.str z) => if fits z.length then some (.val (.int z.length)) else none
  | .len, x => (seq s x).map fun xs => .val (.int xs.length)
  | .all, x => (lis s x).bind fun xs => (asBools xs).map fun bs => .val (.bl (bs.all id))
  | .any, x => (lis s x).bind fun xs => (asBools xs).map fun bs => .val (.bl (bs.any id))
  | .sum, x => (lis s x).bind fun xs => (asInts xs).map fun bs => .val (.int bs.sum)
  | .max, x => (lis s x).bind fun xs => (asInts xs).bind fun bs => if bs.isEmpty then none else some (.val (.int (maxL bs)))
  | .min, x => (lis s x).bind fun xs => (asInts xs).bind fun bs => if bs.isEmpty then none else some (.val (.int (minL bs)))
  | .tuple, .val (.tup xs) => some (.val (.tup xs))
  | .tuple, x => (seq s x).map fun xs => .val (.tup xs)
  | .list, x => (seq s x).map fun xs => .new xs
  | .sorted, x => (lis s x).bind fun xs => (asInts xs).map fun bs => .new ((isort bs).map D.int)
  | _, _ => none
def bi2 (b : Bi) (x y : SV) : Option SV := match b, x, y with
  | .gcd, .val (.int i), .val (.int j) => some (.val (.int ((Nat.gcd i.natAbs j.natAbs : Nat) : Int)))
  | .max, .val (.int i), .val (.int j) => some (.val (.int (if j > i then j else i)))
  | .min, .val (.int i), .val (.int j) => some (.val (.int (if j < i then j else i)))
  | _, _, _ => none
def biD (b : Bi) (xs : List SV) (s : S) : Option SV := match xs with
  | [x] => bi1 b x s
  | [x, y] => bi2 b x y
  | _ => none
def atI {α : Type} (xs : List α) (i : Int) : Option α := L2.atI xs i
def subD (x y : SV) (s : S) : Option SV := match x, y with
  | .val (.str z), .val (.int i) => if fits z.length then (atI z.cps.toList i).map fun c => .val (.str ⟨#[c]⟩) else none
  | x, .val (.int i) => (seq s x).bind fun xs => (atI xs i).map fun d => .val d
  | x, .val (.str k) => (dctOf s x).bind fun kvs => (getS kvs k).map fun d => .val d
  | _, _ => none
def cut {α : Type} (xs : List α) (lo hi : Option Int) : List α := (xs.drop (HT.sIx xs.length 0 lo)).take (HT.sIx xs.length xs.length hi - HT.sIx xs.length 0 lo)
def slcD (x : SV) (lo hi : Option Int) (s : S) : Option SV := match x with
  | .val (.tup xs) => some (.val (.tup (cut xs lo hi)))
  | .val (.str z) => if fits z.length then some (.val (.str ⟨(cut z.cps.toList lo hi).toArray⟩)) else none
  | x => (seq s x).map fun xs => .new (cut xs lo hi)
/-- the list of a place is changed -/
def putL (s : S) (x : SV) (xs : List D) : Option S := match x with
  | .val (.loc n) => some ⟨s.v, s.M.set n (.lst xs)⟩
  | .var i => some ⟨s.v.set i (.own xs), s.M⟩
  | _ => none
def methD (m : Mt) (x : SV) (as : List SV) (s : S) : R SV := match m, as with
  | .append, [.val d] => (match lis s x with
    | some xs => if Nat.blt xs.length sizeLine then (match putL s x (xs ++ [d]) with
      | some s' => .ok (.val .non) s'
      | none => .bad) else .bad
    | none => .bad)
  | .pop, [] => (match lis s x with
    | some xs => (match xs.getLast?, putL s x xs.dropLast with
      | some d, some s' => .ok (.val d) s'
      | _, _ => .bad)
    | none => .bad)
  | .pop, [.val (.int i)] => (match lis s x with
    | some xs => if decide (-(2 ^ 63) ≤ i) && decide (i < 2 ^ 63) then (match seqIndex? i xs.length with
      | some k => (match xs[k]?, putL s x (xs.eraseIdx k) with
        | some d, some s' => .ok (.val d) s'
        | _, _ => .bad)
      | none => .bad) else .bad
    | none => .bad)
  | .extend, [y] => (match lis s x, lis s y with
    | some xs, some ys => if catOk xs ys then (match putL s x (xs ++ ys) with
      | some s' => .ok (.val .non) s'
      | none => .bad) else .bad
    | _, _ => .bad)
  | .reverse, [] => (match lis s x with
    | some xs => (match putL s x xs.reverse with
      | some s' => .ok (.val .non) s'
      | none => .bad)
    | none => .bad)
  | .insert, [.val (.int i), .val d] => (match lis s x with
    | some xs => if decide (0 ≤ i) && (decide (i < 2 ^ 63) && Nat.blt xs.length sizeLine) then (match putL s x (xs.take i.toNat ++ [d] ++ xs.drop i.toNat) with
      | some s' => .ok (.val .non) s'
      | none => .bad) else .bad
    | none => .bad)
  | _, _ => .bad
/-- o[i] = d -/
def setD (x : SV) (i : SV) (d : D) (s : S) : Option S := match i with
  | .val (.int k) => (lis s x).bind fun xs => (L2.ixN xs.length k).bind fun j => putL s x (xs.set j d)
  | .val (.str k) => (match x with
    | .val (.loc n) => (dctOf s (.val (.loc n))).bind fun kvs => if Nat.blt kvs.length sizeLine then some ⟨s.v, s.M.set n (.dct (putS kvs k d))⟩ else none
    | _ => none)
  | _ => none
/-- a value out of what an expression gives -/
def toVal : SV → S → R D
  | .val d, s => .ok d s
  | .new xs, s => .ok (.loc s.M.length) ⟨s.v, s.M ++ [.lst xs]⟩
  | .var _, _ => .bad
/-- truth, as a test -/
def truD (s : S) : SV → Option Bool
  | .val (.bl b) => some b
  | .val .non => some false
  | .val (.int i) => some (i != 0)
  | .val (.str x) => if fits x.length then some (x.length != 0) else none
  | x => (seq s x).map fun xs => !xs.isEmpty
/-- an argument: a value, a list that is lent, the list of a name -/
inductive Ar where
  | val (d : D)
  | tmp (xs : List D)
  | var (i : Nat)
def lend : SV → Ar
  | .val d => .val d
  | .new xs => .tmp xs
  | .var i => .var i
def Ar.slot (s : S) : Ar → Option Slot
  | .val d => some (.val d)
  | .tmp xs => some (.ro xs)
  | .var i => (match s.v[i]? with
    | some (.own xs) => some (.ro xs)
    | some (.ro xs) => some (.ro xs)
    | _ => none)
def slots (s : S) : List Ar → Option (List Slot)
  | [] => some []
  | a :: r => (a.slot s).bind fun x => (slots s r).map (x :: ·)
def ofCall (s : S) : RF → R SV
  | .ok (.val d) M => .ok (.val d) ⟨s.v, M⟩
  | .ok (.own xs) M => .ok (.new xs) ⟨s.v, M⟩
  | .ok _ _ => .bad
  | .exc x M => .exc x ⟨s.v, M⟩
  | .bad => .bad
/-- what a loop walks: the items, the lists of the heap that have to stay, the names whose lists are locked meanwhile -/
structure Itm where
  xs : List D
  chk : List (Nat × List D)
  lks : List (Nat × List D)
def stays (s : S) (p : Nat × List D) : Bool := decide (cell s.M p.1 = some p.2)
def Itm.ok (it : Itm) (s : S) : Bool := it.chk.all (stays s)
def plcC (x : SV) (xs : List D) : List (Nat × List D) := match x with
  | .val (.loc n) => [(n, xs)]
  | _ => []
def plcV (x : SV) (xs : List D) (s : S) : List (Nat × List D) := match x with
  | .var i => (match s.v[i]? with
    | some (.own _) => [(i, xs)]
    | _ => [])
  | _ => []
def ofSeq (s : S) (x : SV) : Option Itm := match x with
  | .val (.str z) => some ⟨z.cps.toList.map fun c => .str ⟨#[c]⟩, [], []⟩
  | x => (seq s x).map fun xs => ⟨xs, plcC x xs, plcV x xs s⟩
def lock (v : List Slot) : List (Nat × List D) → List Slot
  | [] => v
  | (i, xs) :: r => (lock v r).set i (.ro xs)
def unlock (v : List Slot) : List (Nat × List D) → List Slot
  | [] => v
  | (i, xs) :: r => (unlock v r).set i (.own xs)
def in62 (i : Int) : Bool := decide (-(2 ^ 62) ≤ i) && decide (i < 2 ^ 62)
def rngL (lo : Int) (n : Nat) : List D := (List.range n).map fun (k : Nat) => D.int (lo + (k : Int))
def rngC (lo c : Int) (n : Nat) : List D := (List.range n).map fun (k : Nat) => D.int (lo + (k : Int) * c)
def rngN (i j c : Int) : Nat := if 0 < c then ((j - i + c - 1) / c).toNat else if c < 0 then ((i - j - c - 1) / (-c)).toNat else 0
def rngD : List SV → Option Itm
  | [.val (.int j)] => if in62 j then some ⟨rngL 0 j.toNat, [], []⟩ else none
  | [.val (.int i), .val (.int j)] => if in62 i && in62 j then some ⟨rngL i (j - i).toNat, [], []⟩ else none
  | [.val (.int i), .val (.int j), .val (.int c)] => if in62 i && in62 j && decide (c ≠ 0) && decide (c.natAbs < 2 ^ 30) then some ⟨rngC i c (rngN i j c), [], []⟩ else none
  | _ => none
def lrngD : SV → Option SV
  | .val (.int j) => if decide (-(2 ^ 62) ≤ j) && decide (j ≤ 16777216) then some (.new (rngL 0 j.toNat)) else none
  | _ => none
def pairs : Int → List D → List D
  | _, [] => []
  | k, x :: xs => .tup [.int k, x] :: pairs (k + 1) xs
def isTup : SV → Bool
  | .val (.tup _) => true
  | _ => false
def zips : List D → List D → List D
  | x :: xs, y :: ys => .tup [x, y] :: zips xs ys
  | _, _ => []
def wipes : List Slot → List Nat → List Slot
  | v, [] => v
  | v, i :: is => (wipes v is).set i .no
def restor (v w : List Slot) : List Nat → List Slot
  | [] => w
  | i :: is => (restor v w is).set i (v.getD i .no)
/-- the items of a comprehension -/
def compL (ok : S → Bool) (body : D → S → R (Option D)) : List D → S → R (List D)
  | [], s => if ok s then .ok [] s else .bad
  | x :: xs, s => if ok s then (body x s).bind fun o s1 => (compL ok body xs s1).bind fun ys s2 => .ok (o.toList ++ ys) s2 else .bad
def noX {α : Type} : R α → R α
  | .exc _ _ => .bad
  | r => r
/-- a for loop -/
def forL (ok : S → Bool) (body : D → S → R Fl) : List D → S → R Fl
  | [], s => if ok s then .ok .nx s else .bad
  | x :: xs, s => if ok s then (body x s).bind fun f s1 => (match f with
    | .nx => forL ok body xs s1
    | .ct => forL ok body xs s1
    | .bk => .ok .nx s1
    | .rt o => .ok (.rt o) s1) else .bad
/-- a while loop: at most so many turns -/
def whlL (test : S → R Bool) (body : S → R Fl) : Nat → S → R Fl
  | 0, _ => .bad
  | n + 1, s => (test s).bind fun b s1 => if b then (body s1).bind fun f s2 => (match f with
    | .nx => whlL test body n s2
    | .ct => whlL test body n s2
    | .bk => .ok .nx s2
    | .rt o => .ok (.rt o) s2) else .ok .nx s1
def WF : Nat := 2 ^ 2000000

/-! ## evaluation -/
/-- one turn of a comprehension -/
def turnC (g : D → S → R Unit) (f : S → R Bool) (e : S → R SV) (x : D) (s : S) : R (Option D) :=
  (g x s).bind fun _ s1 => (f s1).bind fun k s2 => if k then ((e s2).bind toVal).bind fun d s3 => .ok (some d) s3 else .ok none s2
/-- a comprehension: its own names are no names ahead of each turn -/
def wiped (own : List Nat) (s : S) : S := ⟨wipes s.v own, s.M⟩
def compD (m : Itm) (own : List Nat) (turn : D → S → R (Option D)) (s1 : S) : R SV :=
  noX ((compL m.ok (fun x s => (turn x s).bind fun o s' => .ok o (wiped own s')) m.xs (wiped own ⟨lock s1.v m.lks, s1.M⟩)).bind fun ys s6 =>
    if fits ys.length then .ok (.new ys) ⟨unlock (restor (lock s1.v m.lks) s6.v own) m.lks, s6.M⟩ else .bad)
def callD (c : Cn) (f : Str) (as : List Ar) (s : S) : R SV := match slots s as with
  | some vs => ofCall s (c.call f vs s.M)
  | none => .bad
def callkD (c : Cn) (f : Str) (n : Nat) (ks : List Str) (as : List Ar) (s : S) : R SV := match (slots s as).bind (c.kb f n ks) with
  | some vs => ofCall s (c.call f vs s.M)
  | none => .bad
def varD (i : Nat) (s : S) : R SV := match s.v[i]? with
  | some (.val d) => .ok (.val d) s
  | some (.own _) => .ok (.var i) s
  | some (.ro _) => .ok (.var i) s
  | _ => .bad
def globD (c : Cn) (x : Str) (s : S) : R SV := match c.gl x with
  | some d => .ok (.val d) s
  | none => .bad
def mtD (m : Mt) (x : SV) (as : List SV) (s : S) : R SV := match m, as with
  | .append, [a] => (toVal a s).bind fun d s3 => methD .append x [.val d] s3
  | .append, _ => .bad
  | m, as => methD m x as s
def optI : SV → S → R (Option Int)
  | .val (.int i), s => .ok (some i) s
  | _, _ => .bad
/-- a name is stored; a list that is lent or locked is no name's to store over -/
def setName (i : Nat) (d : Slot) (s : S) : R Unit := match s.v[i]? with
  | some (.ro _) => .bad
  | some _ => .ok () ⟨s.v.set i d, s.M⟩
  | none => .bad
def unl (lks : List (Nat × List D)) : R Fl → R Fl
  | .ok f s => .ok f ⟨unlock s.v lks, s.M⟩
  | .exc x s => .exc x ⟨unlock s.v lks, s.M⟩
  | .bad => .bad
mutual
def evX (c : Cn) : Ex → S → R SV
  | .cst d, s => .ok (.val d) s
  | .var i, s => varD i s
  | .glob x, s => globD c x s
  | .bin op a b, s => (evX c a s).bind fun x s1 => (evX c b s1).bind fun y s2 => lif (binD op x y s2) s2
  | .neg a, s => (evX c a s).bind fun x s1 => lif (negD x) s1
  | .not a, s => (evX c a s).bind fun x s1 => lif ((truD s1 x).map fun b => SV.val (.bl (!b))) s1
  | .bool k es, s => evB c k es s
  | .cmp op a b, s => (evX c a s).bind fun x s1 => (evX c b s1).bind fun y s2 => lif ((cmpD op x y s2).map fun k => SV.val (.bl k)) s2
  | .chain o1 o2 a b e, s => (evX c a s).bind fun x s1 => (evX c b s1).bind fun y s2 => (lif (cmpD o1 x y s2) s2).bind fun k s3 =>
      if k then (evX c e s3).bind fun z s4 => lif ((cmpD o2 y z s4).map fun k => SV.val (.bl k)) s4 else .ok (.val (.bl false)) s3
  | .ife t a b, s => (evT c t s).bind fun k s1 => if k then evX c a s1 else evX c b s1
  | .tup es, s => (evEs c es s).bind fun xs s1 => if fits xs.length then .ok (.val (.tup xs)) s1 else .bad
  | .lst es, s => (evEs c es s).bind fun xs s1 => if fits xs.length then .ok (.new xs) s1 else .bad
  | .dct ks es, s => (evEs c es s).bind fun ds s1 => if ds.length = ks.length then .ok (.val (.loc s1.M.length)) ⟨s1.v, s1.M ++ [.dct (ks.zip ds)]⟩ else .bad
  | .lrng e, s => (evX c e s).bind fun x s1 => lif (lrngD x) s1
  | .smeth o m e, s => (evX c o s).bind fun x s1 => (match x with
    | .val (.str a) => (evX c e s1).bind fun y s2 => lif (smD m a y s2) s2
    | _ => .bad)
  | .fstr es, s => (evF c es Str.empty s).bind fun z s1 => .ok (.val (.str z)) s1
  | .comp elt tg it ifs own, s => (evI c it s).bind fun m s1 => compD m own (turnC (evG c tg) (evTB c true ifs) (evX c elt)) s1
  | .call f es, s => (evA c es s).bind fun as s1 => callD c f as s1
  | .callk f n ks es, s => (evA c es s).bind fun as s1 => callkD c f n ks as s1
  | .bi b es, s => (evXs c es s).bind fun xs s1 => lif (biD b xs s1) s1
  | .isi e tys, s => (evX c e s).bind fun x s1 => lif ((isTys s1 x tys).map fun k => SV.val (.bl k)) s1
  | .meth o m es, s => (evX c o s).bind fun x s1 => if (lis s1 x).isSome then (evXs c es s1).bind fun as s2 => mtD m x as s2 else .bad
  | .sub a i, s => (evX c a s).bind fun x s1 => (evX c i s1).bind fun y s2 => lif (subD x y s2) s2
  | .slc a lo hi, s => (evX c a s).bind fun x s1 => (evO c lo s1).bind fun l s2 => (evO c hi s2).bind fun h s3 => lif (slcD x l h s3) s3
/-- values, in a row -/
def evEs (c : Cn) : Exs → S → R (List D)
  | .nil, s => .ok [] s
  | .cons e es, s => ((evX c e s).bind toVal).bind fun d s1 => (evEs c es s1).bind fun ds s2 => .ok (d :: ds) s2
def evXs (c : Cn) : Exs → S → R (List SV)
  | .nil, s => .ok [] s
  | .cons e es, s => (evX c e s).bind fun d s1 => (evXs c es s1).bind fun ds s2 => .ok (d :: ds) s2
/-- the parts of an f-string -/
def evF (c : Cn) : Exs → Str → S → R Str
  | .nil, acc, s => .ok acc s
  | .cons e es, acc, s => (evX c e s).bind fun x s1 => (lif (fmtD x) s1).bind fun y s2 => if fits (acc ++ y).length then evF c es (acc ++ y) s2 else .bad
/-- arguments -/
def evAg (c : Cn) : Ag → S → R Ar
  | .v e, s => ((evX c e s).bind toVal).bind fun d s1 => .ok (.val d) s1
  | .b e, s => (evX c e s).bind fun d s1 => .ok (lend d) s1
def evA (c : Cn) : Ags → S → R (List Ar)
  | .nil, s => .ok [] s
  | .cons a as, s => (evAg c a s).bind fun d s1 => (evA c as s1).bind fun ds s2 => .ok (d :: ds) s2
def evO (c : Cn) : Ox → S → R (Option Int)
  | .no, s => .ok none s
  | .yes e, s => (evX c e s).bind optI
/-- and, or as values: bools but for the last -/
def evB (c : Cn) : Bool → Exs → S → R SV
  | _, .nil, _ => .bad
  | k, .cons e es, s => (evX c e s).bind fun x s1 => (match es with
    | .nil => .ok x s1
    | es => (match x with
      | .val (.bl b) => if b = k then evB c k es s1 else .ok (.val (.bl b)) s1
      | _ => .bad))
/-- tests -/
def evT (c : Cn) : Te → S → R Bool
  | .x e, s => (evX c e s).bind fun x s1 => lif (truD s1 x) s1
  | .n t, s => (evT c t s).bind fun b s1 => .ok (!b) s1
  | .b k ts, s => evTB c k ts s
def evTB (c : Cn) : Bool → Tes → S → R Bool
  | k, .nil, s => .ok k s
  | k, .cons e es, s => (evT c e s).bind fun b s1 => if b = k then evTB c k es s1 else .ok b s1
/-- what is walked -/
def evI (c : Cn) : It → S → R Itm
  | .rng es, s => (evXs c es s).bind fun xs s1 => lif (rngD xs) s1
  | .enum e, s => (evX c e s).bind fun x s1 => lif ((seq s1 x).map fun xs => ⟨pairs 0 xs, plcC x xs, plcV x xs s1⟩) s1
  | .zip a b, s => (evX c a s).bind fun x s1 => (evX c b s1).bind fun y s2 => lif (if isTup x = isTup y then (seq s2 x).bind fun xs => (seq s2 y).map fun ys => ⟨zips xs ys, plcC x xs ++ plcC y ys, plcV x xs s2 ++ plcV y ys s2⟩ else none) s2
  | .q e, s => (evX c e s).bind fun x s1 => lif (ofSeq s1 x) s1
/-- d goes to the target -/
def evG (c : Cn) : Tg → D → S → R Unit
  | .name i, d, s => setName i (.val d) s
  | .tup ts, d, s => (match d with
    | .tup xs => if xs.length = ts.len then evGs c ts xs s else .bad
    | .loc n => (match cell s.M n with
      | some xs => if xs.length = ts.len then evGs c ts xs s else .bad
      | none => .bad)
    | _ => .bad)
  | .sub o i, d, s => (evX c o s).bind fun x s1 => (evX c i s1).bind fun y s2 => (lif (setD x y d s2) s2).bind fun s' _ => .ok () s'
def evGs (c : Cn) : Tgs → List D → S → R Unit
  | .nil, ds, s => (match ds with
    | [] => .ok () s
    | _ => .bad)
  | .cons t ts, ds, s => (match ds with
    | d :: ds => (evG c t d s).bind fun _ s1 => evGs c ts ds s1
    | [] => .bad)
end
def evE (c : Cn) (e : Ex) (s : S) : R D := (evX c e s).bind toVal
/-- what is handed back -/
def retD (s : S) : SV → R Fl
  | .val d => .ok (.rt (.val d)) s
  | .new xs => .ok (.rt (.own xs)) s
  | .var i => (match s.v[i]? with
    | some (.own xs) => .ok (.rt (.own xs)) s
    | _ => .bad)
def augD (i : Nat) (op : Operator) (y : SV) (s : S) : R Fl := match s.v[i]? with
  | some (.val d) => (match binD op (.val d) y s with
    | some (.val z) => .ok .nx ⟨s.v.set i (.val z), s.M⟩
    | _ => .bad)
  | _ => .bad
mutual
def evS (c : Cn) : Stm → S → R Fl
  | .ex e, s => (evX c e s).bind fun _ s1 => .ok .nx s1
  | .asg t e, s => ((evX c e s).bind toVal).bind fun d s1 => (evG c t d s1).bind fun _ s2 => .ok .nx s2
  | .own i e, s => (evX c e s).bind fun x s1 => (match x with
    | .new xs => (setName i (.own xs) s1).bind fun _ s2 => .ok .nx s2
    | _ => .bad)
  | .par2 i j a b, s => ((evX c a s).bind toVal).bind fun x s1 => ((evX c b s1).bind toVal).bind fun y s2 =>
      (setName i (.val x) s2).bind fun _ s3 => (setName j (.val y) s3).bind fun _ s4 => .ok .nx s4
  | .par3 i j k a b e, s => ((evX c a s).bind toVal).bind fun x s1 => ((evX c b s1).bind toVal).bind fun y s2 => ((evX c e s2).bind toVal).bind fun z s3 =>
      (setName i (.val x) s3).bind fun _ s4 => (setName j (.val y) s4).bind fun _ s5 => (setName k (.val z) s5).bind fun _ s6 => .ok .nx s6
  | .aug i op e, s => (evX c e s).bind fun y s1 => augD i op y s1
  | .ret e, s => (evX c e s).bind fun x s1 => retD s1 x
  | .retN, s => .ok (.rt (.val .non)) s
  | .ite t a b, s => (evT c t s).bind fun k s1 => if k then evSs c a s1 else evSs c b s1
  | .whl t b, s => whlL (evT c t) (evSs c b) WF s
  | .fors t it b, s => (evI c it s).bind fun m s1 => unl m.lks (forL m.ok (fun x s2 => (evG c t x s2).bind fun _ s3 => evSs c b s3) m.xs ⟨lock s1.v m.lks, s1.M⟩)
  | .pass, s => .ok .nx s
  | .brk, s => .ok .bk s
  | .cnt, s => .ok .ct s
def evSs (c : Cn) : Stms → S → R Fl
  | .nil, s => .ok .nx s
  | .cons st ss, s => (evS c st s).bind fun f s1 => (match f with
    | .nx => evSs c ss s1
    | f => .ok f s1)
end
abbrev Prog := List (Str × Fn)
def argsOf (fd : Fn) (as : List Slot) : Option (List Slot) :=
  if as.length ≤ fd.ps.length ∧ fd.ps.length - as.length ≤ fd.dfl.length then some (as ++ (fd.dfl.drop (fd.dfl.length - (fd.ps.length - as.length))).map Slot.val) else none
/-- values by name, in the sequence of the parameters -/
def pick {α : Type} (l : List (Str × α)) : List Str → Option (List α)
  | [] => some []
  | p :: ps => (l.lookup p).bind fun a => (pick l ps).map (a :: ·)
def ofBody : R Fl → RF
  | .ok .nx s => .ok (.val .non) s.M
  | .ok (.rt o) s => .ok o s.M
  | .ok _ _ => .bad
  | .exc x s => .exc x s.M
  | .bad => .bad
def runFn (c : Cn) (fd : Fn) (as : List Slot) (M : List Cell) : RF := match argsOf fd as with
  | some vs => ofBody (evSs c fd.body ⟨vs ++ List.replicate (fd.N.length - fd.ps.length) .no, M⟩)
  | none => .bad
def kbOf (P : Prog) (f : Str) (n : Nat) (ks : List Str) (as : List Slot) : Option (List Slot) := if as.length = ks.length then (P.lookup f).bind fun fd => pick (ks.zip as) fd.ps else none
def run (P : Prog) (gl : Str → Option D) : Nat → Str → List Slot → List Cell → RF
  | 0, _, _, _ => .bad
  | n + 1, f, as, M => match P.lookup f with
    | some fd => runFn ⟨run P gl n, kbOf P, gl⟩ fd as M
    | none => .bad
end G

/-! ## GRel -/
set_option Elab.async false
set_option linter.all false
set_option maxRecDepth 100000
set_option maxHeartbeats 2000000
namespace G
open PySem PySem.Spec PyProof.Rows L2

/-! ## plain data and the abstract heap -/
mutual
def DR (K : PySem.W.Frag) (μ : List Addr) (H : Hp) : D → V → Prop
  | .non, v => v = .non
  | .bl b, v => v = .bl b
  | .int i, v => v = .int i
  | .str x, v => v = .str x
  | .tup xs, v => ∃ a vs, v = .ref a ∧ SqT K H a vs ∧ DRs K μ H xs vs
  | .loc n, v => ∃ a, v = .ref a ∧ μ[n]? = some a
def DRs (K : PySem.W.Frag) (μ : List Addr) (H : Hp) : List D → List V → Prop
  | [], vs => vs = []
  | x :: xs, vs => ∃ v r, vs = v :: r ∧ DR K μ H x v ∧ DRs K μ H xs r
end
/-- what the heap keeps: tuples -/
def TupK (H H' : Hp) : Prop := ∀ a vs, Rd H a (.tup vs) → Rd H' a (.tup vs)
theorem TupK.sqT {K : PySem.W.Frag} {H H' : Hp} (t : TupK H H') {a : Addr} {vs : List V} (h : SqT K H a vs) : SqT K H' a vs := by
  rcases h with h | h
  · exact .inl (t _ _ h)
  · exact .inr h
theorem pre_get {α : Type} {l l' : List α} (h : l <+: l') {n : Nat} {a : α} (e : l[n]? = some a) : l'[n]? = some a := by
  obtain ⟨r, rfl⟩ := h
  rw [List.getElem?_append_left (List.getElem?_eq_some_iff.mp e).1]
  exact e
section
variable {K : PySem.W.Frag} {μ μ' : List Addr} {H H' : Hp}
mutual
theorem DR.mono (p : μ <+: μ') (t : TupK H H') : ∀ (d : D) (v : V), DR K μ H d v → DR K μ' H' d v
  | .non, _, h => h
  | .bl _, _, h => h
  | .int _, _, h => h
  | .str _, _, h => h
  | .tup xs, _, h => by
    simp only [DR] at h ⊢
    obtain ⟨a, vs, e, q, r⟩ := h
    exact ⟨a, vs, e, t.sqT q, DRs.mono p t xs vs r⟩
  | .loc n, _, h => by
    simp only [DR] at h ⊢
    obtain ⟨a, e, q⟩ := h
    exact ⟨a, e, pre_get p q⟩
theorem DRs.mono (p : μ <+: μ') (t : TupK H H') : ∀ (ds : List D) (vs : List V), DRs K μ H ds vs → DRs K μ' H' ds vs
  | [], _, h => h
  | x :: xs, _, h => by
    simp only [DRs] at h ⊢
    obtain ⟨v, r, e, q, z⟩ := h
    exact ⟨v, r, e, DR.mono p t x v q, DRs.mono p t xs r z⟩
end
theorem DRs.length : ∀ {ds : List D} {vs : List V}, DRs K μ H ds vs → vs.length = ds.length
  | [], _, h => by simp only [DRs] at h; rw [h]; rfl
  | _ :: xs, _, h => by
    simp only [DRs] at h
    obtain ⟨v, r, e, _, z⟩ := h
    rw [e, List.length_cons, List.length_cons, DRs.length z]
theorem DRs.get : ∀ {ds : List D} {vs : List V} {i : Nat} {d : D}, DRs K μ H ds vs → ds[i]? = some d → ∃ v, vs[i]? = some v ∧ DR K μ H d v
  | [], _, _, _, _, e => by simp at e
  | x :: xs, _, i, d, h, e => by
    simp only [DRs] at h
    obtain ⟨v, r, rfl, q, z⟩ := h
    cases i with
    | zero => simp at e; subst e; exact ⟨v, rfl, q⟩
    | succ i => simp at e; obtain ⟨u, e1, e2⟩ := DRs.get z e; exact ⟨u, by simpa using e1, e2⟩
theorem DRs.append : ∀ {ds es : List D} {vs us : List V}, DRs K μ H ds vs → DRs K μ H es us → DRs K μ H (ds ++ es) (vs ++ us)
  | [], _, _, _, h, k => by simp only [DRs] at h; subst h; exact k
  | x :: xs, _, _, _, h, k => by
    simp only [DRs] at h
    obtain ⟨v, r, rfl, q, z⟩ := h
    simp only [List.cons_append, DRs]
    exact ⟨v, _, rfl, q, DRs.append z k⟩
theorem DRs.one {d : D} {v : V} (h : DR K μ H d v) : DRs K μ H [d] [v] := by
  simp only [DRs]; exact ⟨v, [], rfl, h, rfl⟩
theorem DRs.cons {d : D} {v : V} {ds : List D} {vs : List V} (h : DR K μ H d v) (k : DRs K μ H ds vs) : DRs K μ H (d :: ds) (v :: vs) := by
  simp only [DRs]; exact ⟨v, vs, rfl, h, k⟩
theorem DRs.nil : DRs K μ H [] [] := by simp only [DRs]
theorem DRs.take : ∀ {ds : List D} {vs : List V} (n : Nat), DRs K μ H ds vs → DRs K μ H (ds.take n) (vs.take n)
  | _, _, 0, _ => by simp [DRs]
  | [], _, n + 1, h => by simp only [DRs] at h; subst h; simp [DRs]
  | x :: xs, _, n + 1, h => by
    simp only [DRs] at h
    obtain ⟨v, r, rfl, q, z⟩ := h
    simp only [List.take_succ_cons]
    exact .cons q (DRs.take n z)
theorem DRs.drop : ∀ {ds : List D} {vs : List V} (n : Nat), DRs K μ H ds vs → DRs K μ H (ds.drop n) (vs.drop n)
  | _, _, 0, h => h
  | [], _, n + 1, h => by simp only [DRs] at h; subst h; simp [DRs]
  | x :: xs, _, n + 1, h => by
    simp only [DRs] at h
    obtain ⟨v, r, rfl, q, z⟩ := h
    simp only [List.drop_succ_cons]
    exact DRs.drop n z
theorem DRs.set : ∀ {ds : List D} {vs : List V} (i : Nat) {d : D} {v : V}, DRs K μ H ds vs → DR K μ H d v → DRs K μ H (ds.set i d) (vs.set i v)
  | [], _, _, _, _, h, _ => by simp only [DRs] at h; subst h; simp [DRs]
  | x :: xs, _, 0, _, _, h, k => by
    simp only [DRs] at h
    obtain ⟨v, r, rfl, q, z⟩ := h
    exact .cons k z
  | x :: xs, _, i + 1, _, _, h, k => by
    simp only [DRs] at h
    obtain ⟨v, r, rfl, q, z⟩ := h
    exact .cons q (DRs.set i z k)
theorem DRs.eraseIdx : ∀ {ds : List D} {vs : List V} (i : Nat), DRs K μ H ds vs → DRs K μ H (ds.eraseIdx i) (vs.eraseIdx i)
  | [], _, _, h => by simp only [DRs] at h; subst h; simp [DRs]
  | x :: xs, _, 0, h => by
    simp only [DRs] at h
    obtain ⟨v, r, rfl, q, z⟩ := h
    exact z
  | x :: xs, _, i + 1, h => by
    simp only [DRs] at h
    obtain ⟨v, r, rfl, q, z⟩ := h
    exact .cons q (DRs.eraseIdx i z)
theorem DRs.reverse : ∀ {ds : List D} {vs : List V}, DRs K μ H ds vs → DRs K μ H ds.reverse vs.reverse
  | [], _, h => by simp only [DRs] at h; subst h; simp [DRs]
  | x :: xs, _, h => by
    simp only [DRs] at h
    obtain ⟨v, r, rfl, q, z⟩ := h
    rw [List.reverse_cons, List.reverse_cons]
    exact DRs.append (DRs.reverse z) (.one q)
theorem DRs.dropLast {ds : List D} {vs : List V} (h : DRs K μ H ds vs) : DRs K μ H ds.dropLast vs.dropLast := by
  rw [List.dropLast_eq_take, List.dropLast_eq_take, h.length]
  exact h.take _
theorem DRs.rep {ds : List D} {vs : List V} (h : DRs K μ H ds vs) : ∀ n : Nat, DRs K μ H (List.replicate n ds).flatten (List.replicate n vs).flatten
  | 0 => by simp [DRs]
  | n + 1 => by
    rw [List.replicate_succ, List.replicate_succ, List.flatten_cons, List.flatten_cons]
    exact DRs.append h (DRs.rep h n)
end

/-! ## dicts with texts as keys -/
def PRs (K : PySem.W.Frag) (μ : List Addr) (H : Hp) : List (Str × D) → List (Key × V) → Prop
  | [], ps => ps = []
  | x :: r, ps => ∃ v q, ps = (Sum.inr x.1, v) :: q ∧ DR K μ H x.2 v ∧ PRs K μ H r q
section
variable {K : PySem.W.Frag} {μ μ' : List Addr} {H H' : Hp}
theorem PRs.mono (p : μ <+: μ') (t : TupK H H') : ∀ (ks : List (Str × D)) (ps : List (Key × V)), PRs K μ H ks ps → PRs K μ' H' ks ps
  | [], _, h => h
  | x :: r, _, ⟨v, q, e, h1, h2⟩ => ⟨v, q, e, DR.mono p t _ _ h1, PRs.mono p t r q h2⟩
theorem PRs.length : ∀ {ks : List (Str × D)} {ps : List (Key × V)}, PRs K μ H ks ps → ps.length = ks.length
  | [], _, h => by rw [show _ = [] from h]; rfl
  | _ :: r, _, ⟨v, q, e, _, h2⟩ => by rw [e, List.length_cons, List.length_cons, PRs.length h2]
theorem key_ne {a b : Str} (h : ¬ a = b) : ¬ (Sum.inr a : Key) = Sum.inr b := fun e => h (Sum.inr.inj e)
theorem PRs.get {k : Str} : ∀ {ks : List (Str × D)} {ps : List (Key × V)}, PRs K μ H ks ps → (getS ks k = none ∧ valV ps (Sum.inr k) = none) ∨ ∃ d v, getS ks k = some d ∧ valV ps (Sum.inr k) = some v ∧ DR K μ H d v
  | [], _, h => by rw [show _ = [] from h]; exact .inl ⟨rfl, rfl⟩
  | x :: r, _, ⟨v, q, e, h1, h2⟩ => by
    subst e
    unfold getS
    by_cases hk : x.1 = k
    · rw [if_pos hk]
      exact .inr ⟨_, v, rfl, valV_pos (by rw [hk]), h1⟩
    · rw [if_neg hk, valV_neg (key_ne hk)]
      exact PRs.get h2
theorem putK_cons {κ : Type} [DecidableEq κ] {p : κ × V} {r : List (κ × V)} {k : κ} {v : V} (h : ¬ p.1 = k) : putK (p :: r) k v = p :: putK r k v := by
  unfold putK
  rw [List.any_cons, decide_eq_false h, Bool.false_or, List.map_cons, if_neg h]
  split <;> rfl
theorem putK_miss {κ : Type} [DecidableEq κ] {k : κ} {v : V} : ∀ {r : List (κ × V)}, k ∉ r.map (·.1) → r.map (fun kv => if kv.1 = k then (kv.1, v) else kv) = r
  | [], _ => rfl
  | p :: r, h => by
    rw [List.map_cons, List.mem_cons, not_or] at h
    rw [List.map_cons, if_neg (fun e => h.1 e.symm), putK_miss h.2]
theorem PRs.keys : ∀ {ks : List (Str × D)} {ps : List (Key × V)}, PRs K μ H ks ps → ps.map (·.1) = ks.map fun x => Sum.inr x.1
  | [], _, h => by rw [show _ = [] from h]; rfl
  | x :: r, _, ⟨v, q, e, _, h2⟩ => by rw [e, List.map_cons, List.map_cons, PRs.keys h2]
theorem PRs.put {k : Str} {d : D} {v : V} (hv : DR K μ H d v) : ∀ {ks : List (Str × D)} {ps : List (Key × V)}, (ks.map (·.1)).Nodup → PRs K μ H ks ps → PRs K μ H (putS ks k d) (putK ps (Sum.inr k) v)
  | [], _, _, h => by rw [show _ = [] from h]; exact ⟨v, [], rfl, hv, rfl⟩
  | x :: r, _, nd, ⟨u, q, e, h1, h2⟩ => by
    subst e
    rw [List.map_cons, List.nodup_cons] at nd
    unfold putS
    by_cases hk : x.1 = k
    · rw [if_pos hk]
      refine ⟨v, q, ?_, hv, h2⟩
      unfold putK
      rw [List.any_cons, decide_eq_true (by rw [hk]), Bool.true_or, if_pos rfl, List.map_cons, if_pos (by rw [hk]), putK_miss, hk]
      rw [h2.keys]
      intro hm
      obtain ⟨y, hy, e⟩ := List.mem_map.mp hm
      exact nd.1 (List.mem_map.mpr ⟨y, hy, by rw [Sum.inr.inj e, hk]⟩)
    · rw [if_neg hk, putK_cons (key_ne hk)]
      exact ⟨u, _, rfl, h1, PRs.put hv nd.2 h2⟩
theorem PRs.zip : ∀ {ks : List Str} {ds : List D} {vs : List V}, DRs K μ H ds vs → PRs K μ H (ks.zip ds) ((ks.map Sum.inr).zip vs)
  | [], _, _, _ => rfl
  | k :: ks, [], _, h => by simp only [DRs] at h; subst h; rfl
  | k :: ks, d :: ds, _, h => by
    simp only [DRs] at h
    obtain ⟨v, r, rfl, q, z⟩ := h
    exact ⟨v, _, rfl, q, PRs.zip z⟩
end
theorem putS_keys {k : Str} {d : D} : ∀ {ks : List (Str × D)}, (ks.map (·.1)).Nodup → ((putS ks k d).map (·.1)).Nodup ∧ ∀ z ∈ (putS ks k d).map (·.1), z = k ∨ z ∈ ks.map (·.1)
  | [], _ => by simp [putS]
  | x :: r, h => by
    rw [List.map_cons, List.nodup_cons] at h
    unfold putS
    by_cases hk : x.1 = k
    · rw [if_pos hk]
      refine ⟨by rw [List.map_cons, List.nodup_cons]; exact ⟨by rw [← hk]; exact h.1, h.2⟩, fun z hz => ?_⟩
      rw [List.map_cons, List.mem_cons] at hz ⊢
      exact hz.imp id .inr
    · rw [if_neg hk]
      obtain ⟨i1, i2⟩ := putS_keys (k := k) (d := d) h.2
      refine ⟨?_, fun z hz => ?_⟩
      · rw [List.map_cons, List.nodup_cons]
        refine ⟨fun hm => ?_, i1⟩
        rcases i2 _ hm with e | e
        · exact hk e
        · exact h.1 e
      · rw [List.map_cons, List.mem_cons] at hz ⊢
        rcases hz with rfl | hz
        · exact .inr (.inl rfl)
        · exact (i2 z hz).imp id .inr

/-! ## states -/
/-- a list of the written part -/
def KLst (K : PySem.W.Frag) (a : Addr) (vs : List V) : Prop :=
  ∃ (o : Obj) (its : Array Value) (n : Nat), K.lookup a = some o ∧ o.cls = .type "list" ∧ o.dict = none ∧ o.data = .seq its n ∧ its.size ≤ sizeLine ∧ Vals vs its.toList
structure Cf where
  μ : List Addr
  ρ : Addr → Prop
  s : G.S
  σ : L2.St
  H : Hp
def OwnAt (c : Cf) (i : Nat) (a : Addr) : Prop := (∃ xs, c.s.v[i]? = some (.own xs)) ∧ c.σ[i]? = some (some (.ref a))
/-- what may be written -/
def Foot (c : Cf) (b : Addr) : Prop := b ∈ c.μ ∨ ∃ i, OwnAt c i b
def CellR (K : PySem.W.Frag) (μ : List Addr) (H : Hp) (a : Addr) : Cell → Prop
  | .lst xs => ∃ vs, H a = some (.lst vs) ∧ DRs K μ H xs vs
  | .dct kvs => ∃ ps, H a = some (.dK ps) ∧ PRs K μ H kvs ps ∧ (kvs.map (·.1)).Nodup
theorem CellR.mono {K : PySem.W.Frag} {μ μ' : List Addr} {H H' : Hp} {a : Addr} (p : μ <+: μ') (t : TupK H H') (e : ∀ o, H a = some o → H' a = some o) {cl : Cell} (h : CellR K μ H a cl) : CellR K μ' H' a cl := by
  cases cl with
  | lst xs => obtain ⟨vs, q1, q2⟩ := h; exact ⟨vs, e _ q1, DRs.mono p t _ _ q2⟩
  | dct kvs => obtain ⟨ps, q1, q2, q3⟩ := h; exact ⟨ps, e _ q1, PRs.mono p t _ _ q2, q3⟩
/-- what may be written -/
def Wr : HO → Prop
  | .lst _ => True
  | .dK _ => True
  | _ => False
theorem CellR.wr {K : PySem.W.Frag} {μ : List Addr} {H : Hp} {a : Addr} {cl : Cell} (h : CellR K μ H a cl) : ∃ o, H a = some o ∧ Wr o := by
  cases cl with
  | lst xs => obtain ⟨vs, q1, _⟩ := h; exact ⟨_, q1, trivial⟩
  | dct kvs => obtain ⟨ps, q1, _⟩ := h; exact ⟨_, q1, trivial⟩
def SlotR (K : PySem.W.Frag) (c : Cf) (o : Option (Option V)) : Slot → Prop
  | .no => True
  | .val d => ∃ v, o = some (some v) ∧ DR K c.μ c.H d v
  | .own xs => ∃ a vs, o = some (some (.ref a)) ∧ c.H a = some (.lst vs) ∧ DRs K c.μ c.H xs vs
  | .ro xs => ∃ a vs, o = some (some (.ref a)) ∧ DRs K c.μ c.H xs vs ∧ (KLst K a vs ∨ (c.ρ a ∧ Rd c.H a (.lst vs)))
structure SR (K : PySem.W.Frag) (c : Cf) : Prop where
  len : c.s.v.length = c.σ.length
  mlen : c.μ.length = c.s.M.length
  nd : c.μ.Nodup
  cell : ∀ (n : Nat) cl a, c.s.M[n]? = some cl → c.μ[n]? = some a → CellR K c.μ c.H a cl
  slot : ∀ (i : Nat) x, c.s.v[i]? = some x → SlotR K c c.σ[i]? x
  ownd : ∀ i j a, OwnAt c i a → OwnAt c j a → i = j
  ownm : ∀ i a, OwnAt c i a → a ∉ c.μ
  rho : ∀ b, c.ρ b → (∃ o, c.H b = some o) ∧ ¬ Foot c b
/-- from one state to a later one -/
structure Stp (c c' : Cf) : Prop where
  pre : c.μ <+: c'.μ
  rh : c'.ρ = c.ρ
  frame : ∀ b o, c.H b = some o → ¬ Foot c b → c'.H b = some o
  grow : ∀ b, Foot c' b → Foot c b ∨ c.H b = none
  trk : ∀ b o, c.H b = some o → ∃ o', c'.H b = some o'
  tup : TupK c.H c'.H
  ros : ∀ (i : Nat) xs, c'.s.v[i]? = some (.ro xs) → c.s.v[i]? = some (.ro xs) ∧ c'.σ[i]? = c.σ[i]?
  ron : ∀ (i : Nat) xs, c.s.v[i]? = some (.ro xs) → c'.s.v[i]? = some (.ro xs)
theorem Stp.refl (c : Cf) : Stp c c := ⟨List.prefix_refl _, rfl, fun _ _ h _ => h, fun _ h => .inl h, fun _ o h => ⟨o, h⟩, fun _ _ h => h, fun _ _ h => ⟨h, rfl⟩, fun _ _ h => h⟩
theorem Stp.untrk {c c' : Cf} (h : Stp c c') {b : Addr} (e : c'.H b = none) : c.H b = none := by
  cases q : c.H b with
  | none => rfl
  | some o =>
    obtain ⟨o', e'⟩ := h.trk b o q
    rw [e] at e'; cases e'
theorem Stp.trans {a b c : Cf} (h : Stp a b) (k : Stp b c) : Stp a c where
  pre := h.pre.trans k.pre
  rh := k.rh.trans h.rh
  frame := fun x o e n => k.frame x o (h.frame x o e n) fun z => by
    rcases h.grow x z with z | z
    · exact n z
    · rw [e] at z; cases z
  grow := fun x z => by
    rcases k.grow x z with z | z
    · exact h.grow x z
    · exact .inr (h.untrk z)
  trk := fun x o e => by
    obtain ⟨o', e'⟩ := h.trk x o e
    exact k.trk x o' e'
  tup := fun x vs e => k.tup x vs (h.tup x vs e)
  ros := fun i xs e => by
    obtain ⟨e1, e2⟩ := k.ros i xs e
    obtain ⟨e3, e4⟩ := h.ros i xs e1
    exact ⟨e3, e2.trans e4⟩
  ron := fun i xs e => k.ron i xs (h.ron i xs e)
section
variable {K : PySem.W.Frag} {c c' c2 : Cf}
theorem Stp.dr (h : Stp c c') {d : D} {v : V} (r : DR K c.μ c.H d v) : DR K c'.μ c'.H d v := DR.mono h.pre h.tup d v r
theorem Stp.drs (h : Stp c c') {d : List D} {v : List V} (r : DRs K c.μ c.H d v) : DRs K c'.μ c'.H d v := DRs.mono h.pre h.tup d v r
/-- what may be written is a list -/
theorem SR.foot (h : SR K c) {b : Addr} (f : Foot c b) : ∃ o, c.H b = some o ∧ Wr o := by
  rcases f with f | ⟨i, ⟨xs, e⟩, e2⟩
  · obtain ⟨n, hn, e⟩ := List.mem_iff_getElem.mp f
    have e1 : c.μ[n]? = some b := by rw [List.getElem?_eq_getElem hn, e]
    have hm : n < c.s.M.length := by rw [← h.mlen]; exact hn
    exact (h.cell n c.s.M[n] b (List.getElem?_eq_getElem hm) e1).wr
  · obtain ⟨a, vs, e3, e4, _⟩ := h.slot i _ e
    rw [e2] at e3
    cases e3
    exact ⟨_, e4, trivial⟩
theorem SR.tupF (h : SR K c) {a : Addr} {vs : List V} (r : Rd c.H a (.tup vs)) : ¬ Foot c a := fun f => by
  obtain ⟨ws, e, w⟩ := h.foot f
  rcases r with r | ⟨o, r⟩ <;> (rw [e] at r; cases r; exact w.elim)
theorem SR.fresh (h : SR K c) {p : Addr} (n : c.H p = none) : ¬ Foot c p ∧ ¬ c.ρ p := by
  refine ⟨fun f => ?_, fun r => ?_⟩
  · obtain ⟨ws, e, _⟩ := h.foot f
    rw [n] at e; cases e
  · obtain ⟨⟨o, e⟩, _⟩ := h.rho p r
    rw [n] at e; cases e
/-- a new object is laid that nobody owns -/
def Cf.lay (c : Cf) (p : Addr) (o : HO) : Cf := { c with H := upd c.H p o }
theorem tupK_lay {H : Hp} {p : Addr} {o : HO} (n : H p = none) : TupK H (upd H p o) := fun a vs r => by
  have ne : a ≠ p := by
    rintro rfl
    rcases r with r | ⟨_, r⟩ <;> (rw [n] at r; cases r)
  rcases r with r | ⟨u, r⟩
  · exact .inl (by rw [upd_ne ne]; exact r)
  · exact .inr ⟨u, by rw [upd_ne ne]; exact r⟩
theorem SlotR.mono {c c' : Cf} {o : Option (Option V)} {x : Slot} (p : c.μ <+: c'.μ) (t : TupK c.H c'.H) (hl : ∀ a vs, o = some (some (.ref a)) → (∃ xs, x = .own xs) → c.H a = some (.lst vs) → c'.H a = some (.lst vs))
    (hr : ∀ a vs, c.ρ a → Rd c.H a (.lst vs) → c'.ρ a ∧ Rd c'.H a (.lst vs)) (h : SlotR K c o x) : SlotR K c' o x := by
  cases x with
  | no => trivial
  | val d =>
    obtain ⟨v, e, r⟩ := h
    exact ⟨v, e, DR.mono p t _ _ r⟩
  | own xs =>
    obtain ⟨a, vs, e, q, r⟩ := h
    exact ⟨a, vs, e, hl a vs e ⟨xs, rfl⟩ q, DRs.mono p t _ _ r⟩
  | ro xs =>
    obtain ⟨a, vs, e, r, q⟩ := h
    refine ⟨a, vs, e, DRs.mono p t _ _ r, ?_⟩
    rcases q with q | ⟨q1, q2⟩
    · exact .inl q
    · exact .inr (hr a vs q1 q2)
theorem SR.laid (h : SR K c) {p : Addr} {o : HO} (n : c.H p = none) : SR K (c.lay p o) where
  len := h.len
  mlen := h.mlen
  nd := h.nd
  cell := fun m cl a e1 e2 => by
    have q := h.cell m cl a e1 e2
    have ne : a ≠ p := by
      rintro rfl
      exact (h.fresh n).1 (.inl (List.mem_of_getElem? e2))
    exact q.mono (List.prefix_refl _) (tupK_lay n) fun o e => by show upd c.H p _ a = _; rw [upd_ne ne]; exact e
  slot := fun i x e => by
    refine SlotR.mono (c := c) (c' := c.lay p o) (List.prefix_refl _) (tupK_lay n) (fun a vs e1 e2 e3 => ?_) (fun a vs e1 e2 => ⟨e1, ?_⟩) (h.slot i x e)
    · show upd c.H p o a = _
      rw [upd_ne (ne_of_none e3 n)]
      exact e3
    · rcases e2 with r | ⟨u, r⟩
      · exact .inl (by show upd c.H p o a = _; rw [upd_ne (ne_of_none r n)]; exact r)
      · exact .inr ⟨u, by show upd c.H p o a = _; rw [upd_ne (ne_of_none r n)]; exact r⟩
  ownd := h.ownd
  ownm := h.ownm
  rho := fun b r => by
    obtain ⟨⟨u, e⟩, nf⟩ := h.rho b r
    exact ⟨⟨u, by show upd c.H p o b = _; rw [upd_ne (ne_of_none e n)]; exact e⟩, nf⟩
theorem Stp.laid {p : Addr} {o : HO} (n : c.H p = none) : Stp c (c.lay p o) where
  pre := List.prefix_refl _
  rh := rfl
  frame := fun b u e _ => by show upd c.H p o b = _; rw [upd_ne (ne_of_none e n)]; exact e
  grow := fun b f => .inl f
  trk := fun b u e => ⟨u, by show upd c.H p o b = _; rw [upd_ne (ne_of_none e n)]; exact e⟩
  tup := tupK_lay n
  ros := fun i xs e => ⟨e, rfl⟩
  ron := fun i xs e => e
end

/-! ## what an expression's value is -/
def SVR (K : PySem.W.Frag) (c : Cf) : SV → V → Prop
  | .val d, v => DR K c.μ c.H d v
  | .new xs, v => ∃ a vs, v = .ref a ∧ c.H a = some (.lst vs) ∧ DRs K c.μ c.H xs vs ∧ ¬ Foot c a ∧ ¬ c.ρ a
  | .var i, v => c.σ[i]? = some (some v) ∧ ((∃ xs, c.s.v[i]? = some (.own xs)) ∨ ∃ xs, c.s.v[i]? = some (.ro xs))
def Fresh (H : Hp) : SV → V → Prop
  | .new _, v => ∀ a, v = .ref a → H a = none
  | _, _ => True
/-- an exception as data: its class, its fields, its own dict at d -/
def XR (K : PySem.W.Frag) (cn : Str → Option Addr) (c : Cf) (x : Xc) (cls : Value) (d : Option Addr) : Prop :=
  ∃ C fs, cn x.cls = some C ∧ cls = .ref C ∧ (x.fs = [] ∨ ∃ a, d = some a ∧ c.H a = some (.xd fs) ∧ ¬ Foot c a ∧ fs.map (·.1) = x.fs.map (·.1) ∧ DRs K c.μ c.H (x.fs.map (·.2)) (fs.map (·.2)))
section
variable {K : PySem.W.Frag} {c c' c2 : Cf}
/-- the names of the frame stay -/
def Vst (c c' : Cf) : Prop := c'.σ = c.σ ∧ ∀ i : Nat, ((∃ xs, c.s.v[i]? = some (Slot.own xs)) → ∃ xs, c'.s.v[i]? = some (Slot.own xs))
theorem Vst.refl (c : Cf) : Vst c c := ⟨rfl, fun _ h => h⟩
theorem Vst.trans {a b c : Cf} (h : Vst a b) (k : Vst b c) : Vst a c := ⟨k.1.trans h.1, fun i z => k.2 i (h.2 i z)⟩
theorem Stp.new (h : Stp c c') {a : Addr} {vs : List V} (e : c.H a = some (.lst vs)) (n : ¬ Foot c a) (r : ¬ c.ρ a) : c'.H a = some (.lst vs) ∧ ¬ Foot c' a ∧ ¬ c'.ρ a := by
  refine ⟨h.frame a _ e n, fun z => ?_, by rw [h.rh]; exact r⟩
  rcases h.grow a z with z | z
  · exact n z
  · rw [e] at z; cases z
theorem SVR.step (h : Stp c c') (hv : Vst c c') {x : SV} {v : V} (r : SVR K c x v) : SVR K c' x v := by
  cases x with
  | val d => exact h.dr r
  | new xs =>
    obtain ⟨a, vs, e, q, z, f1, f2⟩ := r
    obtain ⟨g1, g2, g3⟩ := h.new q f1 f2
    exact ⟨a, vs, e, g1, h.drs z, g2, g3⟩
  | var i =>
    obtain ⟨e, k⟩ := r
    show c'.σ[i]? = some (some v) ∧ _
    refine ⟨by rw [hv.1]; exact e, ?_⟩
    rcases k with k | ⟨xs, k⟩
    · exact .inl (hv.2 i k)
    · exact .inr ⟨xs, h.ron i xs k⟩
theorem Fresh.back (h : Stp c c') {x : SV} {v : V} (f : Fresh c'.H x v) : Fresh c.H x v := by
  cases x with
  | val d => trivial
  | new xs => exact fun a e => h.untrk (f a e)
  | var i => trivial
end

/-! ## promises over results -/
section
variable {α β : Type} {K : PySem.W.Frag} {c c' : Cf}
/-- an expression: the frame's names stay -/
def Post (K : PySem.W.Frag) (c : Cf) (r : R α) (Qn : α → Cf → Prop) (Qx : Xc → Cf → Prop) : Prop := match r with
  | .ok a s' => ∀ c', c'.s = s' → Stp c c' → SR K c' → Vst c c' → Qn a c'
  | .exc x s' => ∀ c', c'.s = s' → Stp c c' → SR K c' → Qx x c'
  | .bad => False
/-- a statement -/
def PostS (K : PySem.W.Frag) (c : Cf) (r : R α) (Qn : α → Cf → Prop) (Qx : Xc → Cf → Prop) : Prop := match r with
  | .ok a s' => ∀ c', c'.s = s' → Stp c c' → SR K c' → Qn a c'
  | .exc x s' => ∀ c', c'.s = s' → Stp c c' → SR K c' → Qx x c'
  | .bad => False
theorem Post.imp {r : R α} {Qn Qn' : α → Cf → Prop} {Qx : Xc → Cf → Prop} (h : Post K c r Qn Qx) (hq : ∀ a c', Stp c c' → SR K c' → Vst c c' → Qn a c' → Qn' a c') : Post K c r Qn' Qx := by
  cases r with
  | ok a s => exact fun c' e st sr vs => hq a c' st sr vs (h c' e st sr vs)
  | exc x s => exact h
  | bad => exact h
theorem PostS.imp {r : R α} {Qn Qn' : α → Cf → Prop} {Qx : Xc → Cf → Prop} (h : PostS K c r Qn Qx) (hq : ∀ a c', Stp c c' → SR K c' → Qn a c' → Qn' a c') : PostS K c r Qn' Qx := by
  cases r with
  | ok a s => exact fun c' e st sr => hq a c' st sr (h c' e st sr)
  | exc x s => exact h
  | bad => exact h
theorem Post.later {r : R α} {Qn : α → Cf → Prop} {Qx : Xc → Cf → Prop} (st : Stp c c') (vs : Vst c c') (h : Post K c r Qn Qx) : Post K c' r Qn Qx := by
  cases r with
  | ok a s => exact fun c2 e st2 sr vs2 => h c2 e (st.trans st2) sr (vs.trans vs2)
  | exc x s => exact fun c2 e st2 sr => h c2 e (st.trans st2) sr
  | bad => exact h
theorem PostS.later {r : R α} {Qn : α → Cf → Prop} {Qx : Xc → Cf → Prop} (st : Stp c c') (h : PostS K c r Qn Qx) : PostS K c' r Qn Qx := by
  cases r with
  | ok a s => exact fun c2 e st2 sr => h c2 e (st.trans st2) sr
  | exc x s => exact fun c2 e st2 sr => h c2 e (st.trans st2) sr
  | bad => exact h
theorem Post.bind {r : R α} {f : α → S → R β} {Qn : β → Cf → Prop} {Qx : Xc → Cf → Prop} (h : Post K c (r.bind f) Qn Qx) : Post K c r (fun a c' => Post K c' (f a c'.s) Qn Qx) Qx := by
  cases r with
  | ok a s =>
    intro c' e st sr vs
    subst e
    exact Post.later st vs h
  | exc x s => exact h
  | bad => exact h
theorem PostS.bindE {r : R α} {f : α → S → R β} {Qn : β → Cf → Prop} {Qx : Xc → Cf → Prop} (h : PostS K c (r.bind f) Qn Qx) : Post K c r (fun a c' => PostS K c' (f a c'.s) Qn Qx) Qx := by
  cases r with
  | ok a s =>
    intro c' e st sr vs
    subst e
    exact PostS.later st h
  | exc x s => exact h
  | bad => exact h
theorem PostS.bind {r : R α} {f : α → S → R β} {Qn : β → Cf → Prop} {Qx : Xc → Cf → Prop} (h : PostS K c (r.bind f) Qn Qx) : PostS K c r (fun a c' => PostS K c' (f a c'.s) Qn Qx) Qx := by
  cases r with
  | ok a s =>
    intro c' e st sr
    subst e
    exact PostS.later st h
  | exc x s => exact h
  | bad => exact h
/-- a step that is no more than a look -/
theorem Post.lif {o : Option α} {Qn : α → Cf → Prop} {Qx : Xc → Cf → Prop} (sr : SR K c) (h : Post K c (lif o c.s) Qn Qx) : ∃ a, o = some a ∧ Qn a c := by
  cases o with
  | none => exact h.elim
  | some a => exact ⟨a, rfl, h c rfl (Stp.refl c) sr (Vst.refl c)⟩
theorem Post.ok {a : α} {Qn : α → Cf → Prop} {Qx : Xc → Cf → Prop} (sr : SR K c) (h : Post K c (.ok a c.s) Qn Qx) : Qn a c := h c rfl (Stp.refl c) sr (Vst.refl c)
theorem PostS.ok {a : α} {Qn : α → Cf → Prop} {Qx : Xc → Cf → Prop} (sr : SR K c) (h : PostS K c (.ok a c.s) Qn Qx) : Qn a c := h c rfl (Stp.refl c) sr
end
end G

/-! ## GS1 -/
set_option Elab.async false
set_option linter.all false
set_option maxRecDepth 100000
set_option maxHeartbeats 2000000
namespace G
open PySem PySem.Spec PyProof.Rows L2

/-! ## weakest readings -/
section
variable (X : Cx)
def WpE (e : Expr) : TE := fun σ H Q => ∀ pins s, Inv X pins σ H s → wpAny (model X.prog X.w) X.A (eval e X.env) (EP X pins σ Q) X.xe s
def WpT (e : Expr) : TT := fun σ H Q => ∀ pins s, Inv X pins σ H s → wpAny (model X.prog X.w) X.A (isTrue e X.env (eval e X.env)) (TP X pins σ Q) X.xe s
def WpA (es : List Expr) : TA := fun σ H Q => ∀ pos pins s, Inv X pins σ H s → wpAny (model X.prog X.w) X.A (spliced (backTo pos (starEach es X.env))) (AP X pins σ Q) X.xe s
def WpS (st : Stmt) : TS := fun D σ H => ∀ pins s, Inv X pins σ H s → wpAny (model X.prog X.w) X.A (exec st X.env) (SP X pins D) X.xe s
def WpSs (st : List Stmt) : TS := fun D σ H => ∀ pins s, Inv X pins σ H s → wpAny (model X.prog X.w) X.A (execs st X.env) (SP X pins D) X.xe s
def WpG (t : Expr) : TG := fun v σ H Q => ∀ pins s u, Inv X pins σ H s → RelV v u → wpAny (model X.prog X.w) X.A (assign t X.env u) (fun _ s' => ∃ σ' H', Inv X pins σ' H' s' ∧ Q σ' H') X.xe s
def WpI (tg it : Expr) : TI := fun σ H R => ∀ pins s, Inv X pins σ H s → wpAny (model X.prog X.w) X.A (eval it X.env) (fun v s1 => wpAny (model X.prog X.w) X.A (pyIter v) (PIE X pins σ tg R) X.xe s1) X.xe s
def WpO (f : Value → Value → Sem Value) : R2 := fun x y H Q => ∀ pins s σ v u, Inv X pins σ H s → RelV x v → RelV y u → wpAny (model X.prog X.w) X.A (f v u) (EP X pins σ Q) X.xe s
def WpU (f : Value → Sem Value) : V → Hp → VK → Prop := fun x H Q => ∀ pins s σ v, Inv X pins σ H s → RelV x v → wpAny (model X.prog X.w) X.A (f v) (EP X pins σ Q) X.xe s
def WpC (f : Value) : List V → Hp → VK → Prop := fun xs H Q => ∀ pins s σ us, Inv X pins σ H s → Vals xs us → wpAny (model X.prog X.w) X.A (call f us) (EP X pins σ Q) X.xe s
def WpTr : V → Hp → (Bool → Hp → Prop) → Prop := fun x H Q => ∀ pins s σ v, Inv X pins σ H s → RelV x v → wpAny (model X.prog X.w) X.A (truthy v) (TP X pins σ Q) X.xe s
end
section
variable {X : Cx}
theorem peW (e : Expr) : PE X e (WpE X e) := ⟨fun pins s _ _ _ I h => h pins s I⟩
theorem ptW (e : Expr) : PT X e (WpT X e) := ⟨fun pins s _ _ _ I h => h pins s I⟩
theorem paW (es : List Expr) : PA X es (WpA X es) := ⟨fun pos pins s _ _ _ I h => h pos pins s I⟩
theorem psW (e : Stmt) : PS X e (WpS X e) := ⟨fun pins s _ _ _ I h => h pins s I⟩
theorem pssW (e : List Stmt) : PSs X e (WpSs X e) := ⟨fun pins s _ _ _ I h => h pins s I⟩
theorem pgW (e : Expr) : PG X e (WpG X e) := ⟨fun pins s _ _ _ u _ I r h => h pins s u I r⟩
theorem piW (tg e : Expr) : PI X tg e (WpI X tg e) := ⟨fun pins s _ _ _ I h => h pins s I⟩
theorem opW (f : Value → Value → Sem Value) : OpR X f (WpO X f) := fun pins s σ _ _ _ v u _ I r1 r2 h => h pins s σ v u I r1 r2
theorem unW (f : Value → Sem Value) : UnR X f (WpU X f) := fun pins s σ _ _ v _ I r h => h pins s σ v I r
theorem clW (f : Value) : CallR X f (WpC X f) := fun pins s σ _ _ us _ I r h => h pins s σ us I r
theorem trW : TruR X (WpTr X) := fun pins s σ _ _ v _ I r h => h pins s σ v I r
theorem WpE.of {e : Expr} {t : TE} {σ H Q} (h : PE X e t) (q : t σ H Q) : WpE X e σ H Q := fun pins s I => h.run pins s σ H Q I q
theorem WpT.of {e : Expr} {t : TT} {σ H Q} (h : PT X e t) (q : t σ H Q) : WpT X e σ H Q := fun pins s I => h.run pins s σ H Q I q
theorem WpA.of {e : List Expr} {t : TA} {σ H Q} (h : PA X e t) (q : t σ H Q) : WpA X e σ H Q := fun pos pins s I => h.run pos pins s σ H Q I q
theorem WpS.of {e : Stmt} {t : TS} {σ H D} (h : PS X e t) (q : t D σ H) : WpS X e D σ H := fun pins s I => h.run pins s σ H D I q
theorem WpSs.of {e : List Stmt} {t : TS} {σ H D} (h : PSs X e t) (q : t D σ H) : WpSs X e D σ H := fun pins s I => h.run pins s σ H D I q
theorem WpG.of {e : Expr} {t : TG} {v σ H Q} (h : PG X e t) (q : t v σ H Q) : WpG X e v σ H Q := fun pins s u I r => h.run pins s σ H v u Q I r q
theorem WpI.of {tg e : Expr} {t : TI} {σ H Q} (h : PI X tg e t) (q : t σ H Q) : WpI X tg e σ H Q := fun pins s I => h.run pins s σ H Q I q
theorem WpO.of {f : Value → Value → Sem Value} {r : R2} {x y H Q} (h : OpR X f r) (q : r x y H Q) : WpO X f x y H Q := fun pins s σ v u I r1 r2 => h pins s σ H x y v u Q I r1 r2 q
theorem WpU.of {f : Value → Sem Value} {r : V → Hp → VK → Prop} {x H Q} (h : UnR X f r) (q : r x H Q) : WpU X f x H Q := fun pins s σ v I r1 => h pins s σ H x v Q I r1 q
theorem WpC.of {f : Value} {r : List V → Hp → VK → Prop} {x H Q} (h : CallR X f r) (q : r x H Q) : WpC X f x H Q := fun pins s σ us I r1 => h pins s σ H x us Q I r1 q
theorem WpTr.of {r : V → Hp → (Bool → Hp → Prop) → Prop} {x H Q} (h : TruR X r) (q : r x H Q) : WpTr X x H Q := fun pins s σ v I r1 => h pins s σ H x v Q I r1 q
end

/-! ## operations on values -/
section
variable {X : Cx} {c : Cf}
/-- what is wanted of a value -/
def KV' (X : Cx) (c : Cf) (Q : VK) (x : SV) : Prop := ∀ c' v, c'.s = c.s → Stp c c' → SR X.K c' → Vst c c' → SVR X.K c' x v → Fresh c.H x v → Q v c'.H
theorem KV'.val {Q : VK} {d : D} {v : V} (sr : SR X.K c) (k : KV' X c Q (.val d)) (r : DR X.K c.μ c.H d v) : Q v c.H := k c v rfl (Stp.refl c) sr (Vst.refl c) r trivial
/-- a new list -/
theorem KV'.new {Q : VK} {xs : List D} {vs : List V} (sr : SR X.K c) (k : KV' X c Q (.new xs)) (r : DRs X.K c.μ c.H xs vs) : ∀ p, c.H p = none → Q (.ref p) (upd c.H p (.lst vs)) := fun p n => by
  refine k (c.lay p (.lst vs)) (.ref p) rfl (Stp.laid n) (sr.laid n) (Vst.refl c) ⟨p, vs, rfl, upd_same, ?_, ?_, ?_⟩ fun a e => by cases e; exact n
  · exact (Stp.laid n).drs r
  · exact (sr.fresh n).1
  · exact (sr.fresh n).2
theorem KV'.tup {Q : VK} {xs : List D} {vs : List V} (sr : SR X.K c) (k : KV' X c Q (.val (.tup xs))) (r : DRs X.K c.μ c.H xs vs) : ∀ p, c.H p = none → Q (.ref p) (upd c.H p (.tup vs)) := fun p n => by
  refine k (c.lay p (.tup vs)) (.ref p) rfl (Stp.laid n) (sr.laid n) (Vst.refl c) ?_ trivial
  show DR _ _ _ _ _
  simp only [DR]
  exact ⟨p, vs, rfl, .inl (.inl upd_same), (Stp.laid n).drs r⟩
theorem lt_of_blt {a b : Nat} (h : Nat.blt a b = true) : a < b := Nat.le_of_ble_eq_true h
theorem le_of_ble {a b : Nat} (h : Nat.ble a b = true) : a ≤ b := Nat.le_of_ble_eq_true h
theorem fits_of {n : Nat} (h : fits n = true) : n ≤ sizeLine := le_of_ble h
theorem mulOk_of {i j : Int} (h : (Sm i && Sm j) = true) : IntMulOk i j := by
  obtain ⟨h1, h2⟩ := Bool.and_eq_true_iff.mp h
  have b : ∀ k : Int, Sm k = true → Builtin.Int.intBits k ≤ LIM + 1 := fun k hk => by
    have := lt_of_blt hk
    unfold Builtin.Int.intBits
    split <;> omega
  exact IntMulOk.of_le (b i h1) (b j h2) (by unfold LIM; decide)
theorem op_mulS : OpR X (binaryOp .Mult) (rI (fun i j => (Sm i && Sm j) = true) fun i j => .int (i * j)) := opI fun _ _ _ _ _ _ _ hc q => mul_int q (mulOk_of hc)
theorem op_fdivS : OpR X (binaryOp .FloorDiv) (rI (fun i j => (decide (j ≠ 0) && Sd j) = true) fun i j => .int (i.fdiv j)) := opI fun i j _ _ _ _ _ hc q => by
  obtain ⟨h1, h2⟩ := Bool.and_eq_true_iff.mp hc
  exact floordiv_int (of_decide_eq_true h1) q (.inl (PyProof.noPylong_of_log2 (lt_of_blt h2)))
theorem op_powS : OpR X (binaryOp .Pow) (rI (fun i j => powOk i j = true) fun i j => .int (i ^ j.toNat)) := opI fun i j _ _ _ _ _ hc q => by
  unfold powOk at hc
  simp only [Bool.and_eq_true, decide_eq_true_eq] at hc
  exact pow_int_small hc.1.1 hc.1.2 hc.2 q
theorem op_shlS : OpR X (binaryOp .LShift) (rI (fun i j => powOk i j = true) fun i j => .int (i * 2 ^ j.toNat)) := opI fun i j _ _ _ _ _ hc q => by
  unfold powOk at hc
  simp only [Bool.and_eq_true, decide_eq_true_eq] at hc
  exact lshift_int_small hc.1.1 hc.1.2 hc.2 q
theorem int_ok {op : Operator} {i j k : Int} (h : intOp op i j = some k) {H : Hp} {Q : VK} (q : Q (.int k) H) : WpO X (binaryOp op) (.int i) (.int j) H Q := by
  unfold intOp at h
  split at h
  · cases h; exact WpO.of op_add ⟨_, _, rfl, rfl, q⟩
  · cases h; exact WpO.of op_sub ⟨_, _, rfl, rfl, q⟩
  · split at h
    · rename_i z; cases h; exact WpO.of op_mulS ⟨_, _, rfl, rfl, z, q⟩
    · cases h
  · split at h
    · rename_i z; cases h; exact WpO.of op_fdivS ⟨_, _, rfl, rfl, z, q⟩
    · cases h
  · split at h
    · rename_i z; cases h; exact WpO.of op_modN ⟨_, _, rfl, rfl, z, q⟩
    · cases h
  · split at h
    · rename_i z; cases h; exact WpO.of op_powS ⟨_, _, rfl, rfl, z, q⟩
    · cases h
  · split at h
    · rename_i z; cases h; exact WpO.of op_shlS ⟨_, _, rfl, rfl, z, q⟩
    · cases h
  · cases h
theorem gives_bb (a b : Bool) : Gives (Builtin.«int.__sub__» ⟨[.bool a, .bool b], []⟩) (.int ((if a = true then (1 : Int) else 0) - (if b = true then (1 : Int) else 0))) :=
  .of_wp fun M A E s Q h => by obtain ⟨hp, g, d, tk, os⟩ := s; wp_walk; exact ⟨_, rfl, h⟩
theorem op_subB : OpR X (binaryOp .Sub) fun x y H Q => ∃ a b : Bool, x = .bl a ∧ y = .bl b ∧ Q (.int ((if a = true then (1 : Int) else 0) - (if b = true then (1 : Int) else 0))) H := by
  intro pins s σ H x y v u Q I rx ry h
  obtain ⟨a, b, rfl, rfl, q⟩ := h
  cases rx
  cases ry
  exact binaryOp_gives (op := .Sub) (T := "bool") rfl rfl F.fills_bool_sub F.slot_bool_sub F.entry_int_sub (F.args_int_sub_2 _ _) (gives_bb a b) trivial ⟨.int _, H, I.tok _, ⟨_, rfl⟩, q⟩
/-- the list of a value, for reading -/
theorem cell_at {n : Nat} {a : Addr} {xs : List D} (sr : SR X.K c) (e : c.μ[n]? = some a) (h : cell c.s.M n = some xs) : ∃ vs, c.H a = some (.lst vs) ∧ DRs X.K c.μ c.H xs vs := by
  unfold cell at h
  split at h
  · rename_i ys q
    cases h
    exact sr.cell n _ a q e
  · cases h
theorem lis_ok {x : SV} {v : V} {xs : List D} (sr : SR X.K c) (r : SVR X.K c x v) (h : lis c.s x = some xs) : ∃ a vs, v = .ref a ∧ c.H a = some (.lst vs) ∧ DRs X.K c.μ c.H xs vs := by
  cases x with
  | val d =>
    cases d with
    | loc n =>
      obtain ⟨a, e, q⟩ := (show ∃ a, v = V.ref a ∧ c.μ[n]? = some a by simpa only [SVR, DR] using r)
      obtain ⟨vs, q1, q2⟩ := cell_at sr q h
      exact ⟨a, vs, e, q1, q2⟩
    | _ => simp only [lis] at h; cases h
  | new ys =>
    simp only [lis] at h
    cases h
    obtain ⟨a, vs, e, q, z, _⟩ := r
    exact ⟨a, vs, e, q, z⟩
  | var i =>
    simp only [lis] at h
    split at h
    · rename_i ys q
      cases h
      obtain ⟨a, vs, e, z1, z2⟩ := sr.slot i _ q
      have e1 := r.1
      rw [e] at e1
      cases e1
      exact ⟨a, vs, rfl, z1, z2⟩
    · cases h
theorem sqL_of_ro {a : Addr} {vs : List V} (h : KLst X.K a vs ∨ (c.ρ a ∧ Rd c.H a (.lst vs))) : SqL X.K c.H a vs := by
  rcases h with h | ⟨_, h⟩
  · exact .inr h
  · exact .inl h
/-- the items of a list or a tuple, for reading -/
theorem seq_ok {x : SV} {v : V} {xs : List D} (sr : SR X.K c) (r : SVR X.K c x v) (h : seq c.s x = some xs) : ∃ a vs, v = .ref a ∧ DRs X.K c.μ c.H xs vs ∧ (SqL X.K c.H a vs ∨ SqT X.K c.H a vs) := by
  cases x with
  | val d =>
    cases d with
    | loc n =>
      obtain ⟨a, e, q⟩ := (show ∃ a, v = V.ref a ∧ c.μ[n]? = some a by simpa only [SVR, DR] using r)
      obtain ⟨vs, q1, q2⟩ := cell_at sr q h
      exact ⟨a, vs, e, q2, .inl (.of q1)⟩
    | tup ys =>
      simp only [seq] at h
      cases h
      obtain ⟨a, vs, e, q, z⟩ := (show ∃ a vs, v = V.ref a ∧ SqT X.K c.H a vs ∧ DRs X.K c.μ c.H xs vs by simpa only [SVR, DR] using r)
      exact ⟨a, vs, e, z, .inr q⟩
    | _ => simp only [seq] at h; cases h
  | new ys =>
    simp only [seq] at h
    cases h
    obtain ⟨a, vs, e, q, z, _⟩ := r
    exact ⟨a, vs, e, z, .inl (.of q)⟩
  | var i =>
    simp only [seq] at h
    split at h
    · rename_i ys q
      cases h
      obtain ⟨a, vs, e, z1, z2⟩ := sr.slot i _ q
      have e1 := r.1
      rw [e] at e1
      cases e1
      exact ⟨a, vs, rfl, z2, .inl (.of z1)⟩
    · rename_i ys q
      cases h
      obtain ⟨a, vs, e, z1, z2⟩ := sr.slot i _ q
      have e1 := r.1
      rw [e] at e1
      cases e1
      exact ⟨a, vs, rfl, z1, .inl (sqL_of_ro z2)⟩
    · cases h
theorem not_nil {xs : List D} {vs : List V} (r : DRs X.K c.μ c.H xs vs) (h : (!xs.isEmpty) = true) : vs ≠ [] := fun e => by
  have l := r.length
  rw [e] at l
  cases xs with
  | nil => cases h
  | cons => cases l
theorem cat_ok {xs ys : List D} {vs us : List V} (r : DRs X.K c.μ c.H xs vs) (k : DRs X.K c.μ c.H ys us) (h : catOk xs ys = true) : vs.length + us.length ≤ sizeLine := by
  rw [r.length, k.length, ← List.length_append, List.length_append]
  exact fits_of h
theorem str_ok {op : Operator} {x y z : Str} (h : strOp op x y = some z) {H : Hp} {Q : VK} (q : Q (.str z) H) : WpO X (binaryOp op) (.str x) (.str y) H Q := by
  unfold strOp at h
  split at h
  · split at h
    · rename_i z; cases h
      exact WpO.of op_add_str ⟨_, _, rfl, rfl, le_of_ble z, q⟩
    · cases h
  · cases h
theorem bin_ok {op : Operator} {x y z : SV} {v u : V} {Q : VK} (sr : SR X.K c) (rx : SVR X.K c x v) (ry : SVR X.K c y u) (h : binD op x y c.s = some z) (k : KV' X c Q z) : WpO X (binaryOp op) v u c.H Q := by
  unfold binD at h
  split at h
  · -- ints
    obtain ⟨i, e, h⟩ := Option.map_eq_some_iff.mp h
    cases h
    simp only [SVR, DR] at rx ry
    subst rx ry
    exact int_ok e (k.val sr (by simp only [DR]))
  · obtain ⟨i, e, h⟩ := Option.map_eq_some_iff.mp h
    cases h
    simp only [SVR, DR] at rx ry
    subst rx ry
    exact str_ok e (k.val sr (by simp only [DR]))
  · split at h
    · cases h
      simp only [SVR, DR] at rx ry
      subst rx ry
      exact WpO.of op_subB ⟨_, _, rfl, rfl, k.val sr (by simp only [DR])⟩
    · cases h
  · -- tuples
    rename_i xs ys
    split at h
    · split at h
      · rename_i hc
        cases h
        simp only [SVR, DR] at rx ry
        obtain ⟨a, vs, rfl, q, r1⟩ := rx
        obtain ⟨b, us, rfl, q2, r2⟩ := ry
        refine WpO.of op_catA ⟨a, b, vs, us, rfl, rfl, q, q2, cat_ok r1 r2 hc, fun e => ?_, fun _ e => ?_, fun _ _ p n => ?_⟩
        · subst e
          have e2 : xs = [] := by
            have l := r1.length
            cases xs with
            | nil => rfl
            | cons => cases l
          subst e2
          refine k.val sr ?_
          simp only [DR]
          exact ⟨b, us, rfl, q2, r2⟩
        · subst e
          have e2 : ys = [] := by
            have l := r2.length
            cases ys with
            | nil => rfl
            | cons => cases l
          subst e2
          refine k.val sr ?_
          simp only [DR]
          exact ⟨a, vs, rfl, q, by rw [List.append_nil]; exact r1⟩
        · exact k.tup sr (r1.append r2) p n
      · cases h
    · cases h
  · -- tuple * int
    rename_i xs n
    split at h
    · split at h
      · rename_i hc
        cases h
        simp only [Bool.and_eq_true, decide_eq_true_eq] at hc
        obtain ⟨⟨⟨h1, h2⟩, h3⟩, h4⟩ := hc
        simp only [SVR, DR] at rx ry
        obtain ⟨a, vs, rfl, q, r1⟩ := rx
        subst ry
        refine WpO.of op_repT ⟨a, n, vs, rfl, rfl, q, not_nil r1 (by simpa using h1), h2, h3, by rw [r1.length]; exact le_of_ble h4, fun p np => ?_⟩
        exact k.tup sr (r1.rep n.toNat) p np
      · cases h
    · cases h
  · -- list * int
    rename_i n _ _
    split at h
    · rename_i xs e
      split at h
      · rename_i hc
        cases h
        simp only [Bool.and_eq_true, decide_eq_true_eq] at hc
        obtain ⟨⟨h1, h2⟩, h3⟩ := hc
        obtain ⟨a, vs, rfl, q, r1⟩ := lis_ok sr rx e
        simp only [SVR, DR] at ry
        subst ry
        refine WpO.of op_rep ⟨a, n, vs, rfl, rfl, q, h1, h2, by rw [r1.length]; exact fits_of h3, fun p np => ?_⟩
        exact k.new sr (r1.rep n.toNat) p np
      · cases h
    · cases h
  · split at h
    · rename_i xs ys e1 e2
      split at h
      · rename_i hc
        cases h
        obtain ⟨a, vs, rfl, q, r1⟩ := lis_ok sr rx e1
        obtain ⟨b, us, rfl, q2, r2⟩ := lis_ok sr ry e2
        refine WpO.of op_cat ⟨a, b, vs, us, rfl, rfl, q, q2, cat_ok r1 r2 hc, fun p np => ?_⟩
        exact k.new sr (r1.append r2) p np
      · cases h
    · cases h
end
end G

/-! ## GS2 -/
set_option Elab.async false
set_option linter.all false
set_option maxRecDepth 100000
set_option maxHeartbeats 2000000
namespace G
open PySem PySem.Spec PyProof.Rows L2

mutual
def D.py : D → PyData
  | .non => .none
  | .bl b => .bool b
  | .int i => .int i
  | .str x => .str x
  | .tup xs => .tuple (D.pys xs)
  | .loc _ => .none
def D.pys : List D → List PyData
  | [] => []
  | x :: xs => D.py x :: D.pys xs
end
theorem D.pys_map : ∀ xs : List D, D.pys xs = xs.map D.py
  | [] => rfl
  | x :: xs => by simp only [D.pys, List.map_cons, D.pys_map xs]
mutual
theorem D.py_lay : ∀ d : D, d.pure = true → (D.py d).canLay0 = true
  | .non, _ => by simp [D.py, PyData.canLay0]
  | .bl _, _ => by simp [D.py, PyData.canLay0]
  | .int _, _ => by simp [D.py, PyData.canLay0]
  | .str x, h => by simpa [D.py, PyData.canLay0, D.pure] using h
  | .tup xs, h => by simp only [D.py, PyData.canLay0]; exact D.pys_lay xs (by simpa [D.pure] using h)
  | .loc _, h => by simp [D.pure] at h
theorem D.pys_lay : ∀ ds : List D, D.pures ds = true → PyData.canLayAll0 (D.pys ds) = true
  | [], _ => by simp [D.pys, PyData.canLayAll0]
  | x :: xs, h => by
    simp only [D.pures, Bool.and_eq_true] at h
    simp only [D.pys, PyData.canLayAll0, Bool.and_eq_true]
    exact ⟨D.py_lay x h.1, D.pys_lay xs h.2⟩
end
mutual
theorem D.py_depth : ∀ d : D, (D.py d).depth = d.deep
  | .non => by simp [D.py, PyData.depth, D.deep]
  | .bl _ => by simp [D.py, PyData.depth, D.deep]
  | .int _ => by simp [D.py, PyData.depth, D.deep]
  | .str x => by simp [D.py, PyData.depth, D.deep]
  | .tup xs => by simp only [D.py, PyData.depth, D.deep, D.pys_depth xs]
  | .loc _ => by simp [D.py, PyData.depth, D.deep]
theorem D.pys_depth : ∀ ds : List D, PyData.depthAll (D.pys ds) = D.deeps ds
  | [] => by simp [D.pys, PyData.depthAll, D.deeps]
  | x :: xs => by simp only [D.pys, PyData.depthAll, D.deeps, D.py_depth x, D.pys_depth xs]
end
mutual
theorem D.py_eqv : ∀ a b : D, a.pure = true → b.pure = true → PyData.eqv a.py b.py = D.eqv a b
  | .non, b, _, h => by cases b <;> simp [D.py, PyData.eqv, D.eqv, D.pure] at h ⊢
  | .bl _, b, _, h => by cases b <;> simp [D.py, PyData.eqv, D.eqv, D.pure] at h ⊢
  | .int _, b, _, h => by cases b <;> simp [D.py, PyData.eqv, D.eqv, D.pure] at h ⊢
  | .str _, b, _, h => by cases b <;> simp [D.py, PyData.eqv, D.eqv, D.pure] at h ⊢
  | .loc _, b, k, h => by simp [D.pure] at k
  | .tup xs, b, k, h => by
    cases b with
    | tup ys =>
      simp only [D.py, PyData.eqv, D.eqv]
      exact D.pys_eqv xs ys (by simpa [D.pure] using k) (by simpa [D.pure] using h)
    | loc n => simp [D.pure] at h
    | _ => simp [D.py, PyData.eqv, D.eqv]
theorem D.pys_eqv : ∀ a b : List D, D.pures a = true → D.pures b = true → PyData.eqvAll (D.pys a) (D.pys b) = D.eqvs a b
  | [], b, _, _ => by cases b <;> simp [D.pys, PyData.eqvAll, D.eqvs]
  | x :: xs, b, k, h => by
    cases b with
    | nil => simp [D.pys, PyData.eqvAll, D.eqvs]
    | cons y ys =>
      simp only [D.pures, Bool.and_eq_true] at k h
      simp only [D.pys, PyData.eqvAll, D.eqvs, D.py_eqv x y k.1 h.1, D.pys_eqv xs ys k.2 h.2]
end
theorem D.pures_all : ∀ xs : List D, D.pures xs = xs.all D.pure
  | [] => rfl
  | x :: xs => by simp only [D.pures, List.all_cons, D.pures_all xs]
theorem D.deeps_le : ∀ {xs : List D} {n : Nat}, (∀ x ∈ xs, x.deep ≤ n) → D.deeps xs ≤ n
  | [], _, _ => Nat.zero_le _
  | x :: xs, n, h => by
    simp only [D.deeps]
    exact Nat.max_le.mpr ⟨h x (by simp), D.deeps_le fun y hy => h y (by simp [hy])⟩
section
variable {K : PySem.W.Frag} {μ : List Addr} {H : Hp}
mutual
theorem DR.dp : ∀ (d : D) (v : V), d.pure = true → DR K μ H d v → Dp K H v d.py
  | .non, _, _, h => by simp only [DR] at h; subst h; exact .non
  | .bl b, _, _, h => by simp only [DR] at h; subst h; exact .bl b
  | .int i, _, _, h => by simp only [DR] at h; subst h; exact .int i
  | .str x, _, _, h => by simp only [DR] at h; subst h; exact .str x
  | .tup xs, _, k, h => by
    simp only [DR] at h
    obtain ⟨a, vs, rfl, q, r⟩ := h
    simp only [D.py]
    exact .tup q (DRs.dp xs vs (by simpa [D.pure] using k) r)
  | .loc n, _, k, _ => by simp [D.pure] at k
theorem DRs.dp : ∀ (ds : List D) (vs : List V), D.pures ds = true → DRs K μ H ds vs → DpAll K H vs (D.pys ds)
  | [], _, _, h => by simp only [DRs] at h; subst h; simp only [D.pys]; exact .nil
  | x :: xs, _, k, h => by
    simp only [D.pures, Bool.and_eq_true] at k
    simp only [DRs] at h
    obtain ⟨v, r, rfl, q, z⟩ := h
    simp only [D.pys]
    exact .cons (DR.dp x v k.1 q) (DRs.dp xs r k.2 z)
end
theorem shaped_of {d : D} (h : pure60 d = true) : d.pure = true ∧ SeqAt.shaped d.py = true := by
  obtain ⟨h1, h2⟩ := Bool.and_eq_true_iff.mp h
  refine ⟨h1, ?_⟩
  unfold SeqAt.shaped
  rw [D.py_lay d h1, D.py_depth d]
  have := le_of_ble h2
  simp
  omega
theorem flat_dr {d : D} {v : V} (f : flat d = true) (r : DR K μ H d v) : flatV v = true := by
  cases d <;> first | (simp only [DR] at r; subst r; rfl) | cases f
theorem flats_dr : ∀ {ds : List D} {vs : List V}, ds.all flat = true → DRs K μ H ds vs → vs.all flatV = true
  | [], _, _, h => by simp only [DRs] at h; subst h; rfl
  | x :: xs, _, f, h => by
    simp only [DRs] at h
    obtain ⟨v, r, rfl, q, z⟩ := h
    rw [List.all_cons, Bool.and_eq_true] at f
    rw [List.all_cons, flat_dr f.1 q, flats_dr f.2 z]; rfl
theorem eqV_dr {d e : D} {v u : V} (f : flat d = true) (g : flat e = true) (r : DR K μ H d v) (k : DR K μ H e u) : eqV v u = D.eqv d e := by
  cases d <;> first
    | (simp only [DR] at r; subst r; cases e <;> first | (simp only [DR] at k; subst k; simp [eqV, D.eqv]) | cases g)
    | cases f
theorem inV_dr {d : D} {v : V} (f : flat d = true) (r : DR K μ H d v) : ∀ {ds : List D} {vs : List V}, ds.all flat = true → DRs K μ H ds vs → inV v vs = ds.any fun y => D.eqv y d
  | [], _, _, h => by simp only [DRs] at h; subst h; rfl
  | x :: xs, _, g, h => by
    simp only [DRs] at h
    obtain ⟨u, r', rfl, q, z⟩ := h
    rw [List.all_cons, Bool.and_eq_true] at g
    have e := inV_dr f r g.2 z
    unfold inV at e ⊢
    rw [List.any_cons, List.any_cons, e, eqV_dr g.1 f q r]
end
section
variable {X : Cx} {c : Cf}
theorem eq_ok {a b : D} {k : Bool} {v u : V} {Q : VK} (hu : X.A.units + 65 < cLine) (h : eqD a b = some k) (rx : DR X.K c.μ c.H a v) (ry : DR X.K c.μ c.H b u) :
    (Q (.bl k) c.H → WpO X (compareOp .Eq) v u c.H Q) ∧ (Q (.bl (!k)) c.H → WpO X (compareOp .NotEq) v u c.H Q) := by
  unfold eqD at h
  split at h
  · rename_i x y
    cases h
    simp only [DR] at rx ry
    subst rx ry
    have e : decide (V.str x = V.str y) = decide (x = y) := by simp
    exact ⟨fun q => WpO.of op_eq ⟨rfl, by rw [e]; exact q⟩, fun q => WpO.of op_ne ⟨rfl, by rw [e]; exact q⟩⟩
  · split at h
    · rename_i hc
      cases h
      obtain ⟨h1, h2⟩ := Bool.and_eq_true_iff.mp hc
      obtain ⟨p1, s1⟩ := shaped_of h1
      obtain ⟨p2, s2⟩ := shaped_of h2
      refine ⟨fun q => WpO.of (op_eqD (by omega)) ⟨a.py, b.py, DR.dp _ _ p1 rx, DR.dp _ _ p2 ry, s1, s2, ?_⟩, fun q => WpO.of (op_neD (by omega)) ⟨a.py, b.py, DR.dp _ _ p1 rx, DR.dp _ _ p2 ry, s1, s2, ?_⟩⟩ <;>
        (rw [D.py_eqv _ _ p1 p2]; exact q)
    · cases h
/-- in, not in, of things that are read whole -/
theorem op_inDT (hu : X.A.units + 65 < cLine) (neg : Bool) : OpR X (compareOp (if neg then .NotIn else .In)) fun x y H Q => ∃ d ds, Dp X.K H x d ∧ (Dp X.K H y (.list ds) ∨ Dp X.K H y (.tuple ds)) ∧ d.canLay0 = true ∧ PyData.canLayAll0 ds = true ∧ d.depth ≤ 64 ∧ Q (.bl (if neg then !(ds.any fun z => PyData.eqv z d) else ds.any fun z => PyData.eqv z d)) H := by
  intro pins s σ H x y v u Q I rx ry h
  obtain ⟨d, ds, hd, he, sd, se, dd, q⟩ := h
  obtain ⟨as, r1⟩ := Dp.reads I d x v hd rx
  have hu' : X.A.units + 1 + min (PyData.depthAll ds) d.depth < cLine := by omega
  rcases he with he | he
  · obtain ⟨bs, r2⟩ := Dp.reads I _ y u he ry
    cases neg with
    | false => exact SeqAt.in_list_reads r2 r1 se sd hu' ⟨.bl _, H, I, rfl, q⟩
    | true => exact SeqAt.notIn_list_reads r2 r1 se sd hu' ⟨.bl _, H, I, rfl, q⟩
  · obtain ⟨bs, r2⟩ := Dp.reads I _ y u he ry
    cases neg with
    | false => exact SeqAt.in_tuple_reads r2 r1 se sd hu' ⟨.bl _, H, I, rfl, q⟩
    | true => exact SeqAt.notIn_tuple_reads r2 r1 se sd hu' ⟨.bl _, H, I, rfl, q⟩
theorem in_ok {a : D} {xs : List D} {k : Bool} {v u : V} {y : SV} {Q : VK} (hu : X.A.units + 65 < cLine) (sr : SR X.K c) (h : inD a xs = some k) (rx : DR X.K c.μ c.H a v) (ry : SVR X.K c y u) (hs : seq c.s y = some xs) :
    (Q (.bl k) c.H → WpO X (compareOp .In) v u c.H Q) ∧ (Q (.bl (!k)) c.H → WpO X (compareOp .NotIn) v u c.H Q) := by
  obtain ⟨p, vs, rfl, r, sq⟩ := seq_ok sr ry hs
  unfold inD at h
  split at h
  · rename_i hc
    cases h
    rcases Bool.or_eq_true_iff.mp hc with hc | hc
    · obtain ⟨h1, h2⟩ := Bool.and_eq_true_iff.mp hc
      refine ⟨fun q => WpO.of op_in_seq ⟨p, vs, rfl, sq, flat_dr h1 rx, flats_dr h2 r, ?_⟩, fun q => WpO.of op_notIn_seq ⟨p, vs, rfl, sq, flat_dr h1 rx, flats_dr h2 r, ?_⟩⟩ <;>
        (rw [inV_dr h1 rx h2 r]; exact q)
    · obtain ⟨h1, h2⟩ := Bool.and_eq_true_iff.mp hc
      obtain ⟨p1, s1⟩ := shaped_of h1
      have hp : D.pures xs = true := by
        rw [D.pures_all, List.all_eq_true]
        exact fun x hx => (shaped_of (List.all_eq_true.mp h2 x hx)).1
      have dp := DRs.dp xs vs hp r
      have e : ((D.pys xs).any fun z => PyData.eqv z a.py) = xs.any fun y => D.eqv y a := by
        rw [D.pys_map, List.any_map, Bool.eq_iff_iff, List.any_eq_true, List.any_eq_true]
        constructor <;> rintro ⟨z, hz, e⟩ <;> refine ⟨z, hz, ?_⟩
        · rw [← D.py_eqv z a (shaped_of (List.all_eq_true.mp h2 z hz)).1 p1]; exact e
        · show PyData.eqv z.py a.py = true
          rw [D.py_eqv z a (shaped_of (List.all_eq_true.mp h2 z hz)).1 p1]; exact e
      have le : a.py.depth ≤ 64 := SeqAt.depth_of_shaped s1
      have dl : Dp X.K c.H (.ref p) (.list (D.pys xs)) ∨ Dp X.K c.H (.ref p) (.tuple (D.pys xs)) := by
        rcases sq with sq | sq
        · exact .inl (.lst sq dp)
        · exact .inr (.tup sq dp)
      refine ⟨fun q => WpO.of (op_inDT hu false) ⟨a.py, D.pys xs, DR.dp _ _ p1 rx, dl, SeqAt.canLay_of_shaped s1, D.pys_lay xs hp, le, ?_⟩, fun q => WpO.of (op_inDT hu true) ⟨a.py, D.pys xs, DR.dp _ _ p1 rx, dl, SeqAt.canLay_of_shaped s1, D.pys_lay xs hp, le, ?_⟩⟩
      · rw [e]; exact q
      · rw [e]; exact q
  · cases h
theorem dct_at {x : SV} {v : V} {kvs : List (Str × D)} (sr : SR X.K c) (rx : SVR X.K c x v) (h : dctOf c.s x = some kvs) : ∃ n a ps, x = .val (.loc n) ∧ c.μ[n]? = some a ∧ v = .ref a ∧ c.H a = some (.dK ps) ∧ PRs X.K c.μ c.H kvs ps ∧ (kvs.map (·.1)).Nodup := by
  unfold dctOf at h
  split at h
  · rename_i n
    simp only [SVR, DR] at rx
    obtain ⟨a, rfl, e⟩ := rx
    split at h
    · rename_i kvs' hz
      cases h
      obtain ⟨ps, q1, q2, q3⟩ := sr.cell n _ a hz e
      exact ⟨n, a, ps, rfl, e, rfl, q1, q2, q3⟩
    · cases h
  · cases h
theorem op_inD (hu : X.A.units + 1 < cLine) : OpR X (compareOp .In) fun x y H Q => ∃ a o, y = .ref a ∧ DGet H a x o ∧ Q (.bl o.isSome) H := by
  intro pins s σ H x y v u Q I rx ry h
  obtain ⟨a, o, rfl, g, q⟩ := h
  obtain rfl : u = Value.ref a := ry
  exact d_in hu I g rx fun s' I' => ⟨.bl o.isSome, H, I', rfl, q⟩
theorem op_notInD (hu : X.A.units + 1 < cLine) : OpR X (compareOp .NotIn) fun x y H Q => ∃ a o, y = .ref a ∧ DGet H a x o ∧ Q (.bl (!o.isSome)) H := by
  intro pins s σ H x y v u Q I rx ry h
  obtain ⟨a, o, rfl, g, q⟩ := h
  obtain rfl : u = Value.ref a := ry
  exact d_notIn hu I g rx fun s' I' => ⟨.bl (!o.isSome), H, I', rfl, q⟩
theorem inS_ok {a : D} {y : SV} {k : Bool} {v u : V} {Q : VK} (hu : X.A.units + 65 < cLine) (sr : SR X.K c) (h : inS a y c.s = some k) (rx : DR X.K c.μ c.H a v) (ry : SVR X.K c y u) :
    (Q (.bl k) c.H → WpO X (compareOp .In) v u c.H Q) ∧ (Q (.bl (!k)) c.H → WpO X (compareOp .NotIn) v u c.H Q) := by
  unfold inS at h
  split at h
  · rename_i z kvs hd
    cases h
    obtain ⟨n, p, ps, _, _, rfl, q1, q2, _⟩ := dct_at sr ry hd
    simp only [DR] at rx
    subst rx
    have g : DGet c.H p (.str z) (valV ps (Sum.inr z)) := DGet.k (k := Sum.inr z) q1
    have e : (valV ps (Sum.inr z)).isSome = (getS kvs z).isSome := by
      rcases q2.get (k := z) with ⟨e1, e2⟩ | ⟨d, w, e1, e2, _⟩ <;> rw [e1, e2] <;> rfl
    refine ⟨fun q => WpO.of (op_inD (by omega)) ⟨p, _, rfl, g, by rw [e]; exact q⟩, fun q => WpO.of (op_notInD (by omega)) ⟨p, _, rfl, g, by rw [e]; exact q⟩⟩
  · cases h
  · obtain ⟨xs, e1, e2⟩ := Option.bind_eq_some_iff.mp h
    exact in_ok hu sr e2 rx ry e1
theorem is_non {a : D} {v : V} (rx : DR X.K c.μ c.H a v) : decide (v = .non) = decide (a = .non) := by
  cases a <;> simp only [DR] at rx
  · subst rx; simp
  · subst rx; simp
  · subst rx; simp
  · subst rx; simp
  · obtain ⟨a, vs, rfl, _⟩ := rx; simp
  · obtain ⟨a, rfl, _⟩ := rx; simp
theorem cmp_ok {op : CmpOp} {x y : SV} {k : Bool} {v u : V} {Q : VK} (hu : X.A.units + 65 < cLine) (sr : SR X.K c) (rx : SVR X.K c x v) (ry : SVR X.K c y u) (h : cmpD op x y c.s = some k) (q : Q (.bl k) c.H) : WpO X (compareOp op) v u c.H Q := by
  unfold cmpD at h
  split at h
  · exact (eq_ok hu h rx ry).1 q
  · obtain ⟨b, e, rfl⟩ := Option.map_eq_some_iff.mp h
    exact (eq_ok hu e rx ry).2 q
  · cases h
    simp only [SVR, DR] at rx ry
    subst rx ry
    exact WpO.of op_lt ⟨_, _, rfl, rfl, q⟩
  · cases h
    simp only [SVR, DR] at rx ry
    subst rx ry
    exact WpO.of op_le ⟨_, _, rfl, rfl, q⟩
  · cases h
    simp only [SVR, DR] at rx ry
    subst rx ry
    exact WpO.of op_gt ⟨_, _, rfl, rfl, q⟩
  · cases h
    simp only [SVR, DR] at rx ry
    subst rx ry
    exact WpO.of op_ge ⟨_, _, rfl, rfl, q⟩
  · cases h
    have e := is_non (X := X) (c := c) rx
    simp only [SVR, DR] at ry
    subst ry
    exact WpO.of op_isN ⟨rfl, by rw [e]; exact q⟩
  · cases h
    have e := is_non (X := X) (c := c) rx
    simp only [SVR, DR] at ry
    subst ry
    exact WpO.of op_notN ⟨rfl, by rw [e]; exact q⟩
  · exact (inS_ok hu sr h rx ry).1 q
  · obtain ⟨b, e, rfl⟩ := Option.map_eq_some_iff.mp h
    exact (inS_ok hu sr e rx ry).2 q
  · cases h

/-! ### isinstance -/
def Ty.sn : Ty → Str
  | .int => "int" | .bool => "bool" | .str => "str" | .tuple => "tuple" | .list => "list"
def Ty.nm : Ty → String
  | .int => "int" | .bool => "bool" | .str => "str" | .tuple => "tuple" | .list => "list"
theorem sqL_ty {a : Addr} {vs : List V} (h : SqL X.K c.H a vs) : TyX X.K c.H (.ref a) (.type "list") := by
  rcases h with (h | ⟨o, h⟩) | ⟨o, its, n, h1, h2, _⟩
  · exact .base (.lst h)
  · exact .base (.frz h)
  · exact .kList h1 h2
theorem sqT_ty {a : Addr} {vs : List V} (h : SqT X.K c.H a vs) : TyX X.K c.H (.ref a) (.type "tuple") := by
  rcases h with (h | ⟨o, h⟩) | ⟨o, its, n, h1, h2, _⟩
  · exact .base (.tup h)
  · exact .fTuple h
  · exact .kTuple h1 h2
theorem kit_list (t : Ty) : PySem.W.kitOne X.K (.type "list") (.type t.nm) = some (decide (t = .list)) := by
  cases t <;> exact kit_ty (by decide +kernel)
theorem kit_tuple (t : Ty) : PySem.W.kitOne X.K (.type "tuple") (.type t.nm) = some (decide (t = .tuple)) := by
  cases t <;> exact kit_ty (by decide +kernel)
theorem kit_int (t : Ty) : PySem.W.kitOne X.K (.type "int") (.type t.nm) = some (decide (t = .int)) := by
  cases t <;> exact kit_ty (by decide +kernel)
theorem kit_str (t : Ty) : PySem.W.kitOne X.K (.type "str") (.type t.nm) = some (decide (t = .str)) := by
  cases t <;> exact kit_ty (by decide +kernel)
theorem kit_bool (t : Ty) : PySem.W.kitOne X.K (.type "bool") (.type t.nm) = some (decide (t = .bool) || decide (t = .int)) := by
  cases t <;> exact kit_ty (by decide +kernel)
theorem kit_none (t : Ty) : PySem.W.kitOne X.K (.type "NoneType") (.type t.nm) = some false := by
  cases t <;> exact kit_ty (by decide +kernel)
/-- a value's type, and isinstance's answer of it -/
theorem ty_ok {t : Ty} {x : SV} {b : Bool} {v : V} (sr : SR X.K c) (rx : SVR X.K c x v) (h : isTy c.s t x = some b) :
    ∃ tv, TyX X.K c.H v tv ∧ PySem.W.kitOne X.K tv (.type t.nm) = some b ∧ ∀ t' b', isTy c.s t' x = some b' → PySem.W.kitOne X.K tv (.type t'.nm) = some b' := by
  have lst : ∀ {a : Addr} {vs : List V}, v = .ref a → SqL X.K c.H a vs → (∀ t' b', isTy c.s t' x = some b' → b' = decide (t' = .list)) →
      ∃ tv, TyX X.K c.H v tv ∧ PySem.W.kitOne X.K tv (.type t.nm) = some b ∧ ∀ t' b', isTy c.s t' x = some b' → PySem.W.kitOne X.K tv (.type t'.nm) = some b' := fun {a vs} e s hb => by
    subst e
    refine ⟨_, sqL_ty s, ?_, fun t' b' h' => ?_⟩
    · rw [hb _ _ h]; exact kit_list t
    · rw [hb _ _ h']; exact kit_list t'
  cases x with
  | val d =>
    cases d with
    | non =>
      simp only [SVR, DR] at rx; subst rx
      refine ⟨_, .base .non, ?_, fun t' b' h' => ?_⟩
      · cases h; exact kit_none t
      · cases h'; exact kit_none t'
    | bl k =>
      simp only [SVR, DR] at rx; subst rx
      refine ⟨_, .base (.bl k), ?_, fun t' b' h' => ?_⟩
      · cases h; exact kit_bool t
      · cases h'; exact kit_bool t'
    | int i =>
      simp only [SVR, DR] at rx; subst rx
      refine ⟨_, .base (.int i), ?_, fun t' b' h' => ?_⟩
      · cases h; exact kit_int t
      · cases h'; exact kit_int t'
    | str z =>
      simp only [SVR, DR] at rx; subst rx
      refine ⟨_, .base (.str z), ?_, fun t' b' h' => ?_⟩
      · cases h; exact kit_str t
      · cases h'; exact kit_str t'
    | tup xs =>
      simp only [SVR, DR] at rx
      obtain ⟨a, vs, rfl, q, _⟩ := rx
      refine ⟨_, sqT_ty q, ?_, fun t' b' h' => ?_⟩
      · cases h; exact kit_tuple t
      · cases h'; exact kit_tuple t'
    | loc n =>
      have r2 := rx
      simp only [SVR, DR] at rx
      obtain ⟨a, e, q⟩ := rx
      have h2 := h
      simp only [isTy] at h2
      split at h2
      · rename_i xs z
        have hc : cell c.s.M n = some xs := by unfold cell; rw [z]
        obtain ⟨vs, q1, q2⟩ := cell_at sr q hc
        refine lst e (.of q1) fun t' b' h' => ?_
        simp only [isTy, z] at h'
        cases h'; rfl
      · cases h2
  | new xs =>
    obtain ⟨a, vs, e, q, _⟩ := rx
    exact lst e (.of q) fun t' b' h' => by simp only [isTy] at h'; cases h'; rfl
  | var i =>
    have h2 := h
    simp only [isTy] at h2
    split at h2
    · rename_i xs z
      obtain ⟨a, vs, e, z1, z2⟩ := sr.slot i _ z
      have e1 := rx.1
      rw [e] at e1
      cases e1
      refine lst rfl (.of z1) fun t' b' h' => ?_
      simp only [isTy, z] at h'
      cases h'; rfl
    · rename_i xs z
      obtain ⟨a, vs, e, z1, z2⟩ := sr.slot i _ z
      have e1 := rx.1
      rw [e] at e1
      cases e1
      refine lst rfl (sqL_of_ro z2) fun t' b' h' => ?_
      simp only [isTy, z] at h'
      cases h'; rfl
    · cases h2
end
end G

/-! ## GS3 -/
set_option Elab.async false
set_option linter.all false
set_option maxRecDepth 100000
set_option maxHeartbeats 2000000
namespace G
open PySem PySem.Spec PyProof.Rows L2

def SVRs (K : PySem.W.Frag) (c : Cf) : List SV → List V → Prop
  | [], vs => vs = []
  | x :: xs, vs => ∃ v r, vs = v :: r ∧ SVR K c x v ∧ SVRs K c xs r
section
variable {K : PySem.W.Frag} {c c' : Cf}
theorem SVRs.step (h : Stp c c') (hv : Vst c c') : ∀ {xs : List SV} {vs : List V}, SVRs K c xs vs → SVRs K c' xs vs
  | [], _, r => r
  | x :: xs, _, r => by
    obtain ⟨v, r', e, q, z⟩ := r
    exact ⟨v, r', e, q.step h hv, SVRs.step h hv z⟩
theorem asInts_dr {μ : List Addr} {H : Hp} : ∀ {xs : List D} {ns : List Int} {vs : List V}, asInts xs = some ns → DRs K μ H xs vs → vs = ns.map V.int
  | [], _, _, h, r => by simp only [asInts] at h; cases h; simp only [DRs] at r; exact r
  | x :: xs, ns, vs, h, r => by
    cases x <;> simp only [asInts] at h <;> try cases h
    obtain ⟨ms, e, rfl⟩ := Option.map_eq_some_iff.mp h
    simp only [DRs, DR] at r
    obtain ⟨v, r', rfl, rfl, z⟩ := r
    rw [List.map_cons, asInts_dr e z]
theorem asBools_dr {μ : List Addr} {H : Hp} : ∀ {xs : List D} {ns : List Bool} {vs : List V}, asBools xs = some ns → DRs K μ H xs vs → vs = ns.map V.bl
  | [], _, _, h, r => by simp only [asBools] at h; cases h; simp only [DRs] at r; exact r
  | x :: xs, ns, vs, h, r => by
    cases x <;> simp only [asBools] at h <;> try cases h
    obtain ⟨ms, e, rfl⟩ := Option.map_eq_some_iff.mp h
    simp only [DRs, DR] at r
    obtain ⟨v, r', rfl, rfl, z⟩ := r
    rw [List.map_cons, asBools_dr e z]
end
theorem maxL_mem : ∀ {l : List Int}, l ≠ [] → maxL l ∈ l ∧ ∀ y ∈ l, y ≤ maxL l
  | [], h => absurd rfl h
  | [x], _ => ⟨by simp [maxL], by simp [maxL]⟩
  | x :: y :: r, _ => by
    obtain ⟨h1, h2⟩ := maxL_mem (l := y :: r) (by simp)
    simp only [maxL]
    refine ⟨?_, fun z hz => ?_⟩
    · by_cases h : x ≤ maxL (y :: r)
      · rw [Int.max_eq_right h]; exact List.mem_cons_of_mem _ h1
      · rw [Int.max_eq_left (by omega)]; exact List.mem_cons_self
    · rcases List.mem_cons.mp hz with rfl | hz
      · exact Int.le_max_left _ _
      · exact Int.le_trans (h2 z hz) (Int.le_max_right _ _)
theorem minL_mem : ∀ {l : List Int}, l ≠ [] → minL l ∈ l ∧ ∀ y ∈ l, minL l ≤ y
  | [], h => absurd rfl h
  | [x], _ => ⟨by simp [minL], by simp [minL]⟩
  | x :: y :: r, _ => by
    obtain ⟨h1, h2⟩ := minL_mem (l := y :: r) (by simp)
    simp only [minL]
    refine ⟨?_, fun z hz => ?_⟩
    · by_cases h : x ≤ minL (y :: r)
      · rw [Int.min_eq_left h]; exact List.mem_cons_self
      · rw [Int.min_eq_right (by omega)]; exact List.mem_cons_of_mem _ h1
    · rcases List.mem_cons.mp hz with rfl | hz
      · exact Int.min_le_left _ _
      · exact Int.le_trans (Int.min_le_right _ _) (h2 z hz)
/-- a built-in's name, and the value that it holds -/
def Bi.nm : Bi → Str
  | .abs => "abs" | .int => "int" | .str => "str" | .len => "len" | .gcd => "gcd" | .all => "all" | .any => "any" | .sum => "sum" | .max => "max" | .min => "min" | .tuple => "tuple" | .list => "list" | .sorted => "sorted"
def Bi.fv : Bi → Value
  | .abs => .builtin "abs" | .int => .type "int" | .str => .type "str" | .len => .builtin "len" | .gcd => .builtin "math.gcd" | .all => .builtin "all" | .any => .builtin "any" | .sum => .builtin "sum" | .max => .builtin "max" | .min => .builtin "min" | .tuple => .type "tuple" | .list => .type "list" | .sorted => .builtin "sorted"
theorem insI_perm (x : Int) : ∀ l : List Int, (insI x l).Perm (x :: l)
  | [] => .refl _
  | y :: r => by
    unfold insI
    split
    · exact .refl _
    · exact ((insI_perm x r).cons y).trans (.swap x y r)
theorem isort_perm : ∀ l : List Int, (isort l).Perm l
  | [] => .refl _
  | x :: r => (insI_perm x (isort r)).trans ((isort_perm r).cons x)
theorem insI_srt (x : Int) : ∀ {l : List Int}, l.Pairwise (· ≤ ·) → (insI x l).Pairwise (· ≤ ·)
  | [], _ => by simp [insI]
  | y :: r, h => by
    rw [List.pairwise_cons] at h
    unfold insI
    split
    · rename_i hxy
      rw [List.pairwise_cons, List.pairwise_cons]
      refine ⟨fun z hz => ?_, h.1, h.2⟩
      rcases List.mem_cons.mp hz with rfl | hz
      · exact hxy
      · exact Int.le_trans hxy (h.1 z hz)
    · rename_i hxy
      rw [List.pairwise_cons]
      refine ⟨fun z hz => ?_, insI_srt x h.2⟩
      rcases List.mem_cons.mp ((insI_perm x r).mem_iff.mp hz) with rfl | hz
      · omega
      · exact h.1 z hz
theorem isort_srt : ∀ l : List Int, (isort l).Pairwise (· ≤ ·)
  | [] => .nil
  | x :: r => insI_srt x (isort_srt r)
theorem isort_of {l l' : List Int} (p : l'.Perm l) (h : l'.Pairwise (· ≤ ·)) : l' = isort l :=
  List.Perm.eq_of_pairwise (le := (· ≤ ·)) (fun a b _ _ h1 h2 => Int.le_antisymm h1 h2) h (isort_srt l) (p.trans (isort_perm l).symm)
section
variable {X : Cx} {c : Cf}
theorem tup_val {Q : VK} {xs : List D} {a : Addr} {vs : List V} (sr : SR X.K c) (k : KV' X c Q (.val (.tup xs))) (q : SqT X.K c.H a vs) (r : DRs X.K c.μ c.H xs vs) : Q (.ref a) c.H :=
  k.val sr (by simp only [DR]; exact ⟨a, vs, rfl, q, r⟩)
theorem seq_tup {x : SV} {xs : List D} (h : seq c.s x = some xs) (r : ∀ ys, x ≠ .val (.tup ys)) {v : V} (sr : SR X.K c) (rx : SVR X.K c x v) : ∃ a vs, v = .ref a ∧ DRs X.K c.μ c.H xs vs ∧ SqL X.K c.H a vs := by
  cases x with
  | val d =>
    cases d with
    | loc n =>
      obtain ⟨a, e, q⟩ := (show ∃ a, v = V.ref a ∧ c.μ[n]? = some a by simpa only [SVR, DR] using rx)
      obtain ⟨vs, q1, q2⟩ := cell_at sr q h
      exact ⟨a, vs, e, q2, .of q1⟩
    | tup ys => exact absurd rfl (r ys)
    | _ => simp only [seq] at h; cases h
  | new ys =>
    simp only [seq] at h
    cases h
    obtain ⟨a, vs, e, q, z, _⟩ := rx
    exact ⟨a, vs, e, z, .of q⟩
  | var i =>
    simp only [seq] at h
    split at h
    · rename_i ys q
      cases h
      obtain ⟨a, vs, e, z1, z2⟩ := sr.slot i _ q
      have e1 := rx.1
      rw [e] at e1
      cases e1
      exact ⟨a, vs, rfl, z2, .of z1⟩
    · rename_i ys q
      cases h
      obtain ⟨a, vs, e, z1, z2⟩ := sr.slot i _ q
      have e1 := rx.1
      rw [e] at e1
      cases e1
      exact ⟨a, vs, rfl, z1, sqL_of_ro z2⟩
    · cases h
theorem ints_drs {K : PySem.W.Frag} (μ : List Addr) (H : Hp) : ∀ ns : List Int, DRs K μ H (ns.map D.int) (ns.map V.int)
  | [] => .nil
  | x :: xs => .cons (by simp only [DR]) (ints_drs μ H xs)
theorem bi1_ok {b : Bi} {x z : SV} {v : V} {Q : VK} (hc : X.calm = true) (sr : SR X.K c) (rx : SVR X.K c x v) (h : bi1 b x c.s = some z) (k : KV' X c Q z) : WpC X b.fv [v] c.H Q := by
  unfold bi1 at h
  split at h
  · cases h
    simp only [SVR, DR] at rx; subst rx
    exact WpC.of call_abs ⟨_, rfl, k.val sr (by simp only [DR])⟩
  · cases h
    simp only [SVR, DR] at rx; subst rx
    exact WpC.of call_int1 (.inl ⟨_, rfl, k.val sr (by simp only [DR])⟩)
  · cases h
    simp only [SVR, DR] at rx; subst rx
    exact WpC.of call_int1 (.inr ⟨_, rfl, k.val sr (by simp only [DR])⟩)
  · simp only [SVR, DR] at rx; subst rx
    unfold strI at h
    split at h
    · rename_i hl
      cases h
      exact WpC.of call_str_int ⟨_, rfl, lt_of_blt hl, k.val sr (by simp only [DR])⟩
    · cases h
  · split at h
    · rename_i hl
      cases h
      simp only [SVR, DR] at rx; subst rx
      exact WpC.of call_len_str ⟨_, rfl, fits_of hl, k.val sr (by simp only [DR])⟩
    · cases h
  · obtain ⟨xs, e, rfl⟩ := Option.map_eq_some_iff.mp h
    obtain ⟨a, vs, rfl, r, q⟩ := seq_ok sr rx e
    refine WpC.of call_len_seq ⟨a, vs, rfl, q, ?_⟩
    rw [r.length]
    exact k.val sr (by simp only [DR])
  · obtain ⟨xs, e, h⟩ := Option.bind_eq_some_iff.mp h
    obtain ⟨bs, e2, rfl⟩ := Option.map_eq_some_iff.mp h
    obtain ⟨a, vs, rfl, q, r⟩ := lis_ok sr rx e
    have ev := asBools_dr e2 r
    subst ev
    exact WpC.of (cr_all hc) ⟨a, bs, rfl, .of q, k.val sr (by simp only [DR])⟩
  · obtain ⟨xs, e, h⟩ := Option.bind_eq_some_iff.mp h
    obtain ⟨bs, e2, rfl⟩ := Option.map_eq_some_iff.mp h
    obtain ⟨a, vs, rfl, q, r⟩ := lis_ok sr rx e
    have ev := asBools_dr e2 r
    subst ev
    exact WpC.of (cr_any hc) ⟨a, bs, rfl, .of q, k.val sr (by simp only [DR])⟩
  · obtain ⟨xs, e, h⟩ := Option.bind_eq_some_iff.mp h
    obtain ⟨bs, e2, rfl⟩ := Option.map_eq_some_iff.mp h
    obtain ⟨a, vs, rfl, q, r⟩ := lis_ok sr rx e
    have ev := asInts_dr e2 r
    subst ev
    exact WpC.of (cr_sum hc) ⟨a, bs, rfl, .of q, k.val sr (by simp only [DR])⟩
  · obtain ⟨xs, e, h⟩ := Option.bind_eq_some_iff.mp h
    obtain ⟨bs, e2, h⟩ := Option.bind_eq_some_iff.mp h
    obtain ⟨a, vs, rfl, q, r⟩ := lis_ok sr rx e
    have ev := asInts_dr e2 r
    subst ev
    split at h
    · cases h
    · rename_i hn
      cases h
      have hne : bs ≠ [] := fun e => hn (by rw [e]; rfl)
      obtain ⟨m1, m2⟩ := maxL_mem hne
      refine WpC.of (cr_max hc) ⟨a, bs, rfl, .of q, List.length_pos_iff.mpr hne, fun m hm hy => ?_⟩
      have : m = maxL bs := Int.le_antisymm (m2 m hm) (hy _ m1)
      subst this
      exact k.val sr (by simp only [DR])
  · obtain ⟨xs, e, h⟩ := Option.bind_eq_some_iff.mp h
    obtain ⟨bs, e2, h⟩ := Option.bind_eq_some_iff.mp h
    obtain ⟨a, vs, rfl, q, r⟩ := lis_ok sr rx e
    have ev := asInts_dr e2 r
    subst ev
    split at h
    · cases h
    · rename_i hn
      cases h
      have hne : bs ≠ [] := fun e => hn (by rw [e]; rfl)
      obtain ⟨m1, m2⟩ := minL_mem hne
      refine WpC.of (cr_min hc) ⟨a, bs, rfl, .of q, List.length_pos_iff.mpr hne, fun m hm hy => ?_⟩
      have : m = minL bs := Int.le_antisymm (hy _ m1) (m2 m hm)
      subst this
      exact k.val sr (by simp only [DR])
  · cases h
    simp only [SVR, DR] at rx
    obtain ⟨a, vs, rfl, q, r⟩ := rx
    exact WpC.of call_tuple_of ⟨a, vs, rfl, .inr ⟨q, tup_val sr k q r⟩⟩
  · rename_i hne
    obtain ⟨xs, e, rfl⟩ := Option.map_eq_some_iff.mp h
    obtain ⟨a, vs, rfl, r, q⟩ := seq_tup e (fun ys z => hne ys z) sr rx
    exact WpC.of call_tuple_of ⟨a, vs, rfl, .inl ⟨q, fun p n => k.tup sr r p n⟩⟩
  · obtain ⟨xs, e, rfl⟩ := Option.map_eq_some_iff.mp h
    obtain ⟨a, vs, rfl, r, q⟩ := seq_ok sr rx e
    exact WpC.of call_list_of ⟨a, vs, rfl, q, fun p n => k.new sr r p n⟩
  · obtain ⟨xs, e, h⟩ := Option.bind_eq_some_iff.mp h
    obtain ⟨bs, e2, rfl⟩ := Option.map_eq_some_iff.mp h
    obtain ⟨a, vs, rfl, q, r⟩ := lis_ok sr rx e
    have ev := asInts_dr e2 r
    subst ev
    refine WpC.of (cr_sortedI) ⟨a, bs, rfl, .of q, fun ns' p pm pw np => ?_⟩
    rw [isort_of pm pw]
    exact k.new sr (ints_drs _ _ _) p np
  · cases h
theorem bi2_ok {b : Bi} {x y z : SV} {v u : V} {Q : VK} (hc : X.calm = true) (sr : SR X.K c) (rx : SVR X.K c x v) (ry : SVR X.K c y u) (h : bi2 b x y = some z) (k : KV' X c Q z) : WpC X b.fv [v, u] c.H Q := by
  unfold bi2 at h
  split at h
  · cases h
    simp only [SVR, DR] at rx ry; subst rx ry
    exact WpC.of cr_gcd ⟨_, _, rfl, k.val sr (by simp only [DR])⟩
  · cases h
    simp only [SVR, DR] at rx ry; subst rx ry
    exact WpC.of (call_max2 hc) ⟨_, _, rfl, k.val sr (by simp only [DR])⟩
  · cases h
    simp only [SVR, DR] at rx ry; subst rx ry
    exact WpC.of (call_min2 hc) ⟨_, _, rfl, k.val sr (by simp only [DR])⟩
  · cases h
theorem bi_ok {b : Bi} {xs : List SV} {z : SV} {vs : List V} {Q : VK} (hc : X.calm = true) (sr : SR X.K c) (rx : SVRs X.K c xs vs) (h : biD b xs c.s = some z) (k : KV' X c Q z) : WpC X b.fv vs c.H Q := by
  unfold biD at h
  split at h
  · obtain ⟨v, r, rfl, q, z⟩ := rx
    have z' : r = [] := z
    subst z'
    exact bi1_ok hc sr q h k
  · obtain ⟨v, r, rfl, q, u, r2, rfl, q2, z⟩ := rx
    have z' : r2 = [] := z
    subst z'
    exact bi2_ok hc sr q q2 h k
  · cases h
/-! ### items, slices -/
theorem atI_dr {K : PySem.W.Frag} {μ : List Addr} {H : Hp} {xs : List D} {vs : List V} {i : Int} {d : D} (r : DRs K μ H xs vs) (h : atI xs i = some d) : ∃ v, L2.atI vs i = some v ∧ DR K μ H d v := by
  unfold atI L2.atI at h
  obtain ⟨j, e1, e2⟩ := Option.bind_eq_some_iff.mp h
  obtain ⟨v, e3, q⟩ := r.get e2
  refine ⟨v, ?_, q⟩
  unfold L2.atI
  rw [r.length, e1]
  exact e3
def WpIx (X : Cx) : R2 := fun x y H Q => ∀ pins s σ v u, Inv X pins σ H s → RelV x v → RelV y u → wpAny (model X.prog X.w) X.A (getItem v u) (EP X pins σ Q) X.xe s
def rIxK : R2 := fun x y H Q => ∃ a v, x = .ref a ∧ DGet H a y (some v) ∧ Q v H
theorem ix_dct (hu : X.A.units + 1 < cLine) : IxR X rIxK := by
  intro value slice pins s σ H x y v u Q I rx ry h hs
  obtain ⟨a, w, rfl, g, q⟩ := h
  obtain rfl : v = Value.ref a := rx
  exact tail_any (dict_typeIs I g) PySem.F.slot_dict_getitem.lookup (d_getItem hu I g ry fun w' s3 I3 rw' => ⟨w, H, I3, rw', q⟩) hs
def rIxG (K : PySem.W.Frag) : R2 := fun x y H Q => rIx K x y H Q ∨ rIxK x y H Q
theorem ix_any (hu : X.A.units + 1 < cLine) : IxR X (rIxG X.K) := ix_seq.or (ix_dct hu)
theorem sub_ok {x y z : SV} {v u : V} {Q : VK} (sr : SR X.K c) (rx : SVR X.K c x v) (ry : SVR X.K c y u) (h : subD x y c.s = some z) (k : KV' X c Q z) : rIxG X.K v u c.H Q := by
  unfold subD at h
  split at h
  · split at h
    · rename_i hl
      obtain ⟨d, e, rfl⟩ := Option.map_eq_some_iff.mp h
      simp only [SVR, DR] at rx ry; subst rx ry
      exact .inl (.inr (.inr ⟨_, _, d, rfl, rfl, fits_of hl, e, k.val sr (by simp only [DR])⟩))
    · cases h
  · obtain ⟨xs, e, h⟩ := Option.bind_eq_some_iff.mp h
    obtain ⟨d, e2, rfl⟩ := Option.map_eq_some_iff.mp h
    simp only [SVR, DR] at ry; subst ry
    obtain ⟨a, vs, rfl, r, q⟩ := seq_ok sr rx e
    obtain ⟨w, e3, rw⟩ := atI_dr r e2
    rcases q with q | q
    · exact .inl (.inl ⟨a, vs, _, w, rfl, rfl, q, e3, k.val sr rw⟩)
    · exact .inl (.inr (.inl ⟨a, vs, _, w, rfl, rfl, q, e3, k.val sr rw⟩))
  · rename_i z
    obtain ⟨kvs, e, h⟩ := Option.bind_eq_some_iff.mp h
    obtain ⟨d, e2, rfl⟩ := Option.map_eq_some_iff.mp h
    obtain ⟨n, p, ps, _, _, rfl, q1, q2, _⟩ := dct_at sr rx e
    simp only [SVR, DR] at ry; subst ry
    rcases q2.get (k := z) with ⟨e1, _⟩ | ⟨d', w, e1, e3, r⟩
    · rw [e2] at e1; cases e1
    · rw [e2] at e1
      cases e1
      have g : DGet c.H p (.str z) (valV ps (Sum.inr z)) := DGet.k (k := Sum.inr z) q1
      rw [e3] at g
      exact .inr ⟨p, w, rfl, g, k.val sr r⟩
  · cases h
theorem cut_dr {K : PySem.W.Frag} {μ : List Addr} {H : Hp} {xs : List D} {vs : List V} {lo hi : Option Int} (r : DRs K μ H xs vs) : DRs K μ H (cut xs lo hi) (cutV vs lo hi) := by
  unfold cut cutV
  rw [r.length]
  exact (r.drop _).take _
def rSlG (K : PySem.W.Frag) : V → Option Int → Option Int → Hp → VK → Prop := fun x lo hi H Q => rSlA K x lo hi H Q ∨ rSlS x lo hi H Q ∨ rSlL K x lo hi H Q
theorem sl_any : SlR X (rSlG X.K) := sl_tupA.or (sl_str.or sl_list)
theorem cut_whole {α : Type} {xs : List α} {lo hi : Option Int} (h : HT.sIx xs.length 0 lo = 0 ∧ HT.sIx xs.length xs.length hi = xs.length) : cut xs lo hi = xs := by
  unfold cut
  rw [h.1, h.2, List.drop_zero, Nat.sub_zero, List.take_length]
theorem slc_ok {x z : SV} {lo hi : Option Int} {v : V} {Q : VK} (sr : SR X.K c) (rx : SVR X.K c x v) (h : slcD x lo hi c.s = some z) (k : KV' X c Q z) : rSlG X.K v lo hi c.H Q := by
  unfold slcD at h
  split at h
  · cases h
    simp only [SVR, DR] at rx
    obtain ⟨a, vs, rfl, q, r⟩ := rx
    refine .inl ⟨a, vs, rfl, q, fun hw => ?_, fun _ p n => k.tup sr (cut_dr r) p n⟩
    rw [r.length] at hw
    have e := cut_whole (xs := _) hw
    rw [e] at k
    exact tup_val sr k q r
  · split at h
    · rename_i hl
      cases h
      simp only [SVR, DR] at rx; subst rx
      refine .inr (.inl ⟨_, rfl, fits_of hl, ?_⟩)
      exact k.val sr (by simp only [DR, cutS, cut]; rfl)
    · cases h
  · rename_i hn1 hn2
    obtain ⟨xs, e, rfl⟩ := Option.map_eq_some_iff.mp h
    obtain ⟨a, vs, rfl, r, q⟩ := seq_tup e (fun ys z => hn1 ys z) sr rx
    exact .inr (.inr ⟨a, vs, rfl, q, fun p n => k.new sr (cut_dr r) p n⟩)
/-! ### truth -/
theorem tru_okD {x : SV} {v : V} {b : Bool} (sr : SR X.K c) (rx : SVR X.K c x v) (h : truD c.s x = some b) : TruV X.K v c.H b := by
  have e1 : ∀ {xs : List D} {vs : List V}, DRs X.K c.μ c.H xs vs → (!xs.isEmpty) = !vs.isEmpty := fun {xs vs} r => by
    have := r.length
    cases xs <;> cases vs <;> first | rfl | cases this
  unfold truD at h
  split at h
  · cases h; simp only [SVR, DR] at rx; subst rx; exact rfl
  · cases h; simp only [SVR, DR] at rx; subst rx; exact rfl
  · cases h; simp only [SVR, DR] at rx; subst rx; exact rfl
  · split at h
    · rename_i hl
      cases h
      simp only [SVR, DR] at rx; subst rx
      refine ⟨fits_of hl, ?_⟩
      rename_i x
      show (x.length != 0) = ((x.length : Int) != 0)
      rw [Bool.eq_iff_iff]
      simp
    · cases h
  · obtain ⟨xs, e, rfl⟩ := Option.map_eq_some_iff.mp h
    obtain ⟨a, vs, rfl, r, q⟩ := seq_ok sr rx e
    rcases q with q | q
    · exact .inl ⟨vs, q, e1 r⟩
    · exact .inr (.inl ⟨vs, q, e1 r⟩)
end
end G

/-! ## GS4 -/
set_option Elab.async false
set_option linter.all false
set_option maxRecDepth 100000
set_option maxHeartbeats 2000000
namespace G
open PySem PySem.Spec PyProof.Rows L2

theorem tupK_upd {H : Hp} {a : Addr} {u : HO} {o : HO} (h : H a = some u) (w : Wr u) : TupK H (upd H a o) := fun b us r => by
  have ne : b ≠ a := by
    rintro rfl
    rcases r with r | ⟨_, r⟩ <;> (rw [h] at r; cases r; exact w.elim)
  rcases r with r | ⟨u, r⟩
  · exact .inl (by rw [upd_ne ne]; exact r)
  · exact .inr ⟨u, by rw [upd_ne ne]; exact r⟩
section
variable {K : PySem.W.Frag} {c c' : Cf}
theorem set_get {α : Type} {l : List α} {i j : Nat} {x y : α} (h : (l.set i x)[j]? = some y) : (j = i ∧ y = x ∧ i < l.length) ∨ (j ≠ i ∧ l[j]? = some y) := by
  by_cases e : i = j
  · subst e
    have hl : i < l.length := by
      by_cases q : i < l.length
      · exact q
      · rw [List.getElem?_eq_none (by rw [List.length_set]; omega)] at h; cases h
    rw [List.getElem?_set_self hl] at h
    cases h
    exact .inl ⟨rfl, rfl, hl⟩
  · rw [List.getElem?_set_ne e] at h
    exact .inr ⟨fun z => e z.symm, h⟩
/-- a cell of the heap is written -/
theorem putc_ok {n : Nat} {a : Addr} {o o' : HO} {cl : Cell} (sr : SR K c) (e : c.μ[n]? = some a) (q : c.H a = some o) (w : Wr o) (ry : TupK c.H (upd c.H a o') → CellR K c.μ (upd c.H a o') a cl) :
    (let c' : Cf := { c with s := ⟨c.s.v, c.s.M.set n cl⟩, H := upd c.H a o' }; Stp c c' ∧ SR K c' ∧ Vst c c') := by
  have fa : Foot c a := .inl (List.mem_of_getElem? e)
  have tk : TupK c.H (upd c.H a o') := tupK_upd q w
  have ft : ∀ b, Foot ({ c with s := ⟨c.s.v, c.s.M.set n cl⟩, H := upd c.H a o' } : Cf) b ↔ Foot c b := fun b => Iff.rfl
  refine ⟨⟨List.prefix_refl _, rfl, fun b o h nf => ?_, fun b f => .inl f, fun b o h => ?_, tk, fun i zs h => ⟨h, rfl⟩, fun i zs h => h⟩, ⟨sr.len, ?_, sr.nd, ?_, ?_, sr.ownd, sr.ownm, ?_⟩, rfl, fun i h => h⟩
  · show upd c.H a _ b = _
    rw [upd_ne (fun z : b = a => nf (by rw [z]; exact fa))]
    exact h
  · by_cases z : b = a
    · subst z; exact ⟨_, upd_same⟩
    · exact ⟨o, by show upd c.H a _ b = _; rw [upd_ne z]; exact h⟩
  · show c.μ.length = (c.s.M.set n _).length
    rw [List.length_set]
    exact sr.mlen
  · intro m cl1 b h1 h2
    rcases set_get h1 with ⟨rfl, rfl, _⟩ | ⟨ne, h1⟩
    · have h2 : c.μ[m]? = some b := h2
      rw [e] at h2
      cases h2
      exact ry tk
    · have q := sr.cell m cl1 b h1 h2
      have nb : b ≠ a := by
        rintro rfl
        obtain ⟨i1, e1⟩ := List.getElem?_eq_some_iff.mp e
        obtain ⟨i2, e2⟩ := List.getElem?_eq_some_iff.mp h2
        exact ne ((List.getElem_inj sr.nd).mp (e2.trans e1.symm))
      exact q.mono (List.prefix_refl _) tk fun o e => by show upd c.H a _ b = _; rw [upd_ne nb]; exact e
  · intro i x hx
    refine SlotR.mono (c := c) (List.prefix_refl _) tk (fun b ws e1 e2 e3 => ?_) (fun b ws e1 e2 => ⟨e1, ?_⟩) (sr.slot i x hx)
    · have nb : b ≠ a := by
        rintro rfl
        obtain ⟨zs, rfl⟩ := e2
        exact sr.ownm i b ⟨⟨zs, hx⟩, e1⟩ (List.mem_of_getElem? e)
      show upd c.H a _ b = _
      rw [upd_ne nb]; exact e3
    · have nb : b ≠ a := by
        rintro rfl
        exact (sr.rho b e1).2 fa
      rcases e2 with e2 | ⟨o, e2⟩
      · exact .inl (by show upd c.H a _ b = _; rw [upd_ne nb]; exact e2)
      · exact .inr ⟨o, by show upd c.H a _ b = _; rw [upd_ne nb]; exact e2⟩
  · intro b h
    obtain ⟨⟨o, e1⟩, nf⟩ := sr.rho b h
    refine ⟨?_, nf⟩
    by_cases z : b = a
    · subst z; exact ⟨_, upd_same⟩
    · exact ⟨o, by show upd c.H a _ b = _; rw [upd_ne z]; exact e1⟩
/-- the list of a place is written -/
theorem put_ok {x : SV} {v : V} {xs ys : List D} {us : List V} {s' : S} (sr : SR K c) (rx : SVR K c x v) (hx : lis c.s x = some xs) (hp : putL c.s x ys = some s') (ry : DRs K c.μ c.H ys us) :
    ∃ a vs, v = .ref a ∧ c.H a = some (.lst vs) ∧ DRs K c.μ c.H xs vs ∧
      (let c' : Cf := { c with s := s', H := upd c.H a (.lst us) }; Stp c c' ∧ SR K c' ∧ Vst c c') := by
  unfold putL at hp
  split at hp
  · rename_i n
    cases hp
    simp only [SVR, DR] at rx
    obtain ⟨a, rfl, e⟩ := rx
    simp only [lis] at hx
    have hx' := hx
    unfold cell at hx'
    split at hx'
    · rename_i zs hc
      cases hx'
      obtain ⟨vs, q, r⟩ := sr.cell n _ a hc e
      refine ⟨a, vs, rfl, q, r, ?_⟩
      exact putc_ok sr e q trivial fun tk => ⟨us, upd_same, DRs.mono (List.prefix_refl _) tk _ _ ry⟩
    · cases hx'
  · rename_i i
    cases hp
    simp only [lis] at hx
    split at hx
    · rename_i zs hc
      cases hx
      obtain ⟨a, vs, e, q, r⟩ := sr.slot i _ hc
      have e1 := rx.1
      rw [e] at e1
      cases e1
      refine ⟨a, vs, rfl, q, r, ?_⟩
      have fo : OwnAt c i a := ⟨⟨_, hc⟩, e⟩
      have fa : Foot c a := .inr ⟨i, fo⟩
      have tk : TupK c.H (upd c.H a (.lst us)) := tupK_upd q trivial
      have hil : i < c.s.v.length := (List.getElem?_eq_some_iff.mp hc).1
      have ow : ∀ j b, OwnAt ({ c with s := ⟨c.s.v.set i (.own ys), c.s.M⟩, H := upd c.H a (.lst us) } : Cf) j b → OwnAt c j b := fun j b ⟨⟨ws, h1⟩, h2⟩ => by
        rcases set_get h1 with ⟨rfl, _, _⟩ | ⟨_, h1⟩
        · exact ⟨⟨_, hc⟩, h2⟩
        · exact ⟨⟨ws, h1⟩, h2⟩
      have ft : ∀ b, Foot ({ c with s := ⟨c.s.v.set i (.own ys), c.s.M⟩, H := upd c.H a (.lst us) } : Cf) b → Foot c b := fun b f => by
        rcases f with f | ⟨j, f⟩
        · exact .inl f
        · exact .inr ⟨j, ow j b f⟩
      refine ⟨⟨List.prefix_refl _, rfl, fun b o h nf => ?_, fun b f => .inl (ft b f), fun b o h => ?_, tk, fun j zs h => ?_, fun j zs h => ?_⟩, ⟨?_, sr.mlen, sr.nd, ?_, ?_, fun j k b h1 h2 => sr.ownd j k b (ow j b h1) (ow k b h2), fun j b h => sr.ownm j b (ow j b h), ?_⟩, rfl, fun j h => ?_⟩
      · show upd c.H a _ b = _
        rw [upd_ne (fun z : b = a => nf (by rw [z]; exact fa))]
        exact h
      · by_cases z : b = a
        · subst z; exact ⟨_, upd_same⟩
        · exact ⟨o, by show upd c.H a _ b = _; rw [upd_ne z]; exact h⟩
      · rcases set_get h with ⟨_, z, _⟩ | ⟨_, h⟩
        · cases z
        · exact ⟨h, rfl⟩
      · have ne : i ≠ j := by
          rintro rfl
          rw [hc] at h; cases h
        show (c.s.v.set i _)[j]? = _
        rw [List.getElem?_set_ne ne]
        exact h
      · show (c.s.v.set i _).length = _
        rw [List.length_set]; exact sr.len
      · intro m cl b h1 h2
        have z := sr.cell m cl b h1 h2
        have nb : b ≠ a := by
          rintro rfl
          exact sr.ownm i b fo (List.mem_of_getElem? h2)
        exact z.mono (List.prefix_refl _) tk fun o e => by show upd c.H a _ b = _; rw [upd_ne nb]; exact e
      · intro j x hx
        rcases set_get hx with ⟨rfl, rfl, _⟩ | ⟨ne, hx'⟩
        · exact ⟨a, us, e, upd_same, DRs.mono (List.prefix_refl _) tk _ _ ry⟩
        · refine SlotR.mono (c := c) (List.prefix_refl _) tk (fun b ws e1 e2 e3 => ?_) (fun b ws e1 e2 => ⟨e1, ?_⟩) (sr.slot j x hx')
          · have nb : b ≠ a := by
              rintro rfl
              obtain ⟨zs, rfl⟩ := e2
              exact ne (sr.ownd j i b ⟨⟨zs, hx'⟩, e1⟩ fo)
            show upd c.H a _ b = _
            rw [upd_ne nb]; exact e3
          · have nb : b ≠ a := by
              rintro rfl
              exact (sr.rho b e1).2 fa
            rcases e2 with e2 | ⟨o, e2⟩
            · exact .inl (by show upd c.H a _ b = _; rw [upd_ne nb]; exact e2)
            · exact .inr ⟨o, by show upd c.H a _ b = _; rw [upd_ne nb]; exact e2⟩
      · intro b h
        obtain ⟨⟨o, e1⟩, nf⟩ := sr.rho b h
        refine ⟨?_, fun f => nf (ft b f)⟩
        by_cases z : b = a
        · subst z; exact ⟨_, upd_same⟩
        · exact ⟨o, by show upd c.H a _ b = _; rw [upd_ne z]; exact e1⟩
      · obtain ⟨ws, h⟩ := h
        by_cases z : i = j
        · subst z; exact ⟨ys, List.getElem?_set_self hil⟩
        · exact ⟨ws, by show (c.s.v.set i _)[j]? = _; rw [List.getElem?_set_ne z]; exact h⟩
    · cases hx
  · cases hp
/-- a new list becomes a cell of the heap; c₀: where its making began -/
theorem cell_new {c₀ : Cf} {cl : Cell} {a : Addr} (st : Stp c₀ c) (vst : Vst c₀ c) (sr : SR K c) (q : CellR K c.μ c.H a cl) (nf : ¬ Foot c a) (nr : ¬ c.ρ a) (fr : c₀.H a = none) :
    (let c' : Cf := { c with μ := c.μ ++ [a], s := ⟨c.s.v, c.s.M ++ [cl]⟩ }; Stp c₀ c' ∧ SR K c' ∧ Vst c₀ c' ∧ DR K c'.μ c'.H (.loc c.s.M.length) (.ref a)) := by
  have pre : c.μ <+: c.μ ++ [a] := List.prefix_append _ _
  have tk : TupK c.H c.H := fun _ _ h => h
  have nm : a ∉ c.μ := fun h => nf (.inl h)
  refine ⟨⟨st.pre.trans pre, st.rh, st.frame, fun b f => ?_, st.trk, st.tup, st.ros, st.ron⟩, ⟨sr.len, ?_, ?_, ?_, ?_, sr.ownd, fun i b h hb => ?_, fun b h => ?_⟩, vst, ?_⟩
  · rcases f with f | f
    · rcases List.mem_append.mp f with f | f
      · exact st.grow b (.inl f)
      · have e : b = a := by simpa using f
        subst e
        exact .inr fr
    · exact st.grow b (.inr f)
  · show (c.μ ++ [a]).length = (c.s.M ++ [_]).length
    rw [List.length_append, List.length_append, sr.mlen]; rfl
  · exact List.nodup_append.mpr ⟨sr.nd, by simp, fun x hx y hy e => by
      have : y = a := by simpa using hy
      subst this; subst e; exact nm hx⟩
  · intro n cl1 b h1 h2
    by_cases hn : n < c.s.M.length
    · have h1' : c.s.M[n]? = some cl1 := by rw [← List.getElem?_append_left (l₂ := [cl]) hn]; exact h1
      have h2' : c.μ[n]? = some b := by rw [← List.getElem?_append_left (l₂ := [a]) (by rw [sr.mlen]; exact hn)]; exact h2
      exact (sr.cell n cl1 b h1' h2').mono pre tk fun o e => e
    · have en : n = c.s.M.length := by
        have := (List.getElem?_eq_some_iff.mp h1).1
        rw [List.length_append] at this
        simp at this
        omega
      subst en
      have h1' : (c.s.M ++ [cl])[c.s.M.length]? = some cl1 := h1
      rw [List.getElem?_append_right (Nat.le_refl _), Nat.sub_self] at h1'
      have h2' : (c.μ ++ [a])[c.s.M.length]? = some b := h2
      rw [← sr.mlen, List.getElem?_append_right (Nat.le_refl _), Nat.sub_self] at h2'
      cases h1'
      cases h2'
      exact q.mono pre tk fun o e => e
  · intro i x hx
    exact SlotR.mono (c := c) pre tk (fun b ws _ _ h => h) (fun b ws h1 h2 => ⟨h1, h2⟩) (sr.slot i x hx)
  · rcases List.mem_append.mp hb with hb | hb
    · exact sr.ownm i b h hb
    · have e : b = a := by simpa using hb
      subst e
      exact nf (.inr ⟨i, h⟩)
  · obtain ⟨t, n⟩ := sr.rho b h
    refine ⟨t, fun f => ?_⟩
    rcases f with f | f
    · rcases List.mem_append.mp f with f | f
      · exact n (.inl f)
      · have e : b = a := by simpa using f
        subst e
        exact nr h
    · exact n (.inr f)
  · simp only [DR]
    refine ⟨a, rfl, ?_⟩
    show (c.μ ++ [a])[c.s.M.length]? = _
    rw [← sr.mlen, List.getElem?_append_right (Nat.le_refl _), Nat.sub_self]; rfl
/-- an expression's value, made a value proper -/
theorem toVal_ok {c₀ : Cf} {α : Type} {x : SV} {v : V} {f : D → S → R α} {Qn : α → Cf → Prop} {Qx : Xc → Cf → Prop} (st : Stp c₀ c) (vst : Vst c₀ c) (sr : SR K c) (rx : SVR K c x v) (fr : Fresh c₀.H x v)
    (h : Post K c₀ ((toVal x c.s).bind f) Qn Qx) : ∃ c' d, c'.H = c.H ∧ Stp c₀ c' ∧ SR K c' ∧ Vst c₀ c' ∧ DR K c'.μ c'.H d v ∧ Post K c' (f d c'.s) Qn Qx := by
  cases x with
  | val d => exact ⟨c, d, rfl, st, sr, vst, rx, h.later st vst⟩
  | new xs =>
    obtain ⟨a, vs, rfl, q, r, nf, nr⟩ := rx
    obtain ⟨s1, s2, s3, s4⟩ := cell_new (cl := .lst xs) st vst sr ⟨vs, q, r⟩ nf nr (fr a rfl)
    exact ⟨{ c with μ := c.μ ++ [a], s := ⟨c.s.v, c.s.M ++ [.lst xs]⟩ }, _, rfl, s1, s2, s3, s4, Post.later s1 s3 h⟩
  | var i => exact h.elim
end
end G

/-! ## GS5 -/
set_option Elab.async false
set_option linter.all false
set_option maxRecDepth 100000
set_option maxHeartbeats 2000000
namespace G
open PySem PySem.Spec PyProof.Rows L2

theorem R.bind_assoc {α β γ : Type} (r : R α) (f : α → S → R β) (g : β → S → R γ) : (r.bind f).bind g = r.bind fun a s => (f a s).bind g := by
  cases r <;> rfl
def Freshs (H : Hp) : List SV → List V → Prop
  | x :: xs, v :: vs => Fresh H x v ∧ Freshs H xs vs
  | _, _ => True
theorem Freshs.back {K : PySem.W.Frag} {c c' : Cf} (h : Stp c c') : ∀ {xs : List SV} {vs : List V}, Freshs c'.H xs vs → Freshs c.H xs vs
  | [], _, _ => trivial
  | _ :: _, [], _ => trivial
  | x :: xs, v :: vs, f => ⟨Fresh.back h f.1, Freshs.back (K := K) h f.2⟩
def cnM (mg : Str → Option Value) (x : Str) : Option Addr := match mg x with
  | some (.ref a) => some a
  | _ => none
abbrev cnX (X : Cx) : Str → Option Addr := cnM X.mg
/-- what is wanted of an exception -/
def QX (X : Cx) (W : WX) : Xc → Cf → Prop := fun x c' => ∀ cls d, XR X.K (cnX X) c' x cls d → W cls d c'.σ c'.H
def JX (X : Cx) (W : WX) (m : S → R SV) (e : Expr) : Prop := ∀ c Q, SR X.K c → Post X.K c (m c.s) (fun x c' => ∀ v, SVR X.K c' x v → Fresh c.H x v → Q v c'.H) (QX X W) → WpE X e c.σ c.H Q
def JT (X : Cx) (W : WX) (m : S → R Bool) (e : Expr) : Prop := ∀ c Q, SR X.K c → Post X.K c (m c.s) (fun b c' => Q b c'.H) (QX X W) → WpT X e c.σ c.H Q
def JXs (X : Cx) (W : WX) (m : S → R (List SV)) (es : List Expr) : Prop := ∀ c Q, SR X.K c → Post X.K c (m c.s) (fun xs c' => ∀ vs, SVRs X.K c' xs vs → Freshs c.H xs vs → Q vs c'.H) (QX X W) → WpA X es c.σ c.H Q
def JEs (X : Cx) (W : WX) (m : S → R (List D)) (es : List Expr) : Prop := ∀ c Q, SR X.K c → Post X.K c (m c.s) (fun ds c' => ∀ vs, DRs X.K c'.μ c'.H ds vs → Q vs c'.H) (QX X W) → WpA X es c.σ c.H Q
def Ar.sv : Ar → SV
  | .val d => .val d
  | .tmp xs => .new xs
  | .var i => .var i
theorem lend_sv (x : SV) : (lend x).sv = x := by cases x <;> rfl
def JA (X : Cx) (W : WX) (m : S → R (List Ar)) (es : List Expr) : Prop := ∀ c Q, SR X.K c → Post X.K c (m c.s) (fun as c' => ∀ vs, SVRs X.K c' (as.map Ar.sv) vs → Q vs c'.H) (QX X W) → WpA X es c.σ c.H Q
section
variable {X : Cx} {W : WX} {c : Cf}
/-- an expression, then its value made proper, then what follows -/
theorem JX.val {α : Type} {m : S → R SV} {e : Expr} {f : D → S → R α} {Qn : α → Cf → Prop} {Q : VK} (h : JX X W m e) (sr : SR X.K c) (p : Post X.K c (((m c.s).bind toVal).bind f) Qn (QX X W))
    (q : ∀ c' d v, Stp c c' → SR X.K c' → Vst c c' → DR X.K c'.μ c'.H d v → Post X.K c' (f d c'.s) Qn (QX X W) → Q v c'.H) : WpE X e c.σ c.H Q := by
  refine h c Q sr ?_
  rw [R.bind_assoc] at p
  cases r : m c.s with
  | ok x s1 =>
    rw [r] at p
    intro c1 e1 st sr1 vst v rv fv
    subst e1
    obtain ⟨c', d, eH, s1, s2, s3, s4, s5⟩ := toVal_ok st vst sr1 rv fv p
    rw [← eH]
    exact q c' d v s1 s2 s3 s4 s5
  | exc x s1 =>
    rw [r] at p
    exact p
  | bad =>
    rw [r] at p
    exact p
theorem Post.okc {α : Type} {K : PySem.W.Frag} {a : α} {s : S} {Qn : α → Cf → Prop} {Qx : Xc → Cf → Prop} {c c' : Cf} (h : Post K c (.ok a s) Qn Qx) (e : c'.s = s) (st : Stp c c') (sr : SR K c') (vs : Vst c c') : Qn a c' := h c' e st sr vs

/-! ### methods of lists -/
def Mt.nm : Mt → Str
  | .append => "append" | .pop => "pop" | .extend => "extend" | .insert => "insert" | .reverse => "reverse"
def Mt.id : Mt → String
  | .append => "list.append" | .pop => "list.pop" | .extend => "list.extend" | .insert => "list.insert" | .reverse => "list.reverse"
def WpM (X : Cx) (id : String) : V → List V → Hp → VK → Prop := fun x xs H Q => ∀ pins s σ v us, Inv X pins σ H s → RelV x v → Vals xs us → wpAny (model X.prog X.w) X.A (call (.builtin id) (v :: us)) (EP X pins σ Q) X.xe s
theorem mtW (id : String) : MtR X id (WpM X id) := fun pins s σ _ _ _ v us _ I r rs h => h pins s σ v us I r rs
theorem WpM.of {id : String} {r : V → List V → Hp → VK → Prop} {x xs H Q} (h : MtR X id r) (q : r x xs H Q) : WpM X id x xs H Q := fun pins s σ v us I r1 r2 => h pins s σ H x xs v us Q I r1 r2 q
theorem lis_val {x : SV} {v : V} {xs : List D} (sr : SR X.K c) (rx : SVR X.K c x v) (h : lis c.s x = some xs) : ∃ a vs, v = .ref a ∧ c.H a = some (.lst vs) ∧ DRs X.K c.μ c.H xs vs := lis_ok sr rx h
theorem none_dr {K : PySem.W.Frag} {μ : List Addr} {H : Hp} : DR K μ H .non .non := by simp only [DR]
theorem methD_ok {m : Mt} {x : SV} {as : List SV} {v : V} {vs : List V} {Q : VK} {c0 : Cf} (st0 : Stp c0 c) (vs0 : Vst c0 c) (sr : SR X.K c) (rx : SVR X.K c x v) (ras : SVRs X.K c as vs)
    (h : Post X.K c0 (methD m x as c.s) (fun z c' => ∀ w, SVR X.K c' z w → Fresh c0.H z w → Q w c'.H) (QX X W)) : WpM X m.id v vs c.H Q := by
  unfold methD at h
  split at h
  · -- append
    rename_i d
    obtain ⟨w, r, rfl, rd, z⟩ := ras
    have z' : r = [] := z
    subst z'
    split at h
    · rename_i xs e
      split at h
      · rename_i hl
        split at h
        · rename_i s' hp
          obtain ⟨a, ws, rfl, q, r⟩ := lis_ok sr rx e
          obtain ⟨a', ws', ea, q', r', st, sr', vst⟩ := put_ok sr rx e hp (r.append (.one rd))
          cases ea
          rw [q] at q'
          cases q'
          refine WpM.of mt_append ⟨a, ws, w, rfl, rfl, q, by rw [r.length]; exact lt_of_blt hl, ?_⟩
          exact h.okc (c' := { c with s := s', H := upd c.H a (.lst (ws ++ [w])) }) rfl (st0.trans st) sr' (vs0.trans vst) .non (by simp only [SVR, DR]) trivial
        · exact h.elim
      · exact h.elim
    · exact h.elim
  · -- pop
    have z' : vs = [] := ras
    subst z'
    split at h
    · rename_i xs e
      split at h
      · rename_i d s' hd hp
        obtain ⟨a, ws, rfl, q, r⟩ := lis_ok sr rx e
        obtain ⟨a', ws', ea, q', r', st, sr', vst⟩ := put_ok sr rx e hp r.dropLast
        cases ea
        rw [q] at q'
        cases q'
        rw [List.getLast?_eq_getElem?] at hd
        obtain ⟨w, e1, rw'⟩ := r.get hd
        rw [← r.length] at e1
        refine WpM.of mt_pop ⟨a, ws, w, rfl, rfl, q, e1, ?_⟩
        exact h.okc (c' := { c with s := s', H := upd c.H a (.lst ws.dropLast) }) rfl (st0.trans st) sr' (vs0.trans vst) w (st.dr rw') trivial
      · exact h.elim
    · exact h.elim
  · -- pop(i)
    rename_i i
    obtain ⟨w, r, rfl, rd, z⟩ := ras
    have z' : r = [] := z
    subst z'
    simp only [SVR, DR] at rd
    subst rd
    split at h
    · rename_i xs e
      split at h
      · rename_i hi
        simp only [Bool.and_eq_true, decide_eq_true_eq] at hi
        split at h
        · rename_i k hk
          split at h
          · rename_i d s' hd hp
            obtain ⟨a, ws, rfl, q, r⟩ := lis_ok sr rx e
            obtain ⟨a', ws', ea, q', r', st, sr', vst⟩ := put_ok sr rx e hp (r.eraseIdx k)
            cases ea
            rw [q] at q'
            cases q'
            obtain ⟨w, e1, rw'⟩ := r.get hd
            refine WpM.of mt_popAt ⟨a, ws, i, k, w, rfl, rfl, q, hi.1, hi.2, by rw [r.length]; exact hk, e1, ?_⟩
            exact h.okc (c' := { c with s := s', H := upd c.H a (.lst (ws.eraseIdx k)) }) rfl (st0.trans st) sr' (vs0.trans vst) w (st.dr rw') trivial
          · exact h.elim
        · exact h.elim
      · exact h.elim
    · exact h.elim
  · -- extend
    rename_i y
    obtain ⟨w, r, rfl, rd, z⟩ := ras
    have z' : r = [] := z
    subst z'
    split at h
    · rename_i xs ys e e2
      split at h
      · rename_i hc
        split at h
        · rename_i s' hp
          obtain ⟨a, ws, rfl, q, r⟩ := lis_ok sr rx e
          obtain ⟨b, us, rfl, q2, r2⟩ := lis_ok sr rd e2
          obtain ⟨a', ws', ea, q', r', st, sr', vst⟩ := put_ok sr rx e hp (r.append r2)
          cases ea
          rw [q] at q'
          cases q'
          refine WpM.of mt_extend ⟨a, b, ws, us, rfl, rfl, q, q2, cat_ok r r2 hc, ?_⟩
          exact h.okc (c' := { c with s := s', H := upd c.H a (.lst (ws ++ us)) }) rfl (st0.trans st) sr' (vs0.trans vst) .non (by simp only [SVR, DR]) trivial
        · exact h.elim
      · exact h.elim
    · exact h.elim
  · -- reverse
    have z' : vs = [] := ras
    subst z'
    split at h
    · rename_i xs e
      split at h
      · rename_i s' hp
        obtain ⟨a, ws, rfl, q, r⟩ := lis_ok sr rx e
        obtain ⟨a', ws', ea, q', r', st, sr', vst⟩ := put_ok sr rx e hp r.reverse
        cases ea
        rw [q] at q'
        cases q'
        refine WpM.of mt_reverse ⟨a, ws, rfl, rfl, q, ?_⟩
        exact h.okc (c' := { c with s := s', H := upd c.H a (.lst ws.reverse) }) rfl (st0.trans st) sr' (vs0.trans vst) .non (by simp only [SVR, DR]) trivial
      · exact h.elim
    · exact h.elim
  · -- insert
    rename_i i d
    obtain ⟨w0, r, rfl, rd0, w, r', rfl, rd, z⟩ := ras
    have z' : r' = [] := z
    subst z'
    simp only [SVR, DR] at rd0
    subst rd0
    split at h
    · rename_i xs e
      split at h
      · rename_i hi
        simp only [Bool.and_eq_true, decide_eq_true_eq] at hi
        split at h
        · rename_i s' hp
          obtain ⟨a, ws, rfl, q, r⟩ := lis_ok sr rx e
          obtain ⟨a', ws', ea, q', r', st, sr', vst⟩ := put_ok sr rx e hp (((r.take i.toNat).append (.one rd)).append (r.drop i.toNat))
          cases ea
          rw [q] at q'
          cases q'
          refine WpM.of mt_insert ⟨a, ws, i, w, rfl, rfl, q, by rw [r.length]; exact lt_of_blt hi.2.2, hi.1, hi.2.1, ?_⟩
          exact h.okc (c' := { c with s := s', H := upd c.H a (.lst (ws.take i.toNat ++ [w] ++ ws.drop i.toNat)) }) rfl (st0.trans st) sr' (vs0.trans vst) .non (by simp only [SVR, DR]) trivial
        · exact h.elim
      · exact h.elim
    · exact h.elim
  · exact h.elim
theorem mtD_ok {m : Mt} {x : SV} {as : List SV} {v : V} {vs : List V} {Q : VK} {c0 : Cf} (st0 : Stp c0 c) (vs0 : Vst c0 c) (sr : SR X.K c) (rx : SVR X.K c0 x v) (ras : SVRs X.K c as vs) (fr : Freshs c0.H as vs)
    (h : Post X.K c0 (mtD m x as c.s) (fun z c' => ∀ w, SVR X.K c' z w → Fresh c0.H z w → Q w c'.H) (QX X W)) : WpM X m.id v vs c.H Q := by
  unfold mtD at h
  split at h
  · rename_i a
    obtain ⟨w, r, rfl, rd, z⟩ := ras
    have z' : r = [] := z
    subst z'
    obtain ⟨c', d, eH, s1, s2, s3, s4, s5⟩ := toVal_ok st0 vs0 sr rd fr.1 h
    rw [← eH]
    refine methD_ok (W := W) (c := c') (c0 := c') (m := .append) (as := [.val d]) (Stp.refl _) (Vst.refl _) s2 (rx.step s1 s3) ⟨w, [], rfl, s4, rfl⟩ ?_
    exact s5.imp fun z c2 st sr2 vst q w' r' f => q w' r' (Fresh.back s1 f)
  · exact h.elim
  · exact methD_ok st0 vs0 sr (rx.step st0 vs0) ras h
end
end G

/-! ## GS6 -/
set_option Elab.async false
set_option linter.all false
set_option maxRecDepth 100000
set_option maxHeartbeats 4000000
namespace G
open PySem PySem.Spec PyProof.Rows L2

/-! ## the look: is the text what the term says? -/
/-- what is known of the program: names that the module leaves to the built-ins, whether gcd is math's, the defs, the constants -/
structure GI where
  fr : List Str
  gcd : Bool
  P : Prog
  gl : Str → Option D
  kw : Str → List (List Str)
/-- where one stands: the names by slot, the scope, the captured names that may be stored -/
structure Cc where
  N : List Str
  sc : Scope
  fn : Str → Bool
def okN (x : Str) : Bool := !(x == ("__debug__" : Str)) && !(x == ("__classdict__" : Str))
def visB (sc : Scope) (x : Str) : Bool := match sc.names.lookup x with
  | some .local => true
  | some .cell => true
  | some .free => true
  | _ => false
def glB (sc : Scope) (x : Str) : Bool := match sc.names.lookup x with
  | some .globalImplicit => okN x
  | _ => false
def locB (k : Cc) (x : Str) : Bool := match k.sc.names.lookup x with
  | some .local => true
  | some .cell => k.fn x
  | _ => false
def slotB (k : Cc) (i : Nat) (x : Str) : Bool := decide (k.N[i]? = some x) && (visB k.sc x && okN x)
def storeB (k : Cc) (i : Nat) (x : Str) : Bool := decide (k.N[i]? = some x) && locB k x
def freeB (g : GI) (k : Cc) (x : Str) : Bool := g.fr.contains x && glB k.sc x
def cstB : D → Const → Bool
  | .non, .none => true
  | .bl b, .bool c => b == c
  | .int i, .int j => decide (i = j)
  | .str x, .str y => decide (x = y)
  | _, _ => false
def notStar : Expr → Bool
  | .Starred .. => false
  | _ => true
def plainB : Expr → Bool
  | .Call (.Name _ _) [] [] _ => false
  | _ => true
def notSlice : Expr → Bool
  | .Slice .. => false
  | _ => true
def notSet : Expr → Bool
  | .Set .. => false
  | _ => true
mutual
/-- the names that a target stores -/
def tgN : Tg → List Nat
  | .name i => [i]
  | .tup ts => tgNs ts
  | .sub _ _ => []
def tgNs : Tgs → List Nat
  | .nil => []
  | .cons t ts => tgN t ++ tgNs ts
end
/-- the block of a comprehension -/
def blkK (k : Cc) (scope : Scope) : Cc := ⟨k.N, relS scope k.sc, fun x => scope.names.lookup x == some .cell⟩
def ownB (k : Cc) (own : List Nat) : List (Str × Nat) := own.filterMap fun i => (k.N[i]?).map fun x => (x, i)
def biB (g : GI) (k : Cc) (b : Bi) (x : Str) : Bool := match b with
  | .gcd => g.gcd && (decide (x = "gcd") && glB k.sc x)
  | b => decide (x = b.nm) && freeB g k x
def tyB (g : GI) (k : Cc) : List Ty → Expr → Bool
  | [t], .Name x _ => decide (x = t.sn) && freeB g k x
  | _, _ => false
def opB (a b : Operator) : Bool := decide (a = b)
def isC (z : Str) : Ex → Bool
  | .cst (.str y) => decide (y = z)
  | _ => false
def Sm'.nm : Sm' → Str
  | .join => "join" | .startswith => "startswith" | .split => "split"
def Sm'.id : Sm' → String
  | .join => "str.join" | .startswith => "str.startswith" | .split => "str.split"
def keyB : List Str → List (Option Expr) → Bool
  | [], [] => true
  | k :: ks, some (.Constant (.str x) _ _) :: r => decide (k = x) && keyB ks r
  | _, _ => false
mutual
def mtX (g : GI) (k : Cc) : Ex → Expr → Bool
  | .cst d, e => (match e with
    | .Constant c _ _ => cstB d c
    | _ => false)
  | .var i, e => (match e with
    | .Name x _ => slotB k i x
    | _ => false)
  | .glob x, e => (match e with
    | .Name y _ => decide (x = y) && (glB k.sc y && (g.gl y).isSome)
    | _ => false)
  | .bin op a b, e => (match e with
    | .BinOp l o r _ => decide (op = o) && (mtX g k a l && mtX g k b r)
    | _ => false)
  | .neg a, e => (match e with
    | .UnaryOp .USub l _ => mtX g k a l
    | _ => false)
  | .not a, e => (match e with
    | .UnaryOp .Not l _ => mtX g k a l
    | _ => false)
  | .bool ia es, e => (match e with
    | .BoolOp op l _ => decide (op = if ia then .And else .Or) && mtB g k ia es l
    | _ => false)
  | .cmp op a b, e => (match e with
    | .Compare l [o] [r] _ => decide (op = o) && (mtX g k a l && (mtX g k b r && notSet r))
    | _ => false)
  | .chain o1 o2 a b z, e => (match e with
    | .Compare l [p1, p2] [r, q] _ => decide (o1 = p1) && (decide (o2 = p2) && (mtX g k a l && (mtX g k b r && (mtX g k z q && (notSet r && notSet q)))))
    | _ => false)
  | .ife t a b, e => (match e with
    | .IfExp c l r _ => mtT g k t c && (mtX g k a l && mtX g k b r)
    | _ => false)
  | .tup es, e => (match e with
    | .Tuple l _ _ => mtXs g k es l
    | _ => false)
  | .lst es, e => (match e with
    | .List l _ => mtXs g k es l
    | _ => false)
  | .dct ks es, e => (match e with
    | .Dict keys values _ => keyB ks keys && (decide (ks.length ≤ 15) && (decide ks.Nodup && (decide (keys.length = values.length) && mtXs g k es values)))
    | _ => false)
  | .lrng a, e => (match e with
    | .Call (.Name x _) [.Call (.Name y _) [u] [] _] [] _ => decide (x = "list") && (decide (y = "range") && (freeB g k x && (freeB g k y && (mtX g k a u && notStar u))))
    | _ => false)
  | .smeth o m a, e => (match e with
    | .Call (.Attribute l x ap) [u] [] cp => decide (x = m.nm) && (plainB l && ((ap.endLine == cp.line) && (mtX g k o l && (mtX g k a u && notStar u))))
    | _ => false)
  | .fstr es, e => (match e with
    | .JoinedStr (u :: v :: l) _ => mtFs g k es (u :: v :: l)
    | _ => false)
  | .comp elt tg it ifs own, e => (match e with
    | .ListComp el [⟨t, i, fs, 0⟩] scope _ => mtI g k it t i && (blkC k.N k.sc scope (ownB k own) && (decide ((ownB k own).map (·.2) = own) && ((tgN tg).all (own.contains ·) && (mtG g (blkK k scope) tg t && (mtF g (blkK k scope) ifs fs && (mtX g (blkK k scope) elt el && notSet i))))))
    | _ => false)
  | .call f es, e => (match e with
    | .Call (.Name x _) args [] _ => decide (f = x) && (glB k.sc x && ((g.P.lookup f).isSome && mtA g k es args))
    | _ => false)
  | .callk f n ks es, e => (match e with
    | .Call (.Name x _) [] (kw :: kws) _ => decide (f = x) && (decide (n = 0) && (glB k.sc x && ((g.P.lookup f).isSome && ((g.kw f).contains ks && mtK g k es ks (kw :: kws)))))
    | _ => false)
  | .bi b es, e => (match e with
    | .Call (.Name x _) (a :: args) [] _ => biB g k b x && mtXs g k es (a :: args)
    | _ => false)
  | .isi a tys, e => (match e with
    | .Call (.Name x _) [l, r] [] _ => decide (x = "isinstance") && (freeB g k x && (mtX g k a l && (notStar l && tyB g k tys r)))
    | _ => false)
  | .meth o m es, e => (match e with
    | .Call (.Attribute l x ap) args [] cp => decide (x = m.nm) && (plainB l && ((ap.endLine == cp.line) && (mtX g k o l && (mtXs g k es args && decide (args.length < 20)))))
    | _ => false)
  | .sub a i, e => (match e with
    | .Subscript l r _ => mtX g k a l && (mtX g k i r && notSlice r)
    | _ => false)
  | .slc a lo hi, e => (match e with
    | .Subscript l (.Slice u v none _) _ => mtX g k a l && (mtO g k lo u && mtO g k hi v)
    | _ => false)
def mtXs (g : GI) (k : Cc) : Exs → List Expr → Bool
  | .nil, es => (match es with
    | [] => true
    | _ => false)
  | .cons a as, es => (match es with
    | e :: es => mtX g k a e && (notStar e && mtXs g k as es)
    | [] => false)
/-- the parts of an f-string -/
def mtFs (g : GI) (k : Cc) : Exs → List Expr → Bool
  | .nil, es => (match es with
    | [] => true
    | _ => false)
  | .cons a as, es => (match es with
    | .FormattedValue e f none _ :: es => decide (f = -1) && (mtX g k a e && mtFs g k as es)
    | .Constant (.str z) j p :: es => isC z a && mtFs g k as es
    | _ => false)
def mtB (g : GI) (k : Cc) : Bool → Exs → List Expr → Bool
  | _, .nil, _ => false
  | ia, .cons a as, es => (match es with
    | e :: es => mtX g k a e && (match as, es with
      | .nil, [] => true
      | .nil, _ => false
      | _, [] => false
      | as, es => mtB g k ia as es)
    | [] => false)
def mtT (g : GI) (k : Cc) : Te → Expr → Bool
  | .x a, e => (match e with
    | .UnaryOp .Not _ _ => false
    | .BoolOp _ _ _ => false
    | .IfExp _ _ _ _ => false
    | .Compare l [o] [r] p => mtX g k a (.Compare l [o] [r] p)
    | .Compare l [o, o'] [r, r'] p => mtX g k a (.Compare l [o, o'] [r, r'] p)
    | .Compare _ _ _ _ => false
    | e => mtX g k a e)
  | .n t, e => (match e with
    | .UnaryOp .Not l _ => mtT g k t l
    | _ => false)
  | .b ia ts, e => (match e with
    | .BoolOp op l _ => decide (op = if ia then .And else .Or) && mtTs g k ia ts l
    | _ => false)
def mtTs (g : GI) (k : Cc) : Bool → Tes → List Expr → Bool
  | _, .nil, es => (match es with
    | [] => true
    | _ => false)
  | ia, .cons t ts, es => (match es with
    | e :: es => mtT g k t e && mtTs g k ia ts es
    | [] => false)
/-- the tests of a comprehension: none, or one -/
def mtF (g : GI) (k : Cc) : Tes → List Expr → Bool
  | .nil, es => (match es with
    | [] => true
    | _ => false)
  | .cons t ts, es => (match ts, es with
    | .nil, [e] => mtT g k t e
    | _, _ => false)
def mtAg (g : GI) (k : Cc) : Ag → Expr → Bool
  | .v a, e => mtX g k a e
  | .b a, e => mtX g k a e
def mtA (g : GI) (k : Cc) : Ags → List Expr → Bool
  | .nil, es => (match es with
    | [] => true
    | _ => false)
  | .cons a as, es => (match es with
    | e :: es => mtAg g k a e && (notStar e && mtA g k as es)
    | [] => false)
/-- arguments by name -/
def mtK (g : GI) (k : Cc) : Ags → List Str → List Keyword → Bool
  | .nil, ks, es => (match ks, es with
    | [], [] => true
    | _, _ => false)
  | .cons a as, ks, es => (match ks, es with
    | x :: ks, ⟨some y, e, _⟩ :: es => decide (x = y) && (mtAg g k a e && mtK g k as ks es)
    | _, _ => false)
def mtO (g : GI) (k : Cc) : Ox → Option Expr → Bool
  | .no, e => (match e with
    | none => true
    | some _ => false)
  | .yes a, e => (match e with
    | some e => mtX g k a e
    | none => false)
/-- what is walked, for the target t -/
def mtI (g : GI) (k : Cc) : It → Expr → Expr → Bool
  | .q a, _, e => mtX g k a e && notSet e
  | .rng es, _, e => (match es, e with
    | .cons u .nil, .Call (.Name x _) [a] [] _ => decide (x = "range") && (freeB g k x && (mtX g k u a && notStar a))
    | .cons u (.cons v .nil), .Call (.Name x _) [a, b] [] _ => decide (x = "range") && (freeB g k x && (mtX g k u a && (mtX g k v b && (notStar a && notStar b))))
    | _, _ => false)
  | .enum a, t, e => (match t, e with
    | .Tuple _ _ _, .Call (.Name x _) [l] [] _ => decide (x = "enumerate") && (freeB g k x && (mtX g k a l && notStar l))
    | _, _ => false)
  | .zip a b, t, e => (match t, e with
    | .Tuple _ _ _, .Call (.Name x _) [l, r] [] _ => decide (x = "zip") && (freeB g k x && (mtX g k a l && (mtX g k b r && (notStar l && notStar r))))
    | _, _ => false)
def mtG (g : GI) (k : Cc) : Tg → Expr → Bool
  | .name i, e => (match e with
    | .Name x _ => storeB k i x
    | _ => false)
  | .tup ts, e => (match e with
    | .Tuple es _ _ => mtGs g k ts es
    | _ => false)
  | .sub o i, e => (match e with
    | .Subscript l r _ => mtX g k o l && (mtX g k i r && notSlice r)
    | _ => false)
def mtGs (g : GI) (k : Cc) : Tgs → List Expr → Bool
  | .nil, es => (match es with
    | [] => true
    | _ => false)
  | .cons t ts, es => (match es with
    | e :: es => mtG g k t e && (notStar e && mtGs g k ts es)
    | [] => false)
end

/-! ## the context -/
/-- what the caller and the callee agree upon: a state without names -/
def bare (c : Cf) : Prop := c.s.v = [] ∧ c.σ = []
def ArgR (K : PySem.W.Frag) (c : Cf) : Slot → V → Prop
  | .val d, v => DR K c.μ c.H d v
  | .ro xs, v => ∃ a us, v = .ref a ∧ DRs K c.μ c.H xs us ∧ (KLst K a us ∨ (c.ρ a ∧ Rd c.H a (.lst us)))
  | _, _ => False
def ArgRs (K : PySem.W.Frag) (c : Cf) : List Slot → List V → Prop
  | [], vs => vs = []
  | x :: xs, vs => ∃ v r, vs = v :: r ∧ ArgR K c x v ∧ ArgRs K c xs r
def OutR (K : PySem.W.Frag) (c0 c : Cf) : Slot → V → Prop
  | .val d, v => DR K c.μ c.H d v
  | .own xs, v => ∃ a us, v = .ref a ∧ c.H a = some (.lst us) ∧ DRs K c.μ c.H xs us ∧ ¬ Foot c a ∧ ¬ c.ρ a ∧ c0.H a = none
  | _, _ => False
def PostF (K : PySem.W.Frag) (c0 : Cf) (r : RF) (Qn : Slot → Cf → Prop) (Qx : Xc → Cf → Prop) : Prop := match r with
  | .ok o M => ∀ c, bare c → c.s.M = M → Stp c0 c → SR K c → Qn o c
  | .exc x M => ∀ c, bare c → c.s.M = M → Stp c0 c → SR K c → Qx x c
  | .bad => False
/-- a def's promise: it does what the term's run says -/
def spF (K : PySem.W.Frag) (mg : Str → Option Value) (g : GI) (f : Str) (fd : Fn) (n : Nat) : Sp := fun vs H Q E => ∃ (c0 : Cf) (as : List Slot), as.length = fd.ps.length ∧ bare c0 ∧ SR K c0 ∧ c0.H = H ∧ ArgRs K c0 as vs ∧
  PostF K c0 (run g.P g.gl n f as c0.s.M) (fun o c => ∀ v, OutR K c0 c o v → Q v c.H) fun x c => ∀ cls d, XR K (cnM mg) c x cls d → E cls d c.H
structure FnJ (P : Program) (w : World) (K : PySem.W.Frag) (mg : Str → Option Value) (base : Heap) (g : GI) (f : Str) (fd : Fn) (n : Nat) (a : Addr) (fdt : FuncData) : Prop where
  at_ : mg f = some (.ref a)
  keep : PySem.W.keepIn K (.ref a) = true
  ok : FnOk P w K mg base (L2.CX P w) n a fdt fd.ps (spF K mg g f fd n)
  dfl : ∀ k, k ≤ fd.dfl.length → ∃ dvs ds, Vals dvs ds ∧ (∀ μ H, DRs K μ H (fd.dfl.drop (fd.dfl.length - k)) dvs) ∧ Binds K fdt fd.ps ds
  kw : ∀ ks, ks ∈ g.kw f → ∀ (s : Shared) (ws ys : List Value), K.In s.heap → ws.length = ks.length → pick (ks.zip ws) fd.ps = some ys → BindsTo s fdt ⟨[], ks.zip ws⟩ (fd.ps.zip ys)
abbrev FnI (X : Cx) (g : GI) (f : Str) (fd : Fn) (n : Nat) (a : Addr) (fdt : FuncData) : Prop := FnJ X.prog X.w X.K X.mg X.base g f fd n a fdt
structure Ck (X : Cx) (W : WX) (k : Cc) (g : GI) (n : Nat) : Prop where
  N : X.N = k.N
  sc : X.env.scope = k.sc
  fn : ∀ x, k.fn x = true → X.fn x = true
  calm : X.calm = true
  nd : k.N.Nodup
  room : Room n X.A
  un : X.A.units + 65 < cLine
  tk : Takes X W
  fr : ∀ x, g.fr.contains x = true → X.mg x = none
  gcd : g.gcd = true → X.mg "gcd" = some (.builtin "math.gcd")
  gl : ∀ x d, g.gl x = some d → ∃ u v, X.mg x = some u ∧ RelV v u ∧ ∀ μ H, DR X.K μ H d v
  fns : ∀ f fd, g.P.lookup f = some fd → ∃ a fdt, FnI X g f fd n a fdt
def cnOf (g : GI) (n : Nat) : Cn := ⟨run g.P g.gl n, kbOf g.P, g.gl⟩
end G

/-! ## GS7 -/
set_option Elab.async false
set_option linter.all false
set_option maxRecDepth 100000
set_option maxHeartbeats 4000000
namespace G
open PySem PySem.Spec PyProof.Rows L2

section
variable {X : Cx} {W : WX} {c c1 : Cf}
theorem Post.kv {o : Option SV} {Q : VK} (sr : SR X.K c1) (st : Stp c c1) (h : Post X.K c1 (G.lif o c1.s) (fun x c' => ∀ v, SVR X.K c' x v → Fresh c.H x v → Q v c'.H) (QX X W)) : ∃ z, o = some z ∧ KV' X c1 Q z := by
  cases o with
  | none => exact h.elim
  | some z => exact ⟨z, rfl, fun c' v e st' sr' vs' rv fv => h c' e st' sr' vs' v rv (Fresh.back st fv)⟩
theorem Post.kvok {z : SV} {Q : VK} (st : Stp c c1) (h : Post X.K c1 (.ok z c1.s) (fun x c' => ∀ v, SVR X.K c' x v → Fresh c.H x v → Q v c'.H) (QX X W)) : KV' X c1 Q z :=
  fun c' v e st' sr' vs' rv fv => h c' e st' sr' vs' v rv (Fresh.back st fv)
theorem KV'.bl {Q : VK} {b : Bool} (sr : SR X.K c) (k : KV' X c Q (.val (.bl b))) : Q (.bl b) c.H := k.val sr (by simp only [DR])

/-! ### expressions -/
theorem j_bin {a b : Expr} {ma mb : S → R SV} {op : Operator} {pos : Pos} (ha : JX X W ma a) (hb : JX X W mb b) : JX X W (fun s => (ma s).bind fun x s1 => (mb s1).bind fun y s2 => lif (binD op x y s2) s2) (.BinOp a op b pos) := by
  intro c Q sr p
  refine WpE.of (pe_op (opW _) (peW a) (peW b)) ?_
  refine ha c _ sr (p.bind.imp fun x c1 st1 sr1 vs1 p1 v rv fv => ?_)
  rw [← vs1.1]
  refine hb c1 _ sr1 (p1.bind.imp fun y c2 st2 sr2 vs2 p2 u ru fu => ?_)
  obtain ⟨z, hz, k⟩ := Post.kv sr2 (st1.trans st2) p2
  exact bin_ok sr2 (rv.step st2 vs2) ru hz k
theorem j_neg {a : Expr} {ma : S → R SV} {pos : Pos} (ha : JX X W ma a) : JX X W (fun s => (ma s).bind fun x s1 => lif (negD x) s1) (.UnaryOp .USub a pos) := by
  intro c Q sr p
  refine WpE.of (pe_un un_neg (peW a)) ?_
  refine ha c _ sr (p.bind.imp fun x c1 st1 sr1 vs1 p1 v rv fv => ?_)
  obtain ⟨z, hz, k⟩ := Post.kv sr1 st1 p1
  unfold negD at hz
  split at hz
  · cases hz
    simp only [SVR, DR] at rv
    subst rv
    exact ⟨_, rfl, k.val sr1 (by simp only [DR])⟩
  · cases hz
theorem j_not {a : Expr} {ma : S → R SV} {pos : Pos} (ha : JX X W ma a) : JX X W (fun s => (ma s).bind fun x s1 => lif ((truD s1 x).map fun b => SV.val (.bl (!b))) s1) (.UnaryOp .Not a pos) := by
  intro c Q sr p
  refine WpE.of (pe_notT (peW a)) ?_
  refine ha c _ sr (p.bind.imp fun x c1 st1 sr1 vs1 p1 v rv fv => ?_)
  obtain ⟨z, hz, k⟩ := Post.kv sr1 st1 p1
  obtain ⟨b, hb, rfl⟩ := Option.map_eq_some_iff.mp hz
  exact ⟨b, tru_okD sr1 rv hb, k.bl sr1⟩
theorem j_cmp {a b : Expr} {ma mb : S → R SV} {op : CmpOp} {pos : Pos} (hu : X.A.units + 65 < cLine) (hm : behindInMarks op b = false) (ha : JX X W ma a) (hb : JX X W mb b) :
    JX X W (fun s => (ma s).bind fun x s1 => (mb s1).bind fun y s2 => lif ((cmpD op x y s2).map fun k => SV.val (.bl k)) s2) (.Compare a [op] [b] pos) := by
  intro c Q sr p
  refine WpE.of (pe_cmpR (opW _) (peW a) (peW b) hm) ?_
  refine ha c _ sr (p.bind.imp fun x c1 st1 sr1 vs1 p1 v rv fv => ?_)
  rw [← vs1.1]
  refine hb c1 _ sr1 (p1.bind.imp fun y c2 st2 sr2 vs2 p2 u ru fu => ?_)
  obtain ⟨z, hz, k⟩ := Post.kv sr2 (st1.trans st2) p2
  obtain ⟨b, hb, rfl⟩ := Option.map_eq_some_iff.mp hz
  exact cmp_ok hu sr2 (rv.step st2 vs2) ru hb (k.bl sr2)
theorem j_tcmp {a b : Expr} {ma mb : S → R SV} {op : CmpOp} {pos : Pos} (hu : X.A.units + 65 < cLine) (hm : behindInMarks op b = false) (ha : JX X W ma a) (hb : JX X W mb b) :
    JT X W (fun s => ((ma s).bind fun x s1 => (mb s1).bind fun y s2 => lif ((cmpD op x y s2).map fun k => SV.val (.bl k)) s2).bind fun x s1 => lif (truD s1 x) s1) (.Compare a [op] [b] pos) := by
  intro c Q sr p
  dsimp only at p
  rw [R.bind_assoc] at p
  refine WpT.of (pt_cmpR (opW _) (peW a) (peW b) hm) ?_
  refine ha c _ sr (p.bind.imp fun x c1 st1 sr1 vs1 p1 v rv fv => ?_)
  rw [R.bind_assoc] at p1
  rw [← vs1.1]
  refine hb c1 _ sr1 (p1.bind.imp fun y c2 st2 sr2 vs2 p2 u ru fu => ?_)
  cases hz : cmpD op x y c2.s with
  | none => rw [hz] at p2; exact p2.elim
  | some k =>
    rw [hz] at p2
    obtain ⟨k', e, q⟩ := Post.lif (o := some k) sr2 p2
    cases e
    exact cmp_ok hu sr2 (rv.step st2 vs2) ru hz ⟨k, rfl, q⟩
theorem j_chain {a b z : Expr} {ma mb mz : S → R SV} {o1 o2 : CmpOp} {pos : Pos} (hu : X.A.units + 65 < cLine) (hm : lastMarks [o1, o2] [b, z] = false) (ha : JX X W ma a) (hb : JX X W mb b) (hz : JX X W mz z) :
    JX X W (fun s => (ma s).bind fun x s1 => (mb s1).bind fun y s2 => (lif (cmpD o1 x y s2) s2).bind fun k s3 => if k then (mz s3).bind fun w s4 => lif ((cmpD o2 y w s4).map fun k => SV.val (.bl k)) s4 else .ok (.val (.bl false)) s3)
      (.Compare a [o1, o2] [b, z] pos) := by
  intro c Q sr p
  refine WpE.of (pe_chain (opW _) (opW _) (peW a) (peW b) (peW z) hm) ?_
  refine ha c _ sr (p.bind.imp fun x c1 st1 sr1 vs1 p1 v rv fv => ?_)
  rw [← vs1.1]
  refine hb c1 _ sr1 (p1.bind.imp fun y c2 st2 sr2 vs2 p2 u ru fu => ?_)
  obtain ⟨k, hk, p3⟩ := Post.lif sr2 p2.bind
  refine cmp_ok hu sr2 (rv.step st2 vs2) ru hk ⟨k, rfl, ?_⟩
  cases k with
  | false =>
    rw [if_neg Bool.false_ne_true] at p3 ⊢
    exact (Post.kvok (st1.trans st2) p3).bl sr2
  | true =>
    rw [if_pos rfl] at p3 ⊢
    rw [← vs2.1]
    refine hz c2 _ sr2 (p3.bind.imp fun w c3 st3 sr3 vs3 p4 t rt ft => ?_)
    obtain ⟨w', hw, k⟩ := Post.kv sr3 ((st1.trans st2).trans st3) p4
    obtain ⟨b, hb, rfl⟩ := Option.map_eq_some_iff.mp hw
    exact cmp_ok hu sr3 (ru.step st3 vs3) rt hb (k.bl sr3)
theorem j_tchain {a b z : Expr} {ma mb mz : S → R SV} {o1 o2 : CmpOp} {pos : Pos} (hu : X.A.units + 65 < cLine) (hm : lastMarks [o1, o2] [b, z] = false) (ha : JX X W ma a) (hb : JX X W mb b) (hz : JX X W mz z) :
    JT X W (fun s => ((ma s).bind fun x s1 => (mb s1).bind fun y s2 => (lif (cmpD o1 x y s2) s2).bind fun k s3 => if k then (mz s3).bind fun w s4 => lif ((cmpD o2 y w s4).map fun k => SV.val (.bl k)) s4 else .ok (.val (.bl false)) s3).bind fun x s1 => lif (truD s1 x) s1)
      (.Compare a [o1, o2] [b, z] pos) := by
  intro c Q sr p
  dsimp only at p
  rw [R.bind_assoc] at p
  refine WpT.of (pt_chain (opW _) (opW _) (peW a) (peW b) (peW z) hm) ?_
  refine ha c _ sr (p.bind.imp fun x c1 st1 sr1 vs1 p1 v rv fv => ?_)
  rw [R.bind_assoc] at p1
  rw [← vs1.1]
  refine hb c1 _ sr1 (p1.bind.imp fun y c2 st2 sr2 vs2 p2 u ru fu => ?_)
  rw [R.bind_assoc] at p2
  obtain ⟨k, hk, p3⟩ := Post.lif sr2 p2.bind
  refine cmp_ok hu sr2 (rv.step st2 vs2) ru hk ⟨k, rfl, ?_⟩
  cases k with
  | false =>
    rw [if_neg Bool.false_ne_true] at p3 ⊢
    obtain ⟨k', e, q⟩ := Post.lif (o := some false) sr2 p3
    cases e
    exact ⟨false, rfl, q⟩
  | true =>
    rw [if_pos rfl] at p3 ⊢
    rw [R.bind_assoc] at p3
    rw [← vs2.1]
    refine hz c2 _ sr2 (p3.bind.imp fun w c3 st3 sr3 vs3 p4 t rt ft => ?_)
    cases hw : cmpD o2 y w c3.s with
    | none => rw [hw] at p4; exact p4.elim
    | some k =>
      rw [hw] at p4
      obtain ⟨k', e, q⟩ := Post.lif (o := some k) sr3 p4
      cases e
      exact cmp_ok hu sr3 (ru.step st3 vs3) rt hw ⟨k, rfl, q⟩
theorem j_ife {t a b : Expr} {mt : S → R Bool} {ma mb : S → R SV} {pos : Pos} (ht : JT X W mt t) (ha : JX X W ma a) (hb : JX X W mb b) : JX X W (fun s => (mt s).bind fun k s1 => if k then ma s1 else mb s1) (.IfExp t a b pos) := by
  intro c Q sr p
  refine WpE.of (pe_ifExp (ptW t) (peW a) (peW b)) ?_
  refine ht c _ sr (p.bind.imp fun k c1 st1 sr1 vs1 p1 => ?_)
  rw [← vs1.1]
  cases k with
  | true =>
    rw [if_pos rfl] at p1 ⊢
    exact ha c1 _ sr1 (p1.imp fun x c2 st2 sr2 vs2 q v rv fv => q v rv (Fresh.back st1 fv))
  | false =>
    rw [if_neg Bool.false_ne_true] at p1 ⊢
    exact hb c1 _ sr1 (p1.imp fun x c2 st2 sr2 vs2 q v rv fv => q v rv (Fresh.back st1 fv))
theorem j_tup {es : List Expr} {m : S → R (List D)} {k : Nat} {pos : Pos} (h : JEs X W m es) : JX X W (fun s => (m s).bind fun xs s1 => if fits xs.length then .ok (.val (.tup xs)) s1 else .bad) (.Tuple es k pos) := by
  intro c Q sr p
  refine WpE.of (pe_tup (paW es)) ?_
  refine h c _ sr (p.bind.imp fun ds c1 st1 sr1 vs1 p1 vs r => ?_)
  split at p1
  · rename_i hl
    exact ⟨by rw [r.length]; exact fits_of hl, fun p' n => (Post.kvok st1 p1).tup sr1 r p' n⟩
  · exact p1.elim
theorem j_lst {es : List Expr} {m : S → R (List D)} {pos : Pos} (h : JEs X W m es) : JX X W (fun s => (m s).bind fun xs s1 => if fits xs.length then .ok (.new xs) s1 else .bad) (.List es pos) := by
  intro c Q sr p
  refine WpE.of (pe_lst (paW es)) ?_
  refine h c _ sr (p.bind.imp fun ds c1 st1 sr1 vs1 p1 vs r => ?_)
  split at p1
  · rename_i hl
    exact ⟨by rw [r.length]; exact fits_of hl, fun p' n => (Post.kvok st1 p1).new sr1 r p' n⟩
  · exact p1.elim
theorem j_sub {a b : Expr} {ma mb : S → R SV} {pos : Pos} (hu : X.A.units + 65 < cLine) (hs : PlainIx b) (ha : JX X W ma a) (hb : JX X W mb b) : JX X W (fun s => (ma s).bind fun x s1 => (mb s1).bind fun y s2 => lif (subD x y s2) s2) (.Subscript a b pos) := by
  intro c Q sr p
  refine WpE.of (pe_ix (ix_any (by omega)) (peW a) (peW b) hs) ?_
  refine ha c _ sr (p.bind.imp fun x c1 st1 sr1 vs1 p1 v rv fv => ?_)
  rw [← vs1.1]
  refine hb c1 _ sr1 (p1.bind.imp fun y c2 st2 sr2 vs2 p2 u ru fu => ?_)
  obtain ⟨z, hz, k⟩ := Post.kv sr2 (st1.trans st2) p2
  exact sub_ok sr2 (rv.step st2 vs2) ru hz k
/-- a slice's part -/
def JO (X : Cx) (W : WX) (m : S → R (Option Int)) (e : Option Expr) : Prop := ∃ t : TO, PO X e t ∧ ∀ c Q, SR X.K c → Post X.K c (m c.s) (fun o c' => Q o c'.H) (QX X W) → t c.σ c.H Q
theorem j_ono : JO X W (fun s => .ok none s) none := ⟨_, po_none, fun c Q sr p => p.ok sr⟩
theorem j_oyes {a : Expr} {ma : S → R SV} (ha : JX X W ma a) : JO X W (fun s => (ma s).bind optI) (some a) := by
  refine ⟨_, po_some (peW a), fun c Q sr p => ?_⟩
  refine ha c _ sr (p.bind.imp fun x c1 st1 sr1 vs1 p1 v rv fv => ?_)
  unfold optI at p1
  split at p1
  · simp only [SVR, DR] at rv
    exact ⟨_, rv, p1.ok sr1⟩
  · exact p1.elim
theorem j_slc {a : Expr} {lo hi : Option Expr} {ma : S → R SV} {ml mh : S → R (Option Int)} {pos p2 : Pos} (ha : JX X W ma a) (hl : JO X W ml lo) (hh : JO X W mh hi) :
    JX X W (fun s => (ma s).bind fun x s1 => (ml s1).bind fun l s2 => (mh s2).bind fun h s3 => lif (slcD x l h s3) s3) (.Subscript a (.Slice lo hi none p2) pos) := by
  intro c Q sr p
  obtain ⟨tl, pl, ql⟩ := hl
  obtain ⟨th, ph, qh⟩ := hh
  refine WpE.of (pe_slice sl_any (peW a) pl ph) ?_
  refine ha c _ sr (p.bind.imp fun x c1 st1 sr1 vs1 p1 v rv fv => ?_)
  rw [← vs1.1]
  refine ql c1 _ sr1 (p1.bind.imp fun l c2 st2 sr2 vs2 p2 => ?_)
  rw [← vs2.1]
  refine qh c2 _ sr2 (p2.bind.imp fun h c3 st3 sr3 vs3 p3 => ?_)
  obtain ⟨z, hz, k⟩ := Post.kv sr3 ((st1.trans st2).trans st3) p3
  exact slc_ok sr3 ((rv.step st2 vs2).step st3 vs3) hz k
/-! ### rows of expressions -/
theorem j_es_nil : JEs X W (fun s => .ok [] s) [] := fun c Q sr p => WpA.of pa_nil (p.ok sr [] (by simp only [DRs]))
theorem j_es_cons {e : Expr} {es : List Expr} {m : S → R SV} {ms : S → R (List D)} (hs : starEach (e :: es) X.env = (false, eval e X.env) :: starEach es X.env) (h : JX X W m e) (t : JEs X W ms es) :
    JEs X W (fun s => ((m s).bind toVal).bind fun d s1 => (ms s1).bind fun ds s2 => .ok (d :: ds) s2) (e :: es) := by
  intro c Q sr p
  refine WpA.of (pa_cons (peW e) (paW es) hs) ?_
  refine h.val sr p fun c1 d v st1 sr1 vs1 rd p1 => ?_
  rw [← vs1.1]
  refine t c1 _ sr1 (p1.bind.imp fun ds c2 st2 sr2 vs2 p2 us r => ?_)
  exact p2.ok sr2 _ (.cons (st2.dr rd) r)
theorem j_xs_nil : JXs X W (fun s => .ok [] s) [] := fun c Q sr p => WpA.of pa_nil (p.ok sr [] rfl trivial)
theorem j_xs_cons {e : Expr} {es : List Expr} {m : S → R SV} {ms : S → R (List SV)} (hs : starEach (e :: es) X.env = (false, eval e X.env) :: starEach es X.env) (h : JX X W m e) (t : JXs X W ms es) :
    JXs X W (fun s => (m s).bind fun d s1 => (ms s1).bind fun ds s2 => .ok (d :: ds) s2) (e :: es) := by
  intro c Q sr p
  refine WpA.of (pa_cons (peW e) (paW es) hs) ?_
  refine h c _ sr (p.bind.imp fun x c1 st1 sr1 vs1 p1 v rv fv => ?_)
  rw [← vs1.1]
  refine t c1 _ sr1 (p1.bind.imp fun xs c2 st2 sr2 vs2 p2 us r f => ?_)
  exact p2.ok sr2 _ ⟨v, us, rfl, rv.step st2 vs2, r⟩ ⟨fv, Freshs.back (K := X.K) st1 f⟩
theorem j_a_nil : JA X W (fun s => .ok [] s) [] := fun c Q sr p => WpA.of pa_nil (p.ok sr [] rfl)
theorem j_a_v {e : Expr} {es : List Expr} {m : S → R SV} {ms : S → R (List Ar)} (hs : starEach (e :: es) X.env = (false, eval e X.env) :: starEach es X.env) (h : JX X W m e) (t : JA X W ms es) :
    JA X W (fun s => (((m s).bind toVal).bind fun d s1 => .ok (Ar.val d) s1).bind fun d s1 => (ms s1).bind fun ds s2 => .ok (d :: ds) s2) (e :: es) := by
  intro c Q sr p
  dsimp only at p
  rw [R.bind_assoc] at p
  refine WpA.of (pa_cons (peW e) (paW es) hs) ?_
  refine h.val sr p fun c1 d v st1 sr1 vs1 rd p1 => ?_
  have p1 : Post X.K c1 ((ms c1.s).bind fun ds s2 => .ok (Ar.val d :: ds) s2) _ _ := p1
  rw [← vs1.1]
  refine t c1 _ sr1 (p1.bind.imp fun ds c2 st2 sr2 vs2 p2 us r => ?_)
  exact p2.ok sr2 _ ⟨v, us, rfl, st2.dr rd, r⟩
theorem j_a_b {e : Expr} {es : List Expr} {m : S → R SV} {ms : S → R (List Ar)} (hs : starEach (e :: es) X.env = (false, eval e X.env) :: starEach es X.env) (h : JX X W m e) (t : JA X W ms es) :
    JA X W (fun s => ((m s).bind fun d s1 => .ok (lend d) s1).bind fun d s1 => (ms s1).bind fun ds s2 => .ok (d :: ds) s2) (e :: es) := by
  intro c Q sr p
  dsimp only at p
  rw [R.bind_assoc] at p
  refine WpA.of (pa_cons (peW e) (paW es) hs) ?_
  refine h c _ sr (p.bind.imp fun x c1 st1 sr1 vs1 p1 v rv fv => ?_)
  have p1 : Post X.K c1 ((ms c1.s).bind fun ds s2 => .ok (lend x :: ds) s2) _ _ := p1
  rw [← vs1.1]
  refine t c1 _ sr1 (p1.bind.imp fun ds c2 st2 sr2 vs2 p2 us r => ?_)
  exact p2.ok sr2 _ ⟨v, us, rfl, by rw [lend_sv]; exact rv.step st2 vs2, r⟩
/-! ### and, or -/
/-- and, or as a value: the operands from here on -/
def JB (X : Cx) (W : WX) (m : S → R SV) (op : BoolOp) (es : List Expr) : Prop := ∀ pos, JX X W m (.BoolOp op es pos)
theorem j_b_one {e : Expr} {m : S → R SV} {op : BoolOp} (h : JX X W m e) : JB X W (fun s => (m s).bind fun x s1 => .ok x s1) op [e] := fun pos c Q sr p => by
  refine WpE.of (pe_one (peW e)) (h c Q sr ?_)
  dsimp only at p
  cases r : m c.s <;> rw [r] at p <;> exact p
theorem j_b_cons {e b : Expr} {rest : List Expr} {m ms : S → R SV} {ia : Bool} (h : JX X W m e) (t : JB X W ms (if ia then .And else .Or) (b :: rest)) :
    JB X W (fun s => (m s).bind fun x s1 => (match x with
      | .val (.bl k) => if k = ia then ms s1 else .ok (.val (.bl k)) s1
      | _ => .bad)) (if ia then .And else .Or) (e :: b :: rest) := fun pos c Q sr p => by
  cases ia with
  | true =>
    refine WpE.of (pe_and (peW e) (peW (.BoolOp .And (b :: rest) pos))) ?_
    refine h c _ sr (p.bind.imp fun x c1 st1 sr1 vs1 p1 v rv fv => ?_)
    split at p1
    · rename_i k
      simp only [SVR, DR] at rv
      refine ⟨k, rv, ?_⟩
      rw [← vs1.1]
      cases k with
      | true => exact t pos c1 _ sr1 (Post.imp (show Post X.K c1 (ms c1.s) _ _ from p1) fun x c2 st2 sr2 vs2 q v rv fv => q v rv (Fresh.back st1 fv))
      | false => exact (Post.kvok st1 (show Post X.K c1 (.ok (.val (.bl false)) c1.s) _ _ from p1)).bl sr1
    · exact p1.elim
  | false =>
    refine WpE.of (pe_or (peW e) (peW (.BoolOp .Or (b :: rest) pos))) ?_
    refine h c _ sr (p.bind.imp fun x c1 st1 sr1 vs1 p1 v rv fv => ?_)
    split at p1
    · rename_i k
      simp only [SVR, DR] at rv
      refine ⟨k, rv, ?_⟩
      rw [← vs1.1]
      cases k with
      | false => exact t pos c1 _ sr1 (Post.imp (show Post X.K c1 (ms c1.s) _ _ from p1) fun x c2 st2 sr2 vs2 q v rv fv => q v rv (Fresh.back st1 fv))
      | true => exact (Post.kvok st1 (show Post X.K c1 (.ok (.val (.bl true)) c1.s) _ _ from p1)).bl sr1
    · exact p1.elim
/-- .. as a test -/
def JTs (X : Cx) (W : WX) (m : S → R Bool) (op : BoolOp) (es : List Expr) : Prop := ∀ c Q, SR X.K c → Post X.K c (m c.s) (fun b c' => Q b c'.H) (QX X W) →
  ∀ whole pos pins s, Inv X pins c.σ c.H s → wpAny (model X.prog X.w) X.A (isTrue (.BoolOp op es pos) X.env whole) (TP X pins c.σ Q) X.xe s
theorem j_ts_nil {ia : Bool} : JTs X W (fun s => .ok ia s) (if ia then .And else .Or) [] := fun c Q sr p whole pos pins s I => by
  cases ia with
  | true => exact isTrue_and_nil ⟨c.H, I, p.ok sr⟩
  | false => exact isTrue_or_nil ⟨c.H, I, p.ok sr⟩
theorem j_ts_cons {e : Expr} {rest : List Expr} {m ms : S → R Bool} {ia : Bool} (h : JT X W m e) (t : JTs X W ms (if ia then .And else .Or) rest) :
    JTs X W (fun s => (m s).bind fun b s1 => if b = ia then ms s1 else .ok b s1) (if ia then .And else .Or) (e :: rest) := by
  intro c Q sr p whole pos pins s I
  cases ia with
  | true =>
    have key := h c (fun b H1 => if b = true then ∀ pins s, Inv X pins c.σ H1 s → wpAny (model X.prog X.w) X.A (isTrue (.BoolOp .And rest pos) X.env whole) (TP X pins c.σ Q) X.xe s else Q false H1) sr (p.bind.imp fun b c1 st1 sr1 vs1 p1 => by
      cases b with
      | true =>
        intro pins s I
        rw [← vs1.1] at I ⊢
        exact t c1 Q sr1 p1 whole pos pins s I
      | false => exact p1.ok sr1) pins s I
    refine isTrue_and (thn key fun b s1 ⟨H1, I1, q⟩ => ?_)
    cases b with
    | true => exact q pins s1 I1
    | false => exact ⟨H1, I1, q⟩
  | false =>
    have key := h c (fun b H1 => if b = true then Q true H1 else ∀ pins s, Inv X pins c.σ H1 s → wpAny (model X.prog X.w) X.A (isTrue (.BoolOp .Or rest pos) X.env whole) (TP X pins c.σ Q) X.xe s) sr (p.bind.imp fun b c1 st1 sr1 vs1 p1 => by
      cases b with
      | false =>
        intro pins s I
        rw [← vs1.1] at I ⊢
        exact t c1 Q sr1 p1 whole pos pins s I
      | true => exact p1.ok sr1) pins s I
    refine isTrue_or (thn key fun b s1 ⟨H1, I1, q⟩ => ?_)
    cases b with
    | false => exact q pins s1 I1
    | true => exact ⟨H1, I1, q⟩
theorem j_tb {m : S → R Bool} {op : BoolOp} {es : List Expr} {pos : Pos} (h : JTs X W m op es) : JT X W m (.BoolOp op es pos) := fun c Q sr p pins s I => h c Q sr p _ pos pins s I
theorem j_tn {a : Expr} {m : S → R Bool} {pos : Pos} (h : JT X W m a) : JT X W (fun s => (m s).bind fun b s1 => .ok (!b) s1) (.UnaryOp .Not a pos) := fun c Q sr p => by
  refine WpT.of (pt_not (ptW a)) ?_
  exact h c _ sr (p.bind.imp fun b c1 st1 sr1 vs1 p1 => p1.ok sr1)
theorem j_tx {a : Expr} {m : S → R SV} (he : ∀ whole, isTrue a X.env whole = (do let v ← whole; standAt a.pos; holding [v] (truthy v))) (h : JX X W m a) : JT X W (fun s => (m s).bind fun x s1 => lif (truD s1 x) s1) a := fun c Q sr p => by
  refine WpT.of (pt_truth (peW a) he) ?_
  refine h c _ sr (p.bind.imp fun x c1 st1 sr1 vs1 p1 v rv fv => ?_)
  obtain ⟨b, hb, q⟩ := Post.lif sr1 p1
  exact ⟨b, tru_okD sr1 rv hb, q⟩
end
end G

/-! ## GS8 -/
set_option Elab.async false
set_option linter.all false
set_option maxRecDepth 100000
set_option maxHeartbeats 4000000
namespace G
open PySem PySem.Spec PyProof.Rows L2

theorem Post.bindB {α β : Type} {K : PySem.W.Frag} {b c : Cf} {r : R α} {f : α → S → R β} {Qn : β → Cf → Prop} {Qx : Xc → Cf → Prop} (h : Post K b (r.bind f) Qn Qx) (st : Stp b c) (vs : Vst b c) : Post K c r (fun a c' => Post K b (f a c'.s) Qn Qx) Qx := by
  cases r with
  | ok a s =>
    intro c' e st' sr vs'
    subst e
    exact h
  | exc x s => exact fun c' e st' sr => h c' e (st.trans st') sr
  | bad => exact h
theorem star_cons {e : Expr} {es : List Expr} {env : Env} (h : notStar e = true) : starEach (e :: es) env = (false, eval e env) :: starEach es env := by
  cases e <;> first | rfl | cases h
theorem plain_of {pos : Pos} {env : Env} : ∀ {es : List Expr}, es.all notStar = true → (backTo pos (starEach es env)).any (·.1) = false
  | [], _ => rfl
  | e :: es, h => by
    rw [List.all_cons, Bool.and_eq_true] at h
    rw [star_cons h.1]
    show (false || (backTo pos (starEach es env)).any (·.1)) = false
    rw [plain_of h.2]; rfl
theorem okN_of {x : Str} (h : okN x = true) : (x == ("__debug__" : Str)) = false ∧ (x == ("__classdict__" : Str)) = false := by
  unfold okN at h
  rw [Bool.and_eq_true] at h
  exact ⟨by simpa using h.1, by simpa using h.2⟩
theorem vis_of {sc : Scope} {x : Str} (h : visB sc x = true) : Vis sc x := by
  unfold visB at h
  split at h
  · rename_i e; exact .inl e
  · rename_i e; exact .inr (.inl e)
  · rename_i e; exact .inr (.inr e)
  · cases h
section
variable {X : Cx} {W : WX} {k : Cc} {g : GI} {n : Nat}
theorem Ck.slot (K : Ck X W k g n) {i : Nat} {x : Str} (h : slotB k i x = true) : X.N[i]? = some x ∧ Vis X.env.scope x ∧ (x == ("__debug__" : Str)) = false ∧ (x == ("__classdict__" : Str)) = false := by
  unfold slotB at h
  simp only [Bool.and_eq_true, decide_eq_true_eq] at h
  obtain ⟨h1, h2, h3⟩ := h
  rw [K.N, K.sc]
  exact ⟨h1, vis_of h2, okN_of h3⟩
theorem Ck.gl' (K : Ck X W k g n) {x : Str} (h : glB k.sc x = true) : Gl X x ∧ (x == ("__debug__" : Str)) = false := by
  unfold glB at h
  split at h
  · rename_i e
    exact ⟨by show X.env.scope.names.lookup x = _; rw [K.sc]; exact e, (okN_of h).1⟩
  · cases h
theorem Ck.free (K : Ck X W k g n) {x : Str} (h : freeB g k x = true) : Gl X x ∧ (x == ("__debug__" : Str)) = false ∧ X.mg x = none := by
  unfold freeB at h
  rw [Bool.and_eq_true] at h
  obtain ⟨h1, h2⟩ := K.gl' h.2
  exact ⟨h1, h2, K.fr x h.1⟩
end
section
variable {X : Cx} {W : WX} {c : Cf}
theorem j_var {i : Nat} {x : Str} {pos : Pos} (hN : X.N[i]? = some x) (hv : Vis X.env.scope x) (hd : (x == ("__debug__" : Str)) = false) (hcd : (x == ("__classdict__" : Str)) = false) : JX X W (varD i) (.Name x pos) := by
  intro c Q sr p
  refine WpE.of (pe_var hN hv hd hcd) ?_
  unfold varD at p
  split at p
  · rename_i d e
    obtain ⟨v, e1, r⟩ := sr.slot i _ e
    exact ⟨v, e1, p.ok sr v r trivial⟩
  · rename_i xs e
    obtain ⟨a, vs, e1, r⟩ := sr.slot i _ e
    exact ⟨_, e1, p.ok sr _ ⟨e1, .inl ⟨_, e⟩⟩ trivial⟩
  · rename_i xs e
    obtain ⟨a, vs, e1, r⟩ := sr.slot i _ e
    exact ⟨_, e1, p.ok sr _ ⟨e1, .inr ⟨_, e⟩⟩ trivial⟩
  · exact p.elim
theorem j_glob {cn : Cn} {x : Str} {pos : Pos} (hg : Gl X x) (hd : (x == ("__debug__" : Str)) = false) (h : ∀ d, cn.gl x = some d → ∃ u v, X.mg x = some u ∧ RelV v u ∧ ∀ μ H, DR X.K μ H d v) : JX X W (globD cn x) (.Name x pos) := by
  intro c Q sr p
  unfold globD at p
  split at p
  · rename_i d e
    obtain ⟨u, v, e1, r, z⟩ := h d e
    exact WpE.of (pe_glob hg e1 r hd) (p.ok sr v (z _ _) trivial)
  · exact p.elim
theorem cst_dr {d : D} {c : Const} (h : cstB d c = true) (j : Nat) (pos : Pos) : ∃ v, PE X (.Constant c j pos) (tC v) ∧ ∀ μ H, DR X.K μ H d v := by
  unfold cstB at h
  split at h
  · exact ⟨_, pe_non, fun _ _ => by simp only [DR]⟩
  · rw [beq_iff_eq] at h; subst h
    exact ⟨_, pe_bl, fun _ _ => by simp only [DR]⟩
  · rw [decide_eq_true_eq] at h; subst h
    exact ⟨_, pe_int, fun _ _ => by simp only [DR]⟩
  · rw [decide_eq_true_eq] at h; subst h
    exact ⟨_, pe_str, fun _ _ => by simp only [DR]⟩
  · cases h
theorem j_cst {d : D} {c : Const} {j : Nat} {pos : Pos} (h : cstB d c = true) : JX X W (fun s => .ok (.val d) s) (.Constant c j pos) := by
  intro cc Q sr p
  obtain ⟨v, h1, h2⟩ := cst_dr (X := X) h j pos
  exact WpE.of h1 (p.ok sr v (h2 _ _) trivial)
theorem Bi.boot (b : Bi) (h : b ≠ .gcd) : bootBuiltins b.nm = some b.fv ∧ b.nm ≠ "__name__" ∧ ((∃ i, b.fv = .builtin i) ∨ ∃ T, b.fv = .type T) := by
  cases b <;> first
    | exact absurd rfl h
    | exact ⟨by decide +kernel, by decide, .inl ⟨_, rfl⟩⟩
    | exact ⟨by decide +kernel, by decide, .inr ⟨_, rfl⟩⟩
/-- a built-in called -/
theorem j_bi {k : Cc} {g : GI} {n : Nat} {b : Bi} {x : Str} {p pos : Pos} {e : Expr} {es : List Expr} {m : S → R (List SV)} (K : Ck X W k g n) (hb : biB g k b x = true) (hs : (e :: es).all notStar = true) (h : JXs X W m (e :: es)) :
    JX X W (fun s => (m s).bind fun xs s1 => lif (biD b xs s1) s1) (.Call (.Name x p) (e :: es) [] pos) := by
  intro c Q sr q
  rw [List.all_cons, Bool.and_eq_true] at hs
  have key : ∀ t : TA, (t = WpA X (e :: es)) → tCB (WpC X b.fv) t c.σ c.H Q := fun t ht => by
    subst ht
    refine h c _ sr (q.bind.imp fun xs c1 st1 sr1 vs1 p1 vs rv fv => ?_)
    obtain ⟨z, hz, kk⟩ := Post.kv sr1 st1 p1
    exact bi_ok K.calm sr1 rv hz kk
  by_cases hg : b = .gcd
  · subst hg
    simp only [biB, Bool.and_eq_true, decide_eq_true_eq] at hb
    obtain ⟨h1, h2, h3⟩ := hb
    subst h2
    obtain ⟨g1, g2⟩ := K.gl' h3
    exact WpE.of (pe_callBfun (clW _) g1 (K.gcd h1) (paW _) g2 (star_cons hs.1) (plain_of hs.2)) (key _ rfl)
  · obtain ⟨b1, b2, b3⟩ := b.boot hg
    have hb' : decide (x = b.nm) = true ∧ freeB g k x = true := by
      cases b <;> first | exact absurd rfl hg | exact Bool.and_eq_true_iff.mp hb
    obtain ⟨h1, h2⟩ := hb'
    rw [decide_eq_true_eq] at h1
    subst h1
    obtain ⟨g1, g2, g3⟩ := K.free h2
    rcases b3 with ⟨i, b3⟩ | ⟨T, b3⟩
    · rw [b3] at b1 key
      exact WpE.of (pe_callB (clW _) g1 g3 b1 (paW _) b2 g2 (star_cons hs.1) (plain_of hs.2)) (key _ rfl)
    · rw [b3] at b1 key
      exact WpE.of (pe_callTy (clW _) g1 g3 b1 (paW _) b2 g2 (star_cons hs.1) (plain_of hs.2)) (key _ rfl)
theorem ty_boot (t : Ty) : bootBuiltins t.sn = some (.type t.nm) ∧ t.sn ≠ "__name__" := by
  cases t <;> exact ⟨by decide +kernel, by decide⟩
theorem boot_isi : bootBuiltins "isinstance" = some (.builtin "isinstance") := by decide +kernel
/-- isinstance(e, T) -/
theorem j_isi {k : Cc} {g : GI} {n : Nat} {t : Ty} {p pos p2 : Pos} {e : Expr} {m : S → R SV} (K : Ck X W k g n) (h1 : freeB g k "isinstance" = true) (h2 : freeB g k t.sn = true) (hs : notStar e = true) (h : JX X W m e) :
    JX X W (fun s => (m s).bind fun x s1 => lif ((isTys s1 x [t]).map fun k => SV.val (.bl k)) s1) (.Call (.Name "isinstance" p) [e, .Name t.sn p2] [] pos) := by
  intro c Q sr q
  obtain ⟨g1, g2, g3⟩ := K.free h1
  obtain ⟨t1, t2, t3⟩ := K.free h2
  obtain ⟨b1, b2⟩ := ty_boot t
  have pt : PE X (.Name t.sn p2) (tC (.ty t.nm)) := pe_bltn t1 t3 b1 rfl b2 t2
  refine WpE.of (pe_callB call_isi g1 g3 boot_isi (pa_cons (peW e) (pa_cons pt pa_nil) (star_cons hs)) (by decide) g2 (star_cons hs) rfl) ?_
  refine h c _ sr (q.bind.imp fun x c1 st1 sr1 vs1 p1 v rv fv => ?_)
  obtain ⟨z, hz, kk⟩ := Post.kv sr1 st1 p1
  obtain ⟨b, hb, rfl⟩ := Option.map_eq_some_iff.mp hz
  obtain ⟨tt, ty, e1⟩ := ty_ok sr1 rv hb
  exact ⟨v, .ty t.nm, tt, .type t.nm, b, rfl, .ty _, ty, e1.1, kk.bl sr1⟩
theorem Mt.slot (m : Mt) : PySem.Slot "list" m.nm m.id ∧ typeOf (.builtin m.id) = pure (.type "method_descriptor") := by
  cases m
  · exact ⟨PySem.F.slot_list_append, PySem.F.type_list_append⟩
  · exact ⟨PySem.F.slot_list_pop, PySem.F.type_list_pop⟩
  · exact ⟨PySem.F.slot_list_extend, PySem.F.type_list_extend⟩
  · exact ⟨PySem.F.slot_list_insert, PySem.F.type_list_insert⟩
  · exact ⟨PySem.F.slot_list_reverse, PySem.F.type_list_reverse⟩
theorem base_of {o : Expr} {nm : Str} {env : Env} (h : plainB o = true) : attributeBase o nm env (eval o env) = eval o env := by
  unfold plainB at h
  unfold attributeBase
  split at h
  · cases h
  · rename_i hne
    split
    · rename_i id p2 pos
      exact absurd rfl (hne id p2 pos)
    · rfl
theorem few_of {pos : Pos} {env : Env} {es : List Expr} (h : es.all notStar = true) (hl : es.length < 20) :
    ((backTo pos (starEach es env)).all (fun x => !x.1) && (backToKw pos (keywordEach [] env)).all (fun x => x.1.isSome)
      && decide (es.length + ([] : List Keyword).length + (if ([] : List Keyword).isEmpty then 0 else 1) < 30)) = true := by
  have h1 : (backTo pos (starEach es env)).all (fun x => !x.1) = true := by
    have z := plain_of (pos := pos) (env := env) h
    rw [List.all_eq_not_any_not]
    simpa using z
  rw [h1]
  have : es.length + ([] : List Keyword).length + (if ([] : List Keyword).isEmpty then 0 else 1) < 30 := by
    show es.length + 0 + 0 < 30
    omega
  simp only [this, decide_true, Bool.and_true, Bool.true_and]
  rfl
/-- a method of a list -/
theorem j_meth0 {m : Mt} {o : Expr} {ap cp : Pos} {mo : S → R SV} (hp : plainB o = true) (hl : (ap.endLine == cp.line) = true) (ho : JX X W mo o) :
    JX X W (fun s => (mo s).bind fun x s1 => if (lis s1 x).isSome then (R.ok [] s1).bind fun as s2 => mtD m x as s2 else .bad) (.Call (.Attribute o m.nm ap) [] [] cp) := by
  intro c Q sr q
  obtain ⟨sl, ty⟩ := m.slot
  refine WpE.of (pe_bm0 PySem.F.plainAttrs_list sl ty (mtW _) (peW o) (base_of hp) hl) ?_
  refine ho c _ sr (q.bind.imp fun x c1 st1 sr1 vs1 p1 v rv fv => ?_)
  split at p1
  · rename_i hx
    obtain ⟨xs, hx⟩ := Option.isSome_iff_exists.mp hx
    obtain ⟨a, vs, rfl, h1, h2⟩ := lis_ok sr1 rv hx
    refine ⟨.inl ⟨rfl, vs, .of h1⟩, ?_⟩
    have p1 : Post X.K c1 (mtD m x [] c1.s) _ _ := p1
    exact mtD_ok (as := []) (Stp.refl _) (Vst.refl _) sr1 rv rfl trivial (p1.imp fun z c3 st3 sr3 vs3 k w r f => k w r (Fresh.back st1 f))
  · exact p1.elim
theorem j_meth {m : Mt} {o e : Expr} {es : List Expr} {ap cp : Pos} {mo : S → R SV} {ma : S → R (List SV)} (hp : plainB o = true) (hl : (ap.endLine == cp.line) = true) (hs : (e :: es).all notStar = true) (hn : (e :: es).length < 20) (ho : JX X W mo o) (ha : JXs X W ma (e :: es)) :
    JX X W (fun s => (mo s).bind fun x s1 => if (lis s1 x).isSome then (ma s1).bind fun as s2 => mtD m x as s2 else .bad) (.Call (.Attribute o m.nm ap) (e :: es) [] cp) := by
  intro c Q sr q
  obtain ⟨sl, ty⟩ := m.slot
  rw [List.all_cons, Bool.and_eq_true] at hs
  refine WpE.of (pe_bm PySem.F.plainAttrs_list sl ty (mtW _) (peW o) (paW (e :: es)) (base_of hp) (few_of (by rw [List.all_cons, hs.1, hs.2]; rfl) hn) hl (star_cons hs.1) (plain_of hs.2)) ?_
  refine ho c _ sr (q.bind.imp fun x c1 st1 sr1 vs1 p1 v rv fv => ?_)
  split at p1
  · rename_i hx
    obtain ⟨xs, hx⟩ := Option.isSome_iff_exists.mp hx
    obtain ⟨a, vs, rfl, h1, h2⟩ := lis_ok sr1 rv hx
    refine ⟨.inl ⟨rfl, vs, .of h1⟩, ?_⟩
    rw [← vs1.1]
    refine ha c1 _ sr1 ((p1.bindB (Stp.refl _) (Vst.refl _)).imp fun as c2 st2 sr2 vs2 p2 us ru fu => ?_)
    exact mtD_ok st2 vs2 sr2 rv ru fu (p2.imp fun z c3 st3 sr3 vs3 k w r f => k w r (Fresh.back st1 f))
  · exact p1.elim
end
/-! ### calls of defs -/
section
variable {X : Cx} {W : WX} {c : Cf} {K : PySem.W.Frag}
def Cf.bare (c : Cf) : Cf := { μ := c.μ, ρ := fun b => (∃ o, c.H b = some o) ∧ b ∉ c.μ, s := ⟨[], c.s.M⟩, σ := [], H := c.H }
theorem bare_foot {b : Addr} : Foot c.bare b ↔ b ∈ c.μ := by
  constructor
  · rintro (h | ⟨i, ⟨xs, h⟩, _⟩)
    · exact h
    · simp [Cf.bare] at h
  · exact fun h => .inl h
theorem SR.bare (sr : SR K c) : SR K c.bare where
  len := rfl
  mlen := sr.mlen
  nd := sr.nd
  cell := fun m cl a h1 h2 => by
    have z := sr.cell m cl a h1 h2
    exact z
  slot := fun i x h => by simp [Cf.bare] at h
  ownd := fun i j a ⟨⟨xs, h⟩, _⟩ => by simp [Cf.bare] at h
  ownm := fun i a ⟨⟨xs, h⟩, _⟩ => by simp [Cf.bare] at h
  rho := fun b h => ⟨h.1, fun f => h.2 (bare_foot.mp f)⟩
theorem rd_lst {H : Hp} {a : Addr} {vs : List V} (h : H a = some (.lst vs)) : Rd H a (.lst vs) := .inl h
theorem arg_ok {a : Ar} {v : V} {x : Slot} (sr : SR K c) (r : SVR K c a.sv v) (h : a.slot c.s = some x) : ArgR K c.bare x v := by
  cases a with
  | val d => cases h; exact r
  | tmp xs =>
    cases h
    obtain ⟨b, vs, rfl, q, z, f1, f2⟩ := r
    exact ⟨b, vs, rfl, z, .inr ⟨⟨⟨_, q⟩, fun m => f1 (.inl m)⟩, rd_lst q⟩⟩
  | var i =>
    simp only [Ar.slot] at h
    have e1 := r.1
    split at h
    · rename_i xs q
      cases h
      obtain ⟨b, vs, e, z1, z2⟩ := sr.slot i _ q
      rw [e] at e1
      cases e1
      exact ⟨b, vs, rfl, z2, .inr ⟨⟨⟨_, z1⟩, sr.ownm i b ⟨⟨_, q⟩, e⟩⟩, rd_lst z1⟩⟩
    · rename_i xs q
      cases h
      obtain ⟨b, vs, e, z1, z2⟩ := sr.slot i _ q
      rw [e] at e1
      cases e1
      refine ⟨b, vs, rfl, z1, ?_⟩
      rcases z2 with z2 | ⟨z2, z3⟩
      · exact .inl z2
      · obtain ⟨t, nf⟩ := sr.rho b z2
        exact .inr ⟨⟨t, fun m => nf (.inl m)⟩, z3⟩
    · cases h
theorem args_ok : ∀ {as : List Ar} {vs : List V} {xs : List Slot}, SR K c → SVRs K c (as.map Ar.sv) vs → slots c.s as = some xs → ArgRs K c.bare xs vs ∧ xs.length = as.length
  | [], _, _, _, r, h => by
    simp only [slots] at h
    cases h
    exact ⟨r, rfl⟩
  | a :: as, _, _, sr, r, h => by
    simp only [slots] at h
    obtain ⟨x, e1, h⟩ := Option.bind_eq_some_iff.mp h
    obtain ⟨xs, e2, rfl⟩ := Option.map_eq_some_iff.mp h
    obtain ⟨v, r', rfl, q, z⟩ := r
    obtain ⟨h1, h2⟩ := args_ok sr z e2
    exact ⟨⟨v, r', rfl, arg_ok sr q e1, h1⟩, by rw [List.length_cons, List.length_cons, h2]⟩
theorem ArgRs.length : ∀ {xs : List Slot} {vs : List V}, ArgRs K c xs vs → vs.length = xs.length
  | [], _, h => by rw [show _ = [] from h]; rfl
  | _ :: xs, _, ⟨v, r, e, _, z⟩ => by rw [e, List.length_cons, List.length_cons, ArgRs.length z]
theorem ArgRs.append : ∀ {xs ys : List Slot} {vs us : List V}, ArgRs K c xs vs → ArgRs K c ys us → ArgRs K c (xs ++ ys) (vs ++ us)
  | [], _, _, _, h, k => by rw [show _ = [] from h]; exact k
  | _ :: xs, _, _, _, ⟨v, r, e, q, z⟩, k => by rw [e]; exact ⟨v, _, rfl, q, ArgRs.append z k⟩
theorem ArgRs.vals : ∀ {ds : List D} {vs : List V}, DRs K c.μ c.H ds vs → ArgRs K c (ds.map Slot.val) vs
  | [], _, h => by simp only [DRs] at h; exact h
  | d :: ds, _, h => by
    simp only [DRs] at h
    obtain ⟨v, r, e, q, z⟩ := h
    exact ⟨v, r, e, q, ArgRs.vals z⟩
/-- back from a callee's end -/
def Cf.back (c c' : Cf) : Cf := { μ := c'.μ, ρ := c.ρ, s := ⟨c.s.v, c'.s.M⟩, σ := c.σ, H := c'.H }
theorem back_nm {c' : Cf} (sr : SR K c) (st : Stp c.bare c') {b : Addr} {o : HO} (e : c.H b = some o) (n : b ∉ c.μ) : b ∉ c'.μ := fun m => by
  rcases st.grow b (.inl m) with f | f
  · exact n (bare_foot.mp f)
  · have f : c.H b = none := f
    rw [e] at f; cases f
theorem back_ok {c' : Cf} (sr : SR K c) (st : Stp c.bare c') (sr' : SR K c') : Stp c (c.back c') ∧ SR K (c.back c') ∧ Vst c (c.back c') := by
  have frm : ∀ b o, c.H b = some o → b ∉ c.μ → c'.H b = some o := fun b o e n => st.frame b o e fun f => n (bare_foot.mp f)
  have frl : ∀ b vs, Rd c.H b (.lst vs) → b ∉ c.μ → Rd c'.H b (.lst vs) := fun b vs e n => by
    rcases e with e | ⟨u, e⟩
    · exact .inl (frm b _ e n)
    · exact .inr ⟨u, frm b _ e n⟩
  refine ⟨⟨st.pre, rfl, fun b o e nf => frm b o e fun m => nf (.inl m), fun b f => ?_, st.trk, st.tup, fun i xs h => ⟨h, rfl⟩, fun i xs h => h⟩, ⟨sr.len, sr'.mlen, sr'.nd, fun m cl a h1 h2 => ?_, fun i x h => ?_, sr.ownd, fun i a h => ?_, fun b h => ?_⟩, Vst.refl c⟩
  · rcases f with f | f
    · rcases st.grow b (.inl f) with f | f
      · exact .inl (.inl (bare_foot.mp f))
      · exact .inr f
    · exact .inl (.inr f)
  · have z := sr'.cell m cl a h1 h2
    exact z
  · refine SlotR.mono (c := c) (c' := c.back c') st.pre st.tup (fun a vs e1 e2 e3 => ?_) (fun a vs e1 e2 => ⟨e1, ?_⟩) (sr.slot i x h)
    · obtain ⟨xs, rfl⟩ := e2
      exact frm a _ e3 (sr.ownm i a ⟨⟨xs, h⟩, e1⟩)
    · exact frl a vs e2 fun m => (sr.rho a e1).2 (.inl m)
  · obtain ⟨⟨xs, h1⟩, h2⟩ := h
    obtain ⟨b, vs, e, q, _⟩ := sr.slot i _ h1
    have h2 : c.σ[i]? = some (some (.ref a)) := h2
    rw [e] at h2
    cases h2
    exact back_nm sr st q (sr.ownm i _ ⟨⟨xs, h1⟩, e⟩)
  · obtain ⟨⟨o, e⟩, nf⟩ := sr.rho b h
    refine ⟨st.trk b o e, fun f => ?_⟩
    rcases f with f | f
    · exact back_nm sr st e (fun m => nf (.inl m)) f
    · exact nf (.inr f)
theorem argsOf_full {fd : Fn} {as vs : List Slot} (h : argsOf fd as = some vs) : argsOf fd vs = some vs ∧ vs.length = fd.ps.length ∧ ∃ k, k ≤ fd.dfl.length ∧ vs = as ++ (fd.dfl.drop (fd.dfl.length - k)).map Slot.val := by
  unfold argsOf at h
  split at h
  · rename_i hc
    cases h
    have hl : (as ++ (fd.dfl.drop (fd.dfl.length - (fd.ps.length - as.length))).map Slot.val).length = fd.ps.length := by
      rw [List.length_append, List.length_map, List.length_drop]
      omega
    refine ⟨?_, hl, _, hc.2, rfl⟩
    unfold argsOf
    rw [hl, if_pos ⟨Nat.le_refl _, by omega⟩, Nat.sub_self, Nat.sub_zero, List.drop_length, List.map_nil, List.append_nil]
  · cases h
theorem run_full {P : Prog} {gl : Str → Option D} {n : Nat} {f : Str} {fd : Fn} {as : List Slot} {M : List Cell} (hf : P.lookup f = some fd) (h : run P gl n f as M ≠ .bad) :
    ∃ vs k, argsOf fd as = some vs ∧ k ≤ fd.dfl.length ∧ vs = as ++ (fd.dfl.drop (fd.dfl.length - k)).map Slot.val ∧ vs.length = fd.ps.length ∧ run P gl n f as M = run P gl n f vs M := by
  cases n with
  | zero => exact absurd rfl h
  | succ n =>
    simp only [run, hf] at h ⊢
    unfold runFn at h ⊢
    cases e : argsOf fd as with
    | none => rw [e] at h; exact absurd rfl h
    | some vs =>
      obtain ⟨h1, h2, k, h3, h4⟩ := argsOf_full e
      exact ⟨vs, k, rfl, h3, h4, h2, by rw [h1]⟩
theorem sp_core {g : GI} {n : Nat} {f : Str} {fd : Fn} {Q : VK} {c1 : Cf} {ys : List Slot} {us : List V} (hl : ys.length = fd.ps.length) (st1 : Stp c c1) (sr1 : SR X.K c1) (vs1 : Vst c c1)
    (ra : ArgRs X.K c1.bare ys us) (p : Post X.K c1 (ofCall c1.s (run g.P g.gl n f ys c1.s.M)) (fun x c' => ∀ v, SVR X.K c' x v → Fresh c.H x v → Q v c'.H) (QX X W)) : spF X.K X.mg g f fd n us c1.H Q (WE W c.σ) := by
  refine ⟨c1.bare, ys, hl, ⟨rfl, rfl⟩, sr1.bare, rfl, ra, ?_⟩
  show PostF X.K c1.bare (run g.P g.gl n f ys c1.s.M) _ _
  generalize run g.P g.gl n f ys c1.s.M = rr at p
  cases rr with
  | bad => exact p
  | exc x M =>
    intro c' bc eM st sr' cls d xr
    subst eM
    obtain ⟨s1, s2, s3⟩ := back_ok sr1 st sr'
    have z := p (c1.back c') rfl s1 s2 cls d ?_
    · rw [← vs1.1]; exact z
    · obtain ⟨C, fs, h1, h2, h3⟩ := xr
      refine ⟨C, fs, h1, h2, ?_⟩
      rcases h3 with h3 | ⟨b, h3, h4, h5, h6, h7⟩
      · exact .inl h3
      · have h4' : (c1.back c').H b = some (.xd fs) := h4
        have nf : ¬ Foot (c1.back c') b := fun ff => by
          obtain ⟨ws, e, w⟩ := s2.foot ff
          rw [h4'] at e; cases e; exact w.elim
        exact .inr ⟨b, h3, h4', nf, h6, h7⟩
  | ok o M =>
    intro c' bc eM st sr' v ro
    subst eM
    obtain ⟨s1, s2, s3⟩ := back_ok sr1 st sr'
    cases o with
    | no => exact ro.elim
    | ro xs => exact ro.elim
    | val d => exact p (c1.back c') rfl s1 s2 s3 v ro trivial
    | own xs =>
      obtain ⟨b, us, rfl, h1, h2, h3, h4, h5⟩ := ro
      have h5 : c1.H b = none := h5
      refine p (c1.back c') rfl s1 s2 s3 (.ref b) ⟨b, us, rfl, h1, h2, fun ff => ?_, fun rr => ?_⟩ fun a' e => ?_
      · rcases ff with ff | ff
        · exact h3 (.inl ff)
        · obtain ⟨ws, e, _⟩ := sr1.foot (.inr ff)
          rw [h5] at e; cases e
      · obtain ⟨⟨o', e⟩, _⟩ := sr1.rho b rr
        rw [h5] at e; cases e
      · cases e
        exact st1.untrk h5
/-- what the callee is asked for, out of what the caller wants -/
theorem call_sp {g : GI} {n : Nat} {f : Str} {fd : Fn} {a : Addr} {fdt : FuncData} {Q : VK} {c1 : Cf} {as : List Ar} {vs : List V} (F : FnI X g f fd n a fdt) (hf : g.P.lookup f = some fd) (st1 : Stp c c1) (sr1 : SR X.K c1) (vs1 : Vst c c1)
    (r : SVRs X.K c1 (as.map Ar.sv) vs) (p : Post X.K c1 (callD (cnOf g n) f as c1.s) (fun x c' => ∀ v, SVR X.K c' x v → Fresh c.H x v → Q v c'.H) (QX X W)) :
    ∃ dvs ds, Vals dvs ds ∧ Binds X.K fdt fd.ps ds ∧ spF X.K X.mg g f fd n (vs ++ dvs) c1.H Q (WE W c.σ) := by
  unfold callD at p
  split at p
  · rename_i xs hx
    obtain ⟨ra, la⟩ := args_ok sr1 r hx
    have nb : run g.P g.gl n f xs c1.s.M ≠ .bad := fun e => by
      have p : Post X.K c1 (ofCall c1.s (run g.P g.gl n f xs c1.s.M)) _ _ := p
      rw [e] at p
      exact p
    obtain ⟨ys, j, e1, hj, e2, hl, e3⟩ := run_full hf nb
    obtain ⟨dvs, ds, hd, hD, hb⟩ := F.dfl j hj
    have p : Post X.K c1 (ofCall c1.s (run g.P g.gl n f xs c1.s.M)) _ _ := p
    rw [e3] at p
    refine ⟨dvs, ds, hd, hb, sp_core hl st1 sr1 vs1 ?_ p⟩
    rw [e2]
    exact ra.append (ArgRs.vals (c := c1.bare) (hD _ _))
  · exact p.elim
/-! ### by name -/
theorem pick_ok {K : PySem.W.Frag} {c : Cf} : ∀ {ks : List Str} {xs : List Slot} {vs : List V} {ws : List Value}, ArgRs K c xs vs → Vals vs ws → ∀ {p : Str} {x : Slot}, (ks.zip xs).lookup p = some x → ∃ v w, (ks.zip ws).lookup p = some w ∧ ArgR K c x v ∧ RelV v w
  | [], _, _, _, _, _, _, _, h => by simp at h
  | k :: ks, [], _, _, _, _, _, _, h => by simp at h
  | k :: ks, y :: xs, _, _, ⟨v, r, e, q, z⟩, rv, p, x, h => by
    subst e
    cases rv with
    | cons r1 rr =>
      rw [List.zip_cons_cons, List.lookup_cons] at h ⊢
      cases hp : p == k with
      | true =>
        rw [hp] at h
        cases h
        exact ⟨_, _, rfl, q, r1⟩
      | false =>
        rw [hp] at h
        exact pick_ok z rr h
theorem picks_ok {K : PySem.W.Frag} {c : Cf} {ks : List Str} {xs : List Slot} {vs : List V} {ws : List Value} (r : ArgRs K c xs vs) (rv : Vals vs ws) : ∀ {ps : List Str} {ys : List Slot}, pick (ks.zip xs) ps = some ys → ∃ us zs, pick (ks.zip ws) ps = some zs ∧ ArgRs K c ys us ∧ Vals us zs ∧ ys.length = ps.length
  | [], ys, h => by
    simp only [pick] at h
    cases h
    exact ⟨[], [], rfl, rfl, .nil, rfl⟩
  | p :: ps, ys, h => by
    simp only [pick] at h
    obtain ⟨x, e1, h⟩ := Option.bind_eq_some_iff.mp h
    obtain ⟨ys', e2, rfl⟩ := Option.map_eq_some_iff.mp h
    obtain ⟨v, w, e3, q1, q2⟩ := pick_ok r rv e1
    obtain ⟨us, zs, e4, q3, q4, q5⟩ := picks_ok r rv e2
    exact ⟨v :: us, w :: zs, by simp only [pick, e3, e4]; rfl, ⟨v, us, rfl, q1, q3⟩, .cons q2 q4, by rw [List.length_cons, List.length_cons, q5]⟩
def WpK (X : Cx) (kws : List Keyword) : TA := fun σ H Q => ∀ pos pins s, Inv X pins σ H s → wpAny (model X.prog X.w) X.A (evalAll ((backToKw pos (keywordEach kws X.env)).map (·.2))) (AP X pins σ Q) X.xe s
theorem pkW (kws : List Keyword) : PK X kws (WpK X kws) := ⟨fun pos pins s _ _ _ I h => h pos pins s I⟩
def JK (X : Cx) (W : WX) (m : S → R (List Ar)) (kws : List Keyword) : Prop := ∀ c Q, SR X.K c → Post X.K c (m c.s) (fun as c' => ∀ vs, SVRs X.K c' (as.map Ar.sv) vs → Q vs c'.H) (QX X W) → WpK X kws c.σ c.H Q
theorem j_k_nil : JK X W (fun s => .ok [] s) [] := fun c Q sr p pos pins s I => pk_nil.run pos pins s c.σ c.H Q I (p.ok sr [] rfl)
theorem j_k_v {nm : Option Str} {e : Expr} {kp : Pos} {kws : List Keyword} {m : S → R SV} {ms : S → R (List Ar)} (h : JX X W m e) (t : JK X W ms kws) :
    JK X W (fun s => (((m s).bind toVal).bind fun d s1 => .ok (Ar.val d) s1).bind fun d s1 => (ms s1).bind fun ds s2 => .ok (d :: ds) s2) (⟨nm, e, kp⟩ :: kws) := by
  intro c Q sr p
  dsimp only at p
  rw [R.bind_assoc] at p
  refine fun pos pins s I => (pk_cons (peW e) (pkW kws)).run pos pins s c.σ c.H Q I ?_
  refine h.val sr p fun c1 d v st1 sr1 vs1 rd p1 => ?_
  have p1 : Post X.K c1 ((ms c1.s).bind fun ds s2 => .ok (Ar.val d :: ds) s2) _ _ := p1
  rw [← vs1.1]
  refine t c1 _ sr1 (p1.bind.imp fun ds c2 st2 sr2 vs2 p2 us r => ?_)
  exact p2.ok sr2 _ ⟨v, us, rfl, st2.dr rd, r⟩
theorem j_k_b {nm : Option Str} {e : Expr} {kp : Pos} {kws : List Keyword} {m : S → R SV} {ms : S → R (List Ar)} (h : JX X W m e) (t : JK X W ms kws) :
    JK X W (fun s => ((m s).bind fun d s1 => .ok (lend d) s1).bind fun d s1 => (ms s1).bind fun ds s2 => .ok (d :: ds) s2) (⟨nm, e, kp⟩ :: kws) := by
  intro c Q sr p
  dsimp only at p
  rw [R.bind_assoc] at p
  refine fun pos pins s I => (pk_cons (peW e) (pkW kws)).run pos pins s c.σ c.H Q I ?_
  refine h c _ sr (p.bind.imp fun x c1 st1 sr1 vs1 p1 v rv fv => ?_)
  have p1 : Post X.K c1 ((ms c1.s).bind fun ds s2 => .ok (lend x :: ds) s2) _ _ := p1
  rw [← vs1.1]
  refine t c1 _ sr1 (p1.bind.imp fun ds c2 st2 sr2 vs2 p2 us r => ?_)
  exact p2.ok sr2 _ ⟨v, us, rfl, by rw [lend_sv]; exact rv.step st2 vs2, r⟩
theorem run_fnSK {CX : CXT} {k : Nat} {f : Addr} {fd : FuncData} {ps : List Str} {sp : Sp} {E : L2.St → XK} {pins : List (Addr × Obj)} {σ : L2.St} {H : Hp} {s : Shared} {Q : VK} {kw : List (Str × Value)} {us : List Value} {vs : List V} (F : FnOk X.prog X.w X.K X.mg X.base CX k f fd ps sp) (hr : Room k X.A)
    (hb : BindsTo s fd ⟨[], kw⟩ (ps.zip us)) (hx : PassesAt CX X σ (E σ)) (I : Inv X pins σ H s) (r : Vals vs us) (h : sp vs H Q (E σ)) : wpAny (model X.prog X.w) X.A (call (.ref f) [] kw) (EP X pins σ Q) X.xe s := by
  refine wpAny_call (codeAny_mono (F.run X.A X.stack s H ⟨[], kw⟩ us vs Q (E σ) hr I.env0 hb r h) fun r s' hq => ?_)
  cases r with
  | error e => exact hx pins H s e s' I hq
  | ok fl =>
    cases fl with
    | ret u => exact I.after hq
    | next => exact False.elim hq
    | brk => exact False.elim hq
    | cont => exact False.elim hq
/-- the names of the keywords, as they are written -/
def KwN : List Str → List Keyword → Prop
  | [], [] => True
  | x :: xs, ⟨nm, _, _⟩ :: ks => nm = some x ∧ KwN xs ks
  | _, _ => False
theorem kw_facts {pos : Pos} {env : Env} : ∀ {ks : List Str} {kws : List Keyword}, KwN ks kws → (backToKw pos (keywordEach kws env)).all (·.1.isSome) = true ∧ (backToKw pos (keywordEach kws env)).filterMap (·.1) = ks ∧ (backToKw pos (keywordEach kws env)).any (·.1.isNone) = false
  | [], [], _ => ⟨rfl, rfl, rfl⟩
  | x :: xs, ⟨nm, e, p⟩ :: kws, h => by
    obtain ⟨h1, h2⟩ := h
    have h1 : nm = some x := h1
    subst h1
    obtain ⟨a, b, c⟩ := kw_facts (pos := pos) (env := env) h2
    refine ⟨?_, ?_, ?_⟩
    · show (true && (backToKw pos (keywordEach kws env)).all (·.1.isSome)) = true
      rw [a]; rfl
    · show x :: (backToKw pos (keywordEach kws env)).filterMap (·.1) = _
      rw [b]
    · show (false || (backToKw pos (keywordEach kws env)).any (·.1.isNone)) = false
      rw [c]; rfl
  | [], _ :: _, h => h.elim
  | _ :: _, [], h => h.elim
theorem j_callk {k : Cc} {g : GI} {n : Nat} {f : Str} {ks : List Str} {p pos : Pos} {kws : List Keyword} {m : S → R (List Ar)} (K : Ck X W k g n) (hg : glB k.sc f = true) (hf : (g.P.lookup f).isSome = true) (hk : (g.kw f).contains ks = true) (hn : KwN ks kws) (h : JK X W m kws) :
    JX X W (fun s => (m s).bind fun as s1 => callkD (cnOf g n) f 0 ks as s1) (.Call (.Name f p) [] kws pos) := by
  intro c Q sr q
  obtain ⟨fd, hf⟩ := Option.isSome_iff_exists.mp hf
  obtain ⟨g1, g2⟩ := K.gl' hg
  obtain ⟨a, fdt, F⟩ := K.fns f fd hf
  intro pins s I
  have hA : WpK X kws c.σ c.H fun vs H1 => vs.length = ks.length ∧ ∀ ws, Vals vs ws → ∃ us zs, pick (ks.zip ws) fd.ps = some zs ∧ Vals us zs ∧ spF X.K X.mg g f fd n us H1 Q (WE W c.σ) := by
    refine h c _ sr (q.bind.imp fun as c1 st1 sr1 vs1 p1 vs r => ?_)
    have p1 : Post X.K c1 (callkD (cnOf g n) f 0 ks as c1.s) _ _ := p1
    unfold callkD at p1
    split at p1
    · rename_i ys hy
      obtain ⟨xs, hx, hy⟩ := Option.bind_eq_some_iff.mp hy
      obtain ⟨ra, la⟩ := args_ok sr1 r hx
      have hy : (if xs.length = ks.length then (g.P.lookup f).bind (fun fd => pick (ks.zip xs) fd.ps) else none) = some ys := hy
      rw [hf] at hy
      have hln : xs.length = ks.length := by
        by_cases e : xs.length = ks.length
        · exact e
        · rw [if_neg e] at hy; cases hy
      rw [if_pos hln] at hy
      have hy : pick (ks.zip xs) fd.ps = some ys := hy
      refine ⟨?_, fun ws rv => ?_⟩
      · rw [ra.length]; exact hln
      · obtain ⟨us, zs, e1, e2, e3, e4⟩ := picks_ok ra rv hy
        exact ⟨us, zs, e1, e3, sp_core e4 st1 sr1 vs1 e2 p1⟩
    · exact p1.elim
  obtain ⟨k1, k2, k3⟩ := kw_facts (pos := pos) (env := X.env) hn
  refine wpAny_Call_Name_kw (ld_glob I g1 F.at_ ?_ g2)
  refine PySem.W.callWith_KW0 (h₀ := X.base) I.ok.mod.kin F.keep k1 (thn (hA pos pins s I) fun ws s2 ⟨zs, H2, I2, rz, hl, q2⟩ => ⟨I2.kIn, ?_⟩) (by rw [k3]; rfl)
  rw [k2]
  obtain ⟨us, ys, e1, e2, e3⟩ := q2 ws rz
  exact run_fnSK F.ok K.room (F.kw ks (by simpa using hk) s2 ws ys I2.kIn (by rw [← rz.length]; exact hl) e1) (passAt K.tk c.σ) I2 e2 e3
/-- f(..) -/
theorem j_call {k : Cc} {g : GI} {n : Nat} {f : Str} {p pos : Pos} {e : Expr} {es : List Expr} {m : S → R (List Ar)} (K : Ck X W k g n) (hg : glB k.sc f = true) (hf : (g.P.lookup f).isSome = true) (hs : (e :: es).all notStar = true) (h : JA X W m (e :: es)) :
    JX X W (fun s => (m s).bind fun as s1 => callD (cnOf g n) f as s1) (.Call (.Name f p) (e :: es) [] pos) := by
  intro c Q sr q
  obtain ⟨fd, hf⟩ := Option.isSome_iff_exists.mp hf
  obtain ⟨g1, g2⟩ := K.gl' hg
  obtain ⟨a, fdt, F⟩ := K.fns f fd hf
  intro pins s I
  have hA : WpA X (e :: es) c.σ c.H fun vs H1 => ∃ dvs ds, Vals dvs ds ∧ Binds X.K fdt fd.ps ds ∧ spF X.K X.mg g f fd n (vs ++ dvs) H1 Q (WE W c.σ) :=
    h c _ sr (q.bind.imp fun as c1 st1 sr1 vs1 p1 vs r => call_sp F hf st1 sr1 vs1 r p1)
  refine wpAny_Call_Name_kw (ld_glob I g1 F.at_ ?_ g2)
  rw [List.all_cons, Bool.and_eq_true] at hs
  refine PySem.W.callWith_K (h₀ := X.base) I.ok.mod.kin F.keep (thn (hA pos pins s I) fun us s1 ⟨vs, H1, I1, r, dvs, ds, hd, hb, q⟩ => ⟨I1.kIn, ?_⟩) (star_cons hs.1) (plain_of hs.2)
  exact run_fnSD F.ok K.room hb hd (passAt K.tk c.σ) I1 r q
theorem j_call0 {k : Cc} {g : GI} {n : Nat} {f : Str} {p pos : Pos} (K : Ck X W k g n) (hg : glB k.sc f = true) (hf : (g.P.lookup f).isSome = true) :
    JX X W (fun s => (R.ok [] s).bind fun as s1 => callD (cnOf g n) f as s1) (.Call (.Name f p) [] [] pos) := by
  intro c Q sr q
  obtain ⟨fd, hf⟩ := Option.isSome_iff_exists.mp hf
  obtain ⟨g1, g2⟩ := K.gl' hg
  obtain ⟨a, fdt, F⟩ := K.fns f fd hf
  intro pins s I
  obtain ⟨dvs, ds, hd, hb, q⟩ := call_sp (as := []) (vs := []) F hf (Stp.refl c) sr (Vst.refl c) rfl q
  refine wpAny_Call_Name_kw (ld_glob I g1 F.at_ ?_ g2)
  exact PySem.W.callWith_K0 I.kIn F.keep (run_fnSD (us := []) F.ok K.room hb hd (passAt K.tk c.σ) I .nil q)
end
end G

/-! ## GS9 -/
set_option Elab.async false
set_option linter.all false
set_option maxRecDepth 100000
set_option maxHeartbeats 4000000
namespace G
open PySem PySem.Spec PyProof.Rows L2

/-! ### names that are locked -/
theorem lock_len : ∀ (v : List Slot) (l : List (Nat × List D)), (lock v l).length = v.length
  | _, [] => rfl
  | v, (i, xs) :: r => by unfold lock; rw [List.length_set, lock_len v r]
theorem unlock_len : ∀ (v : List Slot) (l : List (Nat × List D)), (unlock v l).length = v.length
  | _, [] => rfl
  | v, (i, xs) :: r => by unfold unlock; rw [List.length_set, unlock_len v r]
theorem lock_get {v : List Slot} {j : Nat} {x : Slot} : ∀ {l : List (Nat × List D)}, (lock v l)[j]? = some x → (∃ p ∈ l, p.1 = j ∧ x = .ro p.2) ∨ ((∀ p ∈ l, p.1 ≠ j) ∧ v[j]? = some x)
  | [], h => .inr ⟨fun _ h => absurd h List.not_mem_nil, h⟩
  | (i, xs) :: r, h => by
    unfold lock at h
    rcases set_get h with ⟨rfl, rfl, _⟩ | ⟨ne, h⟩
    · exact .inl ⟨(j, xs), List.mem_cons_self, rfl, rfl⟩
    · rcases lock_get h with ⟨p, h1, h2, h3⟩ | ⟨h1, h2⟩
      · exact .inl ⟨p, List.mem_cons_of_mem _ h1, h2, h3⟩
      · refine .inr ⟨fun p hp => ?_, h2⟩
        rcases List.mem_cons.mp hp with rfl | hp
        · exact fun e => ne e.symm
        · exact h1 p hp
theorem unlock_get {v : List Slot} {j : Nat} {x : Slot} : ∀ {l : List (Nat × List D)}, (unlock v l)[j]? = some x → (∃ p ∈ l, p.1 = j ∧ x = .own p.2) ∨ ((∀ p ∈ l, p.1 ≠ j) ∧ v[j]? = some x)
  | [], h => .inr ⟨fun _ h => absurd h List.not_mem_nil, h⟩
  | (i, xs) :: r, h => by
    unfold unlock at h
    rcases set_get h with ⟨rfl, rfl, _⟩ | ⟨ne, h⟩
    · exact .inl ⟨(j, xs), List.mem_cons_self, rfl, rfl⟩
    · rcases unlock_get h with ⟨p, h1, h2, h3⟩ | ⟨h1, h2⟩
      · exact .inl ⟨p, List.mem_cons_of_mem _ h1, h2, h3⟩
      · refine .inr ⟨fun p hp => ?_, h2⟩
        rcases List.mem_cons.mp hp with rfl | hp
        · exact fun e => ne e.symm
        · exact h1 p hp
theorem lock_in {v : List Slot} {p : Nat × List D} : ∀ {l : List (Nat × List D)}, p ∈ l → p.1 < v.length → ∃ q ∈ l, q.1 = p.1 ∧ (lock v l)[p.1]? = some (.ro q.2)
  | (i, xs) :: r, h, hl => by
    unfold lock
    by_cases e : i = p.1
    · subst e
      exact ⟨(_, xs), List.mem_cons_self, rfl, List.getElem?_set_self (by rw [lock_len]; exact hl)⟩
    · rcases List.mem_cons.mp h with h | h
      · exact absurd (by rw [h]) e
      · obtain ⟨q, h1, h2, h3⟩ := lock_in h hl
        exact ⟨q, List.mem_cons_of_mem _ h1, h2, by rw [List.getElem?_set_ne e]; exact h3⟩
theorem lock_out {v : List Slot} {j : Nat} : ∀ {l : List (Nat × List D)}, (∀ p ∈ l, p.1 ≠ j) → (lock v l)[j]? = v[j]?
  | [], _ => rfl
  | (i, xs) :: r, h => by
    unfold lock
    rw [List.getElem?_set_ne (h (i, xs) List.mem_cons_self)]
    exact lock_out fun p hp => h p (List.mem_cons_of_mem _ hp)
theorem unlock_out {v : List Slot} {j : Nat} : ∀ {l : List (Nat × List D)}, (∀ p ∈ l, p.1 ≠ j) → (unlock v l)[j]? = v[j]?
  | [], _ => rfl
  | (i, xs) :: r, h => by
    unfold unlock
    rw [List.getElem?_set_ne (h (i, xs) List.mem_cons_self)]
    exact unlock_out fun p hp => h p (List.mem_cons_of_mem _ hp)
theorem unlock_in {v : List Slot} {p : Nat × List D} : ∀ {l : List (Nat × List D)}, p ∈ l → p.1 < v.length → ∃ q ∈ l, q.1 = p.1 ∧ (unlock v l)[p.1]? = some (.own q.2)
  | (i, xs) :: r, h, hl => by
    unfold unlock
    by_cases e : i = p.1
    · subst e
      exact ⟨(_, xs), List.mem_cons_self, rfl, List.getElem?_set_self (by rw [unlock_len]; exact hl)⟩
    · rcases List.mem_cons.mp h with h | h
      · exact absurd (by rw [h]) e
      · obtain ⟨q, h1, h2, h3⟩ := unlock_in h hl
        exact ⟨q, List.mem_cons_of_mem _ h1, h2, by rw [List.getElem?_set_ne e]; exact h3⟩
def Cf.lock (c : Cf) (l : List (Nat × List D)) : Cf := { c with s := ⟨G.lock c.s.v l, c.s.M⟩, ρ := fun b => c.ρ b ∨ ∃ p ∈ l, OwnAt c p.1 b }
def Cf.unlock (c c2 : Cf) (l : List (Nat × List D)) : Cf := { c2 with s := ⟨G.unlock c2.s.v l, c2.s.M⟩, ρ := c.ρ }
/-- the names hold these lists -/
def LkOk (c : Cf) (l : List (Nat × List D)) : Prop := ∀ p ∈ l, c.s.v[p.1]? = some (.own p.2)
section
variable {K : PySem.W.Frag} {c c2 : Cf} {l : List (Nat × List D)}
theorem lock_own {i : Nat} {a : Addr} (h : OwnAt (c.lock l) i a) : OwnAt c i a ∧ ∀ p ∈ l, p.1 ≠ i := by
  obtain ⟨⟨xs, h1⟩, h2⟩ := h
  rcases lock_get h1 with ⟨p, _, _, e⟩ | ⟨h3, h4⟩
  · cases e
  · exact ⟨⟨⟨xs, h4⟩, h2⟩, h3⟩
theorem lock_foot {b : Addr} (h : Foot (c.lock l) b) : Foot c b := by
  rcases h with h | ⟨i, h⟩
  · exact .inl h
  · exact .inr ⟨i, (lock_own h).1⟩
theorem SR.lock (sr : SR K c) (hl : LkOk c l) : SR K (c.lock l) where
  len := by show (G.lock _ _).length = _; rw [lock_len]; exact sr.len
  mlen := sr.mlen
  nd := sr.nd
  cell := fun m cl a h1 h2 => by
    have z := sr.cell m cl a h1 h2
    exact z
  slot := fun i x h => by
    rcases lock_get h with ⟨p, hp, rfl, rfl⟩ | ⟨h1, h2⟩
    · obtain ⟨a, vs, e, q, r⟩ := sr.slot _ _ (hl p hp)
      exact ⟨a, vs, e, r, .inr ⟨.inr ⟨p, hp, ⟨_, hl p hp⟩, e⟩, rd_lst q⟩⟩
    · exact SlotR.mono (c := c) (c' := c.lock l) (List.prefix_refl _) (fun _ _ h => h) (fun a vs e1 e2 e3 => e3) (fun a vs e1 e2 => ⟨.inl e1, e2⟩) (sr.slot i x h2)
  ownd := fun i j a h1 h2 => sr.ownd i j a (lock_own h1).1 (lock_own h2).1
  ownm := fun i a h => sr.ownm i a (lock_own h).1
  rho := fun b h => by
    rcases h with h | ⟨p, hp, h⟩
    · obtain ⟨t, nf⟩ := sr.rho b h
      exact ⟨t, fun f => nf (lock_foot f)⟩
    · obtain ⟨vs, e, _⟩ := sr.foot (.inr ⟨_, h⟩)
      refine ⟨⟨_, e⟩, fun f => ?_⟩
      rcases f with f | ⟨j, f⟩
      · exact sr.ownm _ _ h f
      · obtain ⟨f1, f2⟩ := lock_own f
        exact f2 p hp (sr.ownd _ _ _ h f1)
theorem unlock_ok (sr : SR K c) (hl : LkOk c l) (st : Stp (c.lock l) c2) (sr2 : SR K c2) : Stp c (c.unlock c2 l) ∧ SR K (c.unlock c2 l) ∧ (Vst (c.lock l) c2 → Vst c (c.unlock c2 l)) := by
  have hb : ∀ p ∈ l, p.1 < c.s.v.length := fun p hp => (List.getElem?_eq_some_iff.mp (hl p hp)).1
  -- the locked names stand in the later state, too
  have h2 : ∀ p ∈ l, c2.s.v[p.1]? = some (.ro p.2) ∧ c2.σ[p.1]? = c.σ[p.1]? := fun p hp => by
    obtain ⟨q, hq, e1, e2⟩ := lock_in hp (hb p hp)
    have e3 := hl q hq
    rw [e1, hl p hp] at e3
    have e4 : p.2 = q.2 := by injection e3 with e3; injection e3
    rw [← e4] at e2
    have z := st.ron _ _ e2
    exact ⟨z, (st.ros _ _ z).2⟩
  have ow : ∀ i a, OwnAt (c.unlock c2 l) i a → (OwnAt c2 i a ∧ ∀ p ∈ l, p.1 ≠ i) ∨ ((∃ p ∈ l, p.1 = i) ∧ OwnAt c i a) := fun i a ⟨⟨xs, h1⟩, h3⟩ => by
    rcases unlock_get h1 with ⟨p, hp, rfl, _⟩ | ⟨h4, h5⟩
    · refine .inr ⟨⟨p, hp, rfl⟩, ⟨_, hl p hp⟩, ?_⟩
      rw [← (h2 p hp).2]
      exact h3
    · exact .inl ⟨⟨⟨xs, h5⟩, h3⟩, h4⟩
  have rr : ∀ i a, (∃ p ∈ l, p.1 = i) → OwnAt c i a → ¬ Foot c2 a := fun i a ⟨p, hp, e⟩ h => (sr2.rho a (by rw [st.rh]; exact .inr ⟨p, hp, by rw [e]; exact h⟩)).2
  refine ⟨⟨st.pre, rfl, fun b o e nf => st.frame b o e fun f => nf (lock_foot f), fun b f => ?_, st.trk, st.tup, fun i xs h => ?_, fun i xs h => ?_⟩, ⟨?_, sr2.mlen, sr2.nd, fun m cl a h1 h3 => ?_, fun i x h => ?_, fun i j a h1 h3 => ?_, fun i a h => ?_, fun b h => ?_⟩, fun v => ⟨v.1, fun i ⟨xs, h⟩ => ?_⟩⟩
  · have key : Foot c2 b → Foot c b ∨ c.H b = none := fun f => (st.grow b f).imp lock_foot id
    rcases f with f | ⟨i, f⟩
    · exact key (.inl f)
    · rcases ow i b f with ⟨f, _⟩ | ⟨_, f⟩
      · exact key (.inr ⟨i, f⟩)
      · exact .inl (.inr ⟨i, f⟩)
  · rcases unlock_get h with ⟨p, _, _, e⟩ | ⟨h3, h4⟩
    · cases e
    · obtain ⟨z1, z2⟩ := st.ros i xs h4
      refine ⟨?_, z2⟩
      rw [← lock_out h3]
      exact z1
  · have h3 : ∀ p ∈ l, p.1 ≠ i := fun p hp e => by
      have := hl p hp
      rw [e, h] at this
      cases this
    show (G.unlock _ _)[i]? = _
    rw [unlock_out h3]
    refine st.ron i xs ?_
    show (G.lock _ _)[i]? = _
    rw [lock_out h3]
    exact h
  · show (G.unlock _ _).length = _
    rw [unlock_len]; exact sr2.len
  · have z := sr2.cell m cl a h1 h3
    exact z
  · rcases unlock_get h with ⟨p, hp, rfl, rfl⟩ | ⟨h3, h4⟩
    · obtain ⟨a, vs, e, q, r⟩ := sr.slot _ _ (hl p hp)
      refine ⟨a, vs, ?_, st.frame a _ q ?_, st.drs (c := c.lock l) r⟩
      · show c2.σ[p.1]? = _
        rw [(h2 p hp).2]; exact e
      · exact ((sr.lock hl).rho a (.inr ⟨p, hp, ⟨_, hl p hp⟩, e⟩)).2
    · have z := sr2.slot i x h4
      cases x with
      | no => trivial
      | val d => exact z
      | own xs => exact z
      | ro xs =>
        obtain ⟨z1, z2⟩ := st.ros i xs h4
        have z1 : (G.lock c.s.v l)[i]? = some (.ro xs) := z1
        rw [lock_out h3] at z1
        have z2 : c2.σ[i]? = c.σ[i]? := z2
        obtain ⟨a, vs, e, r, q⟩ := sr.slot i _ z1
        refine ⟨a, vs, z2.trans e, st.drs (c := c.lock l) r, ?_⟩
        rcases q with q | ⟨q1, q2⟩
        · exact .inl q
        · refine .inr ⟨q1, ?_⟩
          have nf : ¬ Foot (c.lock l) a := fun f => (sr.rho a q1).2 (lock_foot f)
          rcases q2 with q2 | ⟨u, q2⟩
          · exact .inl (st.frame a _ q2 nf)
          · exact .inr ⟨u, st.frame a _ q2 nf⟩
  · rcases ow i a h1 with ⟨h1, _⟩ | ⟨m1, h1⟩ <;> rcases ow j a h3 with ⟨h3, _⟩ | ⟨m3, h3⟩
    · exact sr2.ownd i j a h1 h3
    · exact absurd (.inr ⟨i, h1⟩) (rr j a m3 h3)
    · exact absurd (.inr ⟨j, h3⟩) (rr i a m1 h1)
    · exact sr.ownd i j a h1 h3
  · rcases ow i a h with ⟨h, _⟩ | ⟨m, h⟩
    · exact sr2.ownm i a h
    · exact fun z => rr i a m h (.inl z)
  · obtain ⟨t, nf⟩ := sr2.rho b (by rw [st.rh]; exact .inl h)
    refine ⟨t, fun f => ?_⟩
    rcases f with f | ⟨i, f⟩
    · exact nf (.inl f)
    · rcases ow i b f with ⟨f, _⟩ | ⟨_, f⟩
      · exact nf (.inr ⟨i, f⟩)
      · exact (sr.rho b h).2 (.inr ⟨i, f⟩)
  · show ∃ ys, (G.unlock _ _)[i]? = _
    by_cases hi : ∃ p ∈ l, p.1 = i
    · obtain ⟨p, hp, rfl⟩ := hi
      obtain ⟨q, _, _, e⟩ := unlock_in (v := c2.s.v) hp (by
        exact (List.getElem?_eq_some_iff.mp (h2 p hp).1).1)
      exact ⟨_, e⟩
    · have h3 : ∀ p ∈ l, p.1 ≠ i := fun p hp e => hi ⟨p, hp, e⟩
      rw [unlock_out h3]
      refine v.2 i ⟨xs, ?_⟩
      show (G.lock _ _)[i]? = _
      rw [lock_out h3]; exact h
end
end G

/-! ## GS10 -/
set_option Elab.async false
set_option linter.all false
set_option maxRecDepth 100000
set_option maxHeartbeats 4000000
namespace G
open PySem PySem.Spec PyProof.Rows L2

/-! ### what is walked -/
structure Stq (c c' : Cf) : Prop where
  pre : c.μ <+: c'.μ
  rh : c'.ρ = c.ρ
  frame : ∀ b o, c.H b = some o → ¬ Foot c b → c'.H b = some o
  tup : TupK c.H c'.H
theorem Stp.stq {c c' : Cf} (h : Stp c c') : Stq c c' := ⟨h.pre, h.rh, h.frame, h.tup⟩
def ItR (K : PySem.W.Frag) (im : Itm) (c : Cf) (J : L2.It) : Prop := ∀ c2, Stq c c2 → SR K c2 → im.ok c2.s = true → ∀ i,
  (∀ d, im.xs[i]? = some d → J.go i c2.H ∧ ∀ v H', J.yld i c2.H v H' → ∃ c3 : Cf, c3.s = c2.s ∧ c3.σ = c2.σ ∧ c3.H = H' ∧ Stp c2 c3 ∧ SR K c3 ∧ DR K c3.μ c3.H d v) ∧ (im.xs.length ≤ i → J.stop i c2.H)
def JI (X : Cx) (W : WX) (m : S → R Itm) (tg it : Expr) : Prop := ∀ c R, SR X.K c → Post X.K c (m c.s) (fun im c' => ∀ J, LkOk c' im.lks → ItR X.K im (c'.lock im.lks) J → R J c'.H) (QX X W) → WpI X tg it c.σ c.H R
section
variable {K : PySem.W.Frag} {c c1 : Cf}
theorem seq_stay {x : SV} {v : V} {xs : List D} {l : List (Nat × List D)} (sr : SR K c1) (hl : LkOk c1 l) (hv : ∀ p ∈ plcV x xs c1.s, p ∈ l) (rx : SVR K c1 x v) (h : seq c1.s x = some xs) :
    ∃ a, v = .ref a ∧ (isTup x = false → ∀ c2, Stq (c1.lock l) c2 → SR K c2 → (plcC x xs).all (stays c2.s) = true → ∃ vs, SqL K c2.H a vs ∧ DRs K c2.μ c2.H xs vs) ∧
      (isTup x = true → ∀ c2, Stq (c1.lock l) c2 → SR K c2 → ∃ vs, SqT K c2.H a vs ∧ DRs K c2.μ c2.H xs vs) := by
  cases x with
  | val d =>
    cases d with
    | loc n =>
      obtain ⟨a, e, q⟩ := (show ∃ a, v = V.ref a ∧ c1.μ[n]? = some a by simpa only [SVR, DR] using rx)
      refine ⟨a, e, fun _ c2 st sr2 ok => ?_, fun z => by cases z⟩
      simp only [plcC, List.all_cons, List.all_nil, Bool.and_true, stays, decide_eq_true_eq] at ok
      obtain ⟨vs, q1, q2⟩ := sr2.cell n _ a (by
        unfold cell at ok
        split at ok
        · rename_i ys z; cases ok; exact z
        · cases ok) (pre_get st.pre q)
      exact ⟨vs, .of q1, q2⟩
    | tup ys =>
      simp only [seq] at h
      cases h
      obtain ⟨a, vs, e, q, z⟩ := (show ∃ a vs, v = V.ref a ∧ SqT K c1.H a vs ∧ DRs K c1.μ c1.H xs vs by simpa only [SVR, DR] using rx)
      refine ⟨a, e, (fun z => Bool.noConfusion z), fun _ c2 st sr2 => ⟨vs, st.tup.sqT q, DRs.mono st.pre st.tup _ _ z⟩⟩
    | _ => simp only [seq] at h; cases h
  | new ys =>
    simp only [seq] at h
    cases h
    obtain ⟨a, vs, e, q, z, f1, f2⟩ := rx
    refine ⟨a, e, fun _ c2 st sr2 _ => ⟨vs, .of (st.frame a _ q fun f => f1 (lock_foot f)), DRs.mono st.pre st.tup _ _ z⟩, fun z => by cases z⟩
  | var i =>
    simp only [seq] at h
    split at h
    · rename_i ys q
      cases h
      obtain ⟨a, vs, e, z1, z2⟩ := sr.slot i _ q
      have e1 := rx.1
      rw [e] at e1
      cases e1
      have hi : (i, xs) ∈ l := hv _ (by simp only [plcV, q]; exact List.mem_singleton.mpr rfl)
      have nf := ((sr.lock hl).rho a (.inr ⟨(i, xs), hi, ⟨_, q⟩, e⟩)).2
      exact ⟨a, rfl, fun _ c2 st sr2 _ => ⟨vs, .of (st.frame a _ z1 nf), DRs.mono st.pre st.tup _ _ z2⟩, fun z => by cases z⟩
    · rename_i ys q
      cases h
      obtain ⟨a, vs, e, z1, z2⟩ := sr.slot i _ q
      have e1 := rx.1
      rw [e] at e1
      cases e1
      refine ⟨a, rfl, fun _ c2 st sr2 _ => ⟨vs, ?_, DRs.mono st.pre st.tup _ _ z1⟩, fun z => by cases z⟩
      rcases z2 with z2 | ⟨q1, q2⟩
      · exact .inr z2
      · have nf : ¬ Foot (c1.lock l) a := fun f => (sr.rho a q1).2 (lock_foot f)
        rcases q2 with q2 | ⟨u, q2⟩
        · exact .inl (.inl (st.frame a _ q2 nf))
        · exact .inl (.inr ⟨u, st.frame a _ q2 nf⟩)
    · cases h
theorem plcV_ok {x : SV} {xs : List D} (h : seq c1.s x = some xs) : LkOk c1 (plcV x xs c1.s) := fun p hp => by
  cases x with
  | val d => cases hp
  | new ys => cases hp
  | var i =>
    simp only [plcV] at hp
    split at hp
    · rename_i ys q
      have e := List.mem_singleton.mp hp
      subst e
      simp only [seq, q] at h
      cases h
      exact q
    · cases hp
end
/-- a list, a tuple, a text -/
def iAny (K : PySem.W.Frag) (tl : TE) : TI := fun σ H R => tl σ H fun x H1 => (∃ a, x = .ref a ∧ (∃ xs, SqL K H1 a xs) ∧ R (Itl K a) H1) ∨ (∃ a, x = .ref a ∧ (∃ xs, SqT K H1 a xs) ∧ R (Itt K a) H1) ∨ ∃ z, x = .str z ∧ R (Its z) H1
section
variable {X : Cx} {W : WX} {c : Cf} {tg : Expr}
theorem pi_any {l : Expr} {tl : TE} (hl : PE X l tl) : PI X tg l (iAny X.K tl) := by
  refine ⟨fun pins s σ H R I h => ?_⟩
  refine thn (hl.run pins s σ H _ I h) fun v s1 ⟨x, H1, I1, r1, q1⟩ => ?_
  rcases q1 with ⟨a, e, ⟨xs, hq⟩, q⟩ | ⟨a, e, ⟨xs, hq⟩, q⟩ | ⟨z, e, q⟩
  · subst e
    cases r1
    obtain ⟨its, rv, p, hz⟩ := I1.list hq
    exact wpAny_pyIter_list p.isList (pi_one (tk := s1.toks) I1 _ (turn_list a _) ⟨_, Heap.get?_push_size _ rfl, rfl, rfl⟩ q)
  · subst e
    cases r1
    obtain ⟨its, rv, p, hz⟩ := I1.tuple hq
    exact wpAny_pyIter_tuple (show s1.heap.IsTuple a its.toArray from p) (pi_one (tk := s1.toks) I1 _ (turn_tuple a _) ⟨_, Heap.get?_push_size _ rfl, rfl, rfl⟩ q)
  · subst e
    obtain ⟨t, rfl⟩ := r1
    cases ha : z.cps.all (· < 128)
    · exact wpAny_pyIter_wide ha (pi_one (tk := s1.toks) I1 _ (turn_str _ z t "str_iterator" (.inr rfl)) ⟨_, Heap.get?_push_size _ rfl, rfl, rfl⟩ q)
    · exact wpAny_pyIter_ascii ha (pi_one (tk := s1.toks) I1 _ (turn_str _ z t "str_ascii_iterator" (.inl rfl)) ⟨_, Heap.get?_push_size _ rfl, rfl, rfl⟩ q)
theorem j_iq {e : Expr} {m : S → R SV} (h : JX X W m e) : JI X W (fun s => (m s).bind fun x s1 => lif (ofSeq s1 x) s1) tg e := by
  intro c R sr p
  refine WpI.of (pi_any (peW e)) ?_
  refine h c _ sr (p.bind.imp fun x c1 st1 sr1 vs1 p1 v rv fv => ?_)
  obtain ⟨im, hm, k⟩ := Post.lif sr1 p1
  unfold ofSeq at hm
  split at hm
  · rename_i z
    cases hm
    simp only [SVR, DR] at rv
    subst rv
    refine .inr (.inr ⟨z, rfl, k _ (fun _ h => by cases h) fun c2 st sr2 _ i => ⟨fun d hd => ?_, fun hi => ?_⟩⟩)
    · rw [List.getElem?_map] at hd
      obtain ⟨c', h1, rfl⟩ := Option.map_eq_some_iff.mp hd
      have h1' : z.cps[i]? = some c' := by rw [← Array.getElem?_toList]; exact h1
      refine ⟨(Array.getElem?_eq_some_iff.mp h1').1, fun v H' hy => ?_⟩
      obtain ⟨e1, c'', h2, e2⟩ := hy
      rw [h1'] at h2
      cases h2
      subst e1 e2
      exact ⟨c2, rfl, rfl, rfl, Stp.refl _, sr2, by simp only [DR]⟩
    · show z.cps.size ≤ i
      rw [List.length_map] at hi
      simpa using hi
  · obtain ⟨xs, e1, rfl⟩ := Option.map_eq_some_iff.mp hm
    have lk := plcV_ok e1
    obtain ⟨a, rfl, s1, s2⟩ := seq_stay sr1 lk (fun p h => h) rv e1
    have s0 : Stq (c1.lock (plcV x xs c1.s)) (c1.lock (plcV x xs c1.s)) := (Stp.refl _).stq
    cases ht : isTup x with
    | false =>
      have s1 := s1 ht
      have now : (∃ ys, SqL X.K c1.H a ys) := by
        obtain ⟨a', ys, ea, r, q⟩ := seq_tup (c := c1) e1 (fun ys e => by subst e; cases ht) sr1 rv
        cases ea
        exact ⟨ys, q⟩
      refine .inl ⟨a, rfl, now, k _ lk fun c2 st sr2 ok i => ?_⟩
      obtain ⟨vs, q, r⟩ := s1 c2 st sr2 ok
      refine ⟨fun d hd => ?_, fun hi => ⟨vs, q, by rw [r.length]; exact hi⟩⟩
      obtain ⟨w, hw, rw'⟩ := r.get hd
      refine ⟨⟨vs, w, q, hw⟩, fun v H' hy => ?_⟩
      obtain ⟨eH, hy⟩ := hy
      subst eH
      have := hy vs q
      rw [hw] at this
      cases this
      exact ⟨c2, rfl, rfl, rfl, Stp.refl _, sr2, rw'⟩
    | true =>
      have s2 := s2 ht
      have now : (∃ ys, SqT X.K c1.H a ys) := by
        cases x with
        | val d =>
          cases d with
          | tup ys =>
            simp only [SVR, DR] at rv
            obtain ⟨a', vs, ea, q, _⟩ := rv
            cases ea
            exact ⟨vs, q⟩
          | _ => cases ht
        | _ => cases ht
      refine .inr (.inl ⟨a, rfl, now, k _ lk fun c2 st sr2 ok i => ?_⟩)
      obtain ⟨vs, q, r⟩ := s2 c2 st sr2
      refine ⟨fun d hd => ?_, fun hi => ⟨vs, q, by rw [r.length]; exact hi⟩⟩
      obtain ⟨w, hw, rw'⟩ := r.get hd
      refine ⟨⟨vs, w, q, hw⟩, fun v H' hy => ?_⟩
      obtain ⟨eH, hy⟩ := hy
      subst eH
      have := hy vs q
      rw [hw] at this
      cases this
      exact ⟨c2, rfl, rfl, rfl, Stp.refl _, sr2, rw'⟩
theorem in62_of {i : Int} (h : in62 i = true) : -(2 ^ 62) ≤ i ∧ i < 2 ^ 62 := by
  unfold in62 at h
  rw [Bool.and_eq_true, decide_eq_true_eq, decide_eq_true_eq] at h
  exact h
theorem rngL_it {lo : Int} {n : Nat} {c1 : Cf} : ItR X.K ⟨rngL lo n, [], []⟩ (c1.lock []) (Itr lo n) := fun c2 st sr2 _ i => by
  have hl : (rngL lo n).length = n := by unfold rngL; rw [List.length_map, List.length_range]
  refine ⟨fun d hd => ?_, fun hi => by show n ≤ i; rw [hl] at hi; exact hi⟩
  have hi : i < n := by rw [← hl]; exact (List.getElem?_eq_some_iff.mp hd).1
  refine ⟨hi, fun v H' hy => ?_⟩
  obtain ⟨e1, e2⟩ := hy
  subst e1 e2
  refine ⟨c2, rfl, rfl, rfl, Stp.refl _, sr2, ?_⟩
  unfold rngL at hd
  rw [List.getElem?_map, List.getElem?_range hi] at hd
  simp only [Option.map_some, Option.some.injEq] at hd
  subst hd
  simp only [DR]
theorem j_rng1 {a : Expr} {p pos : Pos} {ma : S → R SV} (hg : Gl X "range") (hm : X.mg "range" = none) (hs : notStar a = true) (h : JX X W ma a) :
    JI X W (fun s => ((ma s).bind fun d s1 => (R.ok [] s1).bind fun ds s2 => .ok (d :: ds) s2).bind fun xs s1 => lif (rngD xs) s1) tg (.Call (.Name "range" p) [a] [] pos) := by
  intro c R sr q
  dsimp only at q
  rw [G.R.bind_assoc] at q
  refine WpI.of (pi_range1 hg hm (pa_cons (peW a) pa_nil (star_cons hs)) (star_cons hs)) ?_
  refine h c _ sr (q.bind.imp fun x c1 st1 sr1 vs1 p1 v rd fv => ?_)
  have p1 : Post X.K c1 (lif (rngD [x]) c1.s) _ _ := p1
  obtain ⟨im, hm, k⟩ := Post.lif sr1 p1
  unfold rngD at hm
  split at hm
  · rename_i e
    cases e
    simp only [SVR, DR] at rd
    subst rd
    split at hm
    · rename_i h1
      cases hm
      exact ⟨_, rfl, (in62_of h1).1, (in62_of h1).2, k _ (fun _ h => by cases h) rngL_it⟩
    · cases hm
  · rename_i e; cases e
  · rename_i e; cases e
  · cases hm
theorem j_rng2 {a b : Expr} {p pos : Pos} {ma mb : S → R SV} (hg : Gl X "range") (hm : X.mg "range" = none) (hs : notStar a = true) (hs2 : notStar b = true) (h : JX X W ma a) (h2 : JX X W mb b) :
    JI X W (fun s => ((ma s).bind fun d s1 => ((mb s1).bind fun d s1 => (R.ok [] s1).bind fun ds s2 => .ok (d :: ds) s2).bind fun ds s2 => .ok (d :: ds) s2).bind fun xs s1 => lif (rngD xs) s1) tg (.Call (.Name "range" p) [a, b] [] pos) := by
  intro c R sr q
  dsimp only at q
  rw [G.R.bind_assoc] at q
  refine WpI.of (pi_range2 hg hm (pa_cons (peW a) (pa_cons (peW b) pa_nil (star_cons hs2)) (star_cons hs)) (by rw [star_cons hs, star_cons hs2]; rfl) (star_cons hs2)) ?_
  refine h c _ sr (q.bind.imp fun x c1 st1 sr1 vs1 p1 v rd fv => ?_)
  rw [G.R.bind_assoc, G.R.bind_assoc] at p1
  rw [← vs1.1]
  refine h2 c1 _ sr1 (p1.bind.imp fun y c2 st2 sr2 vs2 p2 u rd2 fu => ?_)
  have p2 : Post X.K c2 (lif (rngD [x, y]) c2.s) _ _ := p2
  obtain ⟨im, hm, k⟩ := Post.lif sr2 p2
  unfold rngD at hm
  split at hm
  · rename_i e; cases e
  · rename_i e
    cases e
    simp only [SVR, DR] at rd rd2
    subst rd rd2
    split at hm
    · rename_i h1
      rw [Bool.and_eq_true] at h1
      cases hm
      exact ⟨_, _, rfl, ⟨(in62_of h1.1).1, (in62_of h1.1).2, (in62_of h1.2).1, (in62_of h1.2).2⟩, k _ (fun _ h => by cases h) rngL_it⟩
    · cases hm
  · rename_i e; cases e
  · cases hm
theorem zips_get : ∀ {xs ys : List D} {i : Nat} {d : D}, (zips xs ys)[i]? = some d → ∃ x y, xs[i]? = some x ∧ ys[i]? = some y ∧ d = .tup [x, y]
  | [], _, _, _, h => by simp [zips] at h
  | _ :: _, [], _, _, h => by simp [zips] at h
  | x :: xs, y :: ys, i, d, h => by
    unfold zips at h
    cases i with
    | zero => simp at h; exact ⟨x, y, rfl, rfl, h.symm⟩
    | succ i => simp at h; obtain ⟨a, b, h1, h2, h3⟩ := zips_get h; exact ⟨a, b, by simpa using h1, by simpa using h2, h3⟩
theorem zips_len : ∀ {xs ys : List D} {i : Nat}, (zips xs ys).length ≤ i → xs.length ≤ i ∨ ys.length ≤ i
  | [], _, _, _ => .inl (Nat.zero_le _)
  | _ :: _, [], _, _ => .inr (Nat.zero_le _)
  | x :: xs, y :: ys, 0, h => by simp [zips] at h
  | x :: xs, y :: ys, i + 1, h => by
    simp [zips] at h
    rcases zips_len h with h | h
    · left; simp; exact h
    · right; simp; exact h
theorem isTup_now {K : PySem.W.Frag} {c1 : Cf} {x : SV} {a : Addr} {xs : List D} (sr : SR K c1) (rv : SVR K c1 x (.ref a)) (e1 : seq c1.s x = some xs) : (isTup x = false → ∃ ys, SqL K c1.H a ys) ∧ (isTup x = true → ∃ ys, SqT K c1.H a ys) := by
  cases x with
  | val d =>
    cases d with
    | tup ys =>
      simp only [SVR, DR] at rv
      obtain ⟨a', vs, ea, q, _⟩ := rv
      cases ea
      exact ⟨(fun z => Bool.noConfusion z), fun _ => ⟨vs, q⟩⟩
    | loc n =>
      simp only [SVR, DR] at rv
      obtain ⟨a', ea, q⟩ := rv
      cases ea
      refine ⟨fun _ => ?_, fun z => Bool.noConfusion z⟩
      unfold seq cell at e1
      dsimp only at e1
      split at e1
      · rename_i ys hz
        obtain ⟨vs, z, _⟩ := sr.cell n _ a hz q
        exact ⟨vs, .of z⟩
      · cases e1
    | _ => simp only [seq] at e1; cases e1
  | new ys =>
    obtain ⟨a', vs, ea, q, _⟩ := rv
    cases ea
    exact ⟨fun _ => ⟨vs, .of q⟩, fun z => Bool.noConfusion z⟩
  | var i =>
    obtain ⟨e, k⟩ := rv
    refine ⟨fun _ => ?_, fun z => Bool.noConfusion z⟩
    rcases k with ⟨ys, k⟩ | ⟨ys, k⟩
    · obtain ⟨a', vs, e2, q, _⟩ := sr.slot i _ k
      rw [e] at e2; cases e2
      exact ⟨vs, .of q⟩
    · obtain ⟨a', vs, e2, _, q⟩ := sr.slot i _ k
      rw [e] at e2; cases e2
      exact ⟨vs, by rcases q with q | ⟨_, q⟩; exact .inr q; exact .inl q⟩
theorem lay_pair {K : PySem.W.Frag} {c2 : Cf} {T : Addr} {u v : V} {x y : D} (sr : SR K c2) (n : c2.H T = none) (h1 : DR K c2.μ c2.H x u) (h2 : DR K c2.μ c2.H y v) : ∃ c3 : Cf, c3.s = c2.s ∧ c3.σ = c2.σ ∧ c3.H = upd c2.H T (.tup [u, v]) ∧ Stp c2 c3 ∧ SR K c3 ∧ DR K c3.μ c3.H (.tup [x, y]) (.ref T) := by
  refine ⟨c2.lay T (.tup [u, v]), rfl, rfl, rfl, Stp.laid n, sr.laid n, ?_⟩
  simp only [DR]
  exact ⟨T, [u, v], rfl, .inl (.inl upd_same), (Stp.laid n).drs (.cons h1 (.one h2))⟩
theorem j_zip {elts : List Expr} {kk : Nat} {tpos p pos : Pos} {a b : Expr} {ma mb : S → R SV} (hg : Gl X "zip") (hm : X.mg "zip" = none) (hs : notStar a = true) (hs2 : notStar b = true) (ha : JX X W ma a) (hb : JX X W mb b) :
    JI X W (fun s => (ma s).bind fun x s1 => (mb s1).bind fun y s2 => lif (if isTup x = isTup y then (seq s2 x).bind fun xs => (seq s2 y).map fun ys => ⟨zips xs ys, plcC x xs ++ plcC y ys, plcV x xs s2 ++ plcV y ys s2⟩ else none) s2) (.Tuple elts kk tpos) (.Call (.Name "zip" p) [a, b] [] pos) := by
  intro c RR sr q
  refine WpI.of (RZ.pi_zipA hg hm (pa_cons (peW a) (pa_cons (peW b) pa_nil (star_cons hs2)) (star_cons hs)) (star_cons hs) (plain_of (by simp [hs2]))) ?_
  refine ha c _ sr (q.bind.imp fun x c1 st1 sr1 vs1 p1 v rd fv => ?_)
  rw [← vs1.1]
  refine hb c1 _ sr1 (p1.bind.imp fun y c2 st2 sr2 vs2 p2 u ru fu => ?_)
  have rx := rd.step st2 vs2
  obtain ⟨im, hm', k⟩ := Post.lif sr2 p2
  by_cases he : isTup x = isTup y
  case neg => rw [if_neg he] at hm'; cases hm'
  rw [if_pos he] at hm'
  obtain ⟨xs, e1, hm'⟩ := Option.bind_eq_some_iff.mp hm'
  obtain ⟨ys, e2, rfl⟩ := Option.map_eq_some_iff.mp hm'
  have lk : LkOk c2 (plcV x xs c2.s ++ plcV y ys c2.s) := fun p hp => by
    rcases List.mem_append.mp hp with hp | hp
    · exact plcV_ok e1 p hp
    · exact plcV_ok e2 p hp
  obtain ⟨a1, rfl, s1, s2⟩ := seq_stay sr2 lk (fun p h => List.mem_append_left _ h) rx e1
  obtain ⟨a2, rfl, t1, t2⟩ := seq_stay sr2 lk (fun p h => List.mem_append_right _ h) ru e2
  obtain ⟨n1, n2⟩ := isTup_now sr2 rx e1
  obtain ⟨m1, m2⟩ := isTup_now sr2 ru e2
  cases ht : isTup x with
  | false =>
    have ht2 : isTup y = false := by rw [← he]; exact ht
    obtain ⟨zs, hz⟩ := n1 ht
    obtain ⟨ws, hw⟩ := m1 ht2
    refine ⟨a1, a2, zs, ws, rfl, .inl ⟨hz, hw, k _ lk fun c3 st sr3 ok i => ?_⟩⟩
    have ok : ((plcC x xs ++ plcC y ys).all (stays c3.s)) = true := ok
    rw [List.all_append, Bool.and_eq_true] at ok
    obtain ⟨v1, q1, r1⟩ := s1 ht c3 st sr3 ok.1
    obtain ⟨v2, q2, r2⟩ := t1 ht2 c3 st sr3 ok.2
    refine ⟨fun d hd => ?_, fun hi => ⟨v1, v2, q1, q2, by rw [r1.length, r2.length]; exact zips_len hi⟩⟩
    obtain ⟨dx, dy, g1, g2, rfl⟩ := zips_get hd
    obtain ⟨wx, f1, o1⟩ := r1.get g1
    obtain ⟨wy, f2, o2⟩ := r2.get g2
    refine ⟨⟨v1, v2, wx, wy, q1, q2, f1, f2⟩, fun v H' hy => ?_⟩
    obtain ⟨T, ux, uy, rfl, nT, rfl, k1, k2⟩ := hy
    have e3 := k1 v1 q1
    have e4 := k2 v2 q2
    rw [f1] at e3; rw [f2] at e4
    cases e3; cases e4
    exact lay_pair sr3 nT o1 o2
  | true =>
    have ht2 : isTup y = true := by rw [← he]; exact ht
    obtain ⟨zs, hz⟩ := n2 ht
    obtain ⟨ws, hw⟩ := m2 ht2
    refine ⟨a1, a2, zs, ws, rfl, .inr ⟨hz, hw, k _ lk fun c3 st sr3 ok i => ?_⟩⟩
    obtain ⟨v1, q1, r1⟩ := s2 ht c3 st sr3
    obtain ⟨v2, q2, r2⟩ := t2 ht2 c3 st sr3
    refine ⟨fun d hd => ?_, fun hi => ⟨v1, v2, q1, q2, by rw [r1.length, r2.length]; exact zips_len hi⟩⟩
    obtain ⟨dx, dy, g1, g2, rfl⟩ := zips_get hd
    obtain ⟨wx, f1, o1⟩ := r1.get g1
    obtain ⟨wy, f2, o2⟩ := r2.get g2
    refine ⟨⟨v1, v2, wx, wy, q1, q2, f1, f2⟩, fun v H' hy => ?_⟩
    obtain ⟨T, ux, uy, rfl, nT, rfl, k1, k2⟩ := hy
    have e3 := k1 v1 q1
    have e4 := k2 v2 q2
    rw [f1] at e3; rw [f2] at e4
    cases e3; cases e4
    exact lay_pair sr3 nT o1 o2
end

/-! ### targets -/
/-- what a target's store does to the names -/
def Chg (l : List Nat) (c c' : Cf) : Prop := (∀ i, i ∉ l → c'.σ[i]? = c.σ[i]?) ∧ c'.σ.length = c.σ.length ∧ (∀ i, i ∉ l → (∃ xs, c.s.v[i]? = some (Slot.own xs)) → ∃ xs, c'.s.v[i]? = some (Slot.own xs))
theorem Chg.of {l : List Nat} {c c' : Cf} (h : Vst c c') : Chg l c c' := ⟨fun i _ => by rw [h.1], by rw [h.1], fun i _ => h.2 i⟩
theorem Chg.trans {l1 l2 : List Nat} {a b c : Cf} (h : Chg l1 a b) (k : Chg l2 b c) : Chg (l1 ++ l2) a c :=
  ⟨fun i n => by rw [List.mem_append, not_or] at n; exact (k.1 i n.2).trans (h.1 i n.1), k.2.1.trans h.2.1, fun i n z => by rw [List.mem_append, not_or] at n; exact k.2.2 i n.2 (h.2.2 i n.1 z)⟩
/-- a target; c₀: the base of the promise -/
def JG (X : Cx) (W : WX) (m : D → S → R Unit) (l : List Nat) (tg : Expr) : Prop := ∀ c d v (Q : L2.St → Hp → Prop), SR X.K c → DR X.K c.μ c.H d v →
  PostS X.K c (m d c.s) (fun _ c' => Chg l c c' → Q c'.σ c'.H) (QX X W) → WpG X tg v c.σ c.H Q
def JGs (X : Cx) (W : WX) (m : List D → S → R Unit) (l : List Nat) (tgs : List Expr) : Prop := ∃ t : TGs, PGs X tgs t ∧ ∀ c ds vs (Q : L2.St → Hp → Prop), SR X.K c → DRs X.K c.μ c.H ds vs →
  PostS X.K c (m ds c.s) (fun _ c' => Chg l c c' → Q c'.σ c'.H) (QX X W) → t vs c.σ c.H Q
section
variable {X : Cx} {W : WX} {c : Cf}
theorem set_ne {α : Type} {l : List α} {i j : Nat} {x : α} (h : j ≠ i) : (l.set i x)[j]? = l[j]? := List.getElem?_set_ne (Ne.symm h)
/-- a name is stored: a value -/
theorem setName_ok {K : PySem.W.Frag} {i : Nat} {x : Slot} {v : V} {Qn : Unit → Cf → Prop} {Qx : Xc → Cf → Prop} (sr : SR K c) (hx : (∃ d, x = .val d ∧ DR K c.μ c.H d v) ∨ ∃ xs a vs, x = .own xs ∧ v = .ref a ∧ c.H a = some (.lst vs) ∧ DRs K c.μ c.H xs vs ∧ ¬ Foot c a ∧ ¬ c.ρ a)
    (b : Cf) (sb : Stp b c) (hb : ∀ xs a, x = .own xs → v = .ref a → b.H a = none) (h : PostS K b (setName i x c.s) Qn Qx) : ∃ c' : Cf, c'.σ = c.σ.set i (some v) ∧ c'.H = c.H ∧ c'.s = ⟨c.s.v.set i x, c.s.M⟩ ∧ Stp b c' ∧ SR K c' ∧ Chg [i] c c' ∧ Qn () c' := by
  unfold setName at h
  split at h
  · exact h.elim
  · rename_i y hnr hy
    have hil : i < c.s.v.length := (List.getElem?_eq_some_iff.mp hy).1
    have hiσ : i < c.σ.length := by rw [← sr.len]; exact hil
    have ow : ∀ j a, OwnAt ({ c with s := ⟨c.s.v.set i x, c.s.M⟩, σ := c.σ.set i (some v) } : Cf) j a → (j ≠ i ∧ OwnAt c j a) ∨ (j = i ∧ ∃ xs, x = .own xs ∧ v = .ref a) := fun j a ⟨⟨xs, h1⟩, h2⟩ => by
      have h2 : (c.σ.set i (some v))[j]? = _ := h2
      rcases set_get h1 with ⟨rfl, e, _⟩ | ⟨ne, h1⟩
      · rw [List.getElem?_set_self hiσ] at h2
        cases h2
        exact .inr ⟨rfl, xs, e.symm, rfl⟩
      · rw [set_ne ne] at h2
        exact .inl ⟨ne, ⟨xs, h1⟩, h2⟩
    have nf : ∀ a, (∃ xs, x = .own xs ∧ v = .ref a) → ¬ Foot c a ∧ ¬ c.ρ a ∧ b.H a = none := fun a ⟨xs, e, ev⟩ => by
      rcases hx with ⟨d, e2, _⟩ | ⟨ys, a', vs, e2, ev2, _, _, f1, f2⟩
      · rw [e] at e2; cases e2
      · rw [ev] at ev2
        cases ev2
        exact ⟨f1, f2, hb _ _ e ev⟩
    have st : Stp b ({ c with s := ⟨c.s.v.set i x, c.s.M⟩, σ := c.σ.set i (some v) } : Cf) := by
      refine ⟨sb.pre, sb.rh, sb.frame, fun q f => ?_, sb.trk, sb.tup, fun j xs h => ?_, fun j xs h => ?_⟩
      · rcases f with f | ⟨j, f⟩
        · exact sb.grow q (.inl f)
        · rcases ow j q f with ⟨_, f⟩ | ⟨_, f⟩
          · exact sb.grow q (.inr ⟨j, f⟩)
          · exact .inr (nf q f).2.2
      · rcases set_get h with ⟨rfl, e, _⟩ | ⟨ne, h⟩
        · rcases hx with ⟨d, e2, _⟩ | ⟨ys, a', vs, e2, _⟩ <;> (rw [e2] at e; cases e)
        · obtain ⟨z1, z2⟩ := sb.ros j xs h
          exact ⟨z1, by show (c.σ.set i _)[j]? = _; rw [set_ne ne]; exact z2⟩
      · have z := sb.ron j xs h
        have ne : j ≠ i := by
          rintro rfl
          rw [hy] at z
          cases z
          exact hnr _ rfl
        show (c.s.v.set i x)[j]? = _
        rw [set_ne ne]; exact z
    have sr' : SR K ({ c with s := ⟨c.s.v.set i x, c.s.M⟩, σ := c.σ.set i (some v) } : Cf) := by
      refine ⟨?_, sr.mlen, sr.nd, fun m cl a h1 h2 => ?_, fun j y h => ?_, fun j k a h1 h2 => ?_, fun j a h => ?_, fun q h => ?_⟩
      · show (c.s.v.set i x).length = (c.σ.set i _).length
        rw [List.length_set, List.length_set]; exact sr.len
      · have z := sr.cell m cl a h1 h2
        exact z
      · rcases set_get h with ⟨rfl, rfl, _⟩ | ⟨ne, h⟩
        · have e : (c.σ.set j (some v))[j]? = some (some v) := List.getElem?_set_self hiσ
          rcases hx with ⟨d, rfl, r⟩ | ⟨ys, a', vs, rfl, rfl, q, r, _⟩
          · exact ⟨v, e, r⟩
          · exact ⟨a', vs, e, q, r⟩
        · have e : (c.σ.set i (some v))[j]? = c.σ[j]? := set_ne ne
          have z := sr.slot j y h
          show SlotR K _ ((c.σ.set i (some v))[j]?) y
          rw [e]
          cases y with
          | no => trivial
          | val d => exact z
          | own xs => exact z
          | ro xs => exact z
      · rcases ow j a h1 with ⟨_, h1⟩ | ⟨e1, h1⟩ <;> rcases ow k a h2 with ⟨_, h2⟩ | ⟨e2, h2⟩
        · exact sr.ownd j k a h1 h2
        · exact absurd (.inr ⟨j, h1⟩) (nf a h2).1
        · exact absurd (.inr ⟨k, h2⟩) (nf a h1).1
        · rw [e1, e2]
      · rcases ow j a h with ⟨_, h⟩ | ⟨_, h⟩
        · exact sr.ownm j a h
        · exact fun m => (nf a h).1 (.inl m)
      · obtain ⟨t, n⟩ := sr.rho q h
        refine ⟨t, fun f => ?_⟩
        rcases f with f | ⟨j, f⟩
        · exact n (.inl f)
        · rcases ow j q f with ⟨_, f⟩ | ⟨_, f⟩
          · exact n (.inr ⟨j, f⟩)
          · exact (nf q f).2.1 h
    refine ⟨({ c with s := ⟨c.s.v.set i x, c.s.M⟩, σ := c.σ.set i (some v) } : Cf), rfl, rfl, rfl, st, sr', ⟨fun j n => ?_, ?_, fun j n z => ?_⟩, h _ rfl st sr'⟩
    · have : j ≠ i := fun e => n (by rw [e]; exact List.mem_singleton.mpr rfl)
      exact set_ne this
    · exact List.length_set
    · have : j ≠ i := fun e => n (by rw [e]; exact List.mem_singleton.mpr rfl)
      obtain ⟨xs, z⟩ := z
      exact ⟨xs, (set_ne this).trans z⟩
  · exact h.elim
theorem j_gname {i : Nat} {x : Str} {pos : Pos} (hN : X.N.Nodup) (hi : X.N[i]? = some x) (hx : Loc X.env.scope x) (hf : X.fn x = true ∨ X.env.scope.names.lookup x = some .local) : JG X W (fun d s => setName i (.val d) s) [i] (.Name x pos) := by
  intro c d v Q sr r p
  refine WpG.of (pg_name hN hi hx hf) ?_
  obtain ⟨c', e1, e2, _, st, sr', ch, q⟩ := setName_ok (v := v) sr (.inl ⟨d, rfl, r⟩) c (Stp.refl c) (fun _ _ e => by cases e) p
  have q := q ch
  rw [e1, e2] at q
  exact q
theorem j_gsnil : JGs X W (fun ds s => match ds with
    | [] => .ok () s
    | _ => .bad) [] [] := by
  refine ⟨gNil, pgs_nil, fun c ds vs Q sr r p => ?_⟩
  cases ds with
  | nil =>
    simp only [DRs] at r
    exact ⟨r, p.ok sr (Chg.of (Vst.refl c))⟩
  | cons d ds => exact p.elim
theorem j_gscons {e : Expr} {es : List Expr} {m : D → S → R Unit} {ms : List D → S → R Unit} {l1 l2 : List Nat} (hs : (assignEach (e :: es) X.env).map (·.2) = assign e X.env :: (assignEach es X.env).map (·.2)) (h : JG X W m l1 e) (t : JGs X W ms l2 es) :
    JGs X W (fun ds s => match ds with
      | d :: ds => (m d s).bind fun _ s1 => ms ds s1
      | [] => .bad) (l1 ++ l2) (e :: es) := by
  obtain ⟨u, pu, hu⟩ := t
  refine ⟨gCons (WpG X e) u, pgs_cons (pgW e) pu hs, fun c ds vs Q sr r p => ?_⟩
  cases ds with
  | nil => exact p.elim
  | cons d ds =>
    simp only [DRs] at r
    obtain ⟨v, r', rfl, rd, rs⟩ := r
    refine ⟨v, r', rfl, ?_⟩
    have p : PostS X.K c ((m d c.s).bind fun _ s1 => ms ds s1) _ _ := p
    refine h c d v _ sr rd ?_
    cases z : m d c.s with
    | bad => rw [z] at p; exact p
    | exc x s => rw [z] at p; exact p
    | ok a s =>
      rw [z] at p
      intro c1 e1 st1 sr1 ch1
      subst e1
      refine hu c1 ds r' Q sr1 (st1.drs rs) ?_
      refine PostS.imp (PostS.later st1 (show PostS X.K c (ms ds c1.s) _ _ from p)) fun _ c2 st2 sr2 q ch2 => q (ch1.trans ch2)
theorem j_gtup {es : List Expr} {k n : Nat} {pos : Pos} {ms : List D → S → R Unit} {l : List Nat} (hc : X.calm = true) (hst : (assignEach es X.env).findIdx? (·.1) = none) (hn : (assignEach es X.env).length = n) (h : JGs X W ms l es) :
    JG X W (fun d s => match d with
      | .tup xs => if xs.length = n then ms xs s else .bad
      | .loc m => (match cell s.M m with
        | some xs => if xs.length = n then ms xs s else .bad
        | none => .bad)
      | _ => .bad) l (.Tuple es k pos) := by
  obtain ⟨u, pu, hu⟩ := h
  intro c d v Q sr r p
  cases d with
  | loc m =>
    refine WpG.of (pg_lst hc pu hn hst) ?_
    simp only [DR] at r
    obtain ⟨a, rfl, e⟩ := r
    have p : PostS X.K c (match cell c.s.M m with
        | some xs => if xs.length = n then ms xs c.s else .bad
        | none => .bad) _ _ := p
    split at p
    · rename_i xs hx
      obtain ⟨vs, q, rs⟩ := cell_at sr e hx
      by_cases hl : xs.length = n
      · rw [if_pos hl] at p
        exact ⟨a, vs, rfl, .of q, by rw [rs.length]; exact hl, hu c xs vs Q sr rs p⟩
      · rw [if_neg hl] at p; exact p.elim
    · exact p.elim
  | tup xs =>
    refine WpG.of (pg_tup hc pu hn hst) ?_
    simp only [DR] at r
    obtain ⟨a, vs, rfl, q, rs⟩ := r
    have p : PostS X.K c (if xs.length = n then ms xs c.s else .bad) _ _ := p
    by_cases hl : xs.length = n
    · rw [if_pos hl] at p
      exact ⟨a, vs, rfl, q, by rw [rs.length]; exact hl, hu c xs vs Q sr rs p⟩
    · rw [if_neg hl] at p; exact p.elim
  | _ => exact p.elim
end
end G

/-! ## GE10 -/
set_option Elab.async false
set_option linter.all false
set_option maxRecDepth 100000
set_option maxHeartbeats 4000000
namespace G
open PySem PySem.Spec PyProof.Rows L2

/-! ### enumerate of a tuple -/
section
variable {prog : Program} {w : World} {A : Around} {E : Value → Shared → Prop} {s : Shared}
theorem enumT_end {e it t : Addr} {i : Nat} {c : Int} {items : Array Value} {old : Value} {Q : Option Value → Shared → Prop} (hh : A.handled = none) (he : IsEnum s.heap e it c old) (hit : s.heap.IsTupleIter it t i) (ha : s.heap.IsTuple t items) (hx : items[i]? = none)
    (hQ : ∀ h', Heap.ExtBut it s.heap h' → Q none { s with heap := h' }) : wpAny (model prog w) A (pyNext (.ref e)) Q E s := by
  have hT : s.TypeIs (.ref e) "enumerate" := ⟨_, he, rfl⟩
  unfold pyNext
  refine wpAny_bind (wpAny_attempt (wpAny_callSpecial?_slot (name := Str.ofString "__next__") hT F.slot_enumerate_next
    (wpAny_call_entry F.slot_enumerate_next hT F.entry_enumerate_next ?_ (F.args_enumerate_next_1 _))))
  show wpAny _ _ (field (.ref e) 2 >>= _) _ _ _
  refine wpAny_bind (wpAny_field he rfl (x := .ref it) rfl ?_)
  refine wpAny_bind (wpAny_nextOf_tuple_end hh hit ha hx fun h' x he' hx' => ?_)
  obtain ⟨o, ho, hc⟩ := hx'
  refine wpAny_bind (wpAny_isInstance (T := "StopIteration") (b := true) ⟨o, ho, hc⟩ isSubtype_stop ?_)
  exact wpAny_pure (hQ _ he')
set_option maxHeartbeats 1000000 in
theorem meets_enumerate_new1 {v : Value} {o : Obj} {H : Heap → Prop} (B : Begins v o H) :
    Meets (Builtin.«enumerate.__new__» ⟨[.type "enumerate", v], []⟩) (fun _ R s => H s.heap ∧
      R (.ok (.ret (.ref (s.heap.push o).objs.size))) { s with heap := (s.heap.push o).push { cls := .type "enumerate", data := .fields #[.none, .bool false, .ref s.heap.objs.size, rawInt 0, .none, .none] } }) :=
  .of_wp fun prog w A R s h => by
    obtain ⟨hp, g, d, tk, os⟩ := s; obtain ⟨h1, h⟩ := h
    have hsub := sub_enumerate
    have q1 : ∀ {A' : Around} {E : Value → Shared → Prop} {Q : Value → Shared → Prop}, Q (.ref hp.objs.size) ⟨hp.push o, g, d, tk, os⟩ → wpAny (model prog w) A' (pyIter v) Q E ⟨hp, g, d, tk, os⟩ :=
      fun q => B.iter prog w _ _ ⟨hp, g, d, tk, os⟩ _ h1 q
    wp_walk using q1
    refine wpAny_stack_any fun st => wpAny_pure ?_
    split
    · rename_i c _ _ _ _ _
      cases (c == Value.type "enumerate")
      · wp_walk using q1
        exact ⟨_, rfl, h⟩
      · wp_walk using q1
        exact ⟨_, rfl, h⟩
    · wp_walk using q1
      exact ⟨_, rfl, h⟩
theorem call_enumerate_tuple {t : Addr} {items : Array Value} {Q : Value → Shared → Prop} (hL : s.heap.IsTuple t items)
    (h : ∀ h', IsEnum h' (s.heap.objs.size + 1) s.heap.objs.size 0 .none → h'.IsTupleIter s.heap.objs.size t 0 → h'.objs.size = s.heap.objs.size + 2 →
      (∀ b o, s.heap.get? b = some o → h'.get? b = some o) → Q (.ref (s.heap.objs.size + 1)) { s with heap := h' }) :
    wpAny (model prog w) A (call (.type "enumerate") [.ref t]) Q E s := by
  refine callType_new F.called_enumerate (by decide) (F.typeCall_enumerate_1 _) (F.newCall_enumerate_1 _) (fun obj => F.args_object_init_2 obj _) F.entry_enumerate_new
    (meets_enumerate_new1 (begins_tuple t items)) ⟨hL, ?_⟩
  have hz : (s.heap.push { cls := .type "tuple_iterator", data := .fields #[.ref t, .int 0 0] }).objs.size = s.heap.objs.size + 1 := Heap.size_push ..
  show _ ∧ _
  rw [hz]
  have he : IsEnum ((s.heap.push { cls := .type "tuple_iterator", data := .fields #[.ref t, .int 0 0] }).push
      { cls := .type "enumerate", data := .fields #[.none, .bool false, .ref s.heap.objs.size, rawInt 0, .none, .none] }) (s.heap.objs.size + 1) s.heap.objs.size 0 .none := by
    have := Heap.get?_push_size (s.heap.push { cls := .type "tuple_iterator", data := .fields #[.ref t, .int 0 0] })
      (o := { cls := .type "enumerate", data := .fields #[.none, .bool false, .ref s.heap.objs.size, rawInt 0, .none, .none] }) rfl
    rw [hz] at this; exact this
  refine ⟨⟨_, he, rfl⟩, h _ he ⟨_, Heap.get?_push_of_some _ (Heap.get?_push_size _ rfl), rfl, rfl⟩ (by rw [Heap.size_push, hz]) fun b o x => Heap.get?_push_of_some _ (Heap.get?_push_of_some _ x)⟩
end
/-- the tuple at a, each item in a new pair -/
def IteT (K : PySem.W.Frag) (a : Addr) : L2.It :=
  ⟨fun i H => ∃ (xs : List V) (x : V), SqT K H a xs ∧ xs[i]? = some x, fun i H v H' => ∃ T x, v = .ref T ∧ H T = none ∧ H' = upd H T (.tup [.int (i : Nat), x]) ∧ ∀ xs, SqT K H a xs → xs[i]? = some x, fun i H => ∃ xs : List V, SqT K H a xs ∧ xs.length ≤ i⟩
theorem turn_enumT {P : Program} {w : World} {K : PySem.W.Frag} {elts : List Expr} {kk : Nat} {tpos : Pos} (a e it : Addr) :
    Turn P w K (.Tuple elts kk tpos) (IteT K a) [e, it] e (fun i h => (∃ old, IsEnum h e it ((i : Nat) : Int) old) ∧ h.IsTupleIter it a i ∧ e ≠ it ∧ a ≠ it ∧ a ≠ e) where
  mem := by simp
  obj := fun i h st b hb => by
    obtain ⟨⟨old, he⟩, ⟨o, ho, hc, hd⟩, _⟩ := st
    have e' : b = e ∨ b = it := by simpa using hb
    rcases e' with z | z
    · rw [z]; exact ⟨_, he, fun v q => nomatch q⟩
    · rw [z]; exact ⟨o, ho, fun v q => by rw [hd] at q; cases q⟩
  keep := fun i h h' st k => let ⟨⟨old, he⟩, hi, hne⟩ := st; ⟨⟨old, k e (by simp) _ he⟩, hi.at fun o q => k it (by simp) o q, hne⟩
  item := by
    intro X hP hw hK hc i pins s σ H E I hf st hg
    subst hP hw hK
    obtain ⟨⟨old, he⟩, hit, hne, hai, hae⟩ := st
    obtain ⟨xs, x, hq, hx⟩ := hg
    obtain ⟨its, rv, p, hz⟩ := I.tuple hq
    obtain ⟨u, hu, ru⟩ := rv.get hx
    have hel : e < s.heap.objs.size := Heap.lt_size he
    have hil : it < s.heap.objs.size := by obtain ⟨_, q, _⟩ := hit; exact Heap.lt_size q
    have hu' : its.toArray[i]? = some u := by simpa using hu
    have hilt : i < its.toArray.size := (Array.getElem?_eq_some_iff.mp hu').1
    have hne' : e ∉ [it, a] := by
      intro z
      rcases List.mem_cons.mp z with z | z
      · exact hne z
      · exact hae (List.mem_singleton.mp z).symm
    refine wpAny_pyNext_enum_itemD (Draws.tuple (A := X.A.in1) (show X.A.in1.handled = none from I.ok.hd hc) it a hai its.toArray) he ⟨hit, show s.heap.IsTuple a its.toArray from p⟩ hilt hne hne' fun u' h' tk hP ho hit' hT hsz hk => ?_
    have eu : u' = u := Option.some.inj (hP.symm.trans hu')
    subst eu
    refine ⟨_, rfl, wpAny_letOwnedTupleGo_enum (s := { s with heap := h', toks := tk + 1 }) ho fun h'' he' sb => ?_⟩
    have hT2 : h''.get? s.heap.objs.size = some { cls := .type "tuple", data := .seq #[.int i tk, u'] } := (sb.2 _ (Nat.ne_of_gt hel)).trans hT
    have new : ObjOk X.prog X.w (upd H s.heap.objs.size (.tup [.int (i : Nat), x])) h'' s.heap.objs.size (.tup [.int (i : Nat), x]) :=
      ⟨by show 2 ≤ sizeLine; decide, [.int i tk, u'], .cons ⟨_, rfl⟩ (.cons ru .nil), ⟨_, hT2, rfl, _, rfl⟩⟩
    have I1 : Inv X pins σ (upd H s.heap.objs.size (.tup [.int (i : Nat), x])) { s with heap := h'', toks := tk + 1 } :=
      I.turnedNew (ch := [e, it]) (fun b ob hb q => (sb.2 b (fun z => hb (by simp [z]))).trans (hk b ob (fun z => hb (by simp [z])) (fun z => hb (by simp [z])) q)) hf (Nat.le_refl _) new
    refine ⟨.ref s.heap.objs.size, _, I1, rfl, ⟨_, x, rfl, I.hok.fresh (Nat.le_refl _), rfl, fun ys hy => by rw [I.tuple_inj hy hq]; exact hx⟩, ⟨⟨u', ?_⟩, hit'.1.at fun o q => (sb.2 it (Ne.symm hne)).trans q, hne, hai, hae⟩, fun b hb => ?_⟩
    · have e1 : ((i + 1 : Nat) : Int) = (i : Int) + 1 := by omega
      rw [e1]; exact he'
    · have hb' : b < s.heap.objs.size := by
        have e' : b = e ∨ b = it := by simpa using hb
        rcases e' with z | z
        · rw [z]; exact hel
        · rw [z]; exact hil
      rw [upd_ne (Nat.ne_of_lt hb')]
      exact (hf b hb).1
  done := by
    intro X hP hw hK hc i pins s σ H E I hf st hg
    subst hP hw hK
    obtain ⟨⟨old, he⟩, hit, hne, hai, hae⟩ := st
    obtain ⟨xs, hq, hx⟩ := hg
    obtain ⟨its, rv, p, hz⟩ := I.tuple hq
    obtain ⟨f0, f1, f2, f3, f4, f5⟩ := hf it (by simp)
    have hl := rv.length
    exact enumT_end (I.ok.hd hc) he hit (show s.heap.IsTuple a its.toArray from p) (by simp; omega) fun h' eb => ⟨rfl, I.turned (t' := s.toks) (fun b o hb q => eb b o hb q) f0 f1 f3 f4 f5⟩
  self := fun A i s Q E st h => let ⟨⟨_, he⟩, _⟩ := st; wpAny_pyIter_enum he h
def iEnumA (K : PySem.W.Frag) (ta : TA) : TI := fun σ H R => ta σ H fun vs H1 => ∃ a xs, vs = [.ref a] ∧ ((SqL K H1 a xs ∧ R (Ite K a) H1) ∨ (SqT K H1 a xs ∧ R (IteT K a) H1))
theorem pi_enumA {X : Cx} {e : Expr} {ta : TA} {p pos tpos : Pos} {elts : List Expr} {kk : Nat} (hg : Gl X "enumerate") (hm : X.mg "enumerate" = none) (ha : PA X [e] ta) (hs : starEach [e] X.env = [(false, eval e X.env)] := by rfl) :
    PI X (.Tuple elts kk tpos) (.Call (.Name "enumerate" p) [e] [] pos) (iEnumA X.K ta) := by
  refine ⟨fun pins s σ H R I h => ?_⟩
  refine Call_ (ld_blt I hg hm boot_enumerate (PyProof.Rows.callWith_type1 (thn (ha.run pos pins s σ H _ I h) fun us s1 ⟨vs, H1, I1, r1, q1⟩ => ?_) hs rfl))
  obtain ⟨a, xs, ex, q1⟩ := q1
  subst ex
  cases r1 with
  | cons r rr =>
    cases rr
    cases r
    have fresh : ∀ b ∈ [s1.heap.objs.size + 1, s1.heap.objs.size], FpOk X pins H1 b := fun b hb => by
      have e' : b = s1.heap.objs.size + 1 ∨ b = s1.heap.objs.size := by simpa using hb
      have hle : s1.heap.objs.size ≤ b := by
        rcases e' with z | z
        · rw [z]; exact Nat.le_add_right _ _
        · rw [z]; exact Nat.le_refl _
      exact I1.fpOk hle (I1.hok.fresh hle)
    rcases q1 with ⟨hq, q⟩ | ⟨hq, q⟩
    · obtain ⟨its, rv, p', hz⟩ := I1.list hq
      refine call_enumerate_list p'.isList fun h' he hit hsz hk => wpAny_pyIter_enum he ?_
      have I2 : Inv X pins σ H1 { s1 with heap := h' } := I1.kept (t' := s1.toks) hk
      exact ⟨s1.heap.objs.size + 1, [s1.heap.objs.size + 1, s1.heap.objs.size], _, _, H1, rfl, I2, turn_enum a (s1.heap.objs.size + 1) s1.heap.objs.size, ⟨⟨.none, he⟩, hit, Nat.succ_ne_self _⟩, fresh, q⟩
    · obtain ⟨its, rv, p', hz⟩ := I1.tuple hq
      have hp : s1.heap.IsTuple a its.toArray := p'
      obtain ⟨o1, ho1, _⟩ := id hp
      have hal : a < s1.heap.objs.size := Heap.lt_size ho1
      refine call_enumerate_tuple hp fun h' he hit hsz hk => wpAny_pyIter_enum he ?_
      have I2 : Inv X pins σ H1 { s1 with heap := h' } := I1.kept (t' := s1.toks) hk
      exact ⟨s1.heap.objs.size + 1, [s1.heap.objs.size + 1, s1.heap.objs.size], _, _, H1, rfl, I2, turn_enumT a (s1.heap.objs.size + 1) s1.heap.objs.size, ⟨⟨.none, he⟩, hit, Nat.succ_ne_self _, Nat.ne_of_lt hal, Nat.ne_of_lt (Nat.lt_succ_of_lt hal)⟩, fresh, q⟩
theorem pairs_get : ∀ {xs : List D} {k : Int} {i : Nat} {d : D}, (pairs k xs)[i]? = some d → ∃ x, xs[i]? = some x ∧ d = .tup [.int (k + (i : Int)), x]
  | [], _, _, _, h => by simp [pairs] at h
  | x :: xs, k, i, d, h => by
    unfold pairs at h
    cases i with
    | zero => simp at h; exact ⟨x, rfl, by rw [← h]; simp⟩
    | succ i =>
      simp at h
      obtain ⟨a, h1, h2⟩ := pairs_get h
      refine ⟨a, by simpa using h1, ?_⟩
      rw [h2]
      congr 2
      have : k + 1 + (i : Int) = k + ((i + 1 : Nat) : Int) := by omega
      rw [this]
theorem pairs_len : ∀ (xs : List D) (k : Int), (pairs k xs).length = xs.length
  | [], k => rfl
  | x :: xs, k => by unfold pairs; rw [List.length_cons, List.length_cons, pairs_len xs (k + 1)]
section
variable {X : Cx} {W : WX}
theorem lay_num {K : PySem.W.Frag} {c2 : Cf} {T : Addr} {v : V} {y : D} {k : Int} (sr : SR K c2) (n : c2.H T = none) (h2 : DR K c2.μ c2.H y v) : ∃ c3 : Cf, c3.s = c2.s ∧ c3.σ = c2.σ ∧ c3.H = upd c2.H T (.tup [.int k, v]) ∧ Stp c2 c3 ∧ SR K c3 ∧ DR K c3.μ c3.H (.tup [.int k, y]) (.ref T) :=
  lay_pair sr n (by simp only [DR]) h2
theorem j_enum {elts : List Expr} {kk : Nat} {tpos p pos : Pos} {a : Expr} {ma : S → R SV} (hg : Gl X "enumerate") (hm : X.mg "enumerate" = none) (hs : notStar a = true) (ha : JX X W ma a) :
    JI X W (fun s => (ma s).bind fun x s1 => lif ((seq s1 x).map fun xs => ⟨pairs 0 xs, plcC x xs, plcV x xs s1⟩) s1) (.Tuple elts kk tpos) (.Call (.Name "enumerate" p) [a] [] pos) := by
  intro c RR sr q
  refine WpI.of (pi_enumA hg hm (pa_cons (peW a) pa_nil (star_cons hs)) (star_cons hs)) ?_
  refine ha c _ sr (q.bind.imp fun x c1 st1 sr1 vs1 p1 v rd fv => ?_)
  obtain ⟨im, hm', k⟩ := Post.lif sr1 p1
  obtain ⟨xs, e1, rfl⟩ := Option.map_eq_some_iff.mp hm'
  have lk := plcV_ok e1
  obtain ⟨a1, rfl, s1, s2⟩ := seq_stay sr1 lk (fun p h => h) rd e1
  obtain ⟨n1, n2⟩ := isTup_now sr1 rd e1
  cases ht : isTup x with
  | false =>
    obtain ⟨zs, hz⟩ := n1 ht
    refine ⟨a1, zs, rfl, .inl ⟨hz, k _ lk fun c3 st sr3 ok i => ?_⟩⟩
    obtain ⟨v1, q1, r1⟩ := s1 ht c3 st sr3 ok
    refine ⟨fun d hd => ?_, fun hi => ⟨v1, q1, by rw [r1.length]; rw [pairs_len] at hi; exact hi⟩⟩
    obtain ⟨dx, g1, rfl⟩ := pairs_get hd
    obtain ⟨wx, f1, o1⟩ := r1.get g1
    refine ⟨⟨v1, wx, q1, f1⟩, fun v H' hy => ?_⟩
    obtain ⟨T, ux, rfl, nT, rfl, k1⟩ := hy
    have e3 := k1 v1 q1
    rw [f1] at e3
    cases e3
    rw [Int.zero_add]
    exact lay_num sr3 nT o1
  | true =>
    obtain ⟨zs, hz⟩ := n2 ht
    refine ⟨a1, zs, rfl, .inr ⟨hz, k _ lk fun c3 st sr3 ok i => ?_⟩⟩
    obtain ⟨v1, q1, r1⟩ := s2 ht c3 st sr3
    refine ⟨fun d hd => ?_, fun hi => ⟨v1, q1, by rw [r1.length]; rw [pairs_len] at hi; exact hi⟩⟩
    obtain ⟨dx, g1, rfl⟩ := pairs_get hd
    obtain ⟨wx, f1, o1⟩ := r1.get g1
    refine ⟨⟨v1, wx, q1, f1⟩, fun v H' hy => ?_⟩
    obtain ⟨T, ux, rfl, nT, rfl, k1⟩ := hy
    have e3 := k1 v1 q1
    rw [f1] at e3
    cases e3
    rw [Int.zero_add]
    exact lay_num sr3 nT o1
end
end G

/-! ## GS11 -/
set_option Elab.async false
set_option linter.all false
set_option maxRecDepth 100000
set_option maxHeartbeats 4000000
namespace G
open PySem PySem.Spec PyProof.Rows L2

/-! ### names that are forgotten for a while -/
theorem wipes_len : ∀ (v : List Slot) (l : List Nat), (wipes v l).length = v.length
  | _, [] => rfl
  | v, i :: r => by unfold wipes; rw [List.length_set, wipes_len v r]
theorem wipes_get {v : List Slot} {j : Nat} {x : Slot} : ∀ {l : List Nat}, (wipes v l)[j]? = some x → (j ∈ l ∧ x = .no) ∨ (j ∉ l ∧ v[j]? = some x)
  | [], h => .inr ⟨List.not_mem_nil, h⟩
  | i :: r, h => by
    unfold wipes at h
    rcases set_get h with ⟨rfl, rfl, _⟩ | ⟨ne, h⟩
    · exact .inl ⟨List.mem_cons_self, rfl⟩
    · rcases wipes_get h with ⟨h1, h2⟩ | ⟨h1, h2⟩
      · exact .inl ⟨List.mem_cons_of_mem _ h1, h2⟩
      · exact .inr ⟨fun m => (List.mem_cons.mp m).elim ne h1, h2⟩
theorem wipes_out {v : List Slot} {j : Nat} : ∀ {l : List Nat}, j ∉ l → (wipes v l)[j]? = v[j]?
  | [], _ => rfl
  | i :: r, h => by
    unfold wipes
    rw [List.getElem?_set_ne (fun e => h (by rw [e]; exact List.mem_cons_self))]
    exact wipes_out fun m => h (List.mem_cons_of_mem _ m)
theorem restor_len (v w : List Slot) : ∀ l : List Nat, (restor v w l).length = w.length
  | [] => rfl
  | i :: r => by unfold restor; rw [List.length_set, restor_len v w r]
theorem restor_get {v w : List Slot} {j : Nat} {x : Slot} : ∀ {l : List Nat}, (restor v w l)[j]? = some x → (j ∈ l ∧ x = v.getD j .no) ∨ (j ∉ l ∧ w[j]? = some x)
  | [], h => .inr ⟨List.not_mem_nil, h⟩
  | i :: r, h => by
    unfold restor at h
    rcases set_get h with ⟨rfl, rfl, _⟩ | ⟨ne, h⟩
    · exact .inl ⟨List.mem_cons_self, rfl⟩
    · rcases restor_get h with ⟨h1, h2⟩ | ⟨h1, h2⟩
      · exact .inl ⟨List.mem_cons_of_mem _ h1, h2⟩
      · exact .inr ⟨fun m => (List.mem_cons.mp m).elim ne h1, h2⟩
theorem restor_in {v w : List Slot} {j : Nat} : ∀ {l : List Nat}, j ∈ l → j < w.length → (restor v w l)[j]? = some (v.getD j .no)
  | i :: r, h, hj => by
    unfold restor
    by_cases e : i = j
    · subst e; exact List.getElem?_set_self (by rw [restor_len]; exact hj)
    · rw [List.getElem?_set_ne e]
      exact restor_in ((List.mem_cons.mp h).elim (fun z => absurd z.symm e) id) hj
theorem restor_out {v w : List Slot} {j : Nat} : ∀ {l : List Nat}, j ∉ l → (restor v w l)[j]? = w[j]?
  | [], _ => rfl
  | i :: r, h => by
    unfold restor
    rw [List.getElem?_set_ne (fun e => h (by rw [e]; exact List.mem_cons_self))]
    exact restor_out fun m => h (List.mem_cons_of_mem _ m)
theorem wipe_in {σ : L2.St} {j : Nat} : ∀ {l : List Nat}, j ∈ l → j < σ.length → (wipe σ l)[j]? = some none
  | i :: r, h, hj => by
    unfold wipe
    by_cases e : i = j
    · subst e; exact List.getElem?_set_self (by rw [wipe_length]; exact hj)
    · rw [List.getElem?_set_ne e]
      exact wipe_in ((List.mem_cons.mp h).elim (fun z => absurd z.symm e) id) hj
theorem wipe_ext {σ τ : L2.St} {l : List Nat} (h1 : σ.length = τ.length) (h2 : ∀ i, i ∉ l → σ[i]? = τ[i]?) : wipe σ l = wipe τ l := by
  refine List.ext_getElem? fun i => ?_
  by_cases m : i ∈ l
  · by_cases hi : i < σ.length
    · rw [wipe_in m hi, wipe_in m (by rw [← h1]; exact hi)]
    · rw [List.getElem?_eq_none (by rw [wipe_length]; omega), List.getElem?_eq_none (by rw [wipe_length]; omega)]
  · rw [wipe_out m, wipe_out m, h2 i m]
def Cf.wipe (c : Cf) (l : List Nat) : Cf := { c with s := ⟨wipes c.s.v l, c.s.M⟩, σ := L2.wipe c.σ l }
def Cf.restor (c c6 : Cf) (l : List Nat) : Cf := { c6 with s := ⟨G.restor c.s.v c6.s.v l, c6.s.M⟩, σ := c.σ }
section
variable {K : PySem.W.Frag} {c c6 : Cf} {l : List Nat}
theorem wipe_own {i : Nat} {a : Addr} (h : OwnAt (c.wipe l) i a) : OwnAt c i a ∧ i ∉ l := by
  obtain ⟨⟨xs, h1⟩, h2⟩ := h
  rcases wipes_get h1 with ⟨_, e⟩ | ⟨h3, h4⟩
  · cases e
  · have h2 : (L2.wipe c.σ l)[i]? = _ := h2
    rw [wipe_out h3] at h2
    exact ⟨⟨⟨xs, h4⟩, h2⟩, h3⟩
theorem wipe_foot {b : Addr} (h : Foot (c.wipe l) b) : Foot c b := by
  rcases h with h | ⟨i, h⟩
  · exact .inl h
  · exact .inr ⟨i, (wipe_own h).1⟩
theorem SR.wipe (sr : SR K c) : SR K (c.wipe l) where
  len := by
    show (wipes _ _).length = (L2.wipe _ _).length
    rw [wipes_len, wipe_length]; exact sr.len
  mlen := sr.mlen
  nd := sr.nd
  cell := fun m cl a h1 h2 => by
    have z := sr.cell m cl a h1 h2
    exact z
  slot := fun i x h => by
    rcases wipes_get h with ⟨_, rfl⟩ | ⟨h1, h2⟩
    · trivial
    · have z := sr.slot i x h2
      show SlotR K _ ((L2.wipe c.σ l)[i]?) x
      rw [wipe_out h1]
      cases x with
      | no => trivial
      | val d => exact z
      | own xs => exact z
      | ro xs => exact z
  ownd := fun i j a h1 h2 => sr.ownd i j a (wipe_own h1).1 (wipe_own h2).1
  ownm := fun i a h => sr.ownm i a (wipe_own h).1
  rho := fun b h => by
    obtain ⟨t, nf⟩ := sr.rho b h
    exact ⟨t, fun f => nf (wipe_foot f)⟩
/-- what was wiped at the base may be wiped again -/
theorem Stp.wipe {b : Cf} (st : Stp (b.wipe l) c) (hσ : L2.wipe c.σ l = L2.wipe b.σ l) : Stp (b.wipe l) (c.wipe l) where
  pre := st.pre
  rh := st.rh
  frame := st.frame
  grow := fun q f => st.grow q (wipe_foot f)
  trk := st.trk
  tup := st.tup
  ros := fun i xs h => by
    rcases wipes_get h with ⟨_, e⟩ | ⟨h1, h2⟩
    · cases e
    · obtain ⟨z1, z2⟩ := st.ros i xs h2
      refine ⟨z1, ?_⟩
      show (L2.wipe c.σ l)[i]? = _
      rw [hσ]; rfl
  ron := fun i xs h => by
    have hi : i ∉ l := fun m => by
      rcases wipes_get h with ⟨_, e⟩ | ⟨h1, _⟩
      · cases e
      · exact h1 m
    show (wipes _ _)[i]? = _
    rw [wipes_out hi]
    exact st.ron i xs h
theorem Stp.wstq (st : Stp (c.wipe l) c6) : Stq c c6 := ⟨st.pre, st.rh, fun b o e nf => st.frame b o e fun f => nf (wipe_foot f), st.tup⟩
theorem rest_ok (sr : SR K c) (st : Stp (c.wipe l) c6) (sr6 : SR K c6) (v6 : Vst (c.wipe l) c6) : Stp c (c.restor c6 l) ∧ SR K (c.restor c6 l) ∧ Vst c (c.restor c6 l) ∧ ∀ b, Foot (c.restor c6 l) b → Foot c6 b ∨ Foot c b := by
  have hσ : c6.σ = L2.wipe c.σ l := v6.1
  have hlen : c6.s.v.length = c.s.v.length := by
    rw [sr6.len, hσ, wipe_length, ← sr.len]
  have gd : ∀ (j : Nat) x, x = c.s.v.getD j .no → x ≠ .no → c.s.v[j]? = some x := fun j x e ne => by
    rw [List.getD_eq_getElem?_getD] at e
    cases z : c.s.v[j]? with
    | none => rw [z] at e; exact absurd e ne
    | some y => rw [z] at e; rw [e]; rfl
  have ow : ∀ i a, OwnAt (c.restor c6 l) i a → (i ∈ l ∧ OwnAt c i a) ∨ (i ∉ l ∧ OwnAt c6 i a) := fun i a ⟨⟨xs, h1⟩, h2⟩ => by
    have h2 : c.σ[i]? = _ := h2
    rcases restor_get h1 with ⟨m, e⟩ | ⟨m, h3⟩
    · exact .inl ⟨m, ⟨xs, gd i _ e (by intro z; cases z)⟩, h2⟩
    · refine .inr ⟨m, ⟨xs, h3⟩, ?_⟩
      rw [hσ, wipe_out m]; exact h2
  have nf6 : ∀ i a, i ∈ l → OwnAt c i a → ¬ Foot c6 a := fun i a m h f => by
    have nw : ¬ Foot (c.wipe l) a := fun f => by
      rcases f with f | ⟨j, f⟩
      · exact sr.ownm i a h f
      · obtain ⟨f1, f2⟩ := wipe_own f
        exact f2 (by rw [sr.ownd j i a f1 h]; exact m)
    rcases st.grow a f with f | f
    · exact nw f
    · obtain ⟨vs, e, _⟩ := sr.foot (.inr ⟨i, h⟩)
      have f : c.H a = none := f
      rw [e] at f; cases f
  have ft : ∀ b, Foot (c.restor c6 l) b → Foot c6 b ∨ Foot c b := fun b f => by
    rcases f with f | ⟨i, f⟩
    · exact .inl (.inl f)
    · rcases ow i b f with ⟨_, f⟩ | ⟨_, f⟩
      · exact .inr (.inr ⟨i, f⟩)
      · exact .inl (.inr ⟨i, f⟩)
  have fr : ∀ b o, c.H b = some o → ¬ Foot c b → c6.H b = some o := fun b o e nf => st.frame b o e fun f => nf (wipe_foot f)
  refine ⟨⟨st.pre, st.rh, fr, fun b f => ?_, st.trk, st.tup, fun i xs h => ?_, fun i xs h => ?_⟩, ⟨?_, sr6.mlen, sr6.nd, fun m cl a h1 h3 => ?_, fun i x h => ?_, fun i j a h1 h3 => ?_, fun i a h => ?_, fun b h => ?_⟩, ⟨rfl, fun i ⟨xs, h⟩ => ?_⟩, ft⟩
  · rcases ft b f with f | f
    · exact (st.grow b f).imp wipe_foot id
    · exact .inl f
  · refine ⟨?_, rfl⟩
    rcases restor_get h with ⟨m, e⟩ | ⟨m, h3⟩
    · exact gd i _ e (by intro z; cases z)
    · have z := (st.ros i xs h3).1
      have z : (wipes c.s.v l)[i]? = _ := z
      rw [wipes_out m] at z
      exact z
  · have hi : i < c6.s.v.length := by rw [hlen]; exact (List.getElem?_eq_some_iff.mp h).1
    show (G.restor _ _ _)[i]? = _
    by_cases m : i ∈ l
    · rw [restor_in m hi, List.getD_eq_getElem?_getD, h]; rfl
    · rw [restor_out m]
      refine st.ron i xs ?_
      show (wipes c.s.v l)[i]? = _
      rw [wipes_out m]; exact h
  · show (G.restor _ _ _).length = c.σ.length
    rw [restor_len, hlen]; exact sr.len
  · have z := sr6.cell m cl a h1 h3
    exact z
  · rcases restor_get h with ⟨m, e⟩ | ⟨m, h3⟩
    · by_cases ne : x = .no
      · subst ne; trivial
      · have h0 := gd i x e ne
        refine SlotR.mono (c := c) (c' := c.restor c6 l) st.pre st.tup (fun a vs e1 e2 e3 => ?_) (fun a vs e1 e2 => ⟨?_, ?_⟩) (sr.slot i x h0)
        · obtain ⟨xs, rfl⟩ := e2
          refine st.frame a _ e3 fun f => ?_
          rcases f with f | ⟨j, f⟩
          · exact sr.ownm i a ⟨⟨xs, h0⟩, e1⟩ f
          · obtain ⟨f1, f2⟩ := wipe_own f
            exact f2 (by rw [sr.ownd j i a f1 ⟨⟨xs, h0⟩, e1⟩]; exact m)
        · show c6.ρ a
          rw [st.rh]; exact e1
        · have nf := (sr.rho a e1).2
          rcases e2 with e2 | ⟨u, e2⟩
          · exact .inl (fr a _ e2 nf)
          · exact .inr ⟨u, fr a _ e2 nf⟩
    · have z := sr6.slot i x h3
      show SlotR K _ (c.σ[i]?) x
      rw [hσ, wipe_out m] at z
      cases x with
      | no => trivial
      | val d => exact z
      | own xs => exact z
      | ro xs => exact z
  · rcases ow i a h1 with ⟨m1, h1⟩ | ⟨m1, h1⟩ <;> rcases ow j a h3 with ⟨m3, h3⟩ | ⟨m3, h3⟩
    · exact sr.ownd i j a h1 h3
    · exact absurd (.inr ⟨j, h3⟩) (nf6 i a m1 h1)
    · exact absurd (.inr ⟨i, h1⟩) (nf6 j a m3 h3)
    · exact sr6.ownd i j a h1 h3
  · rcases ow i a h with ⟨m, h⟩ | ⟨_, h⟩
    · exact fun z => nf6 i a m h (.inl z)
    · exact sr6.ownm i a h
  · obtain ⟨t, nf⟩ := sr6.rho b h
    refine ⟨t, fun f => ?_⟩
    rcases ft b f with f | f
    · exact nf f
    · have h : c6.ρ b := h
      rw [st.rh] at h
      exact (sr.rho b h).2 f
  · show ∃ ys, (G.restor _ _ _)[i]? = _
    by_cases m : i ∈ l
    · rw [restor_in m (by rw [hlen]; exact (List.getElem?_eq_some_iff.mp h).1), List.getD_eq_getElem?_getD, h]
      exact ⟨xs, rfl⟩
    · rw [restor_out m]
      refine v6.2 i ⟨xs, ?_⟩
      show (wipes c.s.v l)[i]? = _
      rw [wipes_out m]; exact h
/-- a thing that nobody owns is written -/
theorem SR.wro {D : Addr} {o u : HO} (sr : SR K c) (e : c.H D = some u) (w : Wr u) (nf : ¬ Foot c D) (nr : ¬ c.ρ D) : SR K ({ c with H := upd c.H D o } : Cf) := by
  have tk : TupK c.H (upd c.H D o) := tupK_upd e w
  refine ⟨sr.len, sr.mlen, sr.nd, fun m cl a h1 h2 => ?_, fun i x h => ?_, sr.ownd, sr.ownm, fun b h => ?_⟩
  · have z := sr.cell m cl a h1 h2
    have ne : a ≠ D := by rintro rfl; exact nf (.inl (List.mem_of_getElem? h2))
    exact z.mono (List.prefix_refl _) tk fun o e => by show upd c.H D _ a = _; rw [upd_ne ne]; exact e
  · refine SlotR.mono (c := c) (c' := { c with H := upd c.H D o }) (List.prefix_refl _) tk (fun a ws e1 e2 e3 => ?_) (fun a ws e1 e2 => ⟨e1, ?_⟩) (sr.slot i x h)
    · obtain ⟨xs, rfl⟩ := e2
      have ne : a ≠ D := by rintro rfl; exact nf (.inr ⟨i, ⟨xs, h⟩, e1⟩)
      show upd c.H D _ a = _
      rw [upd_ne ne]; exact e3
    · have ne : a ≠ D := by rintro rfl; exact nr e1
      rcases e2 with e2 | ⟨u, e2⟩
      · exact .inl (by show upd c.H D _ a = _; rw [upd_ne ne]; exact e2)
      · exact .inr ⟨u, by show upd c.H D _ a = _; rw [upd_ne ne]; exact e2⟩
  · obtain ⟨⟨o, e2⟩, n2⟩ := sr.rho b h
    have ne : b ≠ D := by rintro rfl; exact nr h
    exact ⟨⟨o, by show upd c.H D _ b = _; rw [upd_ne ne]; exact e2⟩, n2⟩
/-- a list that nobody owns is written -/
def Cf.wr (c : Cf) (D : Addr) (vs : List V) : Cf := { c with H := upd c.H D (.lst vs) }
theorem SR.wr {D : Addr} {vs us : List V} (sr : SR K c) (e : c.H D = some (.lst us)) (nf : ¬ Foot c D) (nr : ¬ c.ρ D) : SR K (c.wr D vs) := by
  have tk : TupK c.H (upd c.H D (.lst vs)) := tupK_upd e trivial
  refine ⟨sr.len, sr.mlen, sr.nd, fun m cl a h1 h2 => ?_, fun i x h => ?_, sr.ownd, sr.ownm, fun b h => ?_⟩
  · have z := sr.cell m cl a h1 h2
    have ne : a ≠ D := by rintro rfl; exact nf (.inl (List.mem_of_getElem? h2))
    exact z.mono (List.prefix_refl _) tk fun o e => by show upd c.H D _ a = _; rw [upd_ne ne]; exact e
  · refine SlotR.mono (c := c) (c' := c.wr D vs) (List.prefix_refl _) tk (fun a ws e1 e2 e3 => ?_) (fun a ws e1 e2 => ⟨e1, ?_⟩) (sr.slot i x h)
    · obtain ⟨xs, rfl⟩ := e2
      have ne : a ≠ D := by rintro rfl; exact nf (.inr ⟨i, ⟨xs, h⟩, e1⟩)
      show upd c.H D _ a = _
      rw [upd_ne ne]; exact e3
    · have ne : a ≠ D := by rintro rfl; exact nr e1
      rcases e2 with e2 | ⟨u, e2⟩
      · exact .inl (by show upd c.H D _ a = _; rw [upd_ne ne]; exact e2)
      · exact .inr ⟨u, by show upd c.H D _ a = _; rw [upd_ne ne]; exact e2⟩
  · obtain ⟨⟨o, e2⟩, n2⟩ := sr.rho b h
    have ne : b ≠ D := by rintro rfl; exact nr h
    exact ⟨⟨o, by show upd c.H D _ b = _; rw [upd_ne ne]; exact e2⟩, n2⟩
theorem Stp.wr {b : Cf} {D : Addr} {vs us : List V} (st : Stp b c) (e : c.H D = some (.lst us)) (n : b.H D = none) : Stp b (c.wr D vs) where
  pre := st.pre
  rh := st.rh
  frame := fun q o h nf => by
    have ne : q ≠ D := ne_of_none h n
    show upd c.H D _ q = _
    rw [upd_ne ne]; exact st.frame q o h nf
  grow := st.grow
  trk := fun q o h => by
    have ne : q ≠ D := ne_of_none h n
    obtain ⟨o', h'⟩ := st.trk q o h
    exact ⟨o', by show upd c.H D _ q = _; rw [upd_ne ne]; exact h'⟩
  tup := fun q ws h => tupK_upd e trivial q ws (st.tup q ws h)
  ros := st.ros
  ron := st.ron
end
end G

/-! ## GS12 -/
set_option Elab.async false
set_option linter.all false
set_option maxRecDepth 100000
set_option maxHeartbeats 4000000
namespace G
open PySem PySem.Spec PyProof.Rows L2

def WF0 : WX := fun _ _ _ _ => False
def WpF (X : Cx) (ifs : List Expr) : TT := fun σ H Q => ∀ pins s, Inv X pins σ H s →
  wpAny (model X.prog X.w) X.A (forIn ifs true fun c r => if r = true then do let ok ← isTrue c X.env (eval c X.env); pure (ForInStep.yield ok) else pure (ForInStep.yield r)) (TP X pins σ Q) X.xe s
theorem pfW (X : Cx) (ifs : List Expr) : PTs X ifs (WpF X ifs) := ⟨fun pins s σ H Q I h => h pins s I⟩
def JF (X : Cx) (W : WX) (m : S → R Bool) (ifs : List Expr) : Prop := ∀ c Q, SR X.K c → Post X.K c (m c.s) (fun b c' => Q b c'.H) (QX X W) → WpF X ifs c.σ c.H Q
section
variable {X : Cx} {W : WX}
theorem j_fnil : JF X W (fun s => .ok true s) [] := fun c Q sr p pins s I => (pts_nil (X := X)).run pins s c.σ c.H Q I (p.ok sr)
theorem j_fone {t : Expr} {m : S → R Bool} (h : JT X W m t) : JF X W (fun s => (m s).bind fun b s1 => if b = true then .ok true s1 else .ok b s1) [t] := fun c Q sr p pins s I => by
  refine (pts_one (ptW t)).run pins s c.σ c.H Q I (h c Q sr (p.bind.imp fun b c1 st1 sr1 vs1 p1 => ?_))
  cases b with
  | true => exact p1.ok sr1
  | false => exact p1.ok sr1
end
theorem R.bind_ok {α β : Type} {r : R α} {f : α → S → R β} {b : β} {s : S} (h : r.bind f = .ok b s) : ∃ a s1, r = .ok a s1 ∧ f a s1 = .ok b s := by
  cases r with
  | ok a s1 => exact ⟨a, s1, rfl, h⟩
  | exc x s1 => cases h
  | bad => cases h
theorem post_ok {α : Type} {K : PySem.W.Frag} {c : Cf} {a : α} {s : S} {Qn : α → Cf → Prop} {Qx : Xc → Cf → Prop} {r : R α} (e : r = .ok a s) (h : ∀ c', c'.s = s → Stp c c' → SR K c' → Vst c c' → Qn a c') : Post K c r Qn Qx := by
  subst e; exact h
theorem postS_ok {α : Type} {K : PySem.W.Frag} {c : Cf} {a : α} {s : S} {Qn : α → Cf → Prop} {Qx : Xc → Cf → Prop} {r : R α} (e : r = .ok a s) (h : ∀ c', c'.s = s → Stp c c' → SR K c' → Qn a c') : PostS K c r Qn Qx := by
  subst e; exact h
/-- the invariant ahead of a turn -/
structure TI' (K : PySem.W.Frag) (m : Itm) (own : List Nat) (turn : D → S → R (Option D)) (cL : Cf) (DD : Addr) (ys : List D) (s6 : S) (i mm : Nat) (H : Hp) : Prop where
  ex : ∃ (ci : Cf) (dn rest : List D) (acc : List V), ci.H = H ∧ Stp (cL.wipe own) ci ∧ SR K ci ∧ Vst (cL.wipe own) ci ∧ ci.H DD = some (.lst acc) ∧ ¬ Foot ci DD ∧ ¬ ci.ρ DD ∧ DRs K ci.μ ci.H dn acc ∧
    compL m.ok (fun x s => (turn x s).bind fun o s' => .ok o (wiped own s')) (m.xs.drop i) ci.s = .ok rest s6 ∧ dn ++ rest = ys
  le : i ≤ m.xs.length
  me : mm = m.xs.length - i
section
variable {X : Cx} {W : WX} {k : Cc} {g : GI} {n : Nat}
theorem wiped_step {K : PySem.W.Frag} {own l : List Nat} {cL ci c3 c4 c7 : Cf} (hl : ∀ i ∈ l, i ∈ own) (vi : Vst (cL.wipe own) ci) (e3 : c3.σ = ci.σ) (e3s : c3.s = ci.s) (ch : Chg l c3 c4) (v7 : Vst c4 c7) : L2.wipe c7.σ own = L2.wipe cL.σ own ∧ Vst (cL.wipe own) (c7.wipe own) := by
  have h0 : ci.σ = L2.wipe cL.σ own := vi.1
  have hh : L2.wipe c7.σ own = L2.wipe cL.σ own := by
    rw [v7.1]
    refine wipe_ext ?_ fun i n => ?_
    · rw [ch.2.1, e3, h0, wipe_length]
    · rw [ch.1 i fun m => n (hl i m), e3, h0, wipe_out n]
  refine ⟨hh, hh, fun i ⟨xs, h⟩ => ?_⟩
  have n : i ∉ own := fun m => by
    rcases wipes_get h with ⟨_, e⟩ | ⟨q, _⟩
    · cases e
    · exact q m
  have z := vi.2 i ⟨xs, h⟩
  rw [← e3s] at z
  obtain ⟨ys, z⟩ := v7.2 i (ch.2.2 i (fun m => n (hl i m)) z)
  exact ⟨ys, by show (wipes _ _)[i]? = _; rw [wipes_out n]; exact z⟩
theorem j_comp {elt tg iter : Expr} {ifs : List Expr} {scope : Scope} {ow : List (Str × Nat)} {own l : List Nat} {pos : Pos} {mi : S → R Itm} {mg : D → S → R Unit} {mf : S → R Bool} {me : S → R SV} (hc : X.calm = true) (hN : X.N.Nodup)
    (hi : JI X W mi tg iter) (ok : BlkOk X.N X.env.scope scope ow) (hown : ow.map (·.2) = own) (hl : ∀ i ∈ l, i ∈ own)
    (hg : ∀ (s : Shared) (H : Hp) (C : Addr) (cl : List (Str × Addr)) (fp : List Addr), JG (X.blk s H scope (compEnvC scope cl C X.env) fp) WF0 mg l tg)
    (hf : ∀ (s : Shared) (H : Hp) (C : Addr) (cl : List (Str × Addr)) (fp : List Addr), JF (X.blk s H scope (compEnvC scope cl C X.env) fp) WF0 mf ifs)
    (he : ∀ (s : Shared) (H : Hp) (C : Addr) (cl : List (Str × Addr)) (fp : List Addr), JX (X.blk s H scope (compEnvC scope cl C X.env) fp) WF0 me elt)
    (hs : ∀ x, foldedSetIterable iter X.env x = pure x) :
    ∃ t : TE, PE X (.ListComp elt [⟨tg, iter, ifs, 0⟩] scope pos) t ∧ (∀ c Q, SR X.K c → Post X.K c ((mi c.s).bind fun m s1 => compD m own (turnC mg mf me) s1) (fun x c' => ∀ v, SVR X.K c' x v → Fresh c.H x v → Q v c'.H) (QX X W) → t c.σ c.H Q) ∧
      ∀ (i : Nat) (y : Str) (py spos : Pos), X.N[i]? = some y → X.env.scope.names.lookup y = some .local → swapsWith (.ListComp elt [⟨tg, iter, ifs, 0⟩] scope pos) (some (.Name y py)) spos.line X.env = pure true →
        PS X (.Assign [.Name y py] (.ListComp elt [⟨tg, iter, ifs, 0⟩] scope pos) spos) (tAsg t (gName i)) := by
  have pg : ∀ (s : Shared) (H : Hp) (C : Addr) (cl : List (Str × Addr)) (fp : List Addr), PG (X.blk s H scope (compEnvC scope cl C X.env) fp) tg (fun v σ H Q => ∀ s' H' C' cl' fp', WpG (X.blk s' H' scope (compEnvC scope cl' C' X.env) fp') tg v σ H Q) := fun s H C cl fp =>
    ⟨fun pins s' σ H' v u Q I r h => h s H C cl fp pins s' u I r⟩
  have pf : ∀ (s : Shared) (H : Hp) (C : Addr) (cl : List (Str × Addr)) (fp : List Addr), PTs (X.blk s H scope (compEnvC scope cl C X.env) fp) ifs (fun σ H Q => ∀ s' H' C' cl' fp', WpF (X.blk s' H' scope (compEnvC scope cl' C' X.env) fp') ifs σ H Q) := fun s H C cl fp =>
    ⟨fun pins s' σ H' Q I h => h s H C cl fp pins s' I⟩
  have pe : ∀ (s : Shared) (H : Hp) (C : Addr) (cl : List (Str × Addr)) (fp : List Addr), PE (X.blk s H scope (compEnvC scope cl C X.env) fp) elt (fun σ H Q => ∀ s' H' C' cl' fp', WpE (X.blk s' H' scope (compEnvC scope cl' C' X.env) fp') elt σ H Q) := fun s H C cl fp =>
    ⟨fun pins s' σ H' Q I h => h s H C cl fp pins s' I⟩
  refine ⟨_, pe_lc hc hN (piW tg iter) ok pg pf pe hs, fun c Q sr p => ?_, fun i y py spos h1 h2 h3 => ps_setLc hc hN h1 h2 h3 (piW tg iter) ok pg pf pe hs⟩
  show WpI X tg iter c.σ c.H _
  refine hi c _ sr (p.bind.imp fun m c1 st1 sr1 vs1 p1 J lk it DD hD => ?_)
  rw [hown]
  -- the run of the loop
  unfold compD at p1
  have s0 : (wiped own ⟨lock c1.s.v m.lks, c1.s.M⟩) = ((c1.lock m.lks).wipe own).s := rfl
  rw [s0] at p1
  cases hcl : compL m.ok (fun x s => (turnC mg mf me x s).bind fun o s' => .ok o (wiped own s')) m.xs ((c1.lock m.lks).wipe own).s with
  | bad => rw [hcl] at p1; exact p1.elim
  | exc x s => rw [hcl] at p1; exact p1.elim
  | ok ys s6 =>
  rw [hcl] at p1
  by_cases hfit : fits ys.length = true
  case neg =>
    have p1 : Post X.K c1 (noX (if fits ys.length then R.ok (SV.new ys) ⟨unlock (restor (lock c1.s.v m.lks) s6.v own) m.lks, s6.M⟩ else .bad)) _ _ := p1
    rw [if_neg hfit] at p1
    exact p1.elim
  have p1 : Post X.K c1 (noX (if fits ys.length then R.ok (SV.new ys) ⟨unlock (restor (lock c1.s.v m.lks) s6.v own) m.lks, s6.M⟩ else .bad)) _ _ := p1
  rw [if_pos hfit] at p1
  have p1 : Post X.K c1 (R.ok (SV.new ys) ⟨unlock (restor (lock c1.s.v m.lks) s6.v own) m.lks, s6.M⟩) _ _ := p1
  have srL := sr1.lock lk
  have srW : SR X.K ((c1.lock m.lks).wipe own) := srL.wipe
  have hDW : ((c1.lock m.lks).wipe own).H DD = none := hD
  refine ⟨TI' X.K m own (turnC mg mf me) (c1.lock m.lks) DD ys s6, ⟨_, ⟨((c1.lock m.lks).wipe own).lay DD (.lst []), [], ys, [], rfl, Stp.laid hDW, srW.laid hDW, Vst.refl _, upd_same, (srW.fresh hDW).1, (srW.fresh hDW).2, .nil, by rw [List.drop_zero]; exact hcl, rfl⟩, Nat.zero_le _, rfl⟩, ?_⟩
  rintro i mm H ⟨⟨ci, dn, rest, acc, rfl, st, sri, vi, hA, nf, nr, dr, hrun, hys⟩, hle, hmm⟩
  have stq : Stq (c1.lock m.lks) ci := st.wstq
  by_cases hend : i = m.xs.length
  · -- the end
    left
    have e0 : m.xs.drop i = [] := by rw [hend, List.drop_length]
    rw [e0] at hrun
    unfold compL at hrun
    by_cases hok : m.ok ci.s = true
    case neg => rw [if_neg hok] at hrun; cases hrun
    rw [if_pos hok] at hrun
    cases hrun
    refine ⟨(it ci stq sri hok i).2 (by omega), ?_⟩
    rw [List.append_nil] at hys
    subst hys
    obtain ⟨r1, r2, r3, r4⟩ := rest_ok srL st sri vi
    obtain ⟨u1, u2, u3⟩ := unlock_ok sr1 lk r1 r2
    refine p1 (c1.unlock ((c1.lock m.lks).restor ci own) m.lks) rfl u1 u2 (u3 r3) (.ref DD) ⟨DD, acc, rfl, hA, dr, fun f => ?_, fun r => ?_⟩ fun a e => ?_
    · -- whose list is it?
      have nt : ¬ Foot c1 DD := fun f => by
        obtain ⟨vs, e, _⟩ := sr1.foot f
        rw [hD] at e; cases e
      have n2 : ¬ Foot ((c1.lock m.lks).restor ci own) DD := fun f => (r4 DD f).elim nf fun f => nt (lock_foot f)
      rcases f with f | ⟨j, ⟨xs, f1⟩, f2⟩
      · exact n2 (.inl f)
      · rcases unlock_get f1 with ⟨q, hq, rfl, _⟩ | ⟨_, f3⟩
        · exact nt (.inr ⟨q.1, ⟨_, lk q hq⟩, f2⟩)
        · exact n2 (.inr ⟨j, ⟨xs, f3⟩, f2⟩)
    · obtain ⟨⟨o, e⟩, _⟩ := sr1.rho DD r
      rw [hD] at e; cases e
    · cases e
      exact st1.untrk hD
  · -- a turn
    right
    have hlt : i < m.xs.length := by omega
    have e0 : m.xs.drop i = m.xs[i] :: m.xs.drop (i + 1) := List.drop_eq_getElem_cons hlt
    have ex : m.xs[i]? = some m.xs[i] := List.getElem?_eq_getElem hlt
    rw [e0] at hrun
    unfold compL at hrun
    by_cases hok : m.ok ci.s = true
    case neg => rw [if_neg hok] at hrun; cases hrun
    rw [if_pos hok] at hrun
    obtain ⟨o, sA, hA1, hrun⟩ := R.bind_ok hrun
    obtain ⟨rest', sB, hB1, hrun⟩ := R.bind_ok hrun
    cases hrun
    obtain ⟨o', sC, hC1, hrun⟩ := R.bind_ok hA1
    cases hrun
    obtain ⟨hgo, hy⟩ := (it ci stq sri hok i).1 _ ex
    have nxt : ∀ (c3 c4 c7 : Cf) (vv : List V) (H' : Hp), c3.σ = ci.σ → c3.s = ci.s → Stp ci c3 → Chg l c3 c4 → Stp c3 c4 → Stp c4 c7 → Vst c4 c7 → SR X.K c7 → c7.s = sC → DRs X.K c7.μ c7.H o.toList vv → H' = upd c7.H DD (.lst (acc ++ vv)) →
        ∃ m', m' < mm ∧ TI' X.K m own (turnC mg mf me) (c1.lock m.lks) DD ys s6 (i + 1) m' H' := fun c3 c4 c7 vv H' e1 e2 q1 ch q2 q3 q4 sr7 e7 rv eH => by
      subst eH e7
      obtain ⟨w1, w2⟩ := wiped_step (K := X.K) hl vi e1 e2 ch q4
      have s7 : Stp ci c7 := (q1.trans q2).trans q3
      obtain ⟨a1, a2, a3⟩ := s7.new hA nf nr
      have sw : Stp ((c1.lock m.lks).wipe own) c7 := st.trans s7
      have sw2 := sw.wipe w1
      refine ⟨mm - 1, by omega, ⟨(c7.wipe own).wr DD (acc ++ vv), dn ++ o.toList, rest', acc ++ vv, rfl, sw2.wr a1 hDW, sr7.wipe.wr a1 (fun f => a2 (wipe_foot f)) a3, w2, upd_same, fun f => a2 (wipe_foot f), a3, ?_, hB1, by rw [List.append_assoc]; exact hys⟩, by omega, by omega⟩
      exact DRs.mono (List.prefix_refl _) (tupK_upd a1 trivial) _ _ ((s7.drs dr).append rv)
    refine ⟨hgo, fun H' => ∃ m', m' < mm ∧ TI' X.K m own (turnC mg mf me) (c1.lock m.lks) DD ys s6 (i + 1) m' H', fun H' h => h, fun v H' hyl s' H0 C' cl' fp' => ?_⟩
    obtain ⟨c3, e1, e2, e3, st3, sr3, dr3⟩ := hy v H' hyl
    subst e3
    have hσ : L2.wipe c.σ own = c3.σ := by rw [e2, vi.1, ← vs1.1]; rfl
    rw [hσ]
    obtain ⟨_, sa, hg1, hrun⟩ := R.bind_ok hC1
    obtain ⟨kk, sb, hf1, hrun⟩ := R.bind_ok hrun
    rw [← e1] at hg1
    refine hg s' H0 C' cl' fp' c3 m.xs[i] v _ sr3 dr3 (postS_ok hg1 fun c4 e4 st4 sr4 ch4 => ?_)
    refine ⟨?_, fun s' H0 C' cl' fp' => ?_⟩
    · obtain ⟨w1, _⟩ := wiped_step (K := X.K) hl vi e2 e1 ch4 (Vst.refl c4)
      rw [w1, ← hσ, vs1.1.symm]
      rfl
    · subst e4
      refine hf s' H0 C' cl' fp' c4 _ sr4 (post_ok hf1 fun c5 e5 st5 sr5 vs5 => ?_)
      subst e5
      cases kk with
      | false =>
        rw [if_neg Bool.false_ne_true] at hrun ⊢
        cases hrun
        refine nxt c3 c4 c5 [] c5.H e2 e1 st3 ch4 st4 st5 vs5 sr5 rfl .nil ?_
        have s7 : Stp ci c5 := (st3.trans st4).trans st5
        obtain ⟨a1, _⟩ := s7.new hA nf nr
        rw [List.append_nil]
        funext q
        by_cases hq : q = DD
        · subst hq; rw [upd_same]; exact a1
        · rw [upd_ne hq]
      | true =>
        rw [if_pos rfl] at hrun ⊢
        intro s' H0 C' cl' fp'
        obtain ⟨d, sd, hv1, hrun⟩ := R.bind_ok hrun
        cases hrun
        obtain ⟨sv, sc, he1, hv1⟩ := R.bind_ok hv1
        rw [← vs5.1]
        refine he s' H0 C' cl' fp' c5 _ sr5 (post_ok he1 fun c6 e6 st6 sr6 vs6 w rw' fw => ?_)
        subst e6
        obtain ⟨c7, d', eH, t1, t2, t3, t4, t5⟩ := toVal_ok (f := fun d s => R.ok d s) (Qn := fun d' c' => d' = d ∧ c'.s = sC) (Qx := fun _ _ => True) st6 vs6 sr6 rw' fw (by rw [hv1]; exact fun c' e _ _ _ => ⟨rfl, e⟩)
        obtain ⟨rfl, e7⟩ := t5.ok t2
        have s7 : Stp ci c7 := ((st3.trans st4).trans st5).trans t1
        obtain ⟨a1, _⟩ := s7.new hA nf nr
        rw [← eH]
        refine ⟨acc, a1, ?_, nxt c3 c4 c7 [w] _ e2 e1 st3 ch4 st4 (st5.trans t1) (vs5.trans t3) t2 e7 (.one t4) rfl⟩
        rw [dr.length]
        have := fits_of hfit
        rw [← hys] at this
        simp only [List.length_append, Option.toList, List.length_cons, List.length_nil] at this
        omega
end
end G

/-! ## GS13 -/
set_option Elab.async false
set_option linter.all false
set_option maxRecDepth 100000
set_option maxHeartbeats 4000000
namespace G
open PySem PySem.Spec PyProof.Rows L2

section
variable {X : Cx} {W : WX} {k : Cc} {g : GI} {n : Nat}
theorem PostS.lif {α : Type} {K : PySem.W.Frag} {c : Cf} {o : Option α} {Qn : α → Cf → Prop} {Qx : Xc → Cf → Prop} (sr : SR K c) (h : PostS K c (G.lif o c.s) Qn Qx) : ∃ a, o = some a ∧ Qn a c := by
  cases o with
  | none => exact h.elim
  | some a => exact ⟨a, rfl, h c rfl (Stp.refl c) sr⟩
theorem PSet.or {r r' : TSet} (h : PSet X r) (h' : PSet X r') : PSet X fun o i v H Q => r o i v H Q ∨ r' o i v H Q := by
  intro pins s σ H o i v ov iv u Q I ro ri rv q
  rcases q with q | q
  · exact h pins s σ H o i v ov iv u Q I ro ri rv q
  · exact h' pins s σ H o i v ov iv u Q I ro ri rv q
theorem j_gsub {o i : Expr} {pos : Pos} {mo mi : S → R SV} (hu : X.A.units + 65 < cLine) (hs : notSlice i = true) (ho : JX X W mo o) (hi : JX X W mi i) :
    JG X W (fun d s => (mo s).bind fun x s1 => (mi s1).bind fun y s2 => (lif (setD x y d s2) s2).bind fun s' _ => .ok () s') [] (.Subscript o i pos) := by
  intro c d v Q sr r p
  refine WpG.of (pg_sub (peW o) (peW i) (PSet.or set_list (set_dict (by omega))) (by intro v; cases i <;> first | rfl | cases hs)) ?_
  refine ho c _ sr (p.bindE.imp fun x c1 st1 sr1 vs1 p1 ov rv fv => ?_)
  rw [← vs1.1]
  refine hi c1 _ sr1 (p1.bindE.imp fun y c2 st2 sr2 vs2 p2 iv ri fi => ?_)
  have p2 : PostS X.K c2 ((lif (setD x y d c2.s) c2.s).bind fun s' _ => .ok () s') _ _ := p2
  cases hz : setD x y d c2.s with
  | none => rw [hz] at p2; exact p2.elim
  | some s' =>
    rw [hz] at p2
    have p3 : ∀ c', c'.s = s' → Stp c2 c' → SR X.K c' → Chg [] c c' → Q c'.σ c'.H := p2
    unfold setD at hz
    split at hz
    · obtain ⟨xs, e1, hz⟩ := Option.bind_eq_some_iff.mp hz
      obtain ⟨j, e2, hz⟩ := Option.bind_eq_some_iff.mp hz
      simp only [SVR, DR] at ri
      subst ri
      have rx := rv.step st2 vs2
      obtain ⟨a, vs, rfl, q, rr⟩ := lis_ok sr2 rx e1
      obtain ⟨a', ws', ea, q', r', st, sr', vst⟩ := put_ok sr2 rx e1 hz (rr.set j ((st1.trans st2).dr r))
      cases ea
      rw [q] at q'
      cases q'
      refine .inl ⟨a, vs, _, j, rfl, rfl, q, by rw [rr.length]; exact e2, ?_⟩
      have z := p3 { c2 with s := s', H := upd c2.H a (.lst (vs.set j v)) } rfl st sr' (Chg.of ((vs1.trans vs2).trans vst))
      have z : Q c2.σ (upd c2.H a (.lst (vs.set j v))) := z
      rw [(vs1.trans vs2).1] at z
      rw [vs1.1]
      exact z
    · rename_i kk
      split at hz
      · rename_i nn
        obtain ⟨kvs, e1, hz⟩ := Option.bind_eq_some_iff.mp hz
        split at hz
        case isFalse => cases hz
        rename_i hl
        cases hz
        simp only [SVR, DR] at ri
        subst ri
        have rx := rv.step st2 vs2
        obtain ⟨m, a, ps, em, e3, rfl, q1, q2, q3⟩ := dct_at sr2 rx e1
        cases em
        obtain ⟨st, sr', vst⟩ := putc_ok (o' := .dK (putK ps (Sum.inr kk) v)) (cl := .dct (putS kvs kk d)) sr2 e3 q1 trivial fun tk => ⟨_, upd_same, PRs.mono (List.prefix_refl _) tk _ _ (PRs.put ((st1.trans st2).dr r) q3 q2), (putS_keys q3).1⟩
        refine .inr ⟨a, upd c2.H a (.dK (putK ps (Sum.inr kk) v)), rfl, DPut.k (k := Sum.inr kk) q1 (by rw [q2.length]; exact lt_of_blt hl), ?_⟩
        have z := p3 _ rfl st sr' (Chg.of ((vs1.trans vs2).trans vst))
        have z : Q c2.σ (upd c2.H a (.dK (putK ps (Sum.inr kk) v))) := z
        rw [(vs1.trans vs2).1] at z
        rw [vs1.1]
        exact z
      · cases hz
    · cases hz
/-! ### dicts written out -/
def JPs (X : Cx) (W : WX) (m : S → R (List D)) (ks : List Str) (pos : Pos) (keys : List (Option Expr)) (values : List Expr) : Prop := ∃ trs, PPs X pos keys values trs ∧
  ∀ c (Q : List (V × V) → Hp → Prop), SR X.K c → Post X.K c (m c.s) (fun ds c' => ∀ vs, DRs X.K c'.μ c'.H ds vs → Q ((ks.map V.str).zip vs) c'.H) (QX X W) → tPairs trs c.σ c.H Q
theorem j_ps_nil {pos : Pos} : JPs X W (fun s => .ok [] s) [] pos [] [] := ⟨[], pps_nil, fun c Q sr p => p.ok sr [] (by simp only [DRs])⟩
theorem j_ps_cons {pos p2 : Pos} {x : Str} {j : Nat} {e : Expr} {ks : List Str} {keys : List (Option Expr)} {values : List Expr} {m : S → R SV} {ms : S → R (List D)} (h : JX X W m e) (t : JPs X W ms ks pos keys values) :
    JPs X W (fun s => ((m s).bind toVal).bind fun d s1 => (ms s1).bind fun ds s2 => .ok (d :: ds) s2) (x :: ks) pos (some (.Constant (.str x) j p2) :: keys) (e :: values) := by
  obtain ⟨trs, hp, ht⟩ := t
  refine ⟨(tC (.str x), WpE X e) :: trs, pps_cons pe_str (peW e) hp, fun c Q sr p => ?_⟩
  show WpE X e c.σ c.H _
  refine h.val sr p fun c1 d v st1 sr1 vs1 rd p1 => ?_
  rw [← vs1.1]
  refine ht c1 _ sr1 (p1.bind.imp fun ds c2 st2 sr2 vs2 p2 us r => ?_)
  exact p2.ok sr2 (v :: us) (.cons (st2.dr rd) r)
theorem merge_zip : ∀ {ks : List Str} {vs : List V} {acc : List (Key × V)}, ks.Nodup → (∀ k ∈ ks, (Sum.inr k : Key) ∉ acc.map (·.1)) → mergeK acc ((ks.map Sum.inr).zip vs) = acc ++ (ks.map Sum.inr).zip vs
  | [], _, acc, _, _ => by simp [mergeK]
  | k :: ks, [], acc, _, _ => by simp [mergeK]
  | k :: ks, v :: vs, acc, nd, h => by
    rw [List.nodup_cons] at nd
    have h1 : putK acc (Sum.inr k) v = acc ++ [(Sum.inr k, v)] := by
      unfold putK
      rw [if_neg]
      intro e
      obtain ⟨y, hy, e⟩ := List.any_eq_true.mp e
      exact h k List.mem_cons_self (List.mem_map.mpr ⟨y, hy, of_decide_eq_true e⟩)
    show mergeK (putK acc (Sum.inr k) v) ((ks.map Sum.inr).zip vs) = _
    rw [h1, merge_zip nd.2, List.append_assoc]
    · rfl
    · intro k' hk' hm
      rw [List.map_append, List.mem_append] at hm
      rcases hm with hm | hm
      · exact h k' (List.mem_cons_of_mem _ hk') hm
      · have : k' = k := by simpa using hm
        subst this
        exact nd.1 hk'
theorem zip_kV : ∀ {ks : List Str} {vs : List V}, (ks.map V.str).zip vs = (((ks.map Sum.inr).zip vs : List (Key × V))).map fun kv => (kV kv.1, kv.2)
  | [], _ => rfl
  | _ :: _, [] => rfl
  | k :: ks, v :: vs => by
    rw [List.map_cons, List.zip_cons_cons, zip_kV (ks := ks) (vs := vs), List.map_cons, List.zip_cons_cons, List.map_cons]; rfl
theorem j_dct {ks : List Str} (h15 : ks.length ≤ 15 ∧ ks.Nodup) {pos : Pos} {key : Option Expr} {keys : List (Option Expr)} {values : List Expr} {m : S → R (List D)} (hall : (key :: keys).all (·.isSome) = true) (hl : (key :: keys).length = values.length) (hk : ks.length = (key :: keys).length) (h : JPs X W m ks pos (key :: keys) values) :
    JX X W (fun s => (m s).bind fun ds s1 => if ds.length = ks.length then .ok (.val (.loc s1.M.length)) ⟨s1.v, s1.M ++ [.dct (ks.zip ds)]⟩ else .bad) (.Dict (key :: keys) values pos) := by
  intro c Q sr p
  obtain ⟨trs, hp, ht⟩ := h
  refine WpE.of (pe_disp hp hall hl (by simp) (by rw [← hk]; exact h15.1)) ?_
  intro pp n
  refine ht (c.lay pp (.dK [])) _ (sr.laid n) ((p.bindB (Stp.laid n) (Vst.refl _)).imp fun ds c1 st1 sr1 vs1 p1 vs r => ?_)
  split at p1
  case isFalse => exact p1.elim
  rename_i hc
  obtain ⟨g1, g2⟩ := sr.fresh n
  have e0 : c1.H pp = some (.dK []) := st1.frame pp _ upd_same g1
  have nf : ¬ Foot c1 pp := fun f => by
    rcases st1.grow pp f with f | f
    · exact g1 f
    · have f : upd c.H pp (.dK []) pp = none := f
      rw [upd_same] at f; cases f
  have nr : ¬ c1.ρ pp := by rw [st1.rh]; exact g2
  refine ⟨e0, (ks.map Sum.inr).zip vs, zip_kV, ?_, ?_⟩
  · rw [List.length_zip, List.length_map]; omega
  rw [merge_zip h15.2 (fun _ _ => List.not_mem_nil), List.nil_append]
  have sr2 := sr1.wro (o := .dK ((ks.map Sum.inr).zip vs)) e0 trivial nf nr
  have tk := tupK_upd (o := .dK ((ks.map Sum.inr).zip vs)) e0 trivial
  have st2 : Stp c ({ c1 with H := upd c1.H pp (.dK ((ks.map Sum.inr).zip vs)) } : Cf) := by
    refine ⟨st1.pre, st1.rh, fun b o e nfb => ?_, fun b f => ?_, fun b o e => ?_, fun b ws e => tk b ws (st1.tup b ws (tupK_lay n b ws e)), st1.ros, st1.ron⟩
    · have ne : b ≠ pp := ne_of_none e n
      show upd c1.H pp _ b = _
      rw [upd_ne ne]
      exact st1.frame b o (by show upd c.H pp _ b = _; rw [upd_ne ne]; exact e) nfb
    · refine (st1.grow b f).imp id fun z => ?_
      have z : upd c.H pp (.dK []) b = none := z
      by_cases ne : b = pp
      · subst ne; exact n
      · rw [upd_ne ne] at z; exact z
    · have ne : b ≠ pp := ne_of_none e n
      obtain ⟨o', h'⟩ := st1.trk b o (by show upd c.H pp _ b = _; rw [upd_ne ne]; exact e)
      exact ⟨o', by show upd c1.H pp _ b = _; rw [upd_ne ne]; exact h'⟩
  have nd : ((ks.zip ds).map (·.1)).Nodup := by
    have : (ks.zip ds).map (·.1) = ks := by rw [List.map_fst_zip]; omega
    rw [this]; exact h15.2
  obtain ⟨s1, s2, s3, s4⟩ := cell_new (c₀ := c) (a := pp) (cl := .dct (ks.zip ds)) st2 vs1 sr2 ⟨_, upd_same, PRs.mono (List.prefix_refl _) tk _ _ (PRs.zip r), nd⟩ nf nr n
  exact p1 _ rfl s1 s2 s3 (.ref pp) s4 trivial
theorem j_dct0 {pos : Pos} : JX X W (fun s => (R.ok [] s).bind fun (ds : List D) s1 => if ds.length = ([] : List Str).length then .ok (.val (.loc s1.M.length)) ⟨s1.v, s1.M ++ [.dct (([] : List Str).zip ds)]⟩ else .bad) (.Dict [] [] pos) := by
  intro c Q sr p
  refine WpE.of pe_dnewK fun pp n => ?_
  obtain ⟨g1, g2⟩ := sr.fresh n
  obtain ⟨s1, s2, s3, s4⟩ := cell_new (c₀ := c) (c := c.lay pp (.dK [])) (a := pp) (cl := .dct []) (Stp.laid n) (Vst.refl _) (sr.laid n) ⟨[], upd_same, rfl, List.nodup_nil⟩ g1 g2 n
  exact p _ rfl s1 s2 s3 (.ref pp) s4 trivial
theorem rng_drs {K : PySem.W.Frag} {μ : List Addr} {H : Hp} (j : Int) : DRs K μ H (rngL 0 j.toNat) (rgV 0 j) := by
  unfold rngL rgV
  rw [Int.sub_zero]
  induction List.range j.toNat with
  | nil => exact .nil
  | cons a r ih => exact .cons (by simp only [DR]) ih
theorem j_lrng {a : Expr} {p p2 pos pos2 : Pos} {m : S → R SV} (hc : X.calm = true) (hg : Gl X "list") (hm : X.mg "list" = none) (hg2 : Gl X "range") (hm2 : X.mg "range" = none) (hs : notStar a = true) (h : JX X W m a) :
    JX X W (fun s => (m s).bind fun x s1 => lif (lrngD x) s1) (.Call (.Name "list" p) [.Call (.Name "range" p2) [a] [] pos2] [] pos) := by
  intro c Q sr q
  refine WpE.of (pe_listRg hc hg hm (prg_1 hg2 hm2 (peW a) (star_cons hs)) (by rfl)) ?_
  show WpE X a c.σ c.H _
  refine h c _ sr (q.bind.imp fun x c1 st1 sr1 vs1 p1 v rv fv => ?_)
  obtain ⟨z, hz, k⟩ := Post.kv sr1 st1 p1
  unfold lrngD at hz
  split at hz
  · split at hz
    · rename_i hj
      simp only [Bool.and_eq_true, decide_eq_true_eq] at hj
      cases hz
      simp only [SVR, DR] at rv
      subst rv
      exact ⟨_, rfl, ⟨by decide, by decide, hj.1, by omega, by omega⟩, fun qq nq => k.new sr1 (rng_drs _) qq nq⟩
    · cases hz
  · cases hz
/-! ### methods of texts -/
theorem Sm'.slot (m : Sm') : PySem.Slot "str" m.nm m.id ∧ typeOf (.builtin m.id) = pure (.type "method_descriptor") := by
  cases m
  · exact ⟨PySem.F.slot_str_join, PySem.F.type_str_join⟩
  · exact ⟨PySem.F.slot_str_startswith, PySem.F.type_str_startswith⟩
  · exact ⟨PySem.F.slot_str_split, PySem.F.type_str_split⟩
theorem asStrs_dr {K : PySem.W.Frag} {μ : List Addr} {H : Hp} : ∀ {xs : List D} {ns : List Str} {vs : List V}, asStrs xs = some ns → DRs K μ H xs vs → vs = ns.map V.str
  | [], _, _, h, r => by simp only [asStrs] at h; cases h; simp only [DRs] at r; exact r
  | x :: xs, ns, vs, h, r => by
    cases x <;> simp only [asStrs] at h <;> try cases h
    obtain ⟨ms, e, rfl⟩ := Option.map_eq_some_iff.mp h
    simp only [DRs, DR] at r
    obtain ⟨v, r', rfl, rfl, z⟩ := r
    rw [List.map_cons, asStrs_dr e z]
theorem strs_drs {K : PySem.W.Frag} (μ : List Addr) (H : Hp) : ∀ ns : List Str, DRs K μ H (ns.map D.str) (ns.map V.str)
  | [] => .nil
  | x :: xs => .cons (by simp only [DR]) (strs_drs μ H xs)
theorem smD_ok {c : Cf} {m : Sm'} {a : Str} {y z : SV} {u : V} {Q : VK} (sr : SR X.K c) (ry : SVR X.K c y u) (h : smD m a y c.s = some z) (k : KV' X c Q z) : WpM X m.id (.str a) [u] c.H Q := by
  unfold smD at h
  split at h
  · obtain ⟨ds, e1, h⟩ := Option.bind_eq_some_iff.mp h
    obtain ⟨ys, e2, h⟩ := Option.bind_eq_some_iff.mp h
    split at h
    · rename_i hl
      cases h
      obtain ⟨p, vs, rfl, r, q⟩ := seq_ok sr ry e1
      have ev := asStrs_dr e2 r
      subst ev
      exact WpM.of mt_join ⟨a, p, ys, rfl, rfl, q, le_of_ble hl, k.val sr (by simp only [DR])⟩
    · cases h
  · cases h
    simp only [SVR, DR] at ry
    subst ry
    exact WpM.of mt_startswith ⟨a, _, rfl, rfl, k.val sr (by simp only [DR])⟩
  · split at h
    · rename_i hl
      rw [Bool.and_eq_true] at hl
      cases h
      simp only [SVR, DR] at ry
      subst ry
      exact WpM.of mt_split ⟨a, _, rfl, rfl, by have := hl.1; simpa [bne] using this, le_of_ble hl.2, fun p n => k.new sr (strs_drs _ _ _) p n⟩
    · cases h
  · cases h
theorem j_smeth {m : Sm'} {o e : Expr} {ap cp : Pos} {mo me : S → R SV} (hp : plainB o = true) (hl : (ap.endLine == cp.line) = true) (hs : notStar e = true) (ho : JX X W mo o) (he : JX X W me e) :
    JX X W (fun s => (mo s).bind fun x s1 => (match x with
      | .val (.str a) => (me s1).bind fun y s2 => lif (smD m a y s2) s2
      | _ => .bad)) (.Call (.Attribute o m.nm ap) [e] [] cp) := by
  intro c Q sr q
  obtain ⟨sl, ty⟩ := m.slot
  refine WpE.of (pe_bm PySem.F.plainAttrs_str sl ty (mtW _) (peW o) (pa_cons (peW e) pa_nil (star_cons hs)) (base_of hp) (few_of (by rw [List.all_cons, hs]; rfl) (by show 1 < 20; decide)) hl (star_cons hs) rfl) ?_
  refine ho c _ sr (q.bind.imp fun x c1 st1 sr1 vs1 p1 v rv fv => ?_)
  split at p1
  · rename_i a
    simp only [SVR, DR] at rv
    subst rv
    refine ⟨rfl, ?_⟩
    rw [← vs1.1]
    refine he c1 _ sr1 (p1.bind.imp fun y c2 st2 sr2 vs2 p2 u ru fu => ?_)
    obtain ⟨z, hz, kk⟩ := Post.kv sr2 (st1.trans st2) p2
    exact smD_ok sr2 ru hz kk
  · exact p1.elim
/-! ### f-strings -/
def JFs (X : Cx) (W : WX) (m : Str → S → R Str) (es : List Expr) : Prop := ∃ ts, PJ X es ts ∧ ∀ c acc (Q : Str → Hp → Prop), SR X.K c → Post X.K c (m acc c.s) (fun out c' => Q out c'.H) (QX X W) → tJs ts acc c.σ c.H Q
theorem j_fs_nil : JFs X W (fun acc s => .ok acc s) [] := ⟨[], .nil, fun c acc Q sr p => p.ok sr⟩
theorem j_fs_val {e : Expr} {es : List Expr} {p : Pos} {m : S → R SV} {ms : Str → S → R Str} (h : JX X W m e) (t : JFs X W ms es) :
    JFs X W (fun acc s => (m s).bind fun x s1 => (lif (fmtD x) s1).bind fun y s2 => if fits (acc ++ y).length then ms (acc ++ y) s2 else .bad) (.FormattedValue e (-1) none p :: es) := by
  obtain ⟨ts, hp, ht⟩ := t
  refine ⟨tFmt (WpE X e) :: ts, .cons (pe_fmt (peW e)) hp, fun c acc Q sr q => ?_⟩
  show WpE X e c.σ c.H _
  refine h c _ sr (q.bind.imp fun x c1 st1 sr1 vs1 p1 v rv fv => ?_)
  obtain ⟨y, hy, p2⟩ := Post.lif sr1 p1.bind
  split at p2
  case isFalse => exact p2.elim
  rename_i hl
  have fin : ∃ z : Str, V.str y = .str z ∧ (acc ++ z).length ≤ sizeLine ∧ tJs ts (acc ++ z) c.σ c1.H Q := by
    refine ⟨y, rfl, fits_of hl, ?_⟩
    rw [← vs1.1]
    exact ht c1 (acc ++ y) Q sr1 p2
  unfold fmtD at hy
  split at hy
  · split at hy
    · rename_i hz
      cases hy
      simp only [SVR, DR] at rv
      exact .inl ⟨_, rv, fits_of hz, fin⟩
    · cases hy
  · split at hy
    · rename_i hz
      cases hy
      simp only [SVR, DR] at rv
      exact .inr ⟨_, rv, lt_of_blt hz, fin⟩
    · cases hy
  · cases hy
theorem j_fs_cst {z : Str} {j : Nat} {p : Pos} {es : List Expr} {ms : Str → S → R Str} (t : JFs X W ms es) :
    JFs X W (fun acc s => (R.ok (SV.val (.str z)) s).bind fun x s1 => (lif (fmtD x) s1).bind fun y s2 => if fits (acc ++ y).length then ms (acc ++ y) s2 else .bad) (.Constant (.str z) j p :: es) := by
  obtain ⟨ts, hp, ht⟩ := t
  refine ⟨tC (.str z) :: ts, .cons pe_str hp, fun c acc Q sr q => ?_⟩
  have q : Post X.K c ((lif (fmtD (.val (.str z))) c.s).bind fun y s2 => if fits (acc ++ y).length then ms (acc ++ y) s2 else .bad) _ _ := q
  obtain ⟨y, hy, p2⟩ := Post.lif sr q.bind
  have e : y = z := by
    have hy : (if fits z.length then some z else none) = some y := hy
    split at hy
    · cases hy; rfl
    · cases hy
  subst e
  split at p2
  case isFalse => exact p2.elim
  rename_i hl
  exact ⟨_, rfl, fits_of hl, ht c _ Q sr p2⟩
theorem j_fstr {u v : Expr} {es : List Expr} {pos : Pos} {m : Str → S → R Str} (h : JFs X W m (u :: v :: es)) : JX X W (fun s => (m Str.empty s).bind fun z s1 => .ok (.val (.str z)) s1) (.JoinedStr (u :: v :: es) pos) := by
  intro c Q sr q
  obtain ⟨ts, hp, ht⟩ := h
  refine WpE.of (pe_joined hp) ?_
  refine ht c Str.empty _ sr (q.bind.imp fun z c1 st1 sr1 vs1 p1 => ?_)
  exact (Post.kvok st1 p1).val sr1 (by simp only [DR])
theorem Ck.blk (K : Ck X W k g n) {scope : Scope} (s : Shared) (H : Hp) (C : Addr) (cl : List (Str × Addr)) (fp : List Addr) : Ck (X.blk s H scope (compEnvC scope cl C X.env) fp) WF0 (blkK k scope) g n where
  N := K.N
  sc := by
    show relabel scope X.env = relS scope k.sc
    rw [← K.sc]; rfl
  fn := fun x h => h
  calm := K.calm
  nd := K.nd
  room := K.room
  un := K.un
  tk := fun u s' ⟨a, B, sI, pins, σ, H, cls, d, e, I, nb, up, sky, na, os, ag, w⟩ => w.elim
  fr := K.fr
  gcd := K.gcd
  gl := K.gl
  fns := fun f fd h => by
    obtain ⟨a, fdt, F⟩ := K.fns f fd h
    exact ⟨a, fdt, F.at_, F.keep, F.ok, F.dfl, F.kw⟩
theorem Ck.store (K : Ck X W k g n) {i : Nat} {x : Str} (h : storeB k i x = true) : X.N[i]? = some x ∧ Loc X.env.scope x ∧ (X.fn x = true ∨ X.env.scope.names.lookup x = some .local) := by
  unfold storeB locB at h
  rw [Bool.and_eq_true, decide_eq_true_eq] at h
  rw [K.N, K.sc]
  refine ⟨h.1, ?_⟩
  have h2 := h.2
  split at h2
  · rename_i e; exact ⟨.inl e, .inr e⟩
  · rename_i e; exact ⟨.inr e, .inl (K.fn x h2)⟩
  · cases h2
theorem notSet_marks {op : CmpOp} {e : Expr} (h : notSet e = true) : behindInMarks op e = false := by
  cases e <;> first | rfl | cases h
theorem notSet_fold {e : Expr} {env : Env} (h : notSet e = true) : ∀ x, foldedSetIterable e env x = pure x := by
  intro x
  cases e <;> first | rfl | cases h
theorem notSlice_ix {e : Expr} (h : notSlice e = true) : PlainIx e := by
  intro o i
  cases e <;> first | rfl | cases h
theorem assign_cons {e : Expr} {es : List Expr} {env : Env} (h : notStar e = true) : (assignEach (e :: es) env).map (·.2) = assign e env :: (assignEach es env).map (·.2) := by
  cases e <;> first | rfl | cases h
theorem assign_len {env : Env} : ∀ {es : List Expr}, es.all notStar = true → (assignEach es env).length = es.length ∧ (assignEach es env).findIdx? (·.1) = none
  | [], _ => ⟨rfl, rfl⟩
  | e :: es, h => by
    rw [List.all_cons, Bool.and_eq_true] at h
    obtain ⟨i1, i2⟩ := assign_len (env := env) h.2
    have : ∃ m, assignEach (e :: es) env = (false, m) :: assignEach es env := by
      cases e <;> first | exact ⟨_, rfl⟩ | cases h.1
    obtain ⟨m, hm⟩ := this
    rw [hm]
    refine ⟨by rw [List.length_cons, List.length_cons, i1], ?_⟩
    rw [List.findIdx?_cons, if_neg (by simp), i2]; rfl
end

theorem mtXs_star {g : GI} {k : Cc} : ∀ {a : Exs} {es : List Expr}, mtXs g k a es = true → es.all notStar = true
  | .nil, es, h => by
    simp only [mtXs] at h
    split at h
    · rfl
    · cases h
  | .cons a as, es, h => by
    simp only [mtXs] at h
    split at h
    · simp only [Bool.and_eq_true] at h
      rw [List.all_cons, h.2.1, mtXs_star h.2.2]; rfl
    · cases h
theorem mtA_star {g : GI} {k : Cc} : ∀ {a : Ags} {es : List Expr}, mtA g k a es = true → es.all notStar = true
  | .nil, es, h => by
    simp only [mtA] at h
    split at h
    · rfl
    · cases h
  | .cons a as, es, h => by
    simp only [mtA] at h
    split at h
    · simp only [Bool.and_eq_true] at h
      rw [List.all_cons, h.2.1, mtA_star h.2.2]; rfl
    · cases h
theorem mtGs_star {g : GI} {k : Cc} : ∀ {a : Tgs} {es : List Expr}, mtGs g k a es = true → es.all notStar = true
  | .nil, es, h => by
    simp only [mtGs] at h
    split at h
    · rfl
    · cases h
  | .cons a as, es, h => by
    simp only [mtGs] at h
    split at h
    · simp only [Bool.and_eq_true] at h
      rw [List.all_cons, h.2.1, mtGs_star h.2.2]; rfl
    · cases h
theorem mtGs_len {g : GI} {k : Cc} : ∀ {a : Tgs} {es : List Expr}, mtGs g k a es = true → es.length = a.len
  | .nil, es, h => by
    simp only [mtGs] at h
    split at h
    · rfl
    · cases h
  | .cons a as, es, h => by
    simp only [mtGs] at h
    split at h
    · simp only [Bool.and_eq_true] at h
      rw [List.length_cons, mtGs_len h.2.2]; rfl
    · cases h
theorem j_nope {X : Cx} {W : WX} {e : Expr} {m : S → R SV} (h : ∀ s, m s = .bad) : JX X W m e := fun c Q sr p => by
  rw [h] at p; exact p.elim
end G

/-! ## GS14 -/
set_option Elab.async false
set_option linter.all false
set_option maxRecDepth 100000
set_option maxHeartbeats 4000000
namespace G
open PySem PySem.Spec PyProof.Rows L2

/-! ### the whole: what the look lets through does what the term says -/
theorem xsB_ne {g : GI} {k : Cc} {ia : Bool} {l : List Expr} (h : mtB g k ia .nil l = true) : False := by
  simp only [mtB] at h
  cases h
theorem mtB_one {g : GI} {k : Cc} {ia : Bool} {a : Ex} {es : List Expr} (h : mtB g k ia (.cons a .nil) es = true) : ∃ e, es = [e] ∧ mtX g k a e = true := by
  rw [mtB.eq_def] at h
  dsimp only at h
  cases es with
  | nil => cases h
  | cons e r =>
    dsimp only at h
    rw [Bool.and_eq_true] at h
    cases r with
    | nil => exact ⟨e, rfl, h.1⟩
    | cons b r => cases h.2
theorem mtB_cons {g : GI} {k : Cc} {ia : Bool} {a a2 : Ex} {as : Exs} {es : List Expr} (h : mtB g k ia (.cons a (.cons a2 as)) es = true) : ∃ e b r, es = e :: b :: r ∧ mtX g k a e = true ∧ mtB g k ia (.cons a2 as) (b :: r) = true := by
  rw [mtB.eq_def] at h
  dsimp only at h
  cases es with
  | nil => cases h
  | cons e r =>
    dsimp only at h
    rw [Bool.and_eq_true] at h
    cases r with
    | nil => cases h.2
    | cons b r => exact ⟨e, b, r, rfl, h.1, h.2⟩
theorem mtI_rng1 {g : GI} {k : Cc} {u : Ex} {t e : Expr} (h : mtI g k (.rng (.cons u .nil)) t e = true) : ∃ p pos a, e = .Call (.Name "range" p) [a] [] pos ∧ freeB g k "range" = true ∧ mtX g k u a = true ∧ notStar a = true := by
  rw [mtI.eq_def] at h
  dsimp only at h
  split at h
  · cases ‹Exs.cons _ _ = Exs.cons _ _›
    simp only [Bool.and_eq_true, decide_eq_true_eq] at h
    obtain ⟨rfl, h2, h3, h4⟩ := h
    exact ⟨_, _, _, rfl, h2, h3, h4⟩
  · cases ‹Exs.cons _ _ = Exs.cons _ _›
  · cases h
theorem mtI_rng2 {g : GI} {k : Cc} {u v : Ex} {t e : Expr} (h : mtI g k (.rng (.cons u (.cons v .nil))) t e = true) : ∃ p pos a b, e = .Call (.Name "range" p) [a, b] [] pos ∧ freeB g k "range" = true ∧ mtX g k u a = true ∧ mtX g k v b = true ∧ notStar a = true ∧ notStar b = true := by
  rw [mtI.eq_def] at h
  dsimp only at h
  split at h
  · cases ‹Exs.cons _ _ = Exs.cons _ _›
  · cases ‹Exs.cons _ _ = Exs.cons _ _›
    simp only [Bool.and_eq_true, decide_eq_true_eq] at h
    obtain ⟨rfl, h2, h3, h4, h5, h6⟩ := h
    exact ⟨_, _, _, _, rfl, h2, h3, h4, h5, h6⟩
  · cases h
theorem mtI_rng0 {g : GI} {k : Cc} {t e : Expr} (h : mtI g k (.rng .nil) t e = true) : False := by
  rw [mtI.eq_def] at h
  dsimp only at h
  cases h
theorem mtI_rng3 {g : GI} {k : Cc} {u v w : Ex} {ws : Exs} {t e : Expr} (h : mtI g k (.rng (.cons u (.cons v (.cons w ws)))) t e = true) : False := by
  rw [mtI.eq_def] at h
  dsimp only at h
  cases h
theorem mtK_names {g : GI} {k : Cc} : ∀ {a : Ags} {ks : List Str} {es : List Keyword}, mtK g k a ks es = true → KwN ks es
  | .nil, ks, es, h => by
    rw [mtK.eq_def] at h
    dsimp only at h
    split at h
    · trivial
    · cases h
  | .cons a as, ks, es, h => by
    rw [mtK.eq_def] at h
    dsimp only at h
    split at h
    · simp only [Bool.and_eq_true, decide_eq_true_eq] at h
      exact ⟨by rw [h.1], mtK_names h.2.2⟩
    · cases h
theorem isC_ok {z : Str} {a : Ex} (h : isC z a = true) : ∃ y : Unit, a = .cst (.str z) := by
  unfold isC at h
  split at h
  · exact ⟨(), by rw [of_decide_eq_true h]⟩
  · cases h
theorem keyB_facts : ∀ {ks : List Str} {keys : List (Option Expr)}, keyB ks keys = true → keys.all (·.isSome) = true ∧ ks.length = keys.length
  | [], [], _ => ⟨rfl, rfl⟩
  | [], _ :: _, h => by simp [keyB] at h
  | _ :: _, [], h => by simp [keyB] at h
  | k :: ks, key :: keys, h => by
    unfold keyB at h
    split at h
    · rename_i e; cases e
    · rename_i e1 e2
      cases e1; cases e2
      rw [Bool.and_eq_true] at h
      obtain ⟨h1, h2⟩ := keyB_facts h.2
      exact ⟨by rw [List.all_cons, h1]; rfl, by rw [List.length_cons, List.length_cons, h2]⟩
    · cases h
theorem keyB_cons {ks : List Str} {key : Option Expr} {keys : List (Option Expr)} (h : keyB ks (key :: keys) = true) : ∃ x ks' j p, ks = x :: ks' ∧ key = some (.Constant (.str x) j p) ∧ keyB ks' keys = true := by
  cases ks with
  | nil => simp [keyB] at h
  | cons k ks =>
    unfold keyB at h
    split at h
    · rename_i e; cases e
    · rename_i e1 e2
      cases e1; cases e2
      rw [Bool.and_eq_true, decide_eq_true_eq] at h
      exact ⟨_, _, _, _, rfl, by rw [h.1], h.2⟩
    · cases h
mutual
theorem sX {g : GI} {n : Nat} : ∀ (a : Ex) {X : Cx} {W : WX} {k : Cc} (K : Ck X W k g n) (e : Expr), mtX g k a e = true → JX X W (evX (cnOf g n) a) e
  | .cst d, X, W, k, K, e, h => by
    simp only [mtX] at h
    split at h
    · intro c Q sr p; rw [evX] at p; exact j_cst h c Q sr p
    · cases h
  | .var i, X, W, k, K, e, h => by
    simp only [mtX] at h
    split at h
    · obtain ⟨h1, h2, h3, h4⟩ := K.slot h
      intro c Q sr p; rw [evX] at p; exact j_var h1 h2 h3 h4 c Q sr p
    · cases h
  | .glob x, X, W, k, K, e, h => by
    simp only [mtX] at h
    split at h
    · simp only [Bool.and_eq_true, decide_eq_true_eq] at h
      obtain ⟨rfl, h2, h3⟩ := h
      obtain ⟨g1, g2⟩ := K.gl' h2
      intro c Q sr p; rw [evX] at p; exact j_glob (cn := cnOf g n) g1 g2 (fun d hd => K.gl _ d hd) c Q sr p
    · cases h
  | .bin op a b, X, W, k, K, e, h => by
    simp only [mtX] at h
    split at h
    · simp only [Bool.and_eq_true, decide_eq_true_eq] at h
      obtain ⟨rfl, h2, h3⟩ := h
      intro c Q sr p; rw [evX] at p; exact j_bin (sX a K _ h2) (sX b K _ h3) c Q sr p
    · cases h
  | .neg a, X, W, k, K, e, h => by
    simp only [mtX] at h
    split at h
    · intro c Q sr p; rw [evX] at p; exact j_neg (sX a K _ h) c Q sr p
    · cases h
  | .not a, X, W, k, K, e, h => by
    simp only [mtX] at h
    split at h
    · intro c Q sr p; rw [evX] at p; exact j_not (sX a K _ h) c Q sr p
    · cases h
  | .bool ia es, X, W, k, K, e, h => by
    simp only [mtX] at h
    split at h
    · simp only [Bool.and_eq_true, decide_eq_true_eq] at h
      obtain ⟨rfl, h2⟩ := h
      intro c Q sr p; rw [evX] at p; exact sB es K ia _ h2 _ c Q sr p
    · cases h
  | .cmp op a b, X, W, k, K, e, h => by
    simp only [mtX] at h
    split at h
    · simp only [Bool.and_eq_true, decide_eq_true_eq] at h
      obtain ⟨rfl, h2, h3, h4⟩ := h
      intro c Q sr p; rw [evX] at p; exact j_cmp K.un (notSet_marks h4) (sX a K _ h2) (sX b K _ h3) c Q sr p
    · cases h
  | .chain o1 o2 a b z, X, W, k, K, e, h => by
    simp only [mtX] at h
    split at h
    · simp only [Bool.and_eq_true, decide_eq_true_eq] at h
      obtain ⟨rfl, rfl, h2, h3, h4, h5, h6⟩ := h
      intro c Q sr p; rw [evX] at p; exact j_chain K.un (notSet_marks h6) (sX a K _ h2) (sX b K _ h3) (sX z K _ h4) c Q sr p
    · cases h
  | .ife t a b, X, W, k, K, e, h => by
    simp only [mtX] at h
    split at h
    · simp only [Bool.and_eq_true] at h
      intro c Q sr p; rw [evX] at p; exact j_ife (sT t K _ h.1) (sX a K _ h.2.1) (sX b K _ h.2.2) c Q sr p
    · cases h
  | .tup es, X, W, k, K, e, h => by
    simp only [mtX] at h
    split at h
    · intro c Q sr p; rw [evX] at p; exact j_tup (sEs es K _ h) c Q sr p
    · cases h
  | .lst es, X, W, k, K, e, h => by
    simp only [mtX] at h
    split at h
    · intro c Q sr p; rw [evX] at p; exact j_lst (sEs es K _ h) c Q sr p
    · cases h
  | .dct ks es, X, W, k, K, e, h => by
    simp only [mtX] at h
    split at h
    · rename_i keys values pos
      simp only [Bool.and_eq_true, decide_eq_true_eq] at h
      obtain ⟨h1, h2, h3, h4, h5⟩ := h
      obtain ⟨k1, k2⟩ := keyB_facts h1
      have ps := sPs es K ks keys values pos h1 h4 h5
      intro c Q sr p; rw [evX] at p
      cases keys with
      | nil =>
        have e1 : ks = [] := List.eq_nil_of_length_eq_zero k2
        have e2 : values = [] := List.eq_nil_of_length_eq_zero h4.symm
        subst e1 e2
        cases es with
        | nil => rw [evEs] at p; exact j_dct0 c Q sr p
        | cons a as => simp only [mtXs] at h5; cases h5
      | cons key keys => exact j_dct ⟨h2, h3⟩ k1 h4 k2 ps c Q sr p
    · cases h
  | .lrng a, X, W, k, K, e, h => by
    simp only [mtX] at h
    split at h
    · simp only [Bool.and_eq_true, decide_eq_true_eq] at h
      obtain ⟨rfl, rfl, h2, h3, h4, h5⟩ := h
      obtain ⟨g1, g2, g3⟩ := K.free h2
      obtain ⟨g4, g5, g6⟩ := K.free h3
      intro c Q sr p; rw [evX] at p; exact j_lrng K.calm g1 g3 g4 g6 h5 (sX a K _ h4) c Q sr p
    · cases h
  | .smeth o m a, X, W, k, K, e, h => by
    simp only [mtX] at h
    split at h
    · simp only [Bool.and_eq_true, decide_eq_true_eq] at h
      obtain ⟨rfl, h2, h3, h4, h5, h6⟩ := h
      intro c Q sr p; rw [evX] at p; exact j_smeth h2 h3 h6 (sX o K _ h4) (sX a K _ h5) c Q sr p
    · cases h
  | .fstr es, X, W, k, K, e, h => by
    simp only [mtX] at h
    split at h
    · intro c Q sr p; rw [evX] at p; exact j_fstr (sFs es K _ h) c Q sr p
    · cases h
  | .comp elt tg it ifs own, X, W, k, K, e, h => by
    simp only [mtX] at h
    split at h
    · simp only [Bool.and_eq_true, decide_eq_true_eq] at h
      obtain ⟨h1, h2, h3, h4, h5, h6, h7, h8⟩ := h
      have ok := blkOk_by h2
      rw [← K.N, ← K.sc] at ok
      obtain ⟨t, pt, ht, _⟩ := j_comp (own := own) (l := tgN tg) K.calm (by rw [K.N]; exact K.nd) (sI it K _ _ h1) ok h3 (fun i hi => by
          have := List.all_eq_true.mp h4 i hi
          simpa using this)
        (fun s H C cl fp => sG tg (K.blk s H C cl fp) _ h5) (fun s H C cl fp => sF ifs (K.blk s H C cl fp) _ h6) (fun s H C cl fp => sX elt (K.blk s H C cl fp) _ h7) (notSet_fold h8)
      intro c Q sr p; rw [evX] at p; exact WpE.of pt (ht c Q sr p)
    · cases h
  | .call f es, X, W, k, K, e, h => by
    simp only [mtX] at h
    split at h
    · simp only [Bool.and_eq_true, decide_eq_true_eq] at h
      obtain ⟨rfl, h2, h3, h4⟩ := h
      rename_i args _
      intro c Q sr p; rw [evX] at p
      cases args with
      | nil =>
        cases es with
        | nil => rw [evA] at p; exact j_call0 K h2 h3 c Q sr p
        | cons a as => simp only [mtA] at h4; cases h4
      | cons e1 es1 => exact j_call K h2 h3 (mtA_star h4) (sA es K _ h4) c Q sr p
    · cases h
  | .callk f m ks es, X, W, k, K, e, h => by
    rw [mtX.eq_def] at h
    dsimp only at h
    split at h
    · simp only [Bool.and_eq_true, decide_eq_true_eq] at h
      obtain ⟨rfl, rfl, h2, h3, h4, h5⟩ := h
      intro c Q sr p; rw [evX] at p
      exact j_callk K h2 h3 h4 (mtK_names h5) (sK es K _ _ h5) c Q sr p
    · cases h
  | .bi b es, X, W, k, K, e, h => by
    simp only [mtX] at h
    split at h
    · simp only [Bool.and_eq_true] at h
      intro c Q sr p; rw [evX] at p; exact j_bi K h.1 (mtXs_star h.2) (sXs es K _ h.2) c Q sr p
    · cases h
  | .isi a tys, X, W, k, K, e, h => by
    simp only [mtX] at h
    split at h
    · simp only [Bool.and_eq_true, decide_eq_true_eq] at h
      obtain ⟨rfl, h2, h3, h4, h5⟩ := h
      unfold tyB at h5
      split at h5
      · simp only [Bool.and_eq_true, decide_eq_true_eq] at h5
        obtain ⟨rfl, h5⟩ := h5
        intro c Q sr p; rw [evX] at p; exact j_isi K h2 h5 h4 (sX a K _ h3) c Q sr p
      · cases h5
    · cases h
  | .meth o m es, X, W, k, K, e, h => by
    simp only [mtX] at h
    split at h
    · simp only [Bool.and_eq_true, decide_eq_true_eq] at h
      obtain ⟨rfl, h2, h3, h4, h5, h6⟩ := h
      rename_i args _
      intro c Q sr p; rw [evX] at p
      cases args with
      | nil =>
        cases es with
        | nil => simp only [evXs] at p; exact j_meth0 h2 h3 (sX o K _ h4) c Q sr p
        | cons a as => simp only [mtXs] at h5; cases h5
      | cons e1 es1 => exact j_meth h2 h3 (mtXs_star h5) h6 (sX o K _ h4) (sXs es K _ h5) c Q sr p
    · cases h
  | .sub a i, X, W, k, K, e, h => by
    simp only [mtX] at h
    split at h
    · simp only [Bool.and_eq_true] at h
      intro c Q sr p; rw [evX] at p; exact j_sub K.un (notSlice_ix h.2.2) (sX a K _ h.1) (sX i K _ h.2.1) c Q sr p
    · cases h
  | .slc a lo hi, X, W, k, K, e, h => by
    simp only [mtX] at h
    split at h
    · simp only [Bool.and_eq_true] at h
      intro c Q sr p; rw [evX] at p; exact j_slc (sX a K _ h.1) (sO lo K _ h.2.1) (sO hi K _ h.2.2) c Q sr p
    · cases h
theorem sXs {g : GI} {n : Nat} : ∀ (a : Exs) {X : Cx} {W : WX} {k : Cc} (K : Ck X W k g n) (es : List Expr), mtXs g k a es = true → JXs X W (evXs (cnOf g n) a) es
  | .nil, X, W, k, K, es, h => by
    simp only [mtXs] at h
    split at h
    · intro c Q sr p; rw [evXs] at p; exact j_xs_nil c Q sr p
    · cases h
  | .cons a as, X, W, k, K, es, h => by
    simp only [mtXs] at h
    split at h
    · simp only [Bool.and_eq_true] at h
      intro c Q sr p; rw [evXs] at p; exact j_xs_cons (star_cons h.2.1) (sX a K _ h.1) (sXs as K _ h.2.2) c Q sr p
    · cases h
theorem sEs {g : GI} {n : Nat} : ∀ (a : Exs) {X : Cx} {W : WX} {k : Cc} (K : Ck X W k g n) (es : List Expr), mtXs g k a es = true → JEs X W (evEs (cnOf g n) a) es
  | .nil, X, W, k, K, es, h => by
    simp only [mtXs] at h
    split at h
    · intro c Q sr p; rw [evEs] at p; exact j_es_nil c Q sr p
    · cases h
  | .cons a as, X, W, k, K, es, h => by
    simp only [mtXs] at h
    split at h
    · simp only [Bool.and_eq_true] at h
      intro c Q sr p; rw [evEs] at p; exact j_es_cons (star_cons h.2.1) (sX a K _ h.1) (sEs as K _ h.2.2) c Q sr p
    · cases h
theorem sFs {g : GI} {n : Nat} : ∀ (a : Exs) {X : Cx} {W : WX} {k : Cc} (K : Ck X W k g n) (es : List Expr), mtFs g k a es = true → JFs X W (evF (cnOf g n) a) es
  | .nil, X, W, k, K, es, h => by
    rw [mtFs.eq_def] at h
    dsimp only at h
    split at h
    · obtain ⟨t, h1, h2⟩ := j_fs_nil (X := X) (W := W)
      exact ⟨t, h1, fun c acc Q sr p => h2 c acc Q sr (by rw [evF] at p; exact p)⟩
    · cases h
  | .cons a as, X, W, k, K, es, h => by
    rw [mtFs.eq_def] at h
    dsimp only at h
    split at h
    · simp only [Bool.and_eq_true, decide_eq_true_eq] at h
      obtain ⟨rfl, h2, h3⟩ := h
      obtain ⟨t, h1, h2⟩ := j_fs_val (sX a K _ h2) (sFs as K _ h3)
      exact ⟨t, h1, fun c acc Q sr p => h2 c acc Q sr (by rw [evF] at p; exact p)⟩
    · rw [Bool.and_eq_true] at h
      obtain ⟨y, rfl⟩ := isC_ok h.1
      obtain ⟨t, h1, h2⟩ := j_fs_cst (sFs as K _ h.2)
      exact ⟨t, h1, fun c acc Q sr p => h2 c acc Q sr (by rw [evF, evX] at p; exact p)⟩
    · cases h
theorem sPs {g : GI} {n : Nat} : ∀ (a : Exs) {X : Cx} {W : WX} {k : Cc} (K : Ck X W k g n) (ks : List Str) (keys : List (Option Expr)) (es : List Expr) (pos : Pos), keyB ks keys = true → keys.length = es.length → mtXs g k a es = true → JPs X W (evEs (cnOf g n) a) ks pos keys es
  | .nil, X, W, k, K, ks, keys, es, pos, hk, hl, h => by
    simp only [mtXs] at h
    split at h
    · obtain rfl : keys = [] := List.eq_nil_of_length_eq_zero hl
      obtain rfl : ks = [] := List.eq_nil_of_length_eq_zero (keyB_facts hk).2
      obtain ⟨t, h1, h2⟩ := j_ps_nil (X := X) (W := W) (pos := pos)
      exact ⟨t, h1, fun c Q sr p => h2 c Q sr (by rw [evEs] at p; exact p)⟩
    · cases h
  | .cons a as, X, W, k, K, ks, keys, es, pos, hk, hl, h => by
    simp only [mtXs] at h
    split at h
    · simp only [Bool.and_eq_true] at h
      cases keys with
      | nil => cases hl
      | cons key keys =>
        obtain ⟨x, ks', j, p2, rfl, rfl, hk'⟩ := keyB_cons hk
        obtain ⟨t, h1, h2⟩ := j_ps_cons (x := x) (j := j) (p2 := p2) (sX a K _ h.1) (sPs as K ks' keys _ pos hk' (Nat.succ.inj hl) h.2.2)
        exact ⟨t, h1, fun c Q sr p => h2 c Q sr (by rw [evEs] at p; exact p)⟩
    · cases h
theorem sB {g : GI} {n : Nat} : ∀ (a : Exs) {X : Cx} {W : WX} {k : Cc} (K : Ck X W k g n) (ia : Bool) (es : List Expr), mtB g k ia a es = true → JB X W (evB (cnOf g n) ia a) (if ia then .And else .Or) es
  | .nil, X, W, k, K, ia, es, h => (xsB_ne h).elim
  | .cons a .nil, X, W, k, K, ia, es, h => by
    obtain ⟨e, rfl, h1⟩ := mtB_one h
    intro pos c Q sr p; rw [evB] at p; exact j_b_one (sX a K _ h1) pos c Q sr p
  | .cons a (.cons a2 as), X, W, k, K, ia, es, h => by
    obtain ⟨e, b, r, rfl, h1, h2⟩ := mtB_cons h
    intro pos c Q sr p; rw [evB] at p
    exact j_b_cons (sX a K _ h1) (sB (.cons a2 as) K ia _ h2) pos c Q sr p
theorem sT {g : GI} {n : Nat} : ∀ (a : Te) {X : Cx} {W : WX} {k : Cc} (K : Ck X W k g n) (e : Expr), mtT g k a e = true → JT X W (evT (cnOf g n) a) e
  | .x a, X, W, k, K, e, h => by
    simp only [mtT] at h
    split at h
    · cases h
    · cases h
    · cases h
    · rename_i l o r p0
      cases a with
      | cmp op a b =>
        simp only [mtX] at h
        simp only [Bool.and_eq_true, decide_eq_true_eq] at h
        obtain ⟨rfl, h2, h3, h4⟩ := h
        intro c Q sr p; rw [evT, evX] at p; exact j_tcmp K.un (notSet_marks h4) (sX a K _ h2) (sX b K _ h3) c Q sr p
      | _ => simp only [mtX] at h; cases h
    · rename_i l o o' r r' p0
      cases a with
      | chain o1 o2 a b z =>
        simp only [mtX] at h
        simp only [Bool.and_eq_true, decide_eq_true_eq] at h
        obtain ⟨rfl, rfl, h2, h3, h4, h5, h6⟩ := h
        intro c Q sr p; rw [evT, evX] at p; exact j_tchain K.un (notSet_marks h6) (sX a K _ h2) (sX b K _ h3) (sX z K _ h4) c Q sr p
      | _ => simp only [mtX] at h; cases h
    · cases h
    · rename_i hn1 hn2 hn3 hn4 hn5 hn6
      have he : ∀ whole, isTrue e X.env whole = (do let v ← whole; standAt e.pos; holding [v] (truthy v)) := fun whole => by
        cases e <;> first
          | rfl
          | (rename_i op _ _; cases op <;> first | rfl | exact absurd rfl (hn1 _ _))
          | exact absurd rfl (hn2 _ _ _)
          | exact absurd rfl (hn3 _ _ _ _)
          | exact absurd rfl (hn6 _ _ _ _)
      intro c Q sr p; rw [evT] at p; exact j_tx he (sX a K _ h) c Q sr p
  | .n t, X, W, k, K, e, h => by
    simp only [mtT] at h
    split at h
    · intro c Q sr p; rw [evT] at p; exact j_tn (sT t K _ h) c Q sr p
    · cases h
  | .b ia ts, X, W, k, K, e, h => by
    simp only [mtT] at h
    split at h
    · simp only [Bool.and_eq_true, decide_eq_true_eq] at h
      obtain ⟨rfl, h2⟩ := h
      intro c Q sr p; rw [evT] at p; exact j_tb (sTs ts K ia _ h2) c Q sr p
    · cases h
theorem sTs {g : GI} {n : Nat} : ∀ (a : Tes) {X : Cx} {W : WX} {k : Cc} (K : Ck X W k g n) (ia : Bool) (es : List Expr), mtTs g k ia a es = true → JTs X W (evTB (cnOf g n) ia a) (if ia then .And else .Or) es
  | .nil, X, W, k, K, ia, es, h => by
    simp only [mtTs] at h
    split at h
    · intro c Q sr p; rw [evTB] at p; exact j_ts_nil c Q sr p
    · cases h
  | .cons a as, X, W, k, K, ia, es, h => by
    simp only [mtTs] at h
    split at h
    · rw [Bool.and_eq_true] at h
      intro c Q sr p; rw [evTB] at p; exact j_ts_cons (sT a K _ h.1) (sTs as K ia _ h.2) c Q sr p
    · cases h
theorem sF {g : GI} {n : Nat} : ∀ (a : Tes) {X : Cx} {W : WX} {k : Cc} (K : Ck X W k g n) (es : List Expr), mtF g k a es = true → JF X W (evTB (cnOf g n) true a) es
  | .nil, X, W, k, K, es, h => by
    simp only [mtF] at h
    split at h
    · intro c Q sr p; rw [evTB] at p; exact j_fnil c Q sr p
    · cases h
  | .cons a as, X, W, k, K, es, h => by
    simp only [mtF] at h
    split at h
    · intro c Q sr p; simp only [evTB] at p; exact j_fone (sT a K _ h) c Q sr p
    · cases h
theorem sA {g : GI} {n : Nat} : ∀ (a : Ags) {X : Cx} {W : WX} {k : Cc} (K : Ck X W k g n) (es : List Expr), mtA g k a es = true → JA X W (evA (cnOf g n) a) es
  | .nil, X, W, k, K, es, h => by
    simp only [mtA] at h
    split at h
    · intro c Q sr p; rw [evA] at p; exact j_a_nil c Q sr p
    · cases h
  | .cons (.v a) as, X, W, k, K, es, h => by
    simp only [mtA] at h
    split at h
    · simp only [Bool.and_eq_true, mtAg] at h
      intro c Q sr p; rw [evA] at p; simp only [evAg] at p; exact j_a_v (star_cons h.2.1) (sX a K _ h.1) (sA as K _ h.2.2) c Q sr p
    · cases h
  | .cons (.b a) as, X, W, k, K, es, h => by
    simp only [mtA] at h
    split at h
    · simp only [Bool.and_eq_true, mtAg] at h
      intro c Q sr p; rw [evA] at p; simp only [evAg] at p; exact j_a_b (star_cons h.2.1) (sX a K _ h.1) (sA as K _ h.2.2) c Q sr p
    · cases h
theorem sK {g : GI} {n : Nat} : ∀ (a : Ags) {X : Cx} {W : WX} {k : Cc} (K : Ck X W k g n) (ks : List Str) (es : List Keyword), mtK g k a ks es = true → JK X W (evA (cnOf g n) a) es
  | .nil, X, W, k, K, ks, es, h => by
    rw [mtK.eq_def] at h
    dsimp only at h
    split at h
    · intro c Q sr p; rw [evA] at p; exact j_k_nil c Q sr p
    · cases h
  | .cons (.v a) as, X, W, k, K, ks, es, h => by
    rw [mtK.eq_def] at h
    dsimp only at h
    split at h
    · simp only [Bool.and_eq_true, mtAg] at h
      intro c Q sr p; rw [evA] at p; simp only [evAg] at p; exact j_k_v (sX a K _ h.2.1) (sK as K _ _ h.2.2) c Q sr p
    · cases h
  | .cons (.b a) as, X, W, k, K, ks, es, h => by
    rw [mtK.eq_def] at h
    dsimp only at h
    split at h
    · simp only [Bool.and_eq_true, mtAg] at h
      intro c Q sr p; rw [evA] at p; simp only [evAg] at p; exact j_k_b (sX a K _ h.2.1) (sK as K _ _ h.2.2) c Q sr p
    · cases h
theorem sO {g : GI} {n : Nat} : ∀ (a : Ox) {X : Cx} {W : WX} {k : Cc} (K : Ck X W k g n) (e : Option Expr), mtO g k a e = true → JO X W (evO (cnOf g n) a) e
  | .no, X, W, k, K, e, h => by
    simp only [mtO] at h
    split at h
    · obtain ⟨t, h1, h2⟩ := j_ono (X := X) (W := W)
      refine ⟨t, h1, fun c Q sr p => ?_⟩
      rw [evO] at p
      exact h2 c Q sr p
    · cases h
  | .yes a, X, W, k, K, e, h => by
    simp only [mtO] at h
    split at h
    · obtain ⟨t, h1, h2⟩ := j_oyes (sX a K _ h)
      refine ⟨t, h1, fun c Q sr p => ?_⟩
      rw [evO] at p
      exact h2 c Q sr p
    · cases h
theorem sI {g : GI} {n : Nat} : ∀ (a : It) {X : Cx} {W : WX} {k : Cc} (K : Ck X W k g n) (t e : Expr), mtI g k a t e = true → JI X W (evI (cnOf g n) a) t e
  | .q a, X, W, k, K, t, e, h => by
    simp only [mtI] at h
    rw [Bool.and_eq_true] at h
    intro c Q sr p; rw [evI] at p; exact j_iq (sX a K _ h.1) c Q sr p
  | .rng (.cons u .nil), X, W, k, K, t, e, h => by
    obtain ⟨p, pos, a, rfl, h2, h3, h4⟩ := mtI_rng1 h
    obtain ⟨g1, g2, g3⟩ := K.free h2
    intro c Q sr p; simp only [evI, evXs] at p
    exact j_rng1 g1 g3 h4 (sX u K _ h3) c Q sr p
  | .rng (.cons u (.cons v .nil)), X, W, k, K, t, e, h => by
    obtain ⟨p, pos, a, b, rfl, h2, h3, h4, h5, h6⟩ := mtI_rng2 h
    obtain ⟨g1, g2, g3⟩ := K.free h2
    intro c Q sr p; simp only [evI, evXs] at p
    exact j_rng2 g1 g3 h5 h6 (sX u K _ h3) (sX v K _ h4) c Q sr p
  | .rng .nil, X, W, k, K, t, e, h => (mtI_rng0 h).elim
  | .rng (.cons u (.cons v (.cons w ws))), X, W, k, K, t, e, h => (mtI_rng3 h).elim
  | .enum a, X, W, k, K, t, e, h => by
    rw [mtI.eq_def] at h
    dsimp only at h
    split at h
    · simp only [Bool.and_eq_true, decide_eq_true_eq] at h
      obtain ⟨rfl, h2, h3, h4⟩ := h
      obtain ⟨g1, g2, g3⟩ := K.free h2
      intro c Q sr p; rw [evI] at p
      exact j_enum g1 g3 h4 (sX a K _ h3) c Q sr p
    · cases h
  | .zip a b, X, W, k, K, t, e, h => by
    rw [mtI.eq_def] at h
    dsimp only at h
    split at h
    · simp only [Bool.and_eq_true, decide_eq_true_eq] at h
      obtain ⟨rfl, h2, h3, h4, h5, h6⟩ := h
      obtain ⟨g1, g2, g3⟩ := K.free h2
      intro c Q sr p; rw [evI] at p
      exact j_zip g1 g3 h5 h6 (sX a K _ h3) (sX b K _ h4) c Q sr p
    · cases h
theorem sG {g : GI} {n : Nat} : ∀ (a : Tg) {X : Cx} {W : WX} {k : Cc} (K : Ck X W k g n) (e : Expr), mtG g k a e = true → JG X W (evG (cnOf g n) a) (tgN a) e
  | .name i, X, W, k, K, e, h => by
    simp only [mtG] at h
    split at h
    · obtain ⟨h1, h2, h3⟩ := K.store h
      intro c d v Q sr r p; rw [evG] at p; rw [tgN] at p; exact j_gname (by rw [K.N]; exact K.nd) h1 h2 h3 c d v Q sr r p
    · cases h
  | .tup ts, X, W, k, K, e, h => by
    simp only [mtG] at h
    split at h
    · rename_i es kk pos
      obtain ⟨l1, l2⟩ := assign_len (env := X.env) (mtGs_star h)
      intro c d v Q sr r p; rw [tgN] at p
      have p' : PostS X.K c ((fun d s => match d with
        | .tup xs => if xs.length = ts.len then evGs (cnOf g n) ts xs s else .bad
        | .loc m => (match cell s.M m with
          | some xs => if xs.length = ts.len then evGs (cnOf g n) ts xs s else .bad
          | none => .bad)
        | _ => .bad) d c.s) (fun _ c' => Chg (tgNs ts) c c' → Q c'.σ c'.H) (QX X W) := by
        rw [evG.eq_def] at p
        cases d <;> exact p
      exact j_gtup K.calm l2 (l1.trans (mtGs_len h)) (sGs ts K _ h) c d v Q sr r p'
    · cases h
  | .sub o i, X, W, k, K, e, h => by
    simp only [mtG] at h
    split at h
    · simp only [Bool.and_eq_true] at h
      intro c d v Q sr r p; rw [evG] at p; rw [tgN] at p; exact j_gsub K.un h.2.2 (sX o K _ h.1) (sX i K _ h.2.1) c d v Q sr r p
    · cases h
theorem sGs {g : GI} {n : Nat} : ∀ (a : Tgs) {X : Cx} {W : WX} {k : Cc} (K : Ck X W k g n) (es : List Expr), mtGs g k a es = true → JGs X W (evGs (cnOf g n) a) (tgNs a) es
  | .nil, X, W, k, K, es, h => by
    simp only [mtGs] at h
    split at h
    · obtain ⟨t, h1, h2⟩ := j_gsnil (X := X) (W := W)
      refine ⟨t, h1, fun c ds vs Q sr r p => h2 c ds vs Q sr r ?_⟩
      rw [evGs.eq_def, tgNs] at p
      cases ds <;> exact p
    · cases h
  | .cons a as, X, W, k, K, es, h => by
    simp only [mtGs] at h
    split at h
    · simp only [Bool.and_eq_true] at h
      obtain ⟨t, h1, h2⟩ := j_gscons (assign_cons (env := X.env) h.2.1) (sG a K _ h.1) (sGs as K _ h.2.2)
      refine ⟨t, h1, fun c ds vs Q sr r p => h2 c ds vs Q sr r ?_⟩
      rw [evGs.eq_def, tgNs] at p
      cases ds <;> exact p
    · cases h
end
end G

/-! ## GS15 -/
set_option Elab.async false
set_option linter.all false
set_option maxRecDepth 100000
set_option maxHeartbeats 4000000
namespace G
open PySem PySem.Spec PyProof.Rows L2

/-! ### statements -/
def NoOwn (c : Cf) : Prop := ∀ (i : Nat) (xs : List D), c.s.v[i]? ≠ some (Slot.own xs)
def RetR (K : PySem.W.Frag) (b c : Cf) : Slot → V → Prop
  | .val d, v => DR K c.μ c.H d v
  | .own xs, v => ∃ a us, v = .ref a ∧ c.H a = some (.lst us) ∧ DRs K c.μ c.H xs us ∧ a ∉ c.μ ∧ b.H a = none
  | _, _ => False
def EndR (K : PySem.W.Frag) (b : Cf) (D : Ends) (f : Fl) (c : Cf) : Prop := match f with
  | .nx => D.nx c.σ c.H
  | .bk => D.bk c.σ c.H
  | .ct => D.ct c.σ c.H
  | .rt o => ∀ v, RetR K b c o v → D.rt v c.H
structure Bse (c c' : Cf) : Prop where
  pre : c.μ <+: c'.μ
  grow : ∀ b, Foot c' b → Foot c b ∨ c.H b = none
  trk : ∀ b o, c.H b = some o → ∃ o', c'.H b = some o'
theorem Bse.refl (c : Cf) : Bse c c := ⟨List.prefix_refl _, fun _ h => .inl h, fun _ o h => ⟨o, h⟩⟩
theorem Bse.untrk {c c' : Cf} (h : Bse c c') {b : Addr} (e : c'.H b = none) : c.H b = none := by
  cases q : c.H b with
  | none => rfl
  | some o =>
    obtain ⟨o', e'⟩ := h.trk b o q
    rw [e] at e'; cases e'
theorem Bse.trans {a b c : Cf} (h : Bse a b) (k : Stp b c) : Bse a c := ⟨h.pre.trans k.pre, fun x z => by
  rcases k.grow x z with z | z
  · exact h.grow x z
  · exact .inr (h.untrk z), fun x o e => by
  obtain ⟨o', e'⟩ := h.trk x o e
  exact k.trk x o' e'⟩
/-- a statement; b: where the def began -/
def JS (X : Cx) (W : WX) (m : S → R Fl) (st : Stmt) : Prop := ∀ b c D, NoOwn b → Bse b c → SR X.K c → PostS X.K c (m c.s) (EndR X.K b D) (QX X W) → WpS X st D c.σ c.H
def JSs (X : Cx) (W : WX) (m : S → R Fl) (st : List Stmt) : Prop := ∀ b c D, NoOwn b → Bse b c → SR X.K c → PostS X.K c (m c.s) (EndR X.K b D) (QX X W) → WpSs X st D c.σ c.H
theorem PostS.okc {α : Type} {K : PySem.W.Frag} {a : α} {s : S} {Qn : α → Cf → Prop} {Qx : Xc → Cf → Prop} {c c' : Cf} (h : PostS K c (.ok a s) Qn Qx) (e : c'.s = s) (st : Stp c c') (sr : SR K c') : Qn a c' := h c' e st sr
section
variable {X : Cx} {W : WX}
theorem own_new {K : PySem.W.Frag} {b c : Cf} (hb : NoOwn b) (st : Bse b c) (sr : SR K c) {i : Nat} {a : Addr} (h : OwnAt c i a) : a ∉ c.μ ∧ b.H a = none := by
  refine ⟨sr.ownm i a h, ?_⟩
  rcases st.grow a (.inr ⟨i, h⟩) with f | f
  · rcases f with f | ⟨j, ⟨xs, f⟩, _⟩
    · exfalso
      obtain ⟨r, hr⟩ := st.pre
      exact sr.ownm i a h (by rw [← hr]; exact List.mem_append_left _ f)
    · exact absurd f (hb j xs)
  · exact f
theorem j_nil : JSs X W (fun s => .ok .nx s) [] := fun b c D hb st sr p => WpSs.of pss_nil (p.ok sr)
theorem j_cons {st : Stmt} {rest : List Stmt} {m ms : S → R Fl} (h : JS X W m st) (t : JSs X W ms rest) :
    JSs X W (fun s => (m s).bind fun f s1 => match f with
      | .nx => ms s1
      | f => .ok f s1) (st :: rest) := by
  intro b c D hb stb sr p
  refine WpSs.of (pss_cons (psW st) (pssW rest)) ?_
  refine h b c _ hb stb sr ?_
  have p : PostS X.K c ((m c.s).bind fun f s1 => match f with
      | .nx => ms s1
      | f => .ok f s1) (EndR X.K b D) (QX X W) := p
  cases z : m c.s with
  | bad => rw [z] at p; exact p.elim
  | exc x s => rw [z] at p; exact p
  | ok f s =>
    rw [z] at p
    intro c1 e1 st1 sr1
    subst e1
    cases f with
    | nx => exact t b c1 D hb (stb.trans st1) sr1 (PostS.later st1 (show PostS X.K c (ms c1.s) _ _ from p))
    | bk => exact (PostS.okc (Qn := EndR X.K b D) (Qx := QX X W) (show PostS X.K c (R.ok Fl.bk c1.s) (EndR X.K b D) (QX X W) from p) rfl st1 sr1 : EndR X.K b D _ c1)
    | ct => exact (PostS.okc (Qn := EndR X.K b D) (Qx := QX X W) (show PostS X.K c (R.ok Fl.ct c1.s) (EndR X.K b D) (QX X W) from p) rfl st1 sr1 : EndR X.K b D _ c1)
    | rt o => exact (PostS.okc (Qn := EndR X.K b D) (Qx := QX X W) (show PostS X.K c (R.ok (Fl.rt o) c1.s) (EndR X.K b D) (QX X W) from p) rfl st1 sr1 : EndR X.K b D _ c1)
theorem j_pass {pos : Pos} : JS X W (fun s => .ok .nx s) (.Pass pos) := fun b c D hb st sr p => WpS.of ps_pass (p.ok sr)
theorem j_doc {x : Str} {j : Nat} {p1 p2 : Pos} : JS X W (fun s => .ok .nx s) (.Expr (.Constant (.str x) j p1) p2) := fun b c D hb st sr p => WpS.of ps_doc (p.ok sr)
theorem j_brk {pos : Pos} : JS X W (fun s => .ok .bk s) (.Break pos) := fun b c D hb st sr p => WpS.of ps_break (p.ok sr)
theorem j_cnt {pos : Pos} : JS X W (fun s => .ok .ct s) (.Continue pos) := fun b c D hb st sr p => WpS.of ps_continue (p.ok sr)
theorem j_retN {pos : Pos} : JS X W (fun s => .ok (.rt (.val .non)) s) (.Return none pos) := fun b c D hb st sr p => WpS.of ps_retN (p.ok sr .non (by simp only [RetR, DR]))
theorem j_ret {e : Expr} {m : S → R SV} {pos : Pos} (h : JX X W m e) : JS X W (fun s => (m s).bind fun x s1 => retD s1 x) (.Return (some e) pos) := by
  intro b c D hb stb sr p
  refine WpS.of (ps_ret (peW e)) ?_
  refine h c _ sr (p.bindE.imp fun x c1 st1 sr1 vs1 p1 v rv fv => ?_)
  cases x with
  | val d => exact PostS.ok (a := Fl.rt (.val d)) sr1 p1 v rv
  | new xs =>
    obtain ⟨a, us, rfl, h1, h2, h3, h4⟩ := rv
    exact PostS.ok (a := Fl.rt (.own xs)) sr1 p1 (.ref a) ⟨a, us, rfl, h1, h2, fun m => h3 (.inl m), stb.untrk (fv a rfl)⟩
  | var i =>
    unfold retD at p1
    split at p1
    · rename_i xs e1; cases e1
    · rename_i d e1; cases e1
    · rename_i j e1
      cases e1
      split at p1
      · rename_i ys q
        obtain ⟨a, us, e2, h1, h2⟩ := sr1.slot i _ q
        have e3 := rv.1
        rw [e2] at e3
        cases e3
        obtain ⟨n1, n2⟩ := own_new hb (stb.trans st1) sr1 ⟨⟨_, q⟩, e2⟩
        exact PostS.ok (a := Fl.rt (.own ys)) sr1 p1 (.ref a) ⟨a, us, rfl, h1, h2, n1, n2⟩
      · exact p1.elim
def notComp : Expr → Bool
  | .ListComp .. => false
  | .SetComp .. => false
  | .DictComp .. => false
  | _ => true
theorem noSwap {e : Expr} {t : Option Expr} {l : Nat} {env : Env} (h : notComp e = true) : swapsWith e t l env = pure false := by
  cases e <;> first | rfl | cases h
theorem j_ex {e : Expr} {m : S → R SV} {pos : Pos} (hn : notComp e = true) (h : JX X W m e) : JS X W (fun s => (m s).bind fun _ s1 => .ok .nx s1) (.Expr e pos) := by
  intro b c D hb stb sr p
  refine WpS.of (ps_expr (peW e) (noSwap hn)) ?_
  refine h c _ sr (p.bindE.imp fun x c1 st1 sr1 vs1 p1 v rv fv => ?_)
  rw [← vs1.1]
  exact PostS.ok (a := Fl.nx) sr1 p1
/-- target = value -/
theorem PostS.bindEB {α β : Type} {K : PySem.W.Frag} {b c : Cf} {r : R α} {f : α → S → R β} {Qn : β → Cf → Prop} {Qx : Xc → Cf → Prop} (h : PostS K b (r.bind f) Qn Qx) (st : Stp b c) : Post K c r (fun a c' => PostS K b (f a c'.s) Qn Qx) Qx := by
  cases r with
  | ok a s =>
    intro c' e st' sr' vs'
    subst e
    exact h
  | exc x s => exact fun c' e st' sr => h c' e (st.trans st') sr
  | bad => exact h
/-- a value, made proper; c₀: where its making began -/
theorem valS {α : Type} {K : PySem.W.Frag} {c₀ c : Cf} {x : SV} {v : V} {f : D → S → R α} {Qn : α → Cf → Prop} {Qx : Xc → Cf → Prop} (st : Stp c₀ c) (vst : Vst c₀ c) (sr : SR K c) (rx : SVR K c x v) (fr : Fresh c₀.H x v)
    (h : PostS K c₀ ((toVal x c.s).bind f) Qn Qx) : ∃ c' d, c'.H = c.H ∧ Stp c₀ c' ∧ SR K c' ∧ Vst c₀ c' ∧ DR K c'.μ c'.H d v ∧ PostS K c' (f d c'.s) Qn Qx := by
  cases x with
  | val d => exact ⟨c, d, rfl, st, sr, vst, rx, h.later st⟩
  | new xs =>
    obtain ⟨a, vs, rfl, q, r, nf, nr⟩ := rx
    obtain ⟨s1, s2, s3, s4⟩ := cell_new (cl := .lst xs) st vst sr ⟨vs, q, r⟩ nf nr (fr a rfl)
    exact ⟨{ c with μ := c.μ ++ [a], s := ⟨c.s.v, c.s.M ++ [.lst xs]⟩ }, _, rfl, s1, s2, s3, s4, PostS.later s1 h⟩
  | var i => exact h.elim
theorem chgS {α : Type} {K : PySem.W.Frag} {c : Cf} {l : List Nat} {r : R α} {Qn : α → Cf → Prop} {Qx : Xc → Cf → Prop} (h : PostS K c r Qn Qx) : PostS K c r (fun a c' => Chg l c c' → Qn a c') Qx := h.imp fun a c' _ _ q _ => q
/-- assignment, the parts already there as rules -/
theorem j_asg0 {st : Stmt} {e : Expr} {tg : Expr} {te : TE} {gt : TG} {m : S → R SV} {mg : D → S → R Unit} {l : List Nat} (hp : PS X st (tAsg te gt)) (he : ∀ c Q, SR X.K c → Post X.K c (m c.s) (fun x c' => ∀ v, SVR X.K c' x v → Fresh c.H x v → Q v c'.H) (QX X W) → te c.σ c.H Q)
    (hg : ∀ c d v (Q : L2.St → Hp → Prop), SR X.K c → DR X.K c.μ c.H d v → PostS X.K c (mg d c.s) (fun _ c' => Chg l c c' → Q c'.σ c'.H) (QX X W) → gt v c.σ c.H Q) :
    JS X W (fun s => ((m s).bind toVal).bind fun d s1 => (mg d s1).bind fun _ s2 => .ok .nx s2) st := by
  intro b c D hb stb sr p
  refine WpS.of hp ?_
  show te c.σ c.H _
  have p : PostS X.K c (((m c.s).bind toVal).bind fun d s1 => (mg d s1).bind fun _ s2 => .ok .nx s2) (EndR X.K b D) (QX X W) := p
  rw [R.bind_assoc] at p
  refine he c _ sr ((p.bindEB (Stp.refl c)).imp fun x c1 st1 sr1 vs1 p1 v rv fv => ?_)
  obtain ⟨c2, d, eH, s1, s2, s3, s4, p2⟩ := valS st1 vs1 sr1 rv fv p1
  rw [← eH, ← s3.1]
  exact hg c2 d v _ s2 s4 (p2.bind.imp fun _ c3 st3 sr3 q _ => PostS.ok (a := Fl.nx) sr3 q)
/-- name = a list that is the name's own -/
theorem j_own0 {st : Stmt} {te : TE} {m : S → R SV} {i : Nat} (hp : PS X st (tAsg te (gName i))) (he : ∀ c Q, SR X.K c → Post X.K c (m c.s) (fun x c' => ∀ v, SVR X.K c' x v → Fresh c.H x v → Q v c'.H) (QX X W) → te c.σ c.H Q) :
    JS X W (fun s => (m s).bind fun x s1 => match x with
      | .new xs => (setName i (.own xs) s1).bind fun _ s2 => .ok .nx s2
      | _ => .bad) st := by
  intro b c D hb stb sr p
  refine WpS.of hp ?_
  show te c.σ c.H _
  refine he c _ sr ((PostS.bindEB p (Stp.refl c)).imp fun x c1 st1 sr1 vs1 p1 v rv fv => ?_)
  cases x with
  | new xs =>
    have p1 : PostS X.K c ((setName i (.own xs) c1.s).bind fun _ s2 => .ok .nx s2) (EndR X.K b D) (QX X W) := p1
    obtain ⟨a, vs, rfl, q, r, nf, nr⟩ := rv
    have p2 : PostS X.K c (setName i (.own xs) c1.s) (fun _ c' => EndR X.K b D .nx c') (QX X W) := p1.bind.imp fun _ c3 st3 sr3 q => PostS.ok (a := Fl.nx) sr3 q
    obtain ⟨c', e1, e2, _, st', sr', ch, q2⟩ := setName_ok (v := .ref a) sr1 (.inr ⟨xs, a, vs, rfl, rfl, q, r, nf, nr⟩) c st1 (fun ys a' e e' => by cases e'; exact fv a rfl) p2
    show D.nx (c.σ.set i (some (.ref a))) c1.H
    rw [← vs1.1, ← e1, ← e2]
    exact q2
  | val d => exact p1.elim
  | var j => exact p1.elim
/-- what swappedStores says, without the machine -/
def swS (kf : Str → Option NameKind) (t e : Expr) : Option (Option (List Str)) := match t, e with
  | .Tuple ts _ _, .Tuple vs _ _ =>
    if !(ts.length == 2 || ts.length == 3) || vs.length != ts.length then some none
    else if vs.any fun | .Starred .. => true | _ => false then some none
    else
      let line := (ts.head?.map (·.pos.line)).getD 0
      let names := ts.filterMap fun
        | .Name id pos => if kf id == some .local && pos.line == line then some id else none
        | _ => none
      if names.length != ts.length || names.eraseDups.length != names.length then some none
      else if vs.all (foldedForSure 8) then some none
      else if vs.all (constantsAlone 8) then none
      else some (some names)
  | .List _ _, .Tuple _ _ _ => none
  | _, _ => some none
theorem swS_ok {t e : Expr} {env : Env} {r : Option (List Str)} (hk : env.scope.kind = .function) (h : swS env.kindOf t e = some r) : swappedStores [t] e env = pure r := by
  have hb : env.blockKind = .function := by unfold Env.blockKind; rw [hk]; rfl
  unfold swS at h
  split at h
  · rename_i ts kt pt vs kv pv
    unfold swappedStores
    dsimp only
    rw [hb]
    have e0 : (ScopeKind.function != ScopeKind.function) = false := rfl
    rw [e0, Bool.or_false]
    by_cases h1 : (!(ts.length == 2 || ts.length == 3) || vs.length != ts.length) = true
    · rw [if_pos h1] at h ⊢; cases h; rfl
    · rw [if_neg h1] at h ⊢
      split at h
      · rename_i h2
        cases h
        exact if_pos h2
      · rename_i h2
        refine (if_neg h2).trans ?_
        dsimp only at h ⊢
        split at h
        · rename_i h3
          cases h
          exact if_pos h3
        · rename_i h3
          refine (if_neg h3).trans ?_
          split at h
          · rename_i h4
            cases h
            exact if_pos h4
          · rename_i h4
            refine (if_neg h4).trans ?_
            split at h
            · cases h
            · rename_i h5
              cases h
              exact if_neg h5
  · cases h
  · rename_i hn1 hn2
    cases h
    unfold swappedStores
    split
    · rename_i q heq
      split at heq
      · rename_i h1 h2 
        exfalso
        injections
        subst_vars
        exact hn1 _ _ _ _ _ _ rfl rfl
      · exfalso
        injections
        subst_vars
        exact hn2 _ _ _ _ _ rfl rfl
      · cases heq
    · rfl
end
end G

/-! ## GS16 -/
set_option Elab.async false
set_option linter.all false
set_option maxRecDepth 100000
set_option maxHeartbeats 4000000
namespace G
open PySem PySem.Spec PyProof.Rows L2

section
variable {X : Cx} {W : WX}
/-- one value of a row of values -/
theorem stepV {α : Type} {m : S → R SV} {e : Expr} {f : D → S → R α} {Qn : α → Cf → Prop} {Q : VK} {c : Cf} (h : JX X W m e) (sr : SR X.K c) (p : PostS X.K c (((m c.s).bind toVal).bind f) Qn (QX X W))
    (q : ∀ c' d v, Stp c c' → SR X.K c' → Vst c c' → DR X.K c'.μ c'.H d v → PostS X.K c' (f d c'.s) Qn (QX X W) → Q v c'.H) : WpE X e c.σ c.H Q := by
  rw [R.bind_assoc] at p
  refine h c _ sr ((p.bindEB (Stp.refl c)).imp fun x c1 st1 sr1 vs1 p1 v rv fv => ?_)
  obtain ⟨c2, d, eH, s1, s2, s3, s4, p2⟩ := valS st1 vs1 sr1 rv fv p1
  rw [← eH]
  exact q c2 d v s1 s2 s3 s4 p2
theorem stepN {α : Type} {K : PySem.W.Frag} {i : Nat} {d : D} {v : V} {f : S → R α} {Qn : α → Cf → Prop} {Qx : Xc → Cf → Prop} {c : Cf} (sr : SR K c) (r : DR K c.μ c.H d v) (p : PostS K c ((setName i (.val d) c.s).bind fun _ s => f s) Qn Qx) :
    ∃ c' : Cf, c'.σ = c.σ.set i (some v) ∧ c'.H = c.H ∧ Stp c c' ∧ SR K c' ∧ PostS K c' (f c'.s) Qn Qx := by
  have p2 : PostS K c (setName i (.val d) c.s) (fun _ c' => PostS K c' (f c'.s) Qn Qx) Qx := p.bind
  obtain ⟨c', e1, e2, _, st, sr', ch, q⟩ := setName_ok (v := v) sr (.inl ⟨d, rfl, r⟩) c (Stp.refl c) (fun _ _ e => by cases e) p2
  exact ⟨c', e1, e2, st, sr', q⟩
theorem j_par2 {i j : Nat} {x y : Str} {a b : Expr} {px py pt pos pt2 : Pos} {kt k2 : Nat} {ma mb : S → R SV} (hc : X.calm = true) (hN : X.N.Nodup) (hi : X.N[i]? = some x) (hj : X.N[j]? = some y) (hij : i ≠ j)
    (hx : X.env.scope.names.lookup x = some .local) (hy : X.env.scope.names.lookup y = some .local) (sa : notStar a = true) (sb : notStar b = true)
    (hw : swappedStores [.Tuple [.Name x px, .Name y py] kt pt] (.Tuple [a, b] k2 pt2) X.env = pure (some [x, y])) (ha : JX X W ma a) (hb : JX X W mb b) :
    JS X W (fun s => ((ma s).bind toVal).bind fun x s1 => ((mb s1).bind toVal).bind fun y s2 => (setName i (.val x) s2).bind fun _ s3 => (setName j (.val y) s3).bind fun _ s4 => .ok .nx s4)
      (.Assign [.Tuple [.Name x px, .Name y py] kt pt] (.Tuple [a, b] k2 pt2) pos) := by
  intro bb c D hb' stb sr p
  refine WpS.of (ps_par hc hN hi hj hij hx hy (pa_cons (peW a) (pa_cons (peW b) pa_nil (star_cons sb)) (star_cons sa)) hw) ?_
  refine stepV ha sr p fun c1 d1 v1 st1 sr1 vs1 r1 p1 => ?_
  rw [← vs1.1]
  refine stepV hb sr1 p1 fun c2 d2 v2 st2 sr2 vs2 r2 p2 => ?_
  refine ⟨v1, v2, rfl, ?_⟩
  obtain ⟨c3, e3, h3, st3, sr3, p3⟩ := stepN (i := i) (f := fun s3 => (setName j (.val d2) s3).bind fun _ s4 => R.ok Fl.nx s4) sr2 (st2.dr r1) p2
  obtain ⟨c4, e4, h4, st4, sr4, p4⟩ := stepN (i := j) (f := fun s4 => R.ok Fl.nx s4) sr3 (st3.dr r2) p3
  have z := PostS.ok (a := Fl.nx) sr4 p4
  have z : D.nx c4.σ c4.H := z
  rw [e4, e3, h4, h3, vs2.1] at z
  exact z
theorem j_par3 {i j l : Nat} {x y z : Str} {a b e : Expr} {px py pz pt pos pt2 : Pos} {kt k2 : Nat} {ma mb me : S → R SV} (hc : X.calm = true) (hN : X.N.Nodup) (hi : X.N[i]? = some x) (hj : X.N[j]? = some y) (hl : X.N[l]? = some z) (hij : i ≠ j) (hil : i ≠ l) (hjl : j ≠ l)
    (hx : X.env.scope.names.lookup x = some .local) (hy : X.env.scope.names.lookup y = some .local) (hz : X.env.scope.names.lookup z = some .local) (sa : notStar a = true) (sb : notStar b = true) (se : notStar e = true)
    (hw : swappedStores [.Tuple [.Name x px, .Name y py, .Name z pz] kt pt] (.Tuple [a, b, e] k2 pt2) X.env = pure (some [x, y, z])) (ha : JX X W ma a) (hb : JX X W mb b) (he : JX X W me e) :
    JS X W (fun s => ((ma s).bind toVal).bind fun x s1 => ((mb s1).bind toVal).bind fun y s2 => ((me s2).bind toVal).bind fun z s3 => (setName i (.val x) s3).bind fun _ s4 => (setName j (.val y) s4).bind fun _ s5 => (setName l (.val z) s5).bind fun _ s6 => .ok .nx s6)
      (.Assign [.Tuple [.Name x px, .Name y py, .Name z pz] kt pt] (.Tuple [a, b, e] k2 pt2) pos) := by
  intro bb c D hb' stb sr p
  refine WpS.of (ps_par3 hc hN hi hj hl hij hil hjl hx hy hz (pa_cons (peW a) (pa_cons (peW b) (pa_cons (peW e) pa_nil (star_cons se)) (star_cons sb)) (star_cons sa)) hw) ?_
  refine stepV ha sr p fun c1 d1 v1 st1 sr1 vs1 r1 p1 => ?_
  rw [← vs1.1]
  refine stepV hb sr1 p1 fun c2 d2 v2 st2 sr2 vs2 r2 p2 => ?_
  rw [← vs2.1]
  refine stepV he sr2 p2 fun c3 d3 v3 st3 sr3 vs3 r3 p3 => ?_
  refine ⟨v1, v2, v3, rfl, ?_⟩
  obtain ⟨c4, e4, h4, st4, sr4, p4⟩ := stepN (i := i) (f := fun s4 => (setName j (.val d2) s4).bind fun _ s5 => (setName l (.val d3) s5).bind fun _ s6 => R.ok Fl.nx s6) sr3 ((st2.trans st3).dr r1) p3
  obtain ⟨c5, e5, h5, st5, sr5, p5⟩ := stepN (i := j) (f := fun s5 => (setName l (.val d3) s5).bind fun _ s6 => R.ok Fl.nx s6) sr4 ((st3.trans st4).dr r2) p4
  obtain ⟨c6, e6, h6, st6, sr6, p6⟩ := stepN (i := l) (f := fun s6 => R.ok Fl.nx s6) sr5 ((st4.trans st5).dr r3) p5
  have z := PostS.ok (a := Fl.nx) sr6 p6
  have z : D.nx c6.σ c6.H := z
  rw [e6, e5, e4, h6, h5, h4, vs3.1] at z
  exact z
theorem j_if {t : Expr} {a b : List Stmt} {mt : S → R Bool} {ma mb : S → R Fl} {pos : Pos} (ht : JT X W mt t) (ha : JSs X W ma a) (hb : JSs X W mb b) : JS X W (fun s => (mt s).bind fun k s1 => if k then ma s1 else mb s1) (.If t a b pos) := by
  intro bb c D hbb stb sr p
  refine WpS.of (ps_if (ptW t) (pssW a) (pssW b)) ?_
  refine ht c _ sr (p.bindE.imp fun k c1 st1 sr1 vs1 p1 => ?_)
  rw [← vs1.1]
  cases k with
  | true => exact ha bb c1 D hbb (stb.trans st1) sr1 p1
  | false => exact hb bb c1 D hbb (stb.trans st1) sr1 p1
theorem j_whl {t : Expr} {body : List Stmt} {mt : S → R Bool} {mb : S → R Fl} {n : Nat} {pos : Pos} (hp : PassesOwn (model X.prog X.w) X.A X.env X.xe) (ht : JT X W mt t) (hb : JSs X W mb body) : JS X W (fun s => whlL mt mb n s) (.While t body [] pos) := by
  intro bb c D hbb stb sr p
  refine WpS.of (ps_while hp (ptW t) (pssW body)) ?_
  refine ⟨fun m σ H => ∃ ci : Cf, ci.σ = σ ∧ ci.H = H ∧ Bse bb ci ∧ SR X.K ci ∧ PostS X.K ci (whlL mt mb m ci.s) (EndR X.K bb D) (QX X W), ⟨n, c, rfl, rfl, stb, sr, p⟩, ?_⟩
  rintro m σ H ⟨ci, rfl, rfl, sti, sri, pi⟩
  cases m with
  | zero => exact pi.elim
  | succ m =>
    rw [whlL] at pi
    refine ht ci _ sri (pi.bindE.imp fun k c1 st1 sr1 vs1 p1 => ?_)
    rw [← vs1.1]
    cases k with
    | false => exact (PostS.ok (a := Fl.nx) (Qn := EndR X.K bb D) (Qx := QX X W) sr1 p1)
    | true =>
      rw [if_pos rfl]
      refine ⟨fun σ' H' => ∃ c' : Cf, c'.σ = σ' ∧ c'.H = H' ∧ Bse bb c' ∧ SR X.K c' ∧ PostS X.K c' (whlL mt mb m c'.s) (EndR X.K bb D) (QX X W), fun σ' H' z => ⟨m, Nat.lt_succ_self m, z⟩, ?_⟩
      refine hb bb c1 _ hbb (sti.trans st1) sr1 ?_
      have p1 : PostS X.K c1 ((mb c1.s).bind fun f s2 => (match f with
        | .nx => whlL mt mb m s2
        | .ct => whlL mt mb m s2
        | .bk => .ok .nx s2
        | .rt o => .ok (.rt o) s2)) (EndR X.K bb D) (QX X W) := p1
      refine p1.bind.imp fun f c2 st2 sr2 p2 => ?_
      cases f with
      | nx => exact ⟨c2, rfl, rfl, (sti.trans st1).trans st2, sr2, p2⟩
      | ct => exact ⟨c2, rfl, rfl, (sti.trans st1).trans st2, sr2, p2⟩
      | bk => exact (PostS.ok (a := Fl.nx) (Qn := EndR X.K bb D) (Qx := QX X W) sr2 p2)
      | rt o => exact (PostS.ok (a := Fl.rt o) (Qn := EndR X.K bb D) (Qx := QX X W) sr2 p2)
theorem unl_post {c1 bb : Cf} {lks : List (Nat × List D)} {r : R Fl} {D : Ends} (sr : SR X.K c1) (hl : LkOk c1 lks) (p : PostS X.K c1 (unl lks r) (EndR X.K bb D) (QX X W)) : PostS X.K (c1.lock lks) r (EndR X.K bb D) (QX X W) := by
  cases r with
  | bad => exact p
  | ok f s =>
    intro c' e st sr'
    subst e
    obtain ⟨u1, u2, _⟩ := unlock_ok sr hl st sr'
    have z := p (c1.unlock c' lks) rfl u1 u2
    cases f with
    | nx => exact z
    | bk => exact z
    | ct => exact z
    | rt o =>
      intro v rv
      refine z v ?_
      cases o with
      | val d => exact rv
      | own xs => exact rv
      | no => exact rv
      | ro xs => exact rv
  | exc x s =>
    intro c' e st sr' cls d xr
    subst e
    obtain ⟨u1, u2, _⟩ := unlock_ok sr hl st sr'
    refine p (c1.unlock c' lks) rfl u1 u2 cls d ?_
    obtain ⟨C, fs, h1, h2, h3⟩ := xr
    refine ⟨C, fs, h1, h2, ?_⟩
    rcases h3 with h3 | ⟨a, h3, h4, h5, h6, h7⟩
    · exact .inl h3
    · have h4' : (c1.unlock c' lks).H a = some (.xd fs) := h4
      have nf : ¬ Foot (c1.unlock c' lks) a := fun ff => by
        obtain ⟨ws, e, w⟩ := u2.foot ff
        rw [h4'] at e; cases e; exact w.elim
      exact .inr ⟨a, h3, h4', nf, h6, h7⟩
theorem j_for {tg it : Expr} {body : List Stmt} {mi : S → R Itm} {mg : D → S → R Unit} {mb : S → R Fl} {l : List Nat} {pos : Pos} (hc : X.calm = true) (hp : PassesOwn (model X.prog X.w) X.A X.env X.xe) (hs : ∀ x, foldedSetIterable it X.env x = pure x)
    (hi : JI X W mi tg it) (hg : JG X W mg l tg) (hb : JSs X W mb body) :
    JS X W (fun s => (mi s).bind fun m s1 => unl m.lks (forL m.ok (fun x s2 => (mg x s2).bind fun _ s3 => mb s3) m.xs ⟨lock s1.v m.lks, s1.M⟩)) (.For tg it body [] pos) := by
  intro bb c D hbb stb sr p
  refine WpS.of (ps_for hp hc (piW tg it) (pgW tg) (pssW body) hs) ?_
  refine hi c _ sr (p.bindE.imp fun im c1 st1 sr1 vs1 p1 J lk itr => ?_)
  have pL := unl_post (X := X) sr1 lk p1
  have srL := sr1.lock lk
  have stL : Bse bb (c1.lock im.lks) := by
    have z := stb.trans st1
    exact ⟨z.pre, fun b f => z.grow b (lock_foot f), z.trk⟩
  refine ⟨fun i m σ H => m = im.xs.length - i ∧ i ≤ im.xs.length ∧ ∃ ci : Cf, ci.σ = σ ∧ ci.H = H ∧ Stp (c1.lock im.lks) ci ∧ SR X.K ci ∧ PostS X.K ci (forL im.ok (fun x s2 => (mg x s2).bind fun _ s3 => mb s3) (im.xs.drop i) ci.s) (EndR X.K bb D) (QX X W),
    ⟨_, rfl, Nat.zero_le _, c1.lock im.lks, vs1.1, rfl, Stp.refl _, srL, by rw [List.drop_zero]; exact pL⟩, ?_⟩
  rintro i m σ H ⟨hm, hle, ci, rfl, rfl, sti, sri, pi⟩
  by_cases hend : i = im.xs.length
  · left
    have e0 : im.xs.drop i = [] := by rw [hend, List.drop_length]
    rw [e0, forL] at pi
    by_cases hok : im.ok ci.s = true
    · rw [if_pos hok] at pi
      exact ⟨(itr ci sti.stq sri hok i).2 (by omega), PostS.ok (a := Fl.nx) sri pi⟩
    · rw [if_neg hok] at pi; exact pi.elim
  · right
    have hlt : i < im.xs.length := by omega
    have e0 : im.xs.drop i = im.xs[i] :: im.xs.drop (i + 1) := List.drop_eq_getElem_cons hlt
    rw [e0, forL] at pi
    by_cases hok : im.ok ci.s = true
    case neg => rw [if_neg hok] at pi; exact pi.elim
    rw [if_pos hok] at pi
    obtain ⟨hgo, hy⟩ := (itr ci sti.stq sri hok i).1 _ (List.getElem?_eq_getElem hlt)
    refine ⟨hgo, fun σ' H' => (∃ m', m' < m ∧ (m' = im.xs.length - (i + 1) ∧ i + 1 ≤ im.xs.length ∧ ∃ ci : Cf, ci.σ = σ' ∧ ci.H = H' ∧ Stp (c1.lock im.lks) ci ∧ SR X.K ci ∧ PostS X.K ci (forL im.ok (fun x s2 => (mg x s2).bind fun _ s3 => mb s3) (im.xs.drop (i + 1)) ci.s) (EndR X.K bb D) (QX X W))), fun _ _ z => z, fun v H' hyl => ?_⟩
    obtain ⟨c3, e1, e2, e3, st3, sr3, dr3⟩ := hy v H' hyl
    subst e3
    rw [← e2]
    have pi : PostS X.K ci (((mg im.xs[i] ci.s).bind fun _ s3 => mb s3).bind fun f s1 => (match f with
      | .nx => forL im.ok (fun x s2 => (mg x s2).bind fun _ s3 => mb s3) (im.xs.drop (i + 1)) s1
      | .ct => forL im.ok (fun x s2 => (mg x s2).bind fun _ s3 => mb s3) (im.xs.drop (i + 1)) s1
      | .bk => .ok .nx s1
      | .rt o => .ok (.rt o) s1)) (EndR X.K bb D) (QX X W) := pi
    rw [R.bind_assoc] at pi
    have p3 := PostS.later st3 pi
    rw [← e1] at p3
    refine hg c3 im.xs[i] v _ sr3 dr3 (p3.bind.imp fun _ c4 st4 sr4 p4 _ => ?_)
    have s4 : Stp (c1.lock im.lks) c4 := (sti.trans st3).trans st4
    refine hb bb c4 _ hbb (stL.trans s4) sr4 (p4.bind.imp fun f c5 st5 sr5 p5 => ?_)
    cases f with
    | nx => exact ⟨_, by omega, rfl, by omega, c5, rfl, rfl, s4.trans st5, sr5, p5⟩
    | ct => exact ⟨_, by omega, rfl, by omega, c5, rfl, rfl, s4.trans st5, sr5, p5⟩
    | bk => exact (PostS.ok (a := Fl.nx) (Qn := EndR X.K bb D) (Qx := QX X W) sr5 p5)
    | rt o => exact (PostS.ok (a := Fl.rt o) (Qn := EndR X.K bb D) (Qx := QX X W) sr5 p5)
end
end G

/-! ## GS17 -/
set_option Elab.async false
set_option linter.all false
set_option maxRecDepth 100000
set_option maxHeartbeats 4000000
namespace G
open PySem PySem.Spec PyProof.Rows L2

/-! ### the look at statements -/
def locN (k : Cc) (x : Str) : Bool := k.sc.names.lookup x == some .local
def kfn (k : Cc) : Str → Option NameKind := fun x => k.sc.names.lookup x
def fnB (k : Cc) : Bool := match k.sc.kind with
  | .function => true
  | _ => false
/-- name = [.. for ..] on one line, the name a local -/
def swapB (k : Cc) (y : Str) (py : Pos) (v : Expr) : Bool := match v with
  | .ListComp _ [⟨_, _, _, 0⟩] scope pos => (py.line == pos.line) && !(scope.names.any fun (n, k) => n == y && (k == .local || k == .cell))
  | _ => false
def plainT (k : Cc) (t v : Expr) : Bool := fnB k && (notStar t && (notComp v && decide (swS (kfn k) t v = some none)))
mutual
def mtS (g : GI) (k : Cc) : Stm → Stmt → Bool
  | .ex e, st => (match st with
    | .Expr v _ => notComp v && mtX g k e v
    | _ => false)
  | .asg t e, st => (match st with
    | .Assign [tg] v _ => (plainT k tg v && (mtG g k t tg && mtX g k e v)) || (match t, tg with
      | .name i, .Name y py => fnB k && (decide (k.N[i]? = some y) && (locN k y && (swapB k y py v && mtX g k e v)))
      | _, _ => false)
    | _ => false)
  | .own i e, st => (match st with
    | .Assign [.Name y py] v _ => (plainT k (.Name y py) v && (storeB k i y && mtX g k e v)) || (fnB k && (decide (k.N[i]? = some y) && (locN k y && (swapB k y py v && mtX g k e v))))
    | _ => false)
  | .par2 i j a b, st => (match st with
    | .Assign [.Tuple [.Name x px, .Name y py] kt pt] (.Tuple [l, r] k2 p2) _ => fnB k && (decide (k.N[i]? = some x) && (decide (k.N[j]? = some y) && (decide (i ≠ j) && (locN k x && (locN k y && (notStar l && (notStar r && (mtX g k a l && (mtX g k b r &&
        decide (swS (kfn k) (.Tuple [.Name x px, .Name y py] kt pt) (.Tuple [l, r] k2 p2) = some (some [x, y])))))))))))
    | _ => false)
  | .par3 i j h a b e, st => (match st with
    | .Assign [.Tuple [.Name x px, .Name y py, .Name z pz] kt pt] (.Tuple [l, r, q] k2 p2) _ => fnB k && (decide (k.N[i]? = some x) && (decide (k.N[j]? = some y) && (decide (k.N[h]? = some z) && (decide (i ≠ j) && (decide (i ≠ h) && (decide (j ≠ h) &&
        (locN k x && (locN k y && (locN k z && (notStar l && (notStar r && (notStar q && (mtX g k a l && (mtX g k b r && (mtX g k e q &&
        decide (swS (kfn k) (.Tuple [.Name x px, .Name y py, .Name z pz] kt pt) (.Tuple [l, r, q] k2 p2) = some (some [x, y, z])))))))))))))))))
    | _ => false)
  | .aug _ _ _, _ => false
  | .ret e, st => (match st with
    | .Return (some v) _ => mtX g k e v
    | _ => false)
  | .retN, st => (match st with
    | .Return none _ => true
    | _ => false)
  | .ite t a b, st => (match st with
    | .If c p q _ => mtT g k t c && (mtSs g k a p && mtSs g k b q)
    | _ => false)
  | .whl t b, st => (match st with
    | .While c p [] _ => mtT g k t c && mtSs g k b p
    | _ => false)
  | .fors t it b, st => (match st with
    | .For tg i p [] _ => mtG g k t tg && (mtI g k it tg i && (mtSs g k b p && notSet i))
    | _ => false)
  | .pass, st => (match st with
    | .Pass _ => true
    | .Expr (.Constant (.str _) _ _) _ => true
    | _ => false)
  | .brk, st => (match st with
    | .Break _ => true
    | _ => false)
  | .cnt, st => (match st with
    | .Continue _ => true
    | _ => false)
def mtSs (g : GI) (k : Cc) : Stms → List Stmt → Bool
  | .nil, ss => (match ss with
    | [] => true
    | _ => false)
  | .cons a as, ss => (match ss with
    | s :: ss => mtS g k a s && mtSs g k as ss
    | [] => false)
end
structure CkS (X : Cx) (W : WX) (k : Cc) (g : GI) (n : Nat) : Prop extends Ck X W k g n where
  po : PassesOwn (model X.prog X.w) X.A X.env X.xe
section
variable {X : Cx} {W : WX} {k : Cc} {g : GI} {n : Nat}
theorem CkS.fnk (K : CkS X W k g n) (h : fnB k = true) : X.env.scope.kind = .function := by
  rw [K.sc]
  unfold fnB at h
  split at h
  · assumption
  · cases h
theorem CkS.sws (K : CkS X W k g n) {t e : Expr} {r : Option (List Str)} (hf : fnB k = true) (h : swS (kfn k) t e = some r) : swappedStores [t] e X.env = pure r := by
  refine swS_ok (K.fnk hf) ?_
  have : X.env.kindOf = kfn k := by
    funext x
    show X.env.scope.names.lookup x = _
    rw [K.sc]; rfl
  rw [this]; exact h
theorem CkS.loc (K : CkS X W k g n) {x : Str} (h : locN k x = true) : X.env.scope.names.lookup x = some .local := by
  rw [K.sc]
  exact beq_iff_eq.mp h
theorem plain_asg (K : CkS X W k g n) {tg v : Expr} {pos : Pos} {te : TE} {gt : TG} (h : plainT k tg v = true) (he : PE X v te) (hg : PG X tg gt) : PS X (.Assign [tg] v pos) (tAsg te gt) := by
  unfold plainT at h
  simp only [Bool.and_eq_true, decide_eq_true_eq] at h
  obtain ⟨h1, h2, h3, h4⟩ := h
  exact ps_asg he hg (noSwap h3) (K.sws h1 h4) (assign_cons h2)
/-- the name of a comprehension -/
theorem swap_asg (K : CkS X W k g n) {i : Nat} {y : Str} {py pos : Pos} {v : Expr} {e : Ex} (hf : fnB k = true) (hN : k.N[i]? = some y) (hl : locN k y = true) (hs : swapB k y py v = true) (he : mtX g k e v = true) :
    ∃ te : TE, PS X (.Assign [.Name y py] v pos) (tAsg te (gName i)) ∧ ∀ c Q, SR X.K c → Post X.K c (evX (cnOf g n) e c.s) (fun x c' => ∀ v, SVR X.K c' x v → Fresh c.H x v → Q v c'.H) (QX X W) → te c.σ c.H Q := by
  unfold swapB at hs
  split at hs
  · rename_i elt t it fs scope vp
    rw [Bool.and_eq_true] at hs
    cases e with
    | comp elt' tg' it' ifs' own' =>
      rw [mtX] at he
      simp only [Bool.and_eq_true, decide_eq_true_eq] at he
      obtain ⟨h1, h2, h3, h4, h5, h6, h7, h8⟩ := he
      have ok := blkOk_by h2
      rw [← K.N, ← K.sc] at ok
      obtain ⟨te, pt, ht, hst⟩ := j_comp (pos := vp) (own := own') (l := tgN tg') K.calm (by rw [K.N]; exact K.nd) (sI it' K.toCk _ _ h1) ok h3 (fun i hi => by
          have := List.all_eq_true.mp h4 i hi
          simpa using this)
        (fun s H C cl fp => sG tg' (K.toCk.blk s H C cl fp) _ h5) (fun s H C cl fp => sF ifs' (K.toCk.blk s H C cl fp) _ h6) (fun s H C cl fp => sX elt' (K.toCk.blk s H C cl fp) _ h7) (notSet_fold h8)
      refine ⟨te, hst i y py pos (by rw [K.N]; exact hN) (K.loc hl) (sw_true (K.fnk hf) (K.loc hl) hs.1 ?_), fun c Q sr p => ?_⟩
      · have := hs.2
        simpa using this
      · rw [evX] at p
        exact ht c Q sr p
    | _ => simp only [mtX] at he; cases he
  · cases hs
end
theorem sS_asg {g : GI} {k : Cc} {t : Tg} {e : Ex} {st : Stmt} (h : mtS g k (.asg t e) st = true) : (∃ tg v pos, st = .Assign [tg] v pos ∧ plainT k tg v = true ∧ mtG g k t tg = true ∧ mtX g k e v = true) ∨
    ∃ i y py v pos, st = .Assign [.Name y py] v pos ∧ t = .name i ∧ fnB k = true ∧ k.N[i]? = some y ∧ locN k y = true ∧ swapB k y py v = true ∧ mtX g k e v = true := by
  rw [mtS.eq_def] at h
  dsimp only at h
  split at h
  · rw [Bool.or_eq_true] at h
    rcases h with h | h
    · simp only [Bool.and_eq_true] at h
      exact .inl ⟨_, _, _, rfl, h.1, h.2.1, h.2.2⟩
    · split at h
      · simp only [Bool.and_eq_true, decide_eq_true_eq] at h
        obtain ⟨h1, h2, h3, h4, h5⟩ := h
        exact .inr ⟨_, _, _, _, _, rfl, rfl, h1, h2, h3, h4, h5⟩
      · cases h
  · cases h
theorem sS_own {g : GI} {k : Cc} {i : Nat} {e : Ex} {st : Stmt} (h : mtS g k (.own i e) st = true) : ∃ y py v pos, st = .Assign [.Name y py] v pos ∧ mtX g k e v = true ∧ ((plainT k (.Name y py) v = true ∧ storeB k i y = true) ∨ (fnB k = true ∧ k.N[i]? = some y ∧ locN k y = true ∧ swapB k y py v = true)) := by
  rw [mtS.eq_def] at h
  dsimp only at h
  split at h
  · rw [Bool.or_eq_true] at h
    rcases h with h | h
    · simp only [Bool.and_eq_true] at h
      exact ⟨_, _, _, _, rfl, h.2.2, .inl ⟨h.1, h.2.1⟩⟩
    · simp only [Bool.and_eq_true, decide_eq_true_eq] at h
      obtain ⟨h1, h2, h3, h4, h5⟩ := h
      exact ⟨_, _, _, _, rfl, h5, .inr ⟨h1, h2, h3, h4⟩⟩
  · cases h
mutual
theorem sS {g : GI} {n : Nat} : ∀ (a : Stm) {X : Cx} {W : WX} {k : Cc} (K : CkS X W k g n) (st : Stmt), mtS g k a st = true → JS X W (evS (cnOf g n) a) st
  | .ex e, X, W, k, K, st, h => by
    rw [mtS.eq_def] at h
    dsimp only at h
    split at h
    · rw [Bool.and_eq_true] at h
      intro b c D hb stb sr p; rw [evS] at p; exact j_ex h.1 (sX e K.toCk _ h.2) b c D hb stb sr p
    · cases h
  | .asg t e, X, W, k, K, st, h => by
    rcases sS_asg h with ⟨tg, v, pos, rfl, h1, h2, h3⟩ | ⟨i, y, py, v, pos, rfl, rfl, h1, h2, h3, h4, h5⟩
    · intro b c D hb stb sr p; rw [evS] at p
      exact j_asg0 (tg := tg) (e := v) (l := tgN t) (plain_asg K h1 (peW v) (pgW tg)) (sX e K.toCk _ h3) (fun c d v Q sr r q => sG t K.toCk _ h2 c d v Q sr r q) b c D hb stb sr p
    · obtain ⟨te, h6, h7⟩ := swap_asg (W := W) (n := n) (pos := pos) K h1 h2 h3 h4 h5
      intro b c D hb stb sr p; rw [evS] at p
      refine j_asg0 (tg := .Name y py) (e := v) (l := [i]) (mg := fun d s => setName i (.val d) s) h6 h7 (fun c d v Q sr r q => ?_) b c D hb stb sr (by simp only [evG] at p; exact p)
      obtain ⟨c', e1, e2, _, st, sr', ch, q⟩ := setName_ok (v := v) sr (.inl ⟨d, rfl, r⟩) c (Stp.refl c) (fun _ _ e => by cases e) q
      have q := q ch
      rw [e1, e2] at q
      exact q
  | .own i e, X, W, k, K, st, h => by
    obtain ⟨y, py, v, pos, rfl, h1, h2⟩ := sS_own h
    intro b c D hb stb sr p; rw [evS] at p
    rcases h2 with ⟨h2, h3⟩ | ⟨h2, h3, h4, h5⟩
    · obtain ⟨s1, s2, s3⟩ := K.toCk.store h3
      exact j_own0 (plain_asg K h2 (peW v) (pg_name (by rw [K.N]; exact K.nd) s1 s2 s3)) (sX e K.toCk _ h1) b c D hb stb sr p
    · obtain ⟨te, h6, h7⟩ := swap_asg (W := W) (n := n) (pos := pos) K h2 h3 h4 h5 h1
      exact j_own0 h6 h7 b c D hb stb sr p
  | .par2 i j a b, X, W, k, K, st, h => by
    rw [mtS.eq_def] at h
    dsimp only at h
    split at h
    · simp only [Bool.and_eq_true, decide_eq_true_eq] at h
      obtain ⟨h1, h2, h3, h4, h5, h6, h7, h8, h9, h10, h11⟩ := h
      intro bb c D hb stb sr p; rw [evS] at p
      exact j_par2 K.calm (by rw [K.N]; exact K.nd) (by rw [K.N]; exact h2) (by rw [K.N]; exact h3) h4 (K.loc h5) (K.loc h6) h7 h8 (K.sws h1 h11) (sX a K.toCk _ h9) (sX b K.toCk _ h10) bb c D hb stb sr p
    · cases h
  | .par3 i j l a b e, X, W, k, K, st, h => by
    rw [mtS.eq_def] at h
    dsimp only at h
    split at h
    · simp only [Bool.and_eq_true, decide_eq_true_eq] at h
      obtain ⟨h1, h2, h3, h4, h5, h6, h7, h8, h9, h10, h11, h12, h13, h14, h15, h16, h17⟩ := h
      intro bb c D hb stb sr p; rw [evS] at p
      exact j_par3 K.calm (by rw [K.N]; exact K.nd) (by rw [K.N]; exact h2) (by rw [K.N]; exact h3) (by rw [K.N]; exact h4) h5 h6 h7 (K.loc h8) (K.loc h9) (K.loc h10) h11 h12 h13 (K.sws h1 h17) (sX a K.toCk _ h14) (sX b K.toCk _ h15) (sX e K.toCk _ h16) bb c D hb stb sr p
    · cases h
  | .aug i op e, X, W, k, K, st, h => by
    rw [mtS.eq_def] at h
    cases h
  | .ret e, X, W, k, K, st, h => by
    rw [mtS.eq_def] at h
    dsimp only at h
    split at h
    · intro b c D hb stb sr p; rw [evS] at p; exact j_ret (sX e K.toCk _ h) b c D hb stb sr p
    · cases h
  | .retN, X, W, k, K, st, h => by
    rw [mtS.eq_def] at h
    dsimp only at h
    split at h
    · intro b c D hb stb sr p; rw [evS] at p; exact j_retN b c D hb stb sr p
    · cases h
  | .ite t a b, X, W, k, K, st, h => by
    rw [mtS.eq_def] at h
    dsimp only at h
    split at h
    · simp only [Bool.and_eq_true] at h
      intro bb c D hb stb sr p; rw [evS] at p; exact j_if (sT t K.toCk _ h.1) (sSs a K _ h.2.1) (sSs b K _ h.2.2) bb c D hb stb sr p
    · cases h
  | .whl t b, X, W, k, K, st, h => by
    rw [mtS.eq_def] at h
    dsimp only at h
    split at h
    · simp only [Bool.and_eq_true] at h
      intro bb c D hb stb sr p; rw [evS] at p; generalize WF = w at p; exact j_whl (n := w) K.po (sT t K.toCk _ h.1) (sSs b K _ h.2) bb c D hb stb sr p
    · cases h
  | .fors t it b, X, W, k, K, st, h => by
    rw [mtS.eq_def] at h
    dsimp only at h
    split at h
    · simp only [Bool.and_eq_true] at h
      obtain ⟨h1, h2, h3, h4⟩ := h
      intro bb c D hb stb sr p; rw [evS] at p; exact j_for K.calm K.po (notSet_fold h4) (sI it K.toCk _ _ h2) (sG t K.toCk _ h1) (sSs b K _ h3) bb c D hb stb sr p
    · cases h
  | .pass, X, W, k, K, st, h => by
    rw [mtS.eq_def] at h
    dsimp only at h
    split at h
    · intro b c D hb stb sr p; rw [evS] at p; exact j_pass b c D hb stb sr p
    · intro b c D hb stb sr p; rw [evS] at p; exact j_doc b c D hb stb sr p
    · cases h
  | .brk, X, W, k, K, st, h => by
    rw [mtS.eq_def] at h
    dsimp only at h
    split at h
    · intro b c D hb stb sr p; rw [evS] at p; exact j_brk b c D hb stb sr p
    · cases h
  | .cnt, X, W, k, K, st, h => by
    rw [mtS.eq_def] at h
    dsimp only at h
    split at h
    · intro b c D hb stb sr p; rw [evS] at p; exact j_cnt b c D hb stb sr p
    · cases h
theorem sSs {g : GI} {n : Nat} : ∀ (a : Stms) {X : Cx} {W : WX} {k : Cc} (K : CkS X W k g n) (st : List Stmt), mtSs g k a st = true → JSs X W (evSs (cnOf g n) a) st
  | .nil, X, W, k, K, st, h => by
    rw [mtSs.eq_def] at h
    dsimp only at h
    split at h
    · intro b c D hb stb sr p; rw [evSs] at p; exact j_nil b c D hb stb sr p
    · cases h
  | .cons a as, X, W, k, K, st, h => by
    rw [mtSs.eq_def] at h
    dsimp only at h
    split at h
    · rw [Bool.and_eq_true] at h
      intro b c D hb stb sr p; rw [evSs] at p; exact j_cons (sS a K _ h.1) (sSs as K _ h.2) b c D hb stb sr p
    · cases h
end
end G

/-! ## GS18 -/
set_option Elab.async false
set_option linter.all false
set_option maxRecDepth 100000
set_option maxHeartbeats 4000000
namespace G
open PySem PySem.Spec PyProof.Rows L2

/-! ### defs -/
/-- what the module's names are -/
structure GH (K : PySem.W.Frag) (mg : Str → Option Value) (g : GI) : Prop where
  fr : ∀ x, g.fr.contains x = true → mg x = none
  gcd : g.gcd = true → mg "gcd" = some (.builtin "math.gcd")
  gl : ∀ x d, g.gl x = some d → ∃ u v, mg x = some u ∧ RelV v u ∧ ∀ μ H, DR K μ H d v
/-- a def as it stands: its text is the term -/
structure FnK (K : PySem.W.Frag) (mg : Str → Option Value) (g : GI) (f : Str) (fd : Fn) (a : Addr) (fdt : FuncData) : Prop where
  ex : ∃ (qual : Str) (params : Arguments) (body : List Stmt) (scope : Scope) (dvs : List V) (kws : List (Str × V)), FunD K f qual params body scope dvs kws a fdt ∧ mg f = some (.ref a) ∧
    FnScope fd.N fd.ps scope ∧ mtSs g ⟨fd.N, scope, fun _ => true⟩ fd.body body = true
  dfl : ∀ k, k ≤ fd.dfl.length → ∃ dvs ds, Vals dvs ds ∧ (∀ μ H, DRs K μ H (fd.dfl.drop (fd.dfl.length - k)) dvs) ∧ Binds K fdt fd.ps ds
  kw : ∀ ks, ks ∈ g.kw f → ∀ (s : Shared) (ws ys : List Value), K.In s.heap → ws.length = ks.length → pick (ks.zip ws) fd.ps = some ys → BindsTo s fdt ⟨[], ks.zip ws⟩ (fd.ps.zip ys)
section
variable {P : Program} {w : World} {K : PySem.W.Frag} {mg : Str → Option Value} {base : Heap} {g : GI}
/-- the configuration at a def's entry -/
def entry (N : List Str) (c0 : Cf) (as : List Slot) (vs : List V) (m : Nat) : Cf := { μ := c0.μ, ρ := c0.ρ, s := ⟨as ++ List.replicate m .no, c0.s.M⟩, σ := start N vs, H := c0.H }
theorem args_get {c : Cf} : ∀ {as : List Slot} {vs : List V} {i : Nat} {x : Slot}, ArgRs K c as vs → as[i]? = some x → ∃ v, vs[i]? = some v ∧ ArgR K c x v
  | [], _, _, _, _, e => by simp at e
  | y :: ys, _, i, x, ⟨v, r, e1, q, z⟩, e => by
    subst e1
    cases i with
    | zero => simp at e; subst e; exact ⟨v, rfl, q⟩
    | succ i => simp at e; obtain ⟨u, h1, h2⟩ := args_get z e; exact ⟨u, by simpa using h1, h2⟩
theorem entry_slot {N : List Str} {c0 : Cf} {as : List Slot} {vs : List V} {m : Nat} (r : ArgRs K c0 as vs) {i : Nat} {x : Slot} (h : (entry N c0 as vs m).s.v[i]? = some x) :
    x = .no ∨ ∃ v, (entry N c0 as vs m).σ[i]? = some (some v) ∧ ArgR K c0 x v := by
  have h : (as ++ List.replicate m Slot.no)[i]? = some x := h
  by_cases hi : i < as.length
  · rw [List.getElem?_append_left hi] at h
    obtain ⟨v, h1, h2⟩ := args_get r h
    refine .inr ⟨v, ?_, h2⟩
    show (start N vs)[i]? = _
    unfold L2.start
    rw [List.getElem?_append_left (by rw [List.length_map, r.length]; exact hi), List.getElem?_map, h1]; rfl
  · rw [List.getElem?_append_right (by omega)] at h
    have := List.mem_of_getElem? h
    rw [List.mem_replicate] at this
    exact .inl this.2
theorem entry_noown {N : List Str} {c0 : Cf} {as : List Slot} {vs : List V} {m : Nat} (r : ArgRs K c0 as vs) : NoOwn (entry N c0 as vs m) := fun i xs h => by
  rcases entry_slot r h with h | ⟨v, _, h⟩
  · cases h
  · exact h
theorem entry_foot {N : List Str} {c0 : Cf} {as : List Slot} {vs : List V} {m : Nat} (r : ArgRs K c0 as vs) {b : Addr} (h : Foot (entry N c0 as vs m) b) : b ∈ c0.μ := by
  rcases h with h | ⟨i, ⟨xs, h⟩, _⟩
  · exact h
  · exact absurd h (entry_noown r i xs)
theorem entry_sr {N ps : List Str} {c0 : Cf} {as : List Slot} {vs : List V} (sr : SR K c0) (r : ArgRs K c0 as vs) (hl : as.length = ps.length) : SR K (entry N c0 as vs (N.length - ps.length)) where
  len := by
    show (as ++ List.replicate _ Slot.no).length = (start N vs).length
    unfold L2.start
    rw [List.length_append, List.length_append, List.length_replicate, List.length_replicate, List.length_map, r.length, hl]
  mlen := sr.mlen
  nd := sr.nd
  cell := fun m cl a h1 h2 => by
    have z := sr.cell m cl a h1 h2
    exact z
  slot := fun i x h => by
    rcases entry_slot r h with rfl | ⟨v, e, h⟩
    · trivial
    · cases x with
      | no => trivial
      | val d => exact ⟨v, e, h⟩
      | own xs => exact h.elim
      | ro xs =>
        obtain ⟨a, us, rfl, h1, h2⟩ := h
        exact ⟨a, us, e, h1, h2⟩
  ownd := fun i j a ⟨⟨xs, h⟩, _⟩ => absurd h (entry_noown r i xs)
  ownm := fun i a ⟨⟨xs, h⟩, _⟩ => absurd h (entry_noown r i xs)
  rho := fun b h => by
    obtain ⟨t, nf⟩ := sr.rho b h
    exact ⟨t, fun f => nf (.inl (entry_foot r f))⟩
/-- the end of a def, the names forgotten -/
def Cf.out (c : Cf) : Cf := { μ := c.μ, ρ := c.ρ, s := ⟨[], c.s.M⟩, σ := [], H := c.H }
theorem out_foot {c : Cf} {b : Addr} (h : Foot c.out b) : b ∈ c.μ := by
  rcases h with h | ⟨i, ⟨xs, h⟩, _⟩
  · exact h
  · simp [Cf.out] at h
theorem SR.out {c : Cf} (sr : SR K c) : SR K c.out where
  len := rfl
  mlen := sr.mlen
  nd := sr.nd
  cell := fun m cl a h1 h2 => by
    have z := sr.cell m cl a h1 h2
    exact z
  slot := fun i x h => by simp [Cf.out] at h
  ownd := fun i j a ⟨⟨xs, h⟩, _⟩ => by simp [Cf.out] at h
  ownm := fun i a ⟨⟨xs, h⟩, _⟩ => by simp [Cf.out] at h
  rho := fun b h => by
    obtain ⟨t, nf⟩ := sr.rho b h
    exact ⟨t, fun f => nf (.inl (out_foot f))⟩
theorem out_stp {N : List Str} {c0 c' : Cf} {as : List Slot} {vs : List V} {m : Nat} (r : ArgRs K c0 as vs) (hb : bare c0) (st : Stp (entry N c0 as vs m) c') : Stp c0 c'.out where
  pre := st.pre
  rh := st.rh
  frame := fun b o e nf => st.frame b o e fun f => nf (.inl (entry_foot r f))
  grow := fun b f => (st.grow b (.inl (out_foot f))).imp (fun f => .inl (entry_foot r f)) id
  trk := st.trk
  tup := st.tup
  ros := fun i xs h => by simp [Cf.out] at h
  ron := fun i xs h => by rw [hb.1] at h; simp at h
theorem spF_len {f : Str} {fd : Fn} {n : Nat} : ∀ vs H Q E, spF K mg g f fd n vs H Q E → vs.length = fd.ps.length := fun vs H Q E ⟨c0, as, hl, _, _, _, r, _⟩ => by rw [r.length]; exact hl
/-- one def, the others below -/
theorem fn_step (gh : GH K mg g) {n : Nat} (ih : ∀ f fd, g.P.lookup f = some fd → ∃ a fdt, FnJ P w K mg base g f fd n a fdt) {f : Str} {fd : Fn} {a : Addr} {fdt : FuncData} (hf : g.P.lookup f = some fd) (hk : FnK K mg g f fd a fdt) : FnJ P w K mg base g f fd (n + 1) a fdt := by
    obtain ⟨qual, params, body, scope, dvs, kws, F, hm, S, hb⟩ := hk.ex
    refine ⟨hm, F.kp, F.ok S spF_len fun cdv A outer s H vs Q E hr ⟨c0, as, hl, bc, sr0, eH, ra, p⟩ => ⟨_, pssW _, ?_⟩, hk.dfl, hk.kw⟩
    subst eH
    have K' : CkS (cxOf (L2.CX P w) P w K mg base fd.N qual scope a cdv A outer s c0.H E) (fun cls d _ H => E cls d H) ⟨fd.N, scope, fun _ => true⟩ g n :=
      { N := rfl, sc := rfl, fn := fun _ _ => rfl, calm := rfl, nd := S.nd, room := hr, un := by have := hr.un; show (A.deeper _).units + 65 < cLine; omega,
        tk := takes_of rfl rfl rfl rfl, fr := gh.fr, gcd := gh.gcd, gl := gh.gl, fns := ih, po := passes_of rfl }
    have srE := entry_sr (N := fd.N) sr0 ra hl
    refine sSs fd.body K' body hb (entry fd.N c0 as vs (fd.N.length - fd.ps.length)) (entry fd.N c0 as vs (fd.N.length - fd.ps.length)) _ (entry_noown ra) (Bse.refl _) srE ?_
    -- the run
    have hr1 : run g.P g.gl (n + 1) f as c0.s.M = ofBody (evSs (cnOf g n) fd.body (entry fd.N c0 as vs (fd.N.length - fd.ps.length)).s) := by
      simp only [run, hf]
      unfold runFn argsOf
      rw [hl, if_pos ⟨Nat.le_refl _, by omega⟩, Nat.sub_self, Nat.sub_zero, List.drop_length, List.map_nil, List.append_nil]
      rfl
    rw [hr1] at p
    cases z : evSs (cnOf g n) fd.body (entry fd.N c0 as vs (fd.N.length - fd.ps.length)).s with
    | bad => rw [z] at p; exact p
    | exc x s' =>
      rw [z] at p
      intro c' e st sr' cls d xr
      subst e
      refine p c'.out ⟨rfl, rfl⟩ rfl (out_stp ra bc st) sr'.out cls d ?_
      obtain ⟨C, fs, h1, h2, h3⟩ := xr
      refine ⟨C, fs, h1, h2, ?_⟩
      rcases h3 with h3 | ⟨b, h3, h4, h5, h6, h7⟩
      · exact .inl h3
      · exact .inr ⟨b, h3, h4, fun f => h5 (.inl (out_foot f)), h6, h7⟩
    | ok fl s' =>
      rw [z] at p
      intro c' e st sr'
      subst e
      cases fl with
      | nx =>
        have p : PostF K c0 (.ok (.val .non) c'.s.M) _ _ := p
        exact p c'.out ⟨rfl, rfl⟩ rfl (out_stp ra bc st) sr'.out .non (by simp only [OutR, DR])
      | bk => exact p.elim
      | ct => exact p.elim
      | rt o =>
        intro v rv
        have p : PostF K c0 (.ok o c'.s.M) _ _ := p
        refine p c'.out ⟨rfl, rfl⟩ rfl (out_stp ra bc st) sr'.out v ?_
        cases o with
        | no => exact rv
        | ro xs => exact rv
        | val d => exact rv
        | own xs =>
          obtain ⟨b, us, rfl, h1, h2, h3, h4⟩ := rv
          refine ⟨b, us, rfl, h1, h2, fun f => h3 (out_foot f), fun r => ?_, h4⟩
          have r : c'.ρ b := r
          rw [st.rh] at r
          obtain ⟨⟨o', e⟩, _⟩ := srE.rho b r
          have h4 : c0.H b = none := h4
          have e : c0.H b = some o' := e
          rw [h4] at e; cases e
/-- THE DEFS keep their promises -/
theorem fn_all (gh : GH K mg g) (hk : ∀ f fd, g.P.lookup f = some fd → ∃ a fdt, FnK K mg g f fd a fdt) : ∀ n f fd, g.P.lookup f = some fd → ∃ a fdt, FnJ P w K mg base g f fd n a fdt := by
  intro n
  induction n with
  | zero =>
    intro f fd hf
    obtain ⟨a, fdt, h⟩ := hk f fd hf
    obtain ⟨qual, params, body, scope, dvs, kws, F, hm, S, hb⟩ := h.ex
    exact ⟨a, fdt, hm, F.kp, ⟨spF_len, fun A outer s H args us vs Q E hr e0 hb r ⟨c0, as, _, _, _, _, _, p⟩ => p.elim⟩, h.dfl, h.kw⟩
  | succ n ih =>
    intro f fd hf
    obtain ⟨a, fdt, h⟩ := hk f fd hf
    exact ⟨a, fdt, fn_step gh ih hf h⟩
theorem ints_dr (μ : List Addr) (H : Hp) : ∀ ns : List Int, DRs K μ H (ns.map D.int) (ns.map V.int)
  | [] => .nil
  | x :: xs => .cons (by simp only [DR]) (ints_dr μ H xs)
/-- the law's end: the run over the script tells True -/
theorem law_sp {f : Str} {fd : Fn} {n : Nat} {H : Hp} {a : Addr} {ns : List Int} {M : List Cell} (hp : fd.ps.length = 1) (hS : SqL K H a (ns.map V.int)) (h : run g.P g.gl n f [.ro (ns.map D.int)] [] = .ok (.val (.bl true)) M) :
    spF K mg g f fd n [.ref a] H (fun v _ => v = .bl true) fun _ _ _ => False := by
  refine ⟨{ μ := [], ρ := fun b => b = a ∧ Rd H a (.lst (ns.map V.int)), s := ⟨[], []⟩, σ := [], H := H }, [.ro (ns.map D.int)], by rw [hp]; rfl, ⟨rfl, rfl⟩, ?_, rfl, ⟨.ref a, [], rfl, ?_, rfl⟩, ?_⟩
  · refine ⟨rfl, rfl, .nil, fun m cl b h1 _ => by simp at h1, fun i x h => by simp at h, fun i j b ⟨⟨xs, h⟩, _⟩ => by simp at h, fun i b ⟨⟨xs, h⟩, _⟩ => by simp at h, fun b h => ?_⟩
    obtain ⟨rfl, h⟩ := h
    refine ⟨?_, fun f => ?_⟩
    · rcases h with h | ⟨o, h⟩
      · exact ⟨_, h⟩
      · exact ⟨_, h⟩
    · rcases f with f | ⟨i, ⟨xs, f⟩, _⟩
      · simp at f
      · simp at f
  · refine ⟨a, ns.map V.int, rfl, ints_dr _ _ ns, ?_⟩
    rcases hS with h | h
    · exact .inr ⟨⟨rfl, h⟩, h⟩
    · exact .inl h
  · show PostF K _ (run g.P g.gl n f [.ro (ns.map D.int)] []) _ _
    rw [h]
    intro c _ _ _ _ v r
    simp only [OutR, DR] at r
    exact r
/-- names and their things, one by one -/
theorem lookups {α : Type} {Pr : Str → α → Prop} : ∀ {l : List (Str × α)}, (∀ p ∈ l, Pr p.1 p.2) → ∀ f fd, l.lookup f = some fd → Pr f fd := fun h f fd e => h (f, fd) (PySem.mem_of_lookup e)
/-- no default is taken -/
theorem dfl_none {fdt : FuncData} {fd : Fn} (hd : fd.dfl = []) (b : Binds K fdt fd.ps []) : ∀ k, k ≤ fd.dfl.length → ∃ dvs ds, Vals dvs ds ∧ (∀ μ H, DRs K μ H (fd.dfl.drop (fd.dfl.length - k)) dvs) ∧ Binds K fdt fd.ps ds := fun k hk => by
  rw [hd] at hk ⊢
  exact ⟨[], [], .nil, fun μ H => by rw [List.drop_nil]; exact .nil, b⟩
/-- one default -/
theorem dfl_one {fdt : FuncData} {fd : Fn} {d : D} {v : V} (hd : fd.dfl = [d]) (hv : ∀ μ H, DR K μ H d v) (b0 : ∃ ds, Vals [] ds ∧ Binds K fdt fd.ps ds) (b1 : ∃ ds, Vals [v] ds ∧ Binds K fdt fd.ps ds) :
    ∀ k, k ≤ fd.dfl.length → ∃ dvs ds, Vals dvs ds ∧ (∀ μ H, DRs K μ H (fd.dfl.drop (fd.dfl.length - k)) dvs) ∧ Binds K fdt fd.ps ds := fun k hk => by
  rw [hd] at hk ⊢
  match k, hk with
  | 0, _ =>
    obtain ⟨ds, h1, h2⟩ := b0
    exact ⟨[], ds, h1, fun μ H => .nil, h2⟩
  | 1, _ =>
    obtain ⟨ds, h1, h2⟩ := b1
    exact ⟨[v], ds, h1, fun μ H => .one (hv μ H), h2⟩
end
/-! ### the hook: what stands behind the top -/
mutual
/-- the value is the data, in the written part -/
def dB (K : PySem.W.Frag) : D → Value → Bool
  | .non, u => (match u with
    | .none => true
    | _ => false)
  | .bl b, u => (match u with
    | .bool c => b == c
    | _ => false)
  | .int i, u => (match u with
    | .int j _ => decide (i = j)
    | _ => false)
  | .str x, u => (match u with
    | .str y _ => decide (x = y)
    | _ => false)
  | .tup xs, u => (match u with
    | .ref a => (match K.lookup a with
      | some ⟨.type t, _, .seq its _, _⟩ => decide (t = "tuple") && (Nat.ble its.size sizeLine && dBs K xs its.toList)
      | _ => false)
    | _ => false)
  | .loc _, _ => false
def dBs (K : PySem.W.Frag) : List D → List Value → Bool
  | [], us => (match us with
    | [] => true
    | _ => false)
  | x :: xs, us => (match us with
    | u :: us => dB K x u && dBs K xs us
    | [] => false)
end
mutual
theorem dB_ok {K : PySem.W.Frag} : ∀ (d : D) (u : Value), dB K d u = true → ∃ v, RelV v u ∧ ∀ μ H, DR K μ H d v
  | .non, u, h => by
    rw [dB.eq_def] at h
    dsimp only at h
    split at h
    · exact ⟨.non, rfl, fun _ _ => by simp only [DR]⟩
    · cases h
  | .bl b, u, h => by
    rw [dB.eq_def] at h
    dsimp only at h
    split at h
    · rw [beq_iff_eq] at h; subst h; exact ⟨.bl _, rfl, fun _ _ => by simp only [DR]⟩
    · cases h
  | .int i, u, h => by
    rw [dB.eq_def] at h
    dsimp only at h
    split at h
    · rw [decide_eq_true_eq] at h; subst h; exact ⟨.int _, ⟨_, rfl⟩, fun _ _ => by simp only [DR]⟩
    · cases h
  | .str x, u, h => by
    rw [dB.eq_def] at h
    dsimp only at h
    split at h
    · rw [decide_eq_true_eq] at h; subst h; exact ⟨.str _, ⟨_, rfl⟩, fun _ _ => by simp only [DR]⟩
    · cases h
  | .tup xs, u, h => by
    rw [dB.eq_def] at h
    dsimp only at h
    split at h
    · rename_i a
      split at h
      · rename_i t dd its n sl hk
        simp only [Bool.and_eq_true, decide_eq_true_eq] at h
        obtain ⟨rfl, h2, h3⟩ := h
        obtain ⟨vs, rv, hd⟩ := dBs_ok xs _ h3
        refine ⟨.ref a, rfl, fun μ H => ?_⟩
        simp only [DR]
        exact ⟨a, vs, rfl, .inr ⟨_, its, n, hk, rfl, rfl, le_of_ble h2, rv⟩, hd μ H⟩
      · cases h
    · cases h
  | .loc k, u, h => by
    rw [dB.eq_def] at h
    cases h
theorem dBs_ok {K : PySem.W.Frag} : ∀ (ds : List D) (us : List Value), dBs K ds us = true → ∃ vs, Vals vs us ∧ ∀ μ H, DRs K μ H ds vs
  | [], us, h => by
    rw [dBs.eq_def] at h
    dsimp only at h
    split at h
    · exact ⟨[], .nil, fun _ _ => .nil⟩
    · cases h
  | d :: ds, us, h => by
    rw [dBs.eq_def] at h
    dsimp only at h
    split at h
    · rw [Bool.and_eq_true] at h
      obtain ⟨v, r1, h1⟩ := dB_ok d _ h.1
      obtain ⟨vs, r2, h2⟩ := dBs_ok ds _ h.2
      exact ⟨v :: vs, .cons r1 r2, fun μ H => .cons (h1 μ H) (h2 μ H)⟩
    · cases h
end
def gcdF (K : PySem.W.Frag) : Bool := He.eqO (PySem.W.nsIn K mainGlobals "gcd") (some (some (.builtin "math.gcd")))
/-- a constant of the module -/
def gvB (K : PySem.W.Frag) (p : Str × D) : Bool := match PySem.W.nsIn K mainGlobals p.1 with
  | some (some u) => dB K p.2 u
  | _ => false
def factG (K : PySem.W.Frag) (wg : Bool) (cs : List (Str × D)) : Bool := (!wg || gcdF K) && cs.all (gvB K)
def obsG (wg : Bool) (cs : List (Str × D)) (n : Nat) (fa : List He.Fa) (fn : List He.DefD) (g : Addr → Option Obj) : Bool × He.AlD := (factG (He.frG g (He.asD g n)) wg cs, He.obsDG n fa fn g)
def hookG (wg : Bool) (cs : List (Str × D)) (n : Nat) (fa : List He.Fa) (fn : List He.DefD) : PySem.W.Hook where
  α := Bool × He.AlD
  obs := fun s => obsG wg cs n fa fn s.heap.get?
  val := fun _ => (true, He.valD fn)
  says := fun _ h => ∃ K : PySem.W.Frag, K.In h ∧ He.SaysD fa fn K ∧ factG K wg cs = true
  of := fun _ s e => ⟨He.frG s.heap.get? (He.asD s.heap.get? n), He.frG_in, congrArg (fun z : Bool × He.AlD => z.2) e, congrArg (fun z : Bool × He.AlD => z.1) e⟩
  keeps := fun _ _ _ ⟨K, hK, c⟩ k => ⟨K, PySem.W.Frag.In.keeps hK k, c⟩
theorem obsG_eq {wg : Bool} {cs : List (Str × D)} {n : Nat} {fa : List He.Fa} {fn : List He.DefD} {g : Addr → Option Obj} {s : Shared} (h : ∀ a, g a = s.heap.get? a) : obsG wg cs n fa fn g = (hookG wg cs n fa fn).obs s := by
  have e : g = s.heap.get? := funext h
  rw [e] <;> rfl
theorem gl_ok {K : PySem.W.Frag} {h : Heap} {mg : Str → Option Value} {wg : Bool} {cs : List (Str × D)} (X : K.In h) (G : h.Ns mainGlobals mg) (c : factG K wg cs = true) (x : Str) (d : D) (hx : cs.lookup x = some d) : ∃ u v, mg x = some u ∧ RelV v u ∧ ∀ μ H, DR K μ H d v := by
  unfold factG at c
  rw [Bool.and_eq_true] at c
  have z := List.all_eq_true.mp c.2 (x, d) (PySem.mem_of_lookup hx)
  unfold gvB at z
  split at z
  · rename_i u e
    obtain ⟨v, r, hd⟩ := dB_ok d u z
    exact ⟨u, v, PySem.W.mg_of X G e, r, hd⟩
  · cases z
theorem gcd_ok {K : PySem.W.Frag} {h : Heap} {mg : Str → Option Value} (X : K.In h) (G : h.Ns mainGlobals mg) {cs : List (Str × D)} (c : factG K true cs = true) : mg "gcd" = some (.builtin "math.gcd") := PySem.W.mg_of X G (He.eqO_ok (by unfold factG at c; rw [Bool.and_eq_true] at c; have z := c.1; rw [Bool.or_eq_true] at z; exact z.resolve_left (by decide)))
end G
namespace L2
open PySem PySem.Spec PyProof.Rows
theorem walk_ofG {l : PySem.W.OpenLaw} {n k : Nat} {q : Program} {loose : List Str} {XP : (Str → Option Value) → Heap → Prop} {YP : World → Heap → Prop} {d : DefRec} {CX : World → CXT} {x : Str}
    (hn : l.most = some n) (hn2 : n ≤ sizeLine) (hdf : d.params.defaults = []) (hr : Room k callerA)
    (F : ∀ (w : World) (mg : Str → Option Value) (fa : Addr) (h : Heap), YP w h → h.Ns mainGlobals mg → mg d.name = some (.ref fa) →
      ∃ (K : PySem.W.Frag) (fd : FuncData) (sp : Sp), K.In h ∧ (∀ (s : Shared) (u : Value), BindsTo s fd ⟨[u], []⟩ [(x, u)]) ∧
        (∀ (H : Hp) (a : Addr) (ns : List Int), ns.length ≤ n → (∀ z ∈ ns, Builtin.Int.intBits z ≤ 1048576) → Only H → SqL K H a (ns.map V.int) → sp [.ref a] H (fun v _ => v = .bl true) fun _ _ _ => False) ∧
        ∀ base : Heap, K.In base → base.Ns mainGlobals mg → FnOk l.prog w K mg base (CX w) k fa fd [x] sp)
    (hCX : ∀ (w : World) (H : Hp) (s : Shared) (e : Value) (s' : Shared), CX w [] H s (fun _ _ _ => False) e s' → False) :
    PySem.W.WalkO q loose XP YP l.row.toRowW d [] (fun f vs => PySem.call f vs) := by
  refine Att.attach_callB hn hdf fun w s₀ s₁ mg mb fa o pm cd doc a vs ns G Y ho hd hcd hmg hobj hints hlen hbits hg => ?_
  obtain ⟨K, fd, sp, KX, hb, hsp, hF⟩ := F w mg fa _ Y G.T.g hmg
  exact law_call KX G.T.g G.T.b G.T.builtins G.T.nolimit hg hobj hints (Nat.le_trans hlen hn2) hr hF hb (fun H hO hS => hsp H a ns hlen hbits hO hS) fun H e s' => hCX w H s₁ e s'
theorem cx_no (P : Program) (w : World) (H : Hp) (s : Shared) (e : Value) (s' : Shared) : L2.CX P w [] H s (fun _ _ _ => False) e s' → False := fun ⟨_, _, _, _, _, _, _, _, _, _, _, _, z⟩ => z
end L2

/-! ## HD46 -/
set_option Elab.async false
set_option linter.all false
set_option maxRecDepth 100000
set_option maxHeartbeats 0
namespace G
open PySem
abbrev f_leaves_of_0 : Stm := .ite (.x (.cmp .Eq (.sub (.var 0) (.cst (.int 0))) (.cst (.str (Str.ofString "tell"))))) (.cons (.ret (.tup (.cons (.tup (.cons (.tup (.nil)) (.cons (.sub (.var 0) (.cst (.int 1))) .nil))) .nil))) .nil) (.nil)
abbrev f_leaves_of_C0 : Ex := .comp (.tup (.cons (.bin .Add (.tup (.cons (.cst (.int 1)) .nil)) (.var 2)) (.cons (.var 3) .nil))) (.tup (.cons (.name 2) (.cons (.name 3) (.nil)))) (.q (.call (Str.ofString "leaves_of") (.cons (.v (.sub (.var 0) (.cst (.int 2)))) (.nil)))) (.nil) [2, 3]
abbrev f_leaves_of_1 : Stm := .own 1 (f_leaves_of_C0)
abbrev f_leaves_of_C1 : Ex := .comp (.tup (.cons (.bin .Add (.tup (.cons (.cst (.int 0)) .nil)) (.var 2)) (.cons (.var 3) .nil))) (.tup (.cons (.name 2) (.cons (.name 3) (.nil)))) (.q (.call (Str.ofString "leaves_of") (.cons (.v (.sub (.var 0) (.cst (.int 3)))) (.nil)))) (.nil) [2, 3]
abbrev f_leaves_of_2 : Stm := .ret (.bi .tuple (.cons (.bin .Add (.var 1) (f_leaves_of_C1)) .nil))
def bf_leaves_of : Stms := .cons f_leaves_of_0 (.cons f_leaves_of_1 (.cons f_leaves_of_2 .nil))
def f_leaves_of : Fn := ⟨[Str.ofString "program"], [Str.ofString "program", Str.ofString "found", Str.ofString "way", Str.ofString "word"], [], bf_leaves_of⟩
abbrev f_names_of_C0 : Ex := .comp (.var 1) (.tup (.cons (.name 1) (.cons (.name 2) (.nil)))) (.q (.sub (.var 0) (.cst (.int 1)))) (.nil) [1, 2]
abbrev f_names_of_0 : Stm := .ret (.bi .tuple (.cons (f_names_of_C0) .nil))
def bf_names_of : Stms := .cons f_names_of_0 .nil
def f_names_of : Fn := ⟨[Str.ofString "setting"], [Str.ofString "setting", Str.ofString "name", Str.ofString "_"], [], bf_names_of⟩
abbrev f_summand_0 : Stm := .ret (.ife (.x (.cmp .Eq (.bi .abs (.cons (.var 0) .nil)) (.cst (.int 1)))) (.var 1) (.bin .Add (.bin .Add (.bi .str (.cons (.bi .abs (.cons (.var 0) .nil)) .nil)) (.cst (.str (Str.ofString " ")))) (.var 1)))
def bf_summand : Stms := .cons f_summand_0 .nil
def f_summand : Fn := ⟨[Str.ofString "part", Str.ofString "name"], [Str.ofString "part", Str.ofString "name"], [], bf_summand⟩
abbrev f_sum_words_0 : Stm := .asg (.name 2) (.cst (.str (Str.ofString "")))
abbrev f_sum_words_1b_0 : Stm := .ite (.x (.cmp .NotEq (.var 4) (.cst (.int 0)))) (.cons (.asg (.name 5) (.ife (.x (.cmp .Lt (.var 4) (.cst (.int 0)))) (.cst (.str (Str.ofString " - "))) (.cst (.str (Str.ofString " + ")))))
    (.cons (.asg (.name 2) (.bin .Add (.bin .Add (.var 2) (.var 5)) (.call (Str.ofString "summand") (.cons (.v (.var 4)) (.cons (.v (.var 3)) (.nil)))))) .nil)) (.nil)
abbrev f_sum_words_1b : Stms := .cons f_sum_words_1b_0 .nil
abbrev f_sum_words_1 : Stm := .fors (.tup (.cons (.name 3) (.cons (.name 4) (.nil)))) (.zip (.var 0) (.sub (.var 1) (.cst (.int 0)))) (f_sum_words_1b)
abbrev f_sum_words_2 : Stm := .ite (.x (.cmp .Eq (.var 2) (.cst (.str (Str.ofString ""))))) (.cons (.ret (.cst (.str (Str.ofString "0")))) .nil) (.nil)
abbrev f_sum_words_3 : Stm := .ret (.ife (.x (.smeth (.var 2) .startswith (.cst (.str (Str.ofString " + "))))) (.slc (.var 2) (.yes (.cst (.int 3))) .no) (.bin .Add (.cst (.str (Str.ofString "-"))) (.slc (.var 2) (.yes (.cst (.int 3))) .no)))
def bf_sum_words : Stms := .cons f_sum_words_0 (.cons f_sum_words_1 (.cons f_sum_words_2 (.cons f_sum_words_3 .nil)))
def f_sum_words : Fn := ⟨[Str.ofString "names", Str.ofString "question"], [Str.ofString "names", Str.ofString "question", Str.ofString "told", Str.ofString "name", Str.ofString "part", Str.ofString "sign"], [], bf_sum_words⟩
abbrev f_question_words_0 : Stm := .asg (.name 3) (.ife (.x (.var 2)) (.cst (.str (Str.ofString "is at least"))) (.cst (.str (Str.ofString "is below"))))
abbrev f_question_words_1 : Stm := .ret (.smeth (.cst (.str (Str.ofString " "))) .join (.lst (.cons (.call (Str.ofString "sum_words") (.cons (.v (.call (Str.ofString "names_of") (.cons (.b (.var 0)) (.nil)))) (.cons (.b (.var 1)) (.nil)))) (.cons (.var 3) (.cons (.bi .str (.cons (.sub (.var 1) (.cst (.int 1))) .nil)) .nil)))))
def bf_question_words : Stms := .cons f_question_words_0 (.cons f_question_words_1 .nil)
def f_question_words : Fn := ⟨[Str.ofString "setting", Str.ofString "question", Str.ofString "yes"], [Str.ofString "setting", Str.ofString "question", Str.ofString "yes", Str.ofString "word"], [], bf_question_words⟩
abbrev f_way_words_0 : Stm := .own 3 (.lst (.nil))
abbrev f_way_words_1b_0 : Stm := .ex (.meth (.var 3) .append (.cons (.call (Str.ofString "question_words") (.cons (.b (.var 0)) (.cons (.v (.sub (.var 1) (.cst (.int 1)))) (.cons (.v (.var 4)) (.nil))))) .nil))
abbrev f_way_words_1b_1 : Stm := .asg (.name 1) (.ife (.x (.var 4)) (.sub (.var 1) (.cst (.int 2))) (.sub (.var 1) (.cst (.int 3))))
abbrev f_way_words_1b : Stms := .cons f_way_words_1b_0 (.cons f_way_words_1b_1 .nil)
abbrev f_way_words_1 : Stm := .fors (.name 4) (.q (.var 2)) (f_way_words_1b)
abbrev f_way_words_2 : Stm := .ret (.var 3)
def bf_way_words : Stms := .cons f_way_words_0 (.cons f_way_words_1 (.cons f_way_words_2 .nil))
def f_way_words : Fn := ⟨[Str.ofString "setting", Str.ofString "program", Str.ofString "way"], [Str.ofString "setting", Str.ofString "program", Str.ofString "way", Str.ofString "told", Str.ofString "yes"], [], bf_way_words⟩
abbrev f_in_words_0 : Stm := .own 2 (.lst (.nil))
abbrev f_in_words_1b_0 : Stm := .own 5 (.call (Str.ofString "way_words") (.cons (.b (.var 0)) (.cons (.b (.var 1)) (.cons (.v (.var 3)) (.nil)))))
abbrev f_in_words_1b_1 : Stm := .ex (.meth (.var 2) .append (.cons (.bin .Add (.var 4) (.ife (.x (.var 5)) (.bin .Add (.cst (.str (Str.ofString " if "))) (.smeth (.cst (.str (Str.ofString " and "))) .join (.var 5))) (.cst (.str (Str.ofString " always"))))) .nil))
abbrev f_in_words_1b : Stms := .cons f_in_words_1b_0 (.cons f_in_words_1b_1 .nil)
abbrev f_in_words_1 : Stm := .fors (.tup (.cons (.name 3) (.cons (.name 4) (.nil)))) (.q (.call (Str.ofString "leaves_of") (.cons (.b (.var 1)) (.nil)))) (f_in_words_1b)
abbrev f_in_words_2 : Stm := .ret (.var 2)
def bf_in_words : Stms := .cons f_in_words_0 (.cons f_in_words_1 (.cons f_in_words_2 .nil))
def f_in_words : Fn := ⟨[Str.ofString "setting", Str.ofString "program"], [Str.ofString "setting", Str.ofString "program", Str.ofString "lines", Str.ofString "way", Str.ofString "word", Str.ofString "told"], [], bf_in_words⟩
abbrev l_pail_0 : Stm := .asg (.name 1) (.dct [Str.ofString "sum", Str.ofString "turn", Str.ofString "sand"] (.cons (.cst (.int 907)) (.cons (.cst (.int 0)) (.cons (.lst (.nil)) .nil))))
abbrev l_pail_1b_0 : Stm := .asg (.name 3) (.bin .Mod (.bi .abs (.cons (.bi .int (.cons (.var 2) .nil)) .nil)) (.bin .LShift (.cst (.int 1)) (.cst (.int 2000))))
abbrev l_pail_1b_1 : Stm := .asg (.sub (.var 1) (.cst (.str (Str.ofString "sum")))) (.bin .Mod (.bin .Add (.bin .Mult (.sub (.var 1) (.cst (.str (Str.ofString "sum")))) (.cst (.int 83))) (.var 3)) (.cst (.int 1000159)))
abbrev l_pail_1b_2t0b_0 : Stm := .ite (.x (.cmp .Eq (.var 3) (.cst (.int 0)))) (.cons (.brk) .nil) (.nil)
abbrev l_pail_1b_2t0b_1 : Stm := .ex (.meth (.sub (.var 1) (.cst (.str (Str.ofString "sand")))) .append (.cons (.bin .Mod (.var 3) (.cst (.int 2520))) .nil))
abbrev l_pail_1b_2t0b_2 : Stm := .asg (.name 3) (.bin .FloorDiv (.var 3) (.cst (.int 2520)))
abbrev l_pail_1b_2t0b : Stms := .cons l_pail_1b_2t0b_0 (.cons l_pail_1b_2t0b_1 (.cons l_pail_1b_2t0b_2 .nil))
abbrev l_pail_1b_2e0b_0 : Stm := .ex (.meth (.sub (.var 1) (.cst (.str (Str.ofString "sand")))) .append (.cons (.bin .FloorDiv (.bin .Mod (.bin .Mult (.bin .Mod (.bin .Add (.bin .Add (.bin .Mult (.var 3) (.cst (.int 46021))) (.bin .Mult (.var 4) (.cst (.int 10301)))) (.cst (.int 17))) (.cst (.int 2147483587))) (.cst (.int 2089))) (.cst (.int 998244353))) (.cst (.int 61))) .nil))
abbrev l_pail_1b_2e0b : Stms := .cons l_pail_1b_2e0b_0 .nil
abbrev l_pail_1b_2 : Stm := .ite (.x (.cmp .GtE (.var 3) (.bin .Pow (.cst (.int 10)) (.cst (.int 18))))) (.cons (.fors (.name 4) (.rng (.cons (.cst (.int 500)) .nil)) (l_pail_1b_2t0b)) .nil) (.cons (.fors (.name 4) (.rng (.cons (.cst (.int 6)) .nil)) (l_pail_1b_2e0b)) .nil)
abbrev l_pail_1b : Stms := .cons l_pail_1b_0 (.cons l_pail_1b_1 (.cons l_pail_1b_2 .nil))
abbrev l_pail_1 : Stm := .fors (.name 2) (.q (.slc (.var 0) .no (.yes (.cst (.int 40))))) (l_pail_1b)
abbrev l_pail_2 : Stm := .ex (.meth (.sub (.var 1) (.cst (.str (Str.ofString "sand")))) .reverse (.nil))
abbrev l_pail_3 : Stm := .ret (.var 1)
def bl_pail : Stms := .cons l_pail_0 (.cons l_pail_1 (.cons l_pail_2 (.cons l_pail_3 .nil)))
def l_pail : Fn := ⟨[Str.ofString "script"], [Str.ofString "script", Str.ofString "pail", Str.ofString "cell", Str.ofString "load", Str.ofString "lap"], [], bl_pail⟩
abbrev l_scoop_0 : Stm := .asg (.sub (.var 0) (.cst (.str (Str.ofString "turn")))) (.bin .Add (.sub (.var 0) (.cst (.str (Str.ofString "turn")))) (.cst (.int 1)))
abbrev l_scoop_1 : Stm := .ite (.x (.cmp .Gt (.bi .len (.cons (.sub (.var 0) (.cst (.str (Str.ofString "sand")))) .nil)) (.cst (.int 0)))) (.cons (.ret (.bin .Mod (.bi .int (.cons (.meth (.sub (.var 0) (.cst (.str (Str.ofString "sand")))) .pop (.nil)) .nil)) (.var 1))) .nil) (.nil)
abbrev l_scoop_2 : Stm := .asg (.name 2) (.bin .Mod (.bin .Add (.bin .Add (.bin .Mult (.bi .int (.cons (.sub (.var 0) (.cst (.str (Str.ofString "sum")))) .nil)) (.cst (.int 46021))) (.bin .Mult (.sub (.var 0) (.cst (.str (Str.ofString "turn")))) (.cst (.int 7919)))) (.cst (.int 3))) (.cst (.int 2147483587)))
abbrev l_scoop_3 : Stm := .asg (.name 3) (.bin .Mod (.bin .Add (.bin .Mult (.var 2) (.var 2)) (.bin .Mult (.cst (.int 59)) (.sub (.var 0) (.cst (.str (Str.ofString "turn")))))) (.cst (.int 998244353)))
abbrev l_scoop_4 : Stm := .ret (.bin .Mod (.bin .FloorDiv (.bin .Mod (.bin .Add (.bin .Mult (.var 3) (.cst (.int 73))) (.var 2)) (.cst (.int 999999883))) (.cst (.int 7))) (.var 1))
def bl_scoop : Stms := .cons l_scoop_0 (.cons l_scoop_1 (.cons l_scoop_2 (.cons l_scoop_3 (.cons l_scoop_4 .nil))))
def l_scoop : Fn := ⟨[Str.ofString "pail", Str.ofString "many"], [Str.ofString "pail", Str.ofString "many", Str.ofString "one", Str.ofString "two"], [], bl_scoop⟩
abbrev l_names_0 : Stm := .asg (.name 2) (.cst (.str (Str.ofString "abcdefghijklmnopqrstuvwxyz")))
abbrev l_names_1 : Stm := .own 3 (.lst (.nil))
abbrev l_names_2b_0 : Stm := .asg (.name 5) (.sub (.var 2) (.call (Str.ofString "_law_scoop") (.cons (.v (.var 0)) (.cons (.v (.cst (.int 26))) (.nil)))))
abbrev l_names_2b_1b_0 : Stm := .asg (.name 5) (.bin .Add (.var 5) (.sub (.bin .Add (.var 2) (.cst (.str (Str.ofString "0123456789")))) (.call (Str.ofString "_law_scoop") (.cons (.v (.var 0)) (.cons (.v (.cst (.int 36))) (.nil))))))
abbrev l_names_2b_1b : Stms := .cons l_names_2b_1b_0 .nil
abbrev l_names_2b_1 : Stm := .fors (.name 6) (.rng (.cons (.call (Str.ofString "_law_scoop") (.cons (.v (.var 0)) (.cons (.v (.cst (.int 7))) (.nil)))) .nil)) (l_names_2b_1b)
abbrev l_names_2b_2 : Stm := .ex (.meth (.var 3) .append (.cons (.bin .Add (.slc (.var 5) .no (.yes (.cst (.int 7)))) (.bi .str (.cons (.var 4) .nil))) .nil))
abbrev l_names_2b : Stms := .cons l_names_2b_0 (.cons l_names_2b_1 (.cons l_names_2b_2 .nil))
abbrev l_names_2 : Stm := .fors (.name 4) (.rng (.cons (.var 1) .nil)) (l_names_2b)
abbrev l_names_3 : Stm := .ret (.var 3)
def bl_names : Stms := .cons l_names_0 (.cons l_names_1 (.cons l_names_2 (.cons l_names_3 .nil)))
def l_names : Fn := ⟨[Str.ofString "pail", Str.ofString "many"], [Str.ofString "pail", Str.ofString "many", Str.ofString "letters", Str.ofString "names", Str.ofString "k", Str.ofString "name", Str.ofString "lap"], [], bl_names⟩
abbrev l_question_0 : Stm := .asg (.name 2) (.call (Str.ofString "_law_scoop") (.cons (.v (.var 0)) (.cons (.v (.cst (.int 5))) (.nil))))
abbrev l_question_1 : Stm := .own 3 (.lst (.nil))
abbrev l_question_2b_0 : Stm := .asg (.name 5) (.sub (.lst (.cons (.cst (.int 0)) (.cons (.cst (.int 1)) (.cons (.neg (.cst (.int 1))) (.cons (.cst (.int 9)) (.cons (.neg (.cst (.int 9))) (.cons (.bin .Sub (.call (Str.ofString "_law_scoop") (.cons (.v (.var 0)) (.cons (.v (.cst (.int 19))) (.nil)))) (.cst (.int 9))) (.cons (.cst (.int 2)) .nil)))))))) (.call (Str.ofString "_law_scoop") (.cons (.v (.var 0)) (.cons (.v (.cst (.int 7))) (.nil)))))
abbrev l_question_2b_1 : Stm := .ex (.meth (.var 3) .append (.cons (.ife (.x (.cmp .Gt (.var 2) (.cst (.int 0)))) (.var 5) (.sub (.lst (.cons (.cst (.int 0)) (.cons (.var 5) .nil))) (.call (Str.ofString "_law_scoop") (.cons (.v (.var 0)) (.cons (.v (.cst (.int 2))) (.nil)))))) .nil))
abbrev l_question_2b : Stms := .cons l_question_2b_0 (.cons l_question_2b_1 .nil)
abbrev l_question_2 : Stm := .fors (.name 4) (.rng (.cons (.var 1) .nil)) (l_question_2b)
abbrev l_question_3 : Stm := .asg (.name 6) (.sub (.lst (.cons (.cst (.int 0)) (.cons (.cst (.int 1)) (.cons (.neg (.cst (.int 1))) (.cons (.cst (.int 99)) (.cons (.neg (.cst (.int 99))) (.cons (.bin .Sub (.call (Str.ofString "_law_scoop") (.cons (.v (.var 0)) (.cons (.v (.cst (.int 199))) (.nil)))) (.cst (.int 99))) .nil))))))) (.call (Str.ofString "_law_scoop") (.cons (.v (.var 0)) (.cons (.v (.cst (.int 6))) (.nil)))))
abbrev l_question_4 : Stm := .ret (.tup (.cons (.bi .tuple (.cons (.var 3) .nil)) (.cons (.var 6) .nil)))
def bl_question : Stms := .cons l_question_0 (.cons l_question_1 (.cons l_question_2 (.cons l_question_3 (.cons l_question_4 .nil))))
def l_question : Fn := ⟨[Str.ofString "pail", Str.ofString "many"], [Str.ofString "pail", Str.ofString "many", Str.ofString "way", Str.ofString "parts", Str.ofString "k", Str.ofString "part", Str.ofString "n"], [], bl_question⟩
abbrev l_program_0 : Stm := .ite (.b false (.cons (.x (.cmp .Eq (.var 2) (.cst (.int 0)))) (.cons (.x (.cmp .Eq (.sub (.var 3) (.cst (.int 0))) (.cst (.int 0)))) (.cons (.x (.cmp .Eq (.call (Str.ofString "_law_scoop") (.cons (.v (.var 0)) (.cons (.v (.cst (.int 5))) (.nil)))) (.cst (.int 0)))) (.nil))))) (.cons (.ret (.tup (.cons (.cst (.str (Str.ofString "tell"))) (.cons (.sub (.lst (.cons (.cst (.str (Str.ofString "late"))) (.cons (.cst (.str (Str.ofString "hot"))) (.cons (.cst (.str (Str.ofString "a"))) (.cons (.cst (.str (Str.ofString "b2"))) (.cons (.cst (.str (Str.ofString "zzzzzzz9"))) (.cons (.cst (.str (Str.ofString "zeros"))) .nil))))))) (.call (Str.ofString "_law_scoop") (.cons (.v (.var 0)) (.cons (.v (.cst (.int 6))) (.nil))))) .nil)))) .nil) (.nil)
abbrev l_program_1 : Stm := .asg (.sub (.var 3) (.cst (.int 0))) (.bin .Sub (.sub (.var 3) (.cst (.int 0))) (.cst (.int 1)))
abbrev l_program_2 : Stm := .asg (.name 4) (.call (Str.ofString "_law_question") (.cons (.v (.var 0)) (.cons (.b (.var 1)) (.nil))))
abbrev l_program_3 : Stm := .asg (.name 5) (.call (Str.ofString "_law_program") (.cons (.v (.var 0)) (.cons (.b (.var 1)) (.cons (.v (.bin .Sub (.var 2) (.cst (.int 1)))) (.cons (.v (.var 3)) (.nil))))))
abbrev l_program_4 : Stm := .ret (.tup (.cons (.cst (.str (Str.ofString "ask"))) (.cons (.var 4) (.cons (.var 5) (.cons (.call (Str.ofString "_law_program") (.cons (.v (.var 0)) (.cons (.b (.var 1)) (.cons (.v (.bin .Sub (.var 2) (.cst (.int 1)))) (.cons (.v (.var 3)) (.nil)))))) .nil)))))
def bl_program : Stms := .cons l_program_0 (.cons l_program_1 (.cons l_program_2 (.cons l_program_3 (.cons l_program_4 .nil))))
def l_program : Fn := ⟨[Str.ofString "pail", Str.ofString "many", Str.ofString "deep", Str.ofString "left"], [Str.ofString "pail", Str.ofString "many", Str.ofString "deep", Str.ofString "left", Str.ofString "question", Str.ofString "yes"], [], bl_program⟩
abbrev l_full_0 : Stm := .asg (.name 2) (.tup (.cons (.cst (.str (Str.ofString "tell"))) (.cons (.cst (.str (Str.ofString "low"))) .nil)))
abbrev l_full_1b_0 : Stm := .asg (.name 2) (.tup (.cons (.cst (.str (Str.ofString "ask"))) (.cons (.call (Str.ofString "_law_question") (.cons (.v (.var 0)) (.cons (.b (.var 1)) (.nil)))) (.cons (.tup (.cons (.cst (.str (Str.ofString "tell"))) (.cons (.bin .Add (.cst (.str (Str.ofString "w"))) (.bi .str (.cons (.var 3) .nil))) .nil))) (.cons (.var 2) .nil)))))
abbrev l_full_1b : Stms := .cons l_full_1b_0 .nil
abbrev l_full_1 : Stm := .fors (.name 3) (.rng (.cons (.cst (.int 3)) .nil)) (l_full_1b)
abbrev l_full_2 : Stm := .asg (.name 4) (.tup (.cons (.cst (.str (Str.ofString "ask"))) (.cons (.call (Str.ofString "_law_question") (.cons (.v (.var 0)) (.cons (.b (.var 1)) (.nil)))) (.cons (.var 2) (.cons (.tup (.cons (.cst (.str (Str.ofString "tell"))) (.cons (.cst (.str (Str.ofString "x"))) .nil))) .nil)))))
abbrev l_full_3 : Stm := .asg (.name 5) (.tup (.cons (.cst (.str (Str.ofString "ask"))) (.cons (.call (Str.ofString "_law_question") (.cons (.v (.var 0)) (.cons (.b (.var 1)) (.nil)))) (.cons (.tup (.cons (.cst (.str (Str.ofString "tell"))) (.cons (.cst (.str (Str.ofString "y"))) .nil))) (.cons (.var 2) .nil)))))
abbrev l_full_4 : Stm := .asg (.name 6) (.tup (.cons (.cst (.str (Str.ofString "ask"))) (.cons (.call (Str.ofString "_law_question") (.cons (.v (.var 0)) (.cons (.b (.var 1)) (.nil)))) (.cons (.var 4) (.cons (.var 5) .nil)))))
abbrev l_full_5 : Stm := .asg (.name 7) (.tup (.cons (.cst (.str (Str.ofString "ask"))) (.cons (.call (Str.ofString "_law_question") (.cons (.v (.var 0)) (.cons (.b (.var 1)) (.nil)))) (.cons (.var 2) (.cons (.tup (.cons (.cst (.str (Str.ofString "tell"))) (.cons (.cst (.str (Str.ofString "z"))) .nil))) .nil)))))
abbrev l_full_6 : Stm := .asg (.name 7) (.tup (.cons (.cst (.str (Str.ofString "ask"))) (.cons (.call (Str.ofString "_law_question") (.cons (.v (.var 0)) (.cons (.b (.var 1)) (.nil)))) (.cons (.var 7) (.cons (.tup (.cons (.cst (.str (Str.ofString "ask"))) (.cons (.call (Str.ofString "_law_question") (.cons (.v (.var 0)) (.cons (.b (.var 1)) (.nil)))) (.cons (.tup (.cons (.cst (.str (Str.ofString "tell"))) (.cons (.cst (.str (Str.ofString "q"))) .nil))) (.cons (.tup (.cons (.cst (.str (Str.ofString "tell"))) (.cons (.cst (.str (Str.ofString "r"))) .nil))) .nil))))) .nil)))))
abbrev l_full_7 : Stm := .ret (.tup (.cons (.cst (.str (Str.ofString "ask"))) (.cons (.call (Str.ofString "_law_question") (.cons (.v (.var 0)) (.cons (.b (.var 1)) (.nil)))) (.cons (.var 6) (.cons (.var 7) .nil)))))
def bl_full : Stms := .cons l_full_0 (.cons l_full_1 (.cons l_full_2 (.cons l_full_3 (.cons l_full_4 (.cons l_full_5 (.cons l_full_6 (.cons l_full_7 .nil)))))))
def l_full : Fn := ⟨[Str.ofString "pail", Str.ofString "many"], [Str.ofString "pail", Str.ofString "many", Str.ofString "program", Str.ofString "k", Str.ofString "some", Str.ofString "other", Str.ofString "lone", Str.ofString "few"], [], bl_full⟩
abbrev l_sum_0 : Stm := .asg (.name 2) (.cst (.str (Str.ofString "")))
abbrev l_sum_1b_0 : Stm := .asg (.name 4) (.sub (.sub (.var 1) (.cst (.int 0))) (.var 3))
abbrev l_sum_1b_1 : Stm := .asg (.name 5) (.ife (.x (.cmp .Gt (.var 4) (.cst (.int 0)))) (.var 4) (.bin .Sub (.cst (.int 0)) (.var 4)))
abbrev l_sum_1b_2 : Stm := .ite (.x (.cmp .Gt (.var 5) (.cst (.int 0)))) (.cons (.asg (.name 6) (.ife (.x (.cmp .Eq (.var 5) (.cst (.int 1)))) (.sub (.var 0) (.var 3)) (.fstr (.cons (.var 5) (.cons (.cst (.str (Str.ofString " "))) (.cons (.sub (.var 0) (.var 3)) .nil))))))
    (.cons (.ite (.x (.cmp .Eq (.var 2) (.cst (.str (Str.ofString ""))))) (.cons (.asg (.name 2) (.ife (.x (.cmp .Gt (.var 4) (.cst (.int 0)))) (.var 6) (.bin .Add (.cst (.str (Str.ofString "-"))) (.var 6)))) .nil) (.cons (.asg (.name 2) (.bin .Add (.bin .Add (.var 2) (.ife (.x (.cmp .Gt (.var 4) (.cst (.int 0)))) (.cst (.str (Str.ofString " + "))) (.cst (.str (Str.ofString " - "))))) (.var 6))) .nil)) .nil)) (.nil)
abbrev l_sum_1b : Stms := .cons l_sum_1b_0 (.cons l_sum_1b_1 (.cons l_sum_1b_2 .nil))
abbrev l_sum_1 : Stm := .fors (.name 3) (.rng (.cons (.bi .len (.cons (.var 0) .nil)) .nil)) (l_sum_1b)
abbrev l_sum_2 : Stm := .ret (.ife (.x (.cmp .NotEq (.var 2) (.cst (.str (Str.ofString ""))))) (.var 2) (.cst (.str (Str.ofString "0"))))
def bl_sum : Stms := .cons l_sum_0 (.cons l_sum_1 (.cons l_sum_2 .nil))
def l_sum : Fn := ⟨[Str.ofString "names", Str.ofString "question"], [Str.ofString "names", Str.ofString "question", Str.ofString "said", Str.ofString "k", Str.ofString "part", Str.ofString "size", Str.ofString "word"], [], bl_sum⟩
abbrev l_words_0 : Stm := .asg (.name 3) (.ife (.x (.cmp .Eq (.var 2) (.cst (.int 1)))) (.cst (.str (Str.ofString " is at least "))) (.cst (.str (Str.ofString " is below "))))
abbrev l_words_1 : Stm := .ret (.bin .Add (.bin .Add (.call (Str.ofString "_law_sum") (.cons (.b (.var 0)) (.cons (.b (.var 1)) (.nil)))) (.var 3)) (.bi .str (.cons (.sub (.var 1) (.cst (.int 1))) .nil)))
def bl_words : Stms := .cons l_words_0 (.cons l_words_1 .nil)
def l_words : Fn := ⟨[Str.ofString "names", Str.ofString "question", Str.ofString "yes"], [Str.ofString "names", Str.ofString "question", Str.ofString "yes", Str.ofString "middle"], [], bl_words⟩
abbrev l_ways_0 : Stm := .own 1 (.lst (.nil))
abbrev l_ways_1 : Stm := .own 2 (.lst (.cons (.tup (.cons (.tup (.nil)) (.cons (.var 0) .nil))) .nil))
abbrev l_ways_2b_0 : Stm := .ite (.x (.cmp .Eq (.bi .len (.cons (.var 2) .nil)) (.cst (.int 0)))) (.cons (.brk) .nil) (.nil)
abbrev l_ways_2b_1 : Stm := .asg (.tup (.cons (.name 4) (.cons (.name 5) (.nil)))) (.meth (.var 2) .pop (.nil))
abbrev l_ways_2b_2 : Stm := .ex (.meth (.var 1) .append (.cons (.tup (.cons (.var 4) (.cons (.var 5) .nil))) .nil))
abbrev l_ways_2b_3 : Stm := .ite (.x (.cmp .Eq (.sub (.var 5) (.cst (.int 0))) (.cst (.str (Str.ofString "ask"))))) (.cons (.ex (.meth (.var 2) .append (.cons (.tup (.cons (.bin .Add (.var 4) (.tup (.cons (.cst (.int 0)) .nil))) (.cons (.sub (.var 5) (.cst (.int 3))) .nil))) .nil)))
    (.cons (.ex (.meth (.var 2) .append (.cons (.tup (.cons (.bin .Add (.var 4) (.tup (.cons (.cst (.int 1)) .nil))) (.cons (.sub (.var 5) (.cst (.int 2))) .nil))) .nil))) .nil)) (.nil)
abbrev l_ways_2b : Stms := .cons l_ways_2b_0 (.cons l_ways_2b_1 (.cons l_ways_2b_2 (.cons l_ways_2b_3 .nil)))
abbrev l_ways_2 : Stm := .fors (.name 3) (.rng (.cons (.cst (.int 80)) .nil)) (l_ways_2b)
abbrev l_ways_3 : Stm := .ret (.var 1)
def bl_ways : Stms := .cons l_ways_0 (.cons l_ways_1 (.cons l_ways_2 (.cons l_ways_3 .nil)))
def l_ways : Fn := ⟨[Str.ofString "program"], [Str.ofString "program", Str.ofString "rows", Str.ofString "todo", Str.ofString "lap", Str.ofString "way", Str.ofString "part"], [], bl_ways⟩
abbrev l_along_0 : Stm := .own 3 (.lst (.nil))
abbrev l_along_1b_0 : Stm := .ex (.meth (.var 3) .append (.cons (.call (Str.ofString "_law_words") (.cons (.b (.var 0)) (.cons (.v (.sub (.var 1) (.cst (.int 1)))) (.cons (.v (.var 4)) (.nil))))) .nil))
abbrev l_along_1b_1 : Stm := .asg (.name 1) (.ife (.x (.cmp .Eq (.var 4) (.cst (.int 1)))) (.sub (.var 1) (.cst (.int 2))) (.sub (.var 1) (.cst (.int 3))))
abbrev l_along_1b : Stms := .cons l_along_1b_0 (.cons l_along_1b_1 .nil)
abbrev l_along_1 : Stm := .fors (.name 4) (.q (.var 2)) (l_along_1b)
abbrev l_along_2 : Stm := .ret (.var 3)
def bl_along : Stms := .cons l_along_0 (.cons l_along_1 (.cons l_along_2 .nil))
def l_along : Fn := ⟨[Str.ofString "names", Str.ofString "program", Str.ofString "way"], [Str.ofString "names", Str.ofString "program", Str.ofString "way", Str.ofString "said", Str.ofString "step"], [], bl_along⟩
abbrev l_same_0t1b_0 : Stm := .ite (.b false (.cons (.n (.x (.isi (.sub (.var 0) (.var 2)) [.str]))) (.cons (.x (.cmp .NotEq (.sub (.var 0) (.var 2)) (.sub (.var 1) (.var 2)))) (.nil)))) (.cons (.ret (.cst (.bl false))) .nil) (.nil)
abbrev l_same_0t1b : Stms := .cons l_same_0t1b_0 .nil
abbrev l_same_0 : Stm := .ite (.x (.isi (.var 1) [.list])) (.cons (.ite (.b false (.cons (.n (.x (.isi (.var 0) [.list]))) (.cons (.x (.cmp .NotEq (.bi .len (.cons (.var 0) .nil)) (.bi .len (.cons (.var 1) .nil)))) (.nil)))) (.cons (.ret (.cst (.bl false))) .nil) (.nil))
    (.cons (.fors (.name 2) (.rng (.cons (.bi .len (.cons (.var 1) .nil)) .nil)) (l_same_0t1b))
    (.cons (.ret (.cst (.bl true))) .nil))) (.nil)
abbrev l_same_1 : Stm := .ret (.bool true (.cons (.isi (.var 0) [.str]) (.cons (.cmp .Eq (.var 0) (.var 1)) .nil)))
def bl_same : Stms := .cons l_same_0 (.cons l_same_1 .nil)
def l_same : Fn := ⟨[Str.ofString "told", Str.ofString "due"], [Str.ofString "told", Str.ofString "due", Str.ofString "k"], [], bl_same⟩
abbrev l_asked_0 : Stm := .own 3 (.lst (.nil))
abbrev l_asked_1b_0 : Stm := .own 6 (.call (Str.ofString "_law_along") (.cons (.b (.var 0)) (.cons (.b (.var 2)) (.cons (.v (.var 4)) (.nil)))))
abbrev l_asked_1b_1 : Stm := .ite (.n (.x (.call (Str.ofString "_law_same") (.cons (.b (.call (Str.ofString "way_words") (.cons (.b (.var 1)) (.cons (.b (.var 2)) (.cons (.v (.var 4)) (.nil)))))) (.cons (.b (.var 6)) (.nil)))))) (.cons (.ret (.cst (.bl false))) .nil) (.nil)
abbrev l_asked_1b_2e0b_0 : Stm := .ite (.n (.x (.call (Str.ofString "_law_same") (.cons (.v (.callk (Str.ofString "question_words") 0 [Str.ofString "yes", Str.ofString "question", Str.ofString "setting"] (.cons (.v (.var 7)) (.cons (.v (.sub (.var 5) (.cst (.int 1)))) (.cons (.b (.var 1)) (.nil)))))) (.cons (.v (.call (Str.ofString "_law_words") (.cons (.b (.var 0)) (.cons (.v (.sub (.var 5) (.cst (.int 1)))) (.cons (.v (.var 7)) (.nil)))))) (.nil)))))) (.cons (.ret (.cst (.bl false))) .nil) (.nil)
abbrev l_asked_1b_2e0b : Stms := .cons l_asked_1b_2e0b_0 .nil
abbrev l_asked_1b_2 : Stm := .ite (.x (.cmp .Eq (.sub (.var 5) (.cst (.int 0))) (.cst (.str (Str.ofString "tell"))))) (.cons (.ex (.meth (.var 3) .append (.cons (.bin .Add (.sub (.var 5) (.cst (.int 1))) (.ife (.x (.cmp .Gt (.bi .len (.cons (.var 4) .nil)) (.cst (.int 0)))) (.bin .Add (.cst (.str (Str.ofString " if "))) (.smeth (.cst (.str (Str.ofString " and "))) .join (.var 6))) (.cst (.str (Str.ofString " always"))))) .nil))) .nil) (.cons (.fors (.name 7) (.q (.lst (.cons (.cst (.int 1)) (.cons (.cst (.int 0)) .nil)))) (l_asked_1b_2e0b)) .nil)
abbrev l_asked_1b : Stms := .cons l_asked_1b_0 (.cons l_asked_1b_1 (.cons l_asked_1b_2 .nil))
abbrev l_asked_1 : Stm := .fors (.tup (.cons (.name 4) (.cons (.name 5) (.nil)))) (.q (.call (Str.ofString "_law_ways") (.cons (.v (.var 2)) (.nil)))) (l_asked_1b)
abbrev l_asked_2 : Stm := .ret (.call (Str.ofString "_law_same") (.cons (.b (.call (Str.ofString "in_words") (.cons (.b (.var 1)) (.cons (.b (.var 2)) (.nil))))) (.cons (.b (.var 3)) (.nil))))
def bl_asked : Stms := .cons l_asked_0 (.cons l_asked_1 (.cons l_asked_2 .nil))
def l_asked : Fn := ⟨[Str.ofString "names", Str.ofString "setting", Str.ofString "program"], [Str.ofString "names", Str.ofString "setting", Str.ofString "program", Str.ofString "lines", Str.ofString "way", Str.ofString "part", Str.ofString "said", Str.ofString "yes"], [], bl_asked⟩
abbrev l_by_hand_0 : Stm := .asg (.tup (.cons (.name 2) (.cons (.name 3) (.cons (.name 4) (.nil))))) (.var 1)
abbrev l_by_hand_1 : Stm := .own 5 (.lst (.cons (.tup (.cons (.tup (.cons (.tup (.cons (.cst (.int 0)) (.cons (.cst (.int 0)) (.cons (.cst (.int 0)) .nil)))) (.cons (.cst (.int 5)) .nil))) (.cons (.cst (.str (Str.ofString "0 is at least 5"))) (.cons (.cst (.str (Str.ofString "0 is below 5"))) .nil)))) (.cons (.tup (.cons (.tup (.cons (.tup (.cons (.neg (.cst (.int 1))) (.cons (.cst (.int 0)) (.cons (.cst (.int 2)) .nil)))) (.cons (.neg (.cst (.int 3))) .nil))) (.cons (.fstr (.cons (.cst (.str (Str.ofString "-"))) (.cons (.var 2) (.cons (.cst (.str (Str.ofString " + 2 "))) (.cons (.var 4) (.cons (.cst (.str (Str.ofString " is at least -3"))) .nil)))))) (.cons (.fstr (.cons (.cst (.str (Str.ofString "-"))) (.cons (.var 2) (.cons (.cst (.str (Str.ofString " + 2 "))) (.cons (.var 4) (.cons (.cst (.str (Str.ofString " is below -3"))) .nil)))))) .nil)))) (.cons (.tup (.cons (.tup (.cons (.tup (.cons (.cst (.int 0)) (.cons (.neg (.cst (.int 9))) (.cons (.neg (.cst (.int 1))) .nil)))) (.cons (.cst (.int 0)) .nil))) (.cons (.fstr (.cons (.cst (.str (Str.ofString "-9 "))) (.cons (.var 3) (.cons (.cst (.str (Str.ofString " - "))) (.cons (.var 4) (.cons (.cst (.str (Str.ofString " is at least 0"))) .nil)))))) (.cons (.fstr (.cons (.cst (.str (Str.ofString "-9 "))) (.cons (.var 3) (.cons (.cst (.str (Str.ofString " - "))) (.cons (.var 4) (.cons (.cst (.str (Str.ofString " is below 0"))) .nil)))))) .nil)))) (.cons (.tup (.cons (.tup (.cons (.tup (.cons (.cst (.int 1)) (.cons (.cst (.int 1)) (.cons (.neg (.cst (.int 1))) .nil)))) (.cons (.cst (.int 99)) .nil))) (.cons (.fstr (.cons (.var 2) (.cons (.cst (.str (Str.ofString " + "))) (.cons (.var 3) (.cons (.cst (.str (Str.ofString " - "))) (.cons (.var 4) (.cons (.cst (.str (Str.ofString " is at least 99"))) .nil))))))) (.cons (.fstr (.cons (.var 2) (.cons (.cst (.str (Str.ofString " + "))) (.cons (.var 3) (.cons (.cst (.str (Str.ofString " - "))) (.cons (.var 4) (.cons (.cst (.str (Str.ofString " is below 99"))) .nil))))))) .nil)))) (.cons (.tup (.cons (.tup (.cons (.tup (.cons (.cst (.int 0)) (.cons (.cst (.int 3)) (.cons (.cst (.int 0)) .nil)))) (.cons (.neg (.cst (.int 99))) .nil))) (.cons (.fstr (.cons (.cst (.str (Str.ofString "3 "))) (.cons (.var 3) (.cons (.cst (.str (Str.ofString " is at least -99"))) .nil)))) (.cons (.fstr (.cons (.cst (.str (Str.ofString "3 "))) (.cons (.var 3) (.cons (.cst (.str (Str.ofString " is below -99"))) .nil)))) .nil)))) .nil))))))
abbrev l_by_hand_2b_0 : Stm := .ite (.b false (.cons (.n (.x (.call (Str.ofString "_law_same") (.cons (.v (.call (Str.ofString "question_words") (.cons (.b (.var 0)) (.cons (.v (.var 6)) (.cons (.v (.cst (.int 1))) (.nil)))))) (.cons (.v (.var 7)) (.nil)))))) (.cons (.n (.x (.call (Str.ofString "_law_same") (.cons (.v (.call (Str.ofString "question_words") (.cons (.b (.var 0)) (.cons (.v (.var 6)) (.cons (.v (.cst (.int 0))) (.nil)))))) (.cons (.v (.var 8)) (.nil)))))) (.nil)))) (.cons (.ret (.cst (.bl false))) .nil) (.nil)
abbrev l_by_hand_2b : Stms := .cons l_by_hand_2b_0 .nil
abbrev l_by_hand_2 : Stm := .fors (.tup (.cons (.name 6) (.cons (.name 7) (.cons (.name 8) (.nil))))) (.q (.var 5)) (l_by_hand_2b)
abbrev l_by_hand_3 : Stm := .asg (.name 9) (.tup (.cons (.cst (.str (Str.ofString "ask"))) (.cons (.sub (.sub (.var 5) (.cst (.int 0))) (.cst (.int 0))) (.cons (.tup (.cons (.cst (.str (Str.ofString "ask"))) (.cons (.sub (.sub (.var 5) (.cst (.int 1))) (.cst (.int 0))) (.cons (.tup (.cons (.cst (.str (Str.ofString "tell"))) (.cons (.cst (.str (Str.ofString "p"))) .nil))) (.cons (.tup (.cons (.cst (.str (Str.ofString "tell"))) (.cons (.cst (.str (Str.ofString "q"))) .nil))) .nil))))) (.cons (.tup (.cons (.cst (.str (Str.ofString "tell"))) (.cons (.cst (.str (Str.ofString "p"))) .nil))) .nil)))))
abbrev l_by_hand_4 : Stm := .own 10 (.lst (.cons (.bin .Add (.bin .Add (.bin .Add (.cst (.str (Str.ofString "p if "))) (.sub (.sub (.var 5) (.cst (.int 0))) (.cst (.int 1)))) (.cst (.str (Str.ofString " and ")))) (.sub (.sub (.var 5) (.cst (.int 1))) (.cst (.int 1)))) (.cons (.bin .Add (.bin .Add (.bin .Add (.cst (.str (Str.ofString "q if "))) (.sub (.sub (.var 5) (.cst (.int 0))) (.cst (.int 1)))) (.cst (.str (Str.ofString " and ")))) (.sub (.sub (.var 5) (.cst (.int 1))) (.cst (.int 2)))) (.cons (.bin .Add (.cst (.str (Str.ofString "p if "))) (.sub (.sub (.var 5) (.cst (.int 0))) (.cst (.int 2)))) .nil))))
abbrev l_by_hand_5 : Stm := .ite (.b false (.cons (.n (.x (.call (Str.ofString "_law_same") (.cons (.b (.callk (Str.ofString "in_words") 0 [Str.ofString "program", Str.ofString "setting"] (.cons (.v (.var 9)) (.cons (.b (.var 0)) (.nil))))) (.cons (.b (.var 10)) (.nil)))))) (.cons (.n (.x (.call (Str.ofString "_law_same") (.cons (.b (.call (Str.ofString "way_words") (.cons (.b (.var 0)) (.cons (.v (.var 9)) (.cons (.v (.tup (.cons (.cst (.int 1)) (.cons (.cst (.int 0)) .nil)))) (.nil)))))) (.cons (.b (.lst (.cons (.sub (.sub (.var 5) (.cst (.int 0))) (.cst (.int 1))) (.cons (.sub (.sub (.var 5) (.cst (.int 1))) (.cst (.int 2))) .nil)))) (.nil)))))) (.nil)))) (.cons (.ret (.cst (.bl false))) .nil) (.nil)
abbrev l_by_hand_6 : Stm := .ret (.bool true (.cons (.call (Str.ofString "_law_same") (.cons (.b (.call (Str.ofString "in_words") (.cons (.b (.var 0)) (.cons (.v (.tup (.cons (.cst (.str (Str.ofString "tell"))) (.cons (.cst (.str (Str.ofString "p"))) .nil)))) (.nil))))) (.cons (.b (.lst (.cons (.cst (.str (Str.ofString "p always"))) .nil))) (.nil)))) (.cons (.call (Str.ofString "_law_same") (.cons (.b (.call (Str.ofString "way_words") (.cons (.b (.var 0)) (.cons (.v (.var 9)) (.cons (.v (.tup (.nil))) (.nil)))))) (.cons (.b (.lst (.nil))) (.nil)))) .nil)))
def bl_by_hand : Stms := .cons l_by_hand_0 (.cons l_by_hand_1 (.cons l_by_hand_2 (.cons l_by_hand_3 (.cons l_by_hand_4 (.cons l_by_hand_5 (.cons l_by_hand_6 .nil))))))
def l_by_hand : Fn := ⟨[Str.ofString "setting", Str.ofString "names"], [Str.ofString "setting", Str.ofString "names", Str.ofString "a", Str.ofString "b", Str.ofString "c", Str.ofString "rows", Str.ofString "question", Str.ofString "yes", Str.ofString "no", Str.ofString "program", Str.ofString "due"], [], bl_by_hand⟩
abbrev f_law_0 : Stm := .asg (.name 1) (.call (Str.ofString "_law_pail") (.cons (.b (.var 0)) (.nil)))
abbrev f_law_1 : Stm := .asg (.name 2) (.cmp .Eq (.call (Str.ofString "_law_scoop") (.cons (.v (.var 1)) (.cons (.v (.cst (.int 7))) (.nil)))) (.cst (.int 3)))
abbrev f_law_2 : Stm := .asg (.name 3) (.bin .Add (.cst (.int 1)) (.call (Str.ofString "_law_scoop") (.cons (.v (.var 1)) (.cons (.v (.cst (.int 4))) (.nil)))))
abbrev f_law_3 : Stm := .own 4 (.call (Str.ofString "_law_names") (.cons (.v (.var 1)) (.cons (.v (.var 3)) (.nil))))
abbrev f_law_4 : Stm := .asg (.name 5) (.tup (.cons (.tup (.cons (.cst (.str (Str.ofString "clock"))) (.cons (.sub (.lst (.cons (.cst (.str (Str.ofString "told"))) (.cons (.cst (.str (Str.ofString "free"))) .nil))) (.call (Str.ofString "_law_scoop") (.cons (.v (.var 1)) (.cons (.v (.cst (.int 2))) (.nil))))) (.cons (.cst (.str (Str.ofString "free"))) .nil)))) (.cons (.tup (.cons (.cst (.str (Str.ofString "purse"))) (.cons (.cst (.str (Str.ofString "told"))) (.cons (.sub (.lst (.cons (.cst (.str (Str.ofString "told"))) (.cons (.cst (.str (Str.ofString "free"))) .nil))) (.call (Str.ofString "_law_scoop") (.cons (.v (.var 1)) (.cons (.v (.cst (.int 2))) (.nil))))) .nil)))) .nil)))
abbrev f_law_C0 : Ex := .comp (.tup (.cons (.var 7) (.cons (.call (Str.ofString "_law_scoop") (.cons (.v (.var 1)) (.cons (.v (.cst (.int 2))) (.nil)))) .nil))) (.name 7) (.q (.var 4)) (.nil) [7]
abbrev f_law_5 : Stm := .asg (.name 6) (.tup (.cons (.var 5) (.cons (.bi .tuple (.cons (f_law_C0) .nil)) .nil)))
abbrev f_law_6 : Stm := .asg (.name 8) (.ife (.x (.var 2)) (.call (Str.ofString "_law_full") (.cons (.v (.var 1)) (.cons (.v (.var 3)) (.nil)))) (.call (Str.ofString "_law_program") (.cons (.v (.var 1)) (.cons (.v (.var 3)) (.cons (.v (.cst (.int 6))) (.cons (.v (.lst (.cons (.cst (.int 12)) .nil))) (.nil)))))))
abbrev f_law_7 : Stm := .ite (.n (.x (.call (Str.ofString "_law_asked") (.cons (.b (.var 4)) (.cons (.v (.var 6)) (.cons (.v (.var 8)) (.nil))))))) (.cons (.ret (.cst (.bl false))) .nil) (.nil)
abbrev f_law_8 : Stm := .asg (.name 8) (.tup (.cons (.cst (.str (Str.ofString "ask"))) (.cons (.call (Str.ofString "_law_question") (.cons (.v (.var 1)) (.cons (.v (.var 3)) (.nil)))) (.cons (.call (Str.ofString "_law_program") (.cons (.v (.var 1)) (.cons (.v (.var 3)) (.cons (.v (.cst (.int 2))) (.cons (.v (.lst (.cons (.cst (.int 3)) .nil))) (.nil)))))) (.cons (.tup (.cons (.cst (.str (Str.ofString "tell"))) (.cons (.cst (.str (Str.ofString "end"))) .nil))) .nil)))))
abbrev f_law_9 : Stm := .ite (.n (.x (.call (Str.ofString "_law_asked") (.cons (.b (.var 4)) (.cons (.v (.var 6)) (.cons (.v (.var 8)) (.nil))))))) (.cons (.ret (.cst (.bl false))) .nil) (.nil)
abbrev f_law_10 : Stm := .asg (.name 9) (.call (Str.ofString "_law_names") (.cons (.v (.var 1)) (.cons (.v (.cst (.int 3))) (.nil))))
abbrev f_law_C1 : Ex := .comp (.tup (.cons (.var 7) (.cons (.cst (.int 1)) .nil))) (.name 7) (.q (.var 9)) (.nil) [7]
abbrev f_law_11 : Stm := .ret (.call (Str.ofString "_law_by_hand") (.cons (.v (.tup (.cons (.var 5) (.cons (.bi .tuple (.cons (f_law_C1) .nil)) .nil)))) (.cons (.v (.var 9)) (.nil))))
def bf_law : Stms := .cons f_law_0 (.cons f_law_1 (.cons f_law_2 (.cons f_law_3 (.cons f_law_4 (.cons f_law_5 (.cons f_law_6 (.cons f_law_7 (.cons f_law_8 (.cons f_law_9 (.cons f_law_10 (.cons f_law_11 .nil)))))))))))
def f_law : Fn := ⟨[Str.ofString "script"], [Str.ofString "script", Str.ofString "pail", Str.ofString "wide", Str.ofString "many", Str.ofString "names", Str.ofString "kinds", Str.ofString "setting", Str.ofString "name", Str.ofString "program", Str.ofString "three"], [], bf_law⟩
def prog : Prog := [(Str.ofString "leaves_of", f_leaves_of), (Str.ofString "names_of", f_names_of), (Str.ofString "summand", f_summand), (Str.ofString "sum_words", f_sum_words), (Str.ofString "question_words", f_question_words), (Str.ofString "way_words", f_way_words), (Str.ofString "in_words", f_in_words), (Str.ofString "_law_pail", l_pail), (Str.ofString "_law_scoop", l_scoop), (Str.ofString "_law_names", l_names), (Str.ofString "_law_question", l_question), (Str.ofString "_law_program", l_program), (Str.ofString "_law_full", l_full), (Str.ofString "_law_sum", l_sum), (Str.ofString "_law_words", l_words), (Str.ofString "_law_ways", l_ways), (Str.ofString "_law_along", l_along), (Str.ofString "_law_same", l_same), (Str.ofString "_law_asked", l_asked), (Str.ofString "_law_by_hand", l_by_hand), (Str.ofString "law", f_law)]

end G
namespace G
open PySem PySem.Spec PyProof.Rows L2
def csL : List (Str × D) := []
def gi : GI := ⟨[(Str.ofString "abs"), (Str.ofString "int"), (Str.ofString "isinstance"), (Str.ofString "len"), (Str.ofString "list"), (Str.ofString "range"), (Str.ofString "str"), (Str.ofString "tuple"), (Str.ofString "zip")], false, prog, fun x => csL.lookup x, fun f => (([((Str.ofString "in_words"), [[(Str.ofString "program"), (Str.ofString "setting")]]), ((Str.ofString "question_words"), [[(Str.ofString "yes"), (Str.ofString "question"), (Str.ofString "setting")]])] : List (Str × List (List Str))).lookup f).getD []⟩
def top (i : Nat) : Stmt := PySem.Challenge.pw_whateverzero_k46_wording.main.body.getD i (.Pass ⟨0, 0, 0, 0⟩)
abbrev df_leaves_of : He.DefD := ⟨((Str.ofString "leaves_of"), none), (Str.ofString "leaves_of"), (Str.ofString "leaves_of"), defArgs (top 1), defBody (top 1), defScope (top 1), [], []⟩
abbrev df_names_of : He.DefD := ⟨((Str.ofString "names_of"), none), (Str.ofString "names_of"), (Str.ofString "names_of"), defArgs (top 3), defBody (top 3), defScope (top 3), [], []⟩
abbrev df_summand : He.DefD := ⟨((Str.ofString "summand"), none), (Str.ofString "summand"), (Str.ofString "summand"), defArgs (top 5), defBody (top 5), defScope (top 5), [], []⟩
abbrev df_sum_words : He.DefD := ⟨((Str.ofString "sum_words"), none), (Str.ofString "sum_words"), (Str.ofString "sum_words"), defArgs (top 6), defBody (top 6), defScope (top 6), [], []⟩
abbrev df_question_words : He.DefD := ⟨((Str.ofString "question_words"), none), (Str.ofString "question_words"), (Str.ofString "question_words"), defArgs (top 7), defBody (top 7), defScope (top 7), [], []⟩
abbrev df_way_words : He.DefD := ⟨((Str.ofString "way_words"), none), (Str.ofString "way_words"), (Str.ofString "way_words"), defArgs (top 8), defBody (top 8), defScope (top 8), [], []⟩
abbrev df_in_words : He.DefD := ⟨((Str.ofString "in_words"), none), (Str.ofString "in_words"), (Str.ofString "in_words"), defArgs (top 9), defBody (top 9), defScope (top 9), [], []⟩
abbrev dl_pail : He.DefD := ⟨((Str.ofString "_law_pail"), none), (Str.ofString "_law_pail"), (Str.ofString "_law_pail"), defArgs (top 11), defBody (top 11), defScope (top 11), [], []⟩
abbrev dl_scoop : He.DefD := ⟨((Str.ofString "_law_scoop"), none), (Str.ofString "_law_scoop"), (Str.ofString "_law_scoop"), defArgs (top 12), defBody (top 12), defScope (top 12), [], []⟩
abbrev dl_names : He.DefD := ⟨((Str.ofString "_law_names"), none), (Str.ofString "_law_names"), (Str.ofString "_law_names"), defArgs (top 13), defBody (top 13), defScope (top 13), [], []⟩
abbrev dl_question : He.DefD := ⟨((Str.ofString "_law_question"), none), (Str.ofString "_law_question"), (Str.ofString "_law_question"), defArgs (top 14), defBody (top 14), defScope (top 14), [], []⟩
abbrev dl_program : He.DefD := ⟨((Str.ofString "_law_program"), none), (Str.ofString "_law_program"), (Str.ofString "_law_program"), defArgs (top 15), defBody (top 15), defScope (top 15), [], []⟩
abbrev dl_full : He.DefD := ⟨((Str.ofString "_law_full"), none), (Str.ofString "_law_full"), (Str.ofString "_law_full"), defArgs (top 16), defBody (top 16), defScope (top 16), [], []⟩
abbrev dl_sum : He.DefD := ⟨((Str.ofString "_law_sum"), none), (Str.ofString "_law_sum"), (Str.ofString "_law_sum"), defArgs (top 17), defBody (top 17), defScope (top 17), [], []⟩
abbrev dl_words : He.DefD := ⟨((Str.ofString "_law_words"), none), (Str.ofString "_law_words"), (Str.ofString "_law_words"), defArgs (top 18), defBody (top 18), defScope (top 18), [], []⟩
abbrev dl_ways : He.DefD := ⟨((Str.ofString "_law_ways"), none), (Str.ofString "_law_ways"), (Str.ofString "_law_ways"), defArgs (top 19), defBody (top 19), defScope (top 19), [], []⟩
abbrev dl_along : He.DefD := ⟨((Str.ofString "_law_along"), none), (Str.ofString "_law_along"), (Str.ofString "_law_along"), defArgs (top 20), defBody (top 20), defScope (top 20), [], []⟩
abbrev dl_same : He.DefD := ⟨((Str.ofString "_law_same"), none), (Str.ofString "_law_same"), (Str.ofString "_law_same"), defArgs (top 21), defBody (top 21), defScope (top 21), [], []⟩
abbrev dl_asked : He.DefD := ⟨((Str.ofString "_law_asked"), none), (Str.ofString "_law_asked"), (Str.ofString "_law_asked"), defArgs (top 22), defBody (top 22), defScope (top 22), [], []⟩
abbrev dl_by_hand : He.DefD := ⟨((Str.ofString "_law_by_hand"), none), (Str.ofString "_law_by_hand"), (Str.ofString "_law_by_hand"), defArgs (top 23), defBody (top 23), defScope (top 23), [], []⟩
abbrev df_law : He.DefD := ⟨((Str.ofString "law"), none), (Str.ofString "law"), (Str.ofString "law"), defArgs (top 24), defBody (top 24), defScope (top 24), [], []⟩
def fnL : List He.DefD := [df_leaves_of, df_names_of, df_summand, df_sum_words, df_question_words, df_way_words, df_in_words, dl_pail, dl_scoop, dl_names, dl_question, dl_program, dl_full, dl_sum, dl_words, dl_ways, dl_along, dl_same, dl_asked, dl_by_hand, df_law]
def faL : List He.Fa := [.glo (Str.ofString "leaves_of"), .glo (Str.ofString "names_of"), .glo (Str.ofString "summand"), .glo (Str.ofString "sum_words"), .glo (Str.ofString "question_words"), .glo (Str.ofString "way_words"), .glo (Str.ofString "in_words"), .glo (Str.ofString "_law_pail"), .glo (Str.ofString "_law_scoop"), .glo (Str.ofString "_law_names"), .glo (Str.ofString "_law_question"), .glo (Str.ofString "_law_program"), .glo (Str.ofString "_law_full"), .glo (Str.ofString "_law_sum"), .glo (Str.ofString "_law_words"), .glo (Str.ofString "_law_ways"), .glo (Str.ofString "_law_along"), .glo (Str.ofString "_law_same"), .glo (Str.ofString "_law_asked"), .glo (Str.ofString "_law_by_hand"), .glo (Str.ofString "law"), .free (Str.ofString "abs"), .free (Str.ofString "int"), .free (Str.ofString "isinstance"), .free (Str.ofString "len"), .free (Str.ofString "list"), .free (Str.ofString "range"), .free (Str.ofString "str"), .free (Str.ofString "tuple"), .free (Str.ofString "zip")]
/-! ### the look at each def -/
theorem mf_leaves_of : mtSs gi ⟨f_leaves_of.N, defScope (top 1), fun _ => true⟩ f_leaves_of.body (defBody (top 1)) = true := by kernel_rfl
theorem sf_leaves_of : FnScope f_leaves_of.N f_leaves_of.ps (defScope (top 1)) := ⟨by kernel_rfl, by kernel_rfl, by kernel_rfl, by decide +kernel, by kernel_rfl, by decide +kernel, by decide +kernel⟩
theorem mf_names_of : mtSs gi ⟨f_names_of.N, defScope (top 3), fun _ => true⟩ f_names_of.body (defBody (top 3)) = true := by kernel_rfl
theorem sf_names_of : FnScope f_names_of.N f_names_of.ps (defScope (top 3)) := ⟨by kernel_rfl, by kernel_rfl, by kernel_rfl, by decide +kernel, by kernel_rfl, by decide +kernel, by decide +kernel⟩
theorem mf_summand : mtSs gi ⟨f_summand.N, defScope (top 5), fun _ => true⟩ f_summand.body (defBody (top 5)) = true := by kernel_rfl
theorem sf_summand : FnScope f_summand.N f_summand.ps (defScope (top 5)) := ⟨by kernel_rfl, by kernel_rfl, by kernel_rfl, by decide +kernel, by kernel_rfl, by decide +kernel, by decide +kernel⟩
theorem mf_sum_words : mtSs gi ⟨f_sum_words.N, defScope (top 6), fun _ => true⟩ f_sum_words.body (defBody (top 6)) = true := by kernel_rfl
theorem sf_sum_words : FnScope f_sum_words.N f_sum_words.ps (defScope (top 6)) := ⟨by kernel_rfl, by kernel_rfl, by kernel_rfl, by decide +kernel, by kernel_rfl, by decide +kernel, by decide +kernel⟩
theorem mf_question_words : mtSs gi ⟨f_question_words.N, defScope (top 7), fun _ => true⟩ f_question_words.body (defBody (top 7)) = true := by kernel_rfl
theorem sf_question_words : FnScope f_question_words.N f_question_words.ps (defScope (top 7)) := ⟨by kernel_rfl, by kernel_rfl, by kernel_rfl, by decide +kernel, by kernel_rfl, by decide +kernel, by decide +kernel⟩
theorem mf_way_words : mtSs gi ⟨f_way_words.N, defScope (top 8), fun _ => true⟩ f_way_words.body (defBody (top 8)) = true := by kernel_rfl
theorem sf_way_words : FnScope f_way_words.N f_way_words.ps (defScope (top 8)) := ⟨by kernel_rfl, by kernel_rfl, by kernel_rfl, by decide +kernel, by kernel_rfl, by decide +kernel, by decide +kernel⟩
theorem mf_in_words : mtSs gi ⟨f_in_words.N, defScope (top 9), fun _ => true⟩ f_in_words.body (defBody (top 9)) = true := by kernel_rfl
theorem sf_in_words : FnScope f_in_words.N f_in_words.ps (defScope (top 9)) := ⟨by kernel_rfl, by kernel_rfl, by kernel_rfl, by decide +kernel, by kernel_rfl, by decide +kernel, by decide +kernel⟩
theorem ml_pail : mtSs gi ⟨l_pail.N, defScope (top 11), fun _ => true⟩ l_pail.body (defBody (top 11)) = true := by kernel_rfl
theorem sl_pail : FnScope l_pail.N l_pail.ps (defScope (top 11)) := ⟨by kernel_rfl, by kernel_rfl, by kernel_rfl, by decide +kernel, by kernel_rfl, by decide +kernel, by decide +kernel⟩
theorem ml_scoop : mtSs gi ⟨l_scoop.N, defScope (top 12), fun _ => true⟩ l_scoop.body (defBody (top 12)) = true := by kernel_rfl
theorem sl_scoop : FnScope l_scoop.N l_scoop.ps (defScope (top 12)) := ⟨by kernel_rfl, by kernel_rfl, by kernel_rfl, by decide +kernel, by kernel_rfl, by decide +kernel, by decide +kernel⟩
theorem ml_names : mtSs gi ⟨l_names.N, defScope (top 13), fun _ => true⟩ l_names.body (defBody (top 13)) = true := by kernel_rfl
theorem sl_names : FnScope l_names.N l_names.ps (defScope (top 13)) := ⟨by kernel_rfl, by kernel_rfl, by kernel_rfl, by decide +kernel, by kernel_rfl, by decide +kernel, by decide +kernel⟩
theorem ml_question : mtSs gi ⟨l_question.N, defScope (top 14), fun _ => true⟩ l_question.body (defBody (top 14)) = true := by kernel_rfl
theorem sl_question : FnScope l_question.N l_question.ps (defScope (top 14)) := ⟨by kernel_rfl, by kernel_rfl, by kernel_rfl, by decide +kernel, by kernel_rfl, by decide +kernel, by decide +kernel⟩
theorem ml_program : mtSs gi ⟨l_program.N, defScope (top 15), fun _ => true⟩ l_program.body (defBody (top 15)) = true := by kernel_rfl
theorem sl_program : FnScope l_program.N l_program.ps (defScope (top 15)) := ⟨by kernel_rfl, by kernel_rfl, by kernel_rfl, by decide +kernel, by kernel_rfl, by decide +kernel, by decide +kernel⟩
theorem ml_full : mtSs gi ⟨l_full.N, defScope (top 16), fun _ => true⟩ l_full.body (defBody (top 16)) = true := by kernel_rfl
theorem sl_full : FnScope l_full.N l_full.ps (defScope (top 16)) := ⟨by kernel_rfl, by kernel_rfl, by kernel_rfl, by decide +kernel, by kernel_rfl, by decide +kernel, by decide +kernel⟩
theorem ml_sum : mtSs gi ⟨l_sum.N, defScope (top 17), fun _ => true⟩ l_sum.body (defBody (top 17)) = true := by kernel_rfl
theorem sl_sum : FnScope l_sum.N l_sum.ps (defScope (top 17)) := ⟨by kernel_rfl, by kernel_rfl, by kernel_rfl, by decide +kernel, by kernel_rfl, by decide +kernel, by decide +kernel⟩
theorem ml_words : mtSs gi ⟨l_words.N, defScope (top 18), fun _ => true⟩ l_words.body (defBody (top 18)) = true := by kernel_rfl
theorem sl_words : FnScope l_words.N l_words.ps (defScope (top 18)) := ⟨by kernel_rfl, by kernel_rfl, by kernel_rfl, by decide +kernel, by kernel_rfl, by decide +kernel, by decide +kernel⟩
theorem ml_ways : mtSs gi ⟨l_ways.N, defScope (top 19), fun _ => true⟩ l_ways.body (defBody (top 19)) = true := by kernel_rfl
theorem sl_ways : FnScope l_ways.N l_ways.ps (defScope (top 19)) := ⟨by kernel_rfl, by kernel_rfl, by kernel_rfl, by decide +kernel, by kernel_rfl, by decide +kernel, by decide +kernel⟩
theorem ml_along : mtSs gi ⟨l_along.N, defScope (top 20), fun _ => true⟩ l_along.body (defBody (top 20)) = true := by kernel_rfl
theorem sl_along : FnScope l_along.N l_along.ps (defScope (top 20)) := ⟨by kernel_rfl, by kernel_rfl, by kernel_rfl, by decide +kernel, by kernel_rfl, by decide +kernel, by decide +kernel⟩
theorem ml_same : mtSs gi ⟨l_same.N, defScope (top 21), fun _ => true⟩ l_same.body (defBody (top 21)) = true := by kernel_rfl
theorem sl_same : FnScope l_same.N l_same.ps (defScope (top 21)) := ⟨by kernel_rfl, by kernel_rfl, by kernel_rfl, by decide +kernel, by kernel_rfl, by decide +kernel, by decide +kernel⟩
theorem ml_asked : mtSs gi ⟨l_asked.N, defScope (top 22), fun _ => true⟩ l_asked.body (defBody (top 22)) = true := by kernel_rfl
theorem sl_asked : FnScope l_asked.N l_asked.ps (defScope (top 22)) := ⟨by kernel_rfl, by kernel_rfl, by kernel_rfl, by decide +kernel, by kernel_rfl, by decide +kernel, by decide +kernel⟩
theorem ml_by_hand : mtSs gi ⟨l_by_hand.N, defScope (top 23), fun _ => true⟩ l_by_hand.body (defBody (top 23)) = true := by kernel_rfl
theorem sl_by_hand : FnScope l_by_hand.N l_by_hand.ps (defScope (top 23)) := ⟨by kernel_rfl, by kernel_rfl, by kernel_rfl, by decide +kernel, by kernel_rfl, by decide +kernel, by decide +kernel⟩
theorem mf_law : mtSs gi ⟨f_law.N, defScope (top 24), fun _ => true⟩ f_law.body (defBody (top 24)) = true := by kernel_rfl
theorem sf_law : FnScope f_law.N f_law.ps (defScope (top 24)) := ⟨by kernel_rfl, by kernel_rfl, by kernel_rfl, by decide +kernel, by kernel_rfl, by decide +kernel, by decide +kernel⟩
/-! ### each def as it stands -/
section
variable {K : PySem.W.Frag} {mg : Str → Option Value}
theorem kf_leaves_of {a : Addr} {fdt : FuncData} (F : FunD K df_leaves_of.name df_leaves_of.qual df_leaves_of.params df_leaves_of.body df_leaves_of.scope (df_leaves_of.dvs K) (df_leaves_of.kws K) a fdt) (hm : mg (Str.ofString "leaves_of") = some (.ref a)) : FnK K mg gi (Str.ofString "leaves_of") f_leaves_of a fdt := by
  refine ⟨⟨_, _, _, _, _, _, F, hm, sf_leaves_of, mf_leaves_of⟩, ?_, ?_⟩
  · exact dfl_none rfl (FunD.bindsN (ps := f_leaves_of.ps) F fun _ _ _ _ _ _ us hl => match us, hl with | [_], _ => rfl)
  · intro ks hks
    have e0 : gi.kw (Str.ofString "leaves_of") = [] := by kernel_rfl
    rw [e0] at hks; exact absurd hks List.not_mem_nil
theorem kf_names_of {a : Addr} {fdt : FuncData} (F : FunD K df_names_of.name df_names_of.qual df_names_of.params df_names_of.body df_names_of.scope (df_names_of.dvs K) (df_names_of.kws K) a fdt) (hm : mg (Str.ofString "names_of") = some (.ref a)) : FnK K mg gi (Str.ofString "names_of") f_names_of a fdt := by
  refine ⟨⟨_, _, _, _, _, _, F, hm, sf_names_of, mf_names_of⟩, ?_, ?_⟩
  · exact dfl_none rfl (FunD.bindsN (ps := f_names_of.ps) F fun _ _ _ _ _ _ us hl => match us, hl with | [_], _ => rfl)
  · intro ks hks
    have e0 : gi.kw (Str.ofString "names_of") = [] := by kernel_rfl
    rw [e0] at hks; exact absurd hks List.not_mem_nil
theorem kf_summand {a : Addr} {fdt : FuncData} (F : FunD K df_summand.name df_summand.qual df_summand.params df_summand.body df_summand.scope (df_summand.dvs K) (df_summand.kws K) a fdt) (hm : mg (Str.ofString "summand") = some (.ref a)) : FnK K mg gi (Str.ofString "summand") f_summand a fdt := by
  refine ⟨⟨_, _, _, _, _, _, F, hm, sf_summand, mf_summand⟩, ?_, ?_⟩
  · exact dfl_none rfl (FunD.bindsN (ps := f_summand.ps) F fun _ _ _ _ _ _ us hl => match us, hl with | [_, _], _ => rfl)
  · intro ks hks
    have e0 : gi.kw (Str.ofString "summand") = [] := by kernel_rfl
    rw [e0] at hks; exact absurd hks List.not_mem_nil
theorem kf_sum_words {a : Addr} {fdt : FuncData} (F : FunD K df_sum_words.name df_sum_words.qual df_sum_words.params df_sum_words.body df_sum_words.scope (df_sum_words.dvs K) (df_sum_words.kws K) a fdt) (hm : mg (Str.ofString "sum_words") = some (.ref a)) : FnK K mg gi (Str.ofString "sum_words") f_sum_words a fdt := by
  refine ⟨⟨_, _, _, _, _, _, F, hm, sf_sum_words, mf_sum_words⟩, ?_, ?_⟩
  · exact dfl_none rfl (FunD.bindsN (ps := f_sum_words.ps) F fun _ _ _ _ _ _ us hl => match us, hl with | [_, _], _ => rfl)
  · intro ks hks
    have e0 : gi.kw (Str.ofString "sum_words") = [] := by kernel_rfl
    rw [e0] at hks; exact absurd hks List.not_mem_nil
theorem kf_question_words {a : Addr} {fdt : FuncData} (F : FunD K df_question_words.name df_question_words.qual df_question_words.params df_question_words.body df_question_words.scope (df_question_words.dvs K) (df_question_words.kws K) a fdt) (hm : mg (Str.ofString "question_words") = some (.ref a)) : FnK K mg gi (Str.ofString "question_words") f_question_words a fdt := by
  refine ⟨⟨_, _, _, _, _, _, F, hm, sf_question_words, mf_question_words⟩, ?_, ?_⟩
  · exact dfl_none rfl (FunD.bindsN (ps := f_question_words.ps) F fun _ _ _ _ _ _ us hl => match us, hl with | [_, _, _], _ => rfl)
  · intro ks hks s ws ys X hl hp
    have e0 : gi.kw (Str.ofString "question_words") = [[(Str.ofString "yes"), (Str.ofString "question"), (Str.ofString "setting")]] := by kernel_rfl
    have e : ks = [(Str.ofString "yes"), (Str.ofString "question"), (Str.ofString "setting")] := by rw [e0] at hks; exact List.mem_singleton.mp hks
    subst e
    match ws, hl with
    | [w0, w1, w2], _ =>
      have e2 : ys = [w2, w1, w0] := by
        have z : pick (List.zip [(Str.ofString "yes"), (Str.ofString "question"), (Str.ofString "setting")] [w0, w1, w2]) f_question_words.ps = some [w2, w1, w0] := rfl
        exact Option.some.inj (hp.symm.trans z)
      subst e2
      obtain ⟨oc, od, dV, kV, doc, pm, an, cdv, ct, osl, rfl, lk, hcd, hD, hK⟩ := F.ex
      rcases hD with ⟨_, rfl⟩ | ⟨e, _⟩
      · exact .of_eq rfl
      · exact absurd rfl e
theorem kf_way_words {a : Addr} {fdt : FuncData} (F : FunD K df_way_words.name df_way_words.qual df_way_words.params df_way_words.body df_way_words.scope (df_way_words.dvs K) (df_way_words.kws K) a fdt) (hm : mg (Str.ofString "way_words") = some (.ref a)) : FnK K mg gi (Str.ofString "way_words") f_way_words a fdt := by
  refine ⟨⟨_, _, _, _, _, _, F, hm, sf_way_words, mf_way_words⟩, ?_, ?_⟩
  · exact dfl_none rfl (FunD.bindsN (ps := f_way_words.ps) F fun _ _ _ _ _ _ us hl => match us, hl with | [_, _, _], _ => rfl)
  · intro ks hks
    have e0 : gi.kw (Str.ofString "way_words") = [] := by kernel_rfl
    rw [e0] at hks; exact absurd hks List.not_mem_nil
theorem kf_in_words {a : Addr} {fdt : FuncData} (F : FunD K df_in_words.name df_in_words.qual df_in_words.params df_in_words.body df_in_words.scope (df_in_words.dvs K) (df_in_words.kws K) a fdt) (hm : mg (Str.ofString "in_words") = some (.ref a)) : FnK K mg gi (Str.ofString "in_words") f_in_words a fdt := by
  refine ⟨⟨_, _, _, _, _, _, F, hm, sf_in_words, mf_in_words⟩, ?_, ?_⟩
  · exact dfl_none rfl (FunD.bindsN (ps := f_in_words.ps) F fun _ _ _ _ _ _ us hl => match us, hl with | [_, _], _ => rfl)
  · intro ks hks s ws ys X hl hp
    have e0 : gi.kw (Str.ofString "in_words") = [[(Str.ofString "program"), (Str.ofString "setting")]] := by kernel_rfl
    have e : ks = [(Str.ofString "program"), (Str.ofString "setting")] := by rw [e0] at hks; exact List.mem_singleton.mp hks
    subst e
    match ws, hl with
    | [w0, w1], _ =>
      have e2 : ys = [w1, w0] := by
        have z : pick (List.zip [(Str.ofString "program"), (Str.ofString "setting")] [w0, w1]) f_in_words.ps = some [w1, w0] := rfl
        exact Option.some.inj (hp.symm.trans z)
      subst e2
      obtain ⟨oc, od, dV, kV, doc, pm, an, cdv, ct, osl, rfl, lk, hcd, hD, hK⟩ := F.ex
      rcases hD with ⟨_, rfl⟩ | ⟨e, _⟩
      · exact .of_eq rfl
      · exact absurd rfl e
theorem kl_pail {a : Addr} {fdt : FuncData} (F : FunD K dl_pail.name dl_pail.qual dl_pail.params dl_pail.body dl_pail.scope (dl_pail.dvs K) (dl_pail.kws K) a fdt) (hm : mg (Str.ofString "_law_pail") = some (.ref a)) : FnK K mg gi (Str.ofString "_law_pail") l_pail a fdt := by
  refine ⟨⟨_, _, _, _, _, _, F, hm, sl_pail, ml_pail⟩, ?_, ?_⟩
  · exact dfl_none rfl (FunD.bindsN (ps := l_pail.ps) F fun _ _ _ _ _ _ us hl => match us, hl with | [_], _ => rfl)
  · intro ks hks
    have e0 : gi.kw (Str.ofString "_law_pail") = [] := by kernel_rfl
    rw [e0] at hks; exact absurd hks List.not_mem_nil
theorem kl_scoop {a : Addr} {fdt : FuncData} (F : FunD K dl_scoop.name dl_scoop.qual dl_scoop.params dl_scoop.body dl_scoop.scope (dl_scoop.dvs K) (dl_scoop.kws K) a fdt) (hm : mg (Str.ofString "_law_scoop") = some (.ref a)) : FnK K mg gi (Str.ofString "_law_scoop") l_scoop a fdt := by
  refine ⟨⟨_, _, _, _, _, _, F, hm, sl_scoop, ml_scoop⟩, ?_, ?_⟩
  · exact dfl_none rfl (FunD.bindsN (ps := l_scoop.ps) F fun _ _ _ _ _ _ us hl => match us, hl with | [_, _], _ => rfl)
  · intro ks hks
    have e0 : gi.kw (Str.ofString "_law_scoop") = [] := by kernel_rfl
    rw [e0] at hks; exact absurd hks List.not_mem_nil
theorem kl_names {a : Addr} {fdt : FuncData} (F : FunD K dl_names.name dl_names.qual dl_names.params dl_names.body dl_names.scope (dl_names.dvs K) (dl_names.kws K) a fdt) (hm : mg (Str.ofString "_law_names") = some (.ref a)) : FnK K mg gi (Str.ofString "_law_names") l_names a fdt := by
  refine ⟨⟨_, _, _, _, _, _, F, hm, sl_names, ml_names⟩, ?_, ?_⟩
  · exact dfl_none rfl (FunD.bindsN (ps := l_names.ps) F fun _ _ _ _ _ _ us hl => match us, hl with | [_, _], _ => rfl)
  · intro ks hks
    have e0 : gi.kw (Str.ofString "_law_names") = [] := by kernel_rfl
    rw [e0] at hks; exact absurd hks List.not_mem_nil
theorem kl_question {a : Addr} {fdt : FuncData} (F : FunD K dl_question.name dl_question.qual dl_question.params dl_question.body dl_question.scope (dl_question.dvs K) (dl_question.kws K) a fdt) (hm : mg (Str.ofString "_law_question") = some (.ref a)) : FnK K mg gi (Str.ofString "_law_question") l_question a fdt := by
  refine ⟨⟨_, _, _, _, _, _, F, hm, sl_question, ml_question⟩, ?_, ?_⟩
  · exact dfl_none rfl (FunD.bindsN (ps := l_question.ps) F fun _ _ _ _ _ _ us hl => match us, hl with | [_, _], _ => rfl)
  · intro ks hks
    have e0 : gi.kw (Str.ofString "_law_question") = [] := by kernel_rfl
    rw [e0] at hks; exact absurd hks List.not_mem_nil
theorem kl_program {a : Addr} {fdt : FuncData} (F : FunD K dl_program.name dl_program.qual dl_program.params dl_program.body dl_program.scope (dl_program.dvs K) (dl_program.kws K) a fdt) (hm : mg (Str.ofString "_law_program") = some (.ref a)) : FnK K mg gi (Str.ofString "_law_program") l_program a fdt := by
  refine ⟨⟨_, _, _, _, _, _, F, hm, sl_program, ml_program⟩, ?_, ?_⟩
  · exact dfl_none rfl (FunD.bindsN (ps := l_program.ps) F fun _ _ _ _ _ _ us hl => match us, hl with | [_, _, _, _], _ => rfl)
  · intro ks hks
    have e0 : gi.kw (Str.ofString "_law_program") = [] := by kernel_rfl
    rw [e0] at hks; exact absurd hks List.not_mem_nil
theorem kl_full {a : Addr} {fdt : FuncData} (F : FunD K dl_full.name dl_full.qual dl_full.params dl_full.body dl_full.scope (dl_full.dvs K) (dl_full.kws K) a fdt) (hm : mg (Str.ofString "_law_full") = some (.ref a)) : FnK K mg gi (Str.ofString "_law_full") l_full a fdt := by
  refine ⟨⟨_, _, _, _, _, _, F, hm, sl_full, ml_full⟩, ?_, ?_⟩
  · exact dfl_none rfl (FunD.bindsN (ps := l_full.ps) F fun _ _ _ _ _ _ us hl => match us, hl with | [_, _], _ => rfl)
  · intro ks hks
    have e0 : gi.kw (Str.ofString "_law_full") = [] := by kernel_rfl
    rw [e0] at hks; exact absurd hks List.not_mem_nil
theorem kl_sum {a : Addr} {fdt : FuncData} (F : FunD K dl_sum.name dl_sum.qual dl_sum.params dl_sum.body dl_sum.scope (dl_sum.dvs K) (dl_sum.kws K) a fdt) (hm : mg (Str.ofString "_law_sum") = some (.ref a)) : FnK K mg gi (Str.ofString "_law_sum") l_sum a fdt := by
  refine ⟨⟨_, _, _, _, _, _, F, hm, sl_sum, ml_sum⟩, ?_, ?_⟩
  · exact dfl_none rfl (FunD.bindsN (ps := l_sum.ps) F fun _ _ _ _ _ _ us hl => match us, hl with | [_, _], _ => rfl)
  · intro ks hks
    have e0 : gi.kw (Str.ofString "_law_sum") = [] := by kernel_rfl
    rw [e0] at hks; exact absurd hks List.not_mem_nil
theorem kl_words {a : Addr} {fdt : FuncData} (F : FunD K dl_words.name dl_words.qual dl_words.params dl_words.body dl_words.scope (dl_words.dvs K) (dl_words.kws K) a fdt) (hm : mg (Str.ofString "_law_words") = some (.ref a)) : FnK K mg gi (Str.ofString "_law_words") l_words a fdt := by
  refine ⟨⟨_, _, _, _, _, _, F, hm, sl_words, ml_words⟩, ?_, ?_⟩
  · exact dfl_none rfl (FunD.bindsN (ps := l_words.ps) F fun _ _ _ _ _ _ us hl => match us, hl with | [_, _, _], _ => rfl)
  · intro ks hks
    have e0 : gi.kw (Str.ofString "_law_words") = [] := by kernel_rfl
    rw [e0] at hks; exact absurd hks List.not_mem_nil
theorem kl_ways {a : Addr} {fdt : FuncData} (F : FunD K dl_ways.name dl_ways.qual dl_ways.params dl_ways.body dl_ways.scope (dl_ways.dvs K) (dl_ways.kws K) a fdt) (hm : mg (Str.ofString "_law_ways") = some (.ref a)) : FnK K mg gi (Str.ofString "_law_ways") l_ways a fdt := by
  refine ⟨⟨_, _, _, _, _, _, F, hm, sl_ways, ml_ways⟩, ?_, ?_⟩
  · exact dfl_none rfl (FunD.bindsN (ps := l_ways.ps) F fun _ _ _ _ _ _ us hl => match us, hl with | [_], _ => rfl)
  · intro ks hks
    have e0 : gi.kw (Str.ofString "_law_ways") = [] := by kernel_rfl
    rw [e0] at hks; exact absurd hks List.not_mem_nil
theorem kl_along {a : Addr} {fdt : FuncData} (F : FunD K dl_along.name dl_along.qual dl_along.params dl_along.body dl_along.scope (dl_along.dvs K) (dl_along.kws K) a fdt) (hm : mg (Str.ofString "_law_along") = some (.ref a)) : FnK K mg gi (Str.ofString "_law_along") l_along a fdt := by
  refine ⟨⟨_, _, _, _, _, _, F, hm, sl_along, ml_along⟩, ?_, ?_⟩
  · exact dfl_none rfl (FunD.bindsN (ps := l_along.ps) F fun _ _ _ _ _ _ us hl => match us, hl with | [_, _, _], _ => rfl)
  · intro ks hks
    have e0 : gi.kw (Str.ofString "_law_along") = [] := by kernel_rfl
    rw [e0] at hks; exact absurd hks List.not_mem_nil
theorem kl_same {a : Addr} {fdt : FuncData} (F : FunD K dl_same.name dl_same.qual dl_same.params dl_same.body dl_same.scope (dl_same.dvs K) (dl_same.kws K) a fdt) (hm : mg (Str.ofString "_law_same") = some (.ref a)) : FnK K mg gi (Str.ofString "_law_same") l_same a fdt := by
  refine ⟨⟨_, _, _, _, _, _, F, hm, sl_same, ml_same⟩, ?_, ?_⟩
  · exact dfl_none rfl (FunD.bindsN (ps := l_same.ps) F fun _ _ _ _ _ _ us hl => match us, hl with | [_, _], _ => rfl)
  · intro ks hks
    have e0 : gi.kw (Str.ofString "_law_same") = [] := by kernel_rfl
    rw [e0] at hks; exact absurd hks List.not_mem_nil
theorem kl_asked {a : Addr} {fdt : FuncData} (F : FunD K dl_asked.name dl_asked.qual dl_asked.params dl_asked.body dl_asked.scope (dl_asked.dvs K) (dl_asked.kws K) a fdt) (hm : mg (Str.ofString "_law_asked") = some (.ref a)) : FnK K mg gi (Str.ofString "_law_asked") l_asked a fdt := by
  refine ⟨⟨_, _, _, _, _, _, F, hm, sl_asked, ml_asked⟩, ?_, ?_⟩
  · exact dfl_none rfl (FunD.bindsN (ps := l_asked.ps) F fun _ _ _ _ _ _ us hl => match us, hl with | [_, _, _], _ => rfl)
  · intro ks hks
    have e0 : gi.kw (Str.ofString "_law_asked") = [] := by kernel_rfl
    rw [e0] at hks; exact absurd hks List.not_mem_nil
theorem kl_by_hand {a : Addr} {fdt : FuncData} (F : FunD K dl_by_hand.name dl_by_hand.qual dl_by_hand.params dl_by_hand.body dl_by_hand.scope (dl_by_hand.dvs K) (dl_by_hand.kws K) a fdt) (hm : mg (Str.ofString "_law_by_hand") = some (.ref a)) : FnK K mg gi (Str.ofString "_law_by_hand") l_by_hand a fdt := by
  refine ⟨⟨_, _, _, _, _, _, F, hm, sl_by_hand, ml_by_hand⟩, ?_, ?_⟩
  · exact dfl_none rfl (FunD.bindsN (ps := l_by_hand.ps) F fun _ _ _ _ _ _ us hl => match us, hl with | [_, _], _ => rfl)
  · intro ks hks
    have e0 : gi.kw (Str.ofString "_law_by_hand") = [] := by kernel_rfl
    rw [e0] at hks; exact absurd hks List.not_mem_nil
theorem kf_law {a : Addr} {fdt : FuncData} (F : FunD K df_law.name df_law.qual df_law.params df_law.body df_law.scope (df_law.dvs K) (df_law.kws K) a fdt) (hm : mg (Str.ofString "law") = some (.ref a)) : FnK K mg gi (Str.ofString "law") f_law a fdt := by
  refine ⟨⟨_, _, _, _, _, _, F, hm, sf_law, mf_law⟩, ?_, ?_⟩
  · exact dfl_none rfl (FunD.bindsN (ps := f_law.ps) F fun _ _ _ _ _ _ us hl => match us, hl with | [_], _ => rfl)
  · intro ks hks
    have e0 : gi.kw (Str.ofString "law") = [] := by kernel_rfl
    rw [e0] at hks; exact absurd hks List.not_mem_nil
end
/-! ### the head -/
abbrev RR : PySem.W.OpenRow := PySem.W.OpenLaw.row PySem.Challenge.rw_whateverzero_k46_wording
abbrev hk : PySem.W.Hook := hookG false csL 4 faL fnL
def ob (s : PySem.W.SharedT) : Bool × He.AlD := obsG false csL 4 faL fnL (HandSHeadRun.getT s)
theorem ob_eq (s : PySem.W.SharedT) : ob s = hk.obs s.abs := obsG_eq (HandSHeadRun.getT_eq s)
def loose : List Str := [(Str.ofString "leaves_of"), (Str.ofString "names_of"), (Str.ofString "summand"), (Str.ofString "sum_words"), (Str.ofString "question_words"), (Str.ofString "way_words"), (Str.ofString "in_words"), (Str.ofString "_law_pail"), (Str.ofString "_law_scoop"), (Str.ofString "_law_names"), (Str.ofString "_law_question"), (Str.ofString "_law_program"), (Str.ofString "_law_full"), (Str.ofString "_law_sum"), (Str.ofString "_law_words"), (Str.ofString "_law_ways"), (Str.ofString "_law_along"), (Str.ofString "_law_same"), (Str.ofString "_law_asked"), (Str.ofString "_law_by_hand")]
theorem runT (w : World) : HandSHeadRun.RunEq RR (PySem.W.view RR.prog [24]) hk ob 2900 loose w := by
  intro os
  kernel_rfl
def LV : Nat := 150
theorem facts {P : Program} {w : World} {K : PySem.W.Frag} {h : Heap} {mg : Str → Option Value} {f : Addr} (X : K.In h) (G : h.Ns mainGlobals mg) (hfa : mg (Str.ofString "law") = some (.ref f)) (c : He.SaysD faL fnL K) (cg : factG K false csL = true) :
    ∃ fd : FuncData, (∀ (s : Shared) (v : Value), BindsTo s fd ⟨[v], []⟩ [(Str.ofString "script", v)]) ∧ ∀ base : Heap, FnOk P w K mg base (L2.CX P w) (LV + 1) f fd [Str.ofString "script"] (spF K mg gi (Str.ofString "law") f_law (LV + 1)) := by
  obtain ⟨t0, F0⟩ := c.def_ 0 (d := df_leaves_of) rfl
  obtain ⟨t1, F1⟩ := c.def_ 1 (d := df_names_of) rfl
  obtain ⟨t2, F2⟩ := c.def_ 2 (d := df_summand) rfl
  obtain ⟨t3, F3⟩ := c.def_ 3 (d := df_sum_words) rfl
  obtain ⟨t4, F4⟩ := c.def_ 4 (d := df_question_words) rfl
  obtain ⟨t5, F5⟩ := c.def_ 5 (d := df_way_words) rfl
  obtain ⟨t6, F6⟩ := c.def_ 6 (d := df_in_words) rfl
  obtain ⟨t7, F7⟩ := c.def_ 7 (d := dl_pail) rfl
  obtain ⟨t8, F8⟩ := c.def_ 8 (d := dl_scoop) rfl
  obtain ⟨t9, F9⟩ := c.def_ 9 (d := dl_names) rfl
  obtain ⟨t10, F10⟩ := c.def_ 10 (d := dl_question) rfl
  obtain ⟨t11, F11⟩ := c.def_ 11 (d := dl_program) rfl
  obtain ⟨t12, F12⟩ := c.def_ 12 (d := dl_full) rfl
  obtain ⟨t13, F13⟩ := c.def_ 13 (d := dl_sum) rfl
  obtain ⟨t14, F14⟩ := c.def_ 14 (d := dl_words) rfl
  obtain ⟨t15, F15⟩ := c.def_ 15 (d := dl_ways) rfl
  obtain ⟨t16, F16⟩ := c.def_ 16 (d := dl_along) rfl
  obtain ⟨t17, F17⟩ := c.def_ 17 (d := dl_same) rfl
  obtain ⟨t18, F18⟩ := c.def_ 18 (d := dl_asked) rfl
  obtain ⟨t19, F19⟩ := c.def_ 19 (d := dl_by_hand) rfl
  obtain ⟨t20, F20⟩ := c.def_ 20 (d := df_law) rfl
  have gh : GH K mg gi := by
    refine { fr := fun x hx => ?_, gcd := fun hg => ?_, gl := fun x d hx => gl_ok X G cg x d hx }
    · have hx : x ∈ [(Str.ofString "abs"), (Str.ofString "int"), (Str.ofString "isinstance"), (Str.ofString "len"), (Str.ofString "list"), (Str.ofString "range"), (Str.ofString "str"), (Str.ofString "tuple"), (Str.ofString "zip")] := List.contains_iff_mem.mp hx
      simp only [List.mem_cons, List.not_mem_nil, or_false] at hx
      rcases hx with rfl | rfl | rfl | rfl | rfl | rfl | rfl | rfl | rfl
      · exact He.free_ok X G (c.fact 21 (f := .free (Str.ofString "abs")) rfl)
      · exact He.free_ok X G (c.fact 22 (f := .free (Str.ofString "int")) rfl)
      · exact He.free_ok X G (c.fact 23 (f := .free (Str.ofString "isinstance")) rfl)
      · exact He.free_ok X G (c.fact 24 (f := .free (Str.ofString "len")) rfl)
      · exact He.free_ok X G (c.fact 25 (f := .free (Str.ofString "list")) rfl)
      · exact He.free_ok X G (c.fact 26 (f := .free (Str.ofString "range")) rfl)
      · exact He.free_ok X G (c.fact 27 (f := .free (Str.ofString "str")) rfl)
      · exact He.free_ok X G (c.fact 28 (f := .free (Str.ofString "tuple")) rfl)
      · exact He.free_ok X G (c.fact 29 (f := .free (Str.ofString "zip")) rfl)
    · cases hg
  have hk : ∀ f fd, gi.P.lookup f = some fd → ∃ a fdt, FnK K mg gi f fd a fdt := by
    refine lookups (Pr := fun f fd => ∃ a fdt, FnK K mg gi f fd a fdt) ?_
    intro q hq
    have hq : q ∈ prog := hq
    simp only [prog, List.mem_cons, List.not_mem_nil, or_false] at hq
    rcases hq with rfl | rfl | rfl | rfl | rfl | rfl | rfl | rfl | rfl | rfl | rfl | rfl | rfl | rfl | rfl | rfl | rfl | rfl | rfl | rfl | rfl
    · exact ⟨_, t0, kf_leaves_of F0 (He.glo_ok X G (c.fact 0 (f := .glo (Str.ofString "leaves_of")) rfl))⟩
    · exact ⟨_, t1, kf_names_of F1 (He.glo_ok X G (c.fact 1 (f := .glo (Str.ofString "names_of")) rfl))⟩
    · exact ⟨_, t2, kf_summand F2 (He.glo_ok X G (c.fact 2 (f := .glo (Str.ofString "summand")) rfl))⟩
    · exact ⟨_, t3, kf_sum_words F3 (He.glo_ok X G (c.fact 3 (f := .glo (Str.ofString "sum_words")) rfl))⟩
    · exact ⟨_, t4, kf_question_words F4 (He.glo_ok X G (c.fact 4 (f := .glo (Str.ofString "question_words")) rfl))⟩
    · exact ⟨_, t5, kf_way_words F5 (He.glo_ok X G (c.fact 5 (f := .glo (Str.ofString "way_words")) rfl))⟩
    · exact ⟨_, t6, kf_in_words F6 (He.glo_ok X G (c.fact 6 (f := .glo (Str.ofString "in_words")) rfl))⟩
    · exact ⟨_, t7, kl_pail F7 (He.glo_ok X G (c.fact 7 (f := .glo (Str.ofString "_law_pail")) rfl))⟩
    · exact ⟨_, t8, kl_scoop F8 (He.glo_ok X G (c.fact 8 (f := .glo (Str.ofString "_law_scoop")) rfl))⟩
    · exact ⟨_, t9, kl_names F9 (He.glo_ok X G (c.fact 9 (f := .glo (Str.ofString "_law_names")) rfl))⟩
    · exact ⟨_, t10, kl_question F10 (He.glo_ok X G (c.fact 10 (f := .glo (Str.ofString "_law_question")) rfl))⟩
    · exact ⟨_, t11, kl_program F11 (He.glo_ok X G (c.fact 11 (f := .glo (Str.ofString "_law_program")) rfl))⟩
    · exact ⟨_, t12, kl_full F12 (He.glo_ok X G (c.fact 12 (f := .glo (Str.ofString "_law_full")) rfl))⟩
    · exact ⟨_, t13, kl_sum F13 (He.glo_ok X G (c.fact 13 (f := .glo (Str.ofString "_law_sum")) rfl))⟩
    · exact ⟨_, t14, kl_words F14 (He.glo_ok X G (c.fact 14 (f := .glo (Str.ofString "_law_words")) rfl))⟩
    · exact ⟨_, t15, kl_ways F15 (He.glo_ok X G (c.fact 15 (f := .glo (Str.ofString "_law_ways")) rfl))⟩
    · exact ⟨_, t16, kl_along F16 (He.glo_ok X G (c.fact 16 (f := .glo (Str.ofString "_law_along")) rfl))⟩
    · exact ⟨_, t17, kl_same F17 (He.glo_ok X G (c.fact 17 (f := .glo (Str.ofString "_law_same")) rfl))⟩
    · exact ⟨_, t18, kl_asked F18 (He.glo_ok X G (c.fact 18 (f := .glo (Str.ofString "_law_asked")) rfl))⟩
    · exact ⟨_, t19, kl_by_hand F19 (He.glo_ok X G (c.fact 19 (f := .glo (Str.ofString "_law_by_hand")) rfl))⟩
    · exact ⟨_, t20, kf_law F20 (He.glo_ok X G (c.fact 20 (f := .glo (Str.ofString "law")) rfl))⟩
  have e := hfa.symm.trans (He.glo_ok X G (c.fact 20 (f := .glo (Str.ofString "law")) rfl))
  cases e
  have b := FunD.bindsA (ps := [Str.ofString "script"]) F20 fun _ _ _ _ _ _ us hl => match us, hl with | [_], _ => rfl
  refine ⟨t20, fun s v => b s [v] rfl, fun base => ?_⟩
  exact (fn_step gh (fn_all gh hk LV) (f := Str.ofString "law") (fd := f_law) (by kernel_rfl) (kf_law F20 (He.glo_ok X G (c.fact 20 (f := .glo (Str.ofString "law")) rfl)))).ok
end G
open PySem PySem.W PySem.Calls PyProof.Rows
/-- the law holds, if the term's run says so -/
theorem G.holds (hrun : ∀ ns : List Int, ns.length ≤ 63 → ∃ M, G.run G.prog (fun x => G.csL.lookup x) (G.LV + 1) (Str.ofString "law") [.ro (ns.map G.D.int)] [] = .ok (.val (.bl true)) M) : PySem.Challenge.rw_whateverzero_k46_wording.Holds := by
  w_on; o_law
  refine HandSHeadRun.head_any (r := OpenLaw.row PySem.Challenge.rw_whateverzero_k46_wording) (q := view (OpenLaw.row PySem.Challenge.rw_whateverzero_k46_wording).prog [24]) (H := G.hk) (ob := G.ob) (M := 2900) (loose := G.loose) (d := HandSHeadRun.topDef (OpenLaw.row PySem.Challenge.rw_whateverzero_k46_wording).prog 24) (kwd := []) G.ob_eq
    (by kernel_rfl) (fun s => by kernel_rfl) G.runT (by kernel_rfl) (by kernel_rfl) (by kernel_rfl) (by rfl) (by first | assumption | decide +kernel) (by decide +kernel) ⟨rfl, rfl, rfl, rfl, rfl, by decide +kernel⟩ ?hw ?hc
  case hw => w_witness2
  case hc =>
    refine L2.walk_ofG (l := PySem.Challenge.rw_whateverzero_k46_wording) (n := 63) (k := G.LV + 1) (x := Str.ofString "script") (CX := fun w => L2.CX (PySem.Challenge.rw_whateverzero_k46_wording).prog w) rfl (by decide) (by kernel_rfl) ⟨rfl, by decide, by decide⟩ ?F (fun w H s e s' z => L2.cx_no _ w H s e s' z)
    intro w mg fa h Y G1 hmg0
    obtain ⟨K, KX, c, cg⟩ := Y
    have hmg : mg (Str.ofString "law") = some (.ref fa) := by
      have e : (HandSHeadRun.topDef (OpenLaw.row PySem.Challenge.rw_whateverzero_k46_wording).prog 24).name = (Str.ofString "law") := by kernel_rfl
      rw [← e]
      exact hmg0
    obtain ⟨fd, hb, hF⟩ := G.facts (P := (PySem.Challenge.rw_whateverzero_k46_wording).prog) (w := w) KX G1 hmg c cg
    exact ⟨K, fd, _, KX, hb, fun H a ns hl hbits _ hS => by
      obtain ⟨M, hM⟩ := hrun ns hl
      exact G.law_sp rfl hS hM, fun base _ _ => hF base⟩

/-! ## GT1 -/
set_option Elab.async false
set_option linter.all false
set_option maxRecDepth 100000
namespace G
open PySem
/-! ## loops with an invariant -/
def isRo : Slot → Bool
  | .ro _ => true
  | _ => false
theorem isRo_no : isRo .no = false := rfl
theorem isRo_val (d : D) : isRo (.val d) = false := rfl
theorem isRo_own (d : List D) : isRo (.own d) = false := rfl
theorem setName_def (i : Nat) (d : Slot) (s : S) : setName i d s = (match s.v[i]? with
    | some x => if isRo x = true then R.bad else .ok () ⟨s.v.set i d, s.M⟩
    | none => .bad) := by
  unfold setName
  cases s.v[i]? with
  | none => rfl
  | some x => cases x <;> rfl
theorem forL_inv {ok : S → Bool} {body : D → S → R Fl} (hok : ∀ s, ok s = true) (P : Nat → S → Prop) : ∀ (xs : List D) (k : Nat), (∀ j x s, xs[j]? = some x → P (k + j) s → ∃ s', body x s = .ok .nx s' ∧ P (k + j + 1) s') → ∀ s, P k s →
    ∃ s', forL ok body xs s = .ok .nx s' ∧ P (k + xs.length) s'
  | [], k, _, s, h => ⟨s, by rw [forL, hok]; rfl, h⟩
  | x :: xs, k, hs, s, h => by
    obtain ⟨s1, e1, h1⟩ := hs 0 x s rfl h
    obtain ⟨s2, e2, h2⟩ := forL_inv hok P xs (k + 1) (fun j y t hy ht => by
      have := hs (j + 1) y t hy (by rw [show k + (j + 1) = k + 1 + j by omega]; exact ht)
      rw [show k + (j + 1) + 1 = k + 1 + j + 1 by omega] at this
      exact this) s1 h1
    refine ⟨s2, ?_, by rw [List.length_cons, show k + (xs.length + 1) = k + 1 + xs.length by omega]; exact h2⟩
    rw [forL, hok, e1]
    exact e2
theorem fors_inv {c : Cn} (st : Stm) {t : Tg} {it : It} {b : Stms} {s s1 : S} {m : Itm} (hst : st = .fors t it b) (hi : evI c it s = .ok m s1) (hl : m.lks = []) (hc : m.chk = []) (P : Nat → S → Prop) (h0 : P 0 s1)
    (step : ∀ j x s, m.xs[j]? = some x → P j s → ∃ s', ((evG c t x s).bind fun _ s2 => evSs c b s2) = .ok .nx s' ∧ P (j + 1) s') : ∃ s', evS c st s = .ok .nx s' ∧ P m.xs.length s' := by
  subst hst
  obtain ⟨xs, chk, lks⟩ := m
  dsimp only at hl hc step
  subst hl hc
  obtain ⟨s', e, h⟩ := forL_inv (ok := Itm.ok ⟨xs, [], []⟩) (fun _ => rfl) P xs 0 (fun j x s hx hp => by
    rw [Nat.zero_add] at hp ⊢
    exact step j x s hx hp) s1 h0
  refine ⟨s', ?_, by rw [Nat.zero_add] at h; exact h⟩
  rw [evS, hi]
  exact (congrArg (unl []) e).trans rfl
theorem compL_inv {ok : S → Bool} {body : D → S → R (Option D)} (hok : ∀ s, ok s = true) (P : Nat → S → Prop) (Q : Nat → D → Prop) : ∀ (xs : List D) (k : Nat),
    (∀ j x s, xs[j]? = some x → P (k + j) s → ∃ d s', body x s = .ok (some d) s' ∧ P (k + j + 1) s' ∧ Q (k + j) d) → ∀ s, P k s →
    ∃ ds s', compL ok body xs s = .ok ds s' ∧ P (k + xs.length) s' ∧ ds.length = xs.length ∧ ∀ j d, ds[j]? = some d → Q (k + j) d
  | [], k, _, s, h => ⟨[], s, by rw [compL, hok]; rfl, h, rfl, fun j d h => by cases h⟩
  | x :: xs, k, hs, s, h => by
    obtain ⟨d, s1, e1, h1, q1⟩ := hs 0 x s rfl h
    obtain ⟨ds, s2, e2, h2, l2, q2⟩ := compL_inv hok P Q xs (k + 1) (fun j y t hy ht => by
      have := hs (j + 1) y t hy (by rw [show k + (j + 1) = k + 1 + j by omega]; exact ht)
      rw [show k + (j + 1) + 1 = k + 1 + j + 1 by omega, show k + (j + 1) = k + 1 + j by omega] at this
      exact this) s1 h1
    refine ⟨d :: ds, s2, ?_, by rw [List.length_cons, show k + (xs.length + 1) = k + 1 + xs.length by omega]; exact h2, by rw [List.length_cons, List.length_cons, l2], fun j e he => ?_⟩
    · rw [compL, hok, e1]
      show (if true = true then (compL ok body xs s1).bind _ else _) = _
      rw [e2]
      rfl
    · cases j with
      | zero => cases he; exact q1
      | succ j => rw [show k + (j + 1) = k + 1 + j by omega]; exact q2 j e he
theorem comp_inv {c : Cn} (X : Ex) {elt : Ex} {tg : Tg} {it : It} {ifs : Tes} {own : List Nat} {s : S} {m : Itm} {v : List Slot} {M : List Cell} (hX : X = .comp elt tg it ifs own) (hi : evI c it s = .ok m ⟨v, M⟩) (hl : m.lks = []) (hc : m.chk = []) (hw : wipes v own = v) (hr : restor v v own = v)
    (hf : fits m.xs.length = true) (P : Nat → List Cell → Prop) (Q : Nat → D → Prop) (h0 : P 0 M)
    (step : ∀ j x M, m.xs[j]? = some x → P j M → ∃ d v' M', turnC (evG c tg) (evTB c true ifs) (evX c elt) x ⟨v, M⟩ = .ok (some d) ⟨v', M'⟩ ∧ wipes v' own = v ∧ P (j + 1) M' ∧ Q j d) :
    ∃ ds M', evX c X s = .ok (.new ds) ⟨v, M'⟩ ∧ P m.xs.length M' ∧ ds.length = m.xs.length ∧ ∀ j d, ds[j]? = some d → Q j d := by
  subst hX
  obtain ⟨xs, chk, lks⟩ := m
  dsimp only at hl hc step hf
  subst hl hc
  obtain ⟨ds, s', e, ⟨hv, hP⟩, hlen, hq⟩ := compL_inv (ok := Itm.ok ⟨xs, [], []⟩) (body := fun x s => (turnC (evG c tg) (evTB c true ifs) (evX c elt) x s).bind fun o s' => .ok o (wiped own s')) (fun _ => rfl) (fun j s => s.v = v ∧ P j s.M) Q xs 0 (fun j x s hx hp => by
    rw [Nat.zero_add] at hp ⊢
    obtain ⟨v2, M2⟩ := s
    obtain ⟨e1, hp⟩ := hp
    dsimp only at e1 hp
    subst e1
    obtain ⟨d, v', M', e, e2, p, q⟩ := step j x M2 hx hp
    refine ⟨d, wiped own ⟨v', M'⟩, ?_, ⟨e2, p⟩, q⟩
    rw [e]
    rfl) ⟨v, M⟩ ⟨rfl, h0⟩
  obtain ⟨v2, M2⟩ := s'
  dsimp only at hv hP
  subst hv
  rw [Nat.zero_add] at hP
  refine ⟨ds, M2, ?_, hP, hlen, fun j d h => by have := hq j d h; rw [Nat.zero_add] at this; exact this⟩
  rw [evX, hi]
  show compD _ _ _ _ = _
  unfold compD
  have hwd : wiped own ⟨lock v2 [], M⟩ = ⟨v2, M⟩ := by unfold wiped; exact congrArg (fun w => (⟨w, M⟩ : S)) hw
  rw [hwd, e]
  show noX (if fits ds.length = true then _ else _) = _
  rw [hlen, if_pos hf]
  show R.ok _ _ = _
  unfold unlock lock
  rw [hr]
theorem ext_get {α : Type} {ds L : List α} (hl : ds.length = L.length) (h : ∀ (j : Nat) d, ds[j]? = some d → L[j]? = some d) : ds = L := by
  refine List.ext_getElem? fun j => ?_
  by_cases hj : j < ds.length
  · rw [List.getElem?_eq_getElem hj]
    exact (h j _ (List.getElem?_eq_getElem hj)).symm
  · rw [List.getElem?_eq_none (by omega), List.getElem?_eq_none (by omega)]
/-- a comprehension that changes nothing -/
theorem comp_map {c : Cn} (X : Ex) {elt : Ex} {tg : Tg} {it : It} {ifs : Tes} {own : List Nat} {s : S} {m : Itm} {v : List Slot} {M : List Cell} (hX : X = .comp elt tg it ifs own) (L : List D) (hi : evI c it s = .ok m ⟨v, M⟩) (hl : m.lks = []) (hc : m.chk = []) (hw : wipes v own = v) (hr : restor v v own = v)
    (hf : fits m.xs.length = true) (hL : L.length = m.xs.length)
    (step : ∀ (j : Nat) x d, m.xs[j]? = some x → L[j]? = some d → ∃ v', turnC (evG c tg) (evTB c true ifs) (evX c elt) x ⟨v, M⟩ = .ok (some d) ⟨v', M⟩ ∧ wipes v' own = v) :
    evX c X s = .ok (.new L) ⟨v, M⟩ := by
  obtain ⟨ds, M', e, hM, hl2, hq⟩ := comp_inv X hX hi hl hc hw hr hf (fun _ N => N = M) (fun j d => L[j]? = some d) rfl (fun j x N hx hN => by
    subst hN
    have hj : j < L.length := by rw [hL]; exact (List.getElem?_eq_some_iff.mp hx).1
    obtain ⟨v', e, h⟩ := step j x L[j] hx (List.getElem?_eq_getElem hj)
    exact ⟨L[j], v', _, e, h, rfl, List.getElem?_eq_getElem hj⟩)
  subst hM
  rw [e, ext_get (by omega) hq]
/-- a comprehension that changes nothing, with tests: item j gives f j -/
theorem compL_fm {ok : S → Bool} {body : D → S → R (Option D)} (hok : ∀ s, ok s = true) (f : Nat → Option D) (s : S) : ∀ (xs : List D) (k : Nat), (∀ (j : Nat) x, xs[j]? = some x → body x s = .ok (f (k + j)) s) → compL ok body xs s = .ok ((List.range' k xs.length).filterMap f) s
  | [], k, _ => by rw [compL, hok]; rfl
  | x :: xs, k, h => by
    have e1 := h 0 x rfl
    have e2 := compL_fm hok f s xs (k + 1) (fun j y hy => by
      have := h (j + 1) y hy
      rw [show k + (j + 1) = k + 1 + j by omega] at this
      exact this)
    rw [Nat.add_zero] at e1
    rw [compL, hok, e1]
    show (if true = true then (compL ok body xs s).bind _ else _) = _
    rw [e2, List.length_cons, List.range'_succ, List.filterMap_cons]
    cases f k <;> rfl
theorem comp_fmL {c : Cn} (X : Ex) {elt : Ex} {tg : Tg} {it : It} {ifs : Tes} {own : List Nat} {s : S} {m : Itm} {v u : List Slot} {M : List Cell} (hX : X = .comp elt tg it ifs own) (f : Nat → Option D) (hi : evI c it s = .ok m ⟨v, M⟩) (hl : lock v m.lks = u) (hu : unlock u m.lks = v) (hc : m.chk = []) (hw : wipes u own = u) (hr : restor u u own = u)
    (hf : m.xs.length < 1000000)
    (step : ∀ (j : Nat) x, m.xs[j]? = some x → ∃ v', turnC (evG c tg) (evTB c true ifs) (evX c elt) x ⟨u, M⟩ = .ok (f j) ⟨v', M⟩ ∧ wipes v' own = u) :
    evX c X s = .ok (.new ((List.range m.xs.length).filterMap f)) ⟨v, M⟩ := by
  subst hX
  obtain ⟨xs, chk, lks⟩ := m
  dsimp only at hl hc hu step hf
  subst hc
  have e := compL_fm (ok := Itm.ok ⟨xs, [], lks⟩) (body := fun x s => (turnC (evG c tg) (evTB c true ifs) (evX c elt) x s).bind fun o s' => .ok o (wiped own s')) (fun _ => rfl) f ⟨u, M⟩ xs 0 (fun j x hx => by
    obtain ⟨v', e, h⟩ := step j x hx
    rw [e, Nat.zero_add]
    show R.ok _ (wiped own ⟨v', M⟩) = _
    unfold wiped
    rw [h])
  rw [evX, hi]
  show compD _ _ _ _ = _
  unfold compD
  have hwd : wiped own ⟨u, M⟩ = ⟨u, M⟩ := by unfold wiped; exact congrArg (fun w => (⟨w, M⟩ : S)) hw
  dsimp only
  rw [hl, hwd, e, ← List.range_eq_range']
  have hf2 : fits ((List.range xs.length).filterMap f).length = true := by
    unfold fits PySem.sizeLine
    have := List.length_filterMap_le f (List.range xs.length)
    rw [List.length_range] at this
    exact Nat.ble_eq.mpr (by omega)
  show noX (if fits ((List.range xs.length).filterMap f).length = true then _ else _) = _
  rw [if_pos hf2]
  show R.ok _ _ = _
  rw [hr, hu]
theorem comp_fm {c : Cn} (X : Ex) {elt : Ex} {tg : Tg} {it : It} {ifs : Tes} {own : List Nat} {s : S} {m : Itm} {v : List Slot} {M : List Cell} (hX : X = .comp elt tg it ifs own) (f : Nat → Option D) (hi : evI c it s = .ok m ⟨v, M⟩) (hl : m.lks = []) (hc : m.chk = []) (hw : wipes v own = v) (hr : restor v v own = v)
    (hf : m.xs.length < 1000000)
    (step : ∀ (j : Nat) x, m.xs[j]? = some x → ∃ v', turnC (evG c tg) (evTB c true ifs) (evX c elt) x ⟨v, M⟩ = .ok (f j) ⟨v', M⟩ ∧ wipes v' own = v) :
    evX c X s = .ok (.new ((List.range m.xs.length).filterMap f)) ⟨v, M⟩ := comp_fmL X hX f hi (by rw [hl]; rfl) (by rw [hl]; rfl) hc hw hr hf step
theorem zp_get : ∀ {xs ys : List D} {j : Nat} {x : D}, (zips xs ys)[j]? = some x → ∃ a b, xs[j]? = some a ∧ ys[j]? = some b ∧ x = .tup [a, b]
  | [], _, j, x, h => by simp [zips] at h
  | _ :: _, [], j, x, h => by simp [zips] at h
  | a :: xs, b :: ys, 0, x, h => by rw [zips] at h; cases h; exact ⟨a, b, rfl, rfl, rfl⟩
  | a :: xs, b :: ys, j + 1, x, h => by rw [zips] at h; exact zp_get (xs := xs) (ys := ys) h
theorem zp_len : ∀ (xs ys : List D), (zips xs ys).length = min xs.length ys.length
  | [], ys => by simp [zips]
  | _ :: _, [] => by simp [zips]
  | a :: xs, b :: ys => by rw [zips, List.length_cons, zp_len xs ys, List.length_cons, List.length_cons]; omega
theorem tk {α β : Type} {L : List α} {f : α → β} {j : Nat} {y : α} (h : L[j]? = some y) : (L.take (j + 1)).map f = (L.take j).map f ++ [f y] := by
  rw [List.take_add_one, h]; simp
theorem en_get : ∀ {xs : List D} {k : Int} {i : Nat} {d : D}, (pairs k xs)[i]? = some d → ∃ x, xs[i]? = some x ∧ d = .tup [.int (k + (i : Int)), x]
  | [], _, _, _, h => by simp [pairs] at h
  | x :: xs, k, i, d, h => by
    unfold pairs at h
    cases i with
    | zero => simp at h; exact ⟨x, rfl, by rw [← h]; simp⟩
    | succ i =>
      simp at h
      obtain ⟨a, h1, h2⟩ := en_get h
      refine ⟨a, by simpa using h1, ?_⟩
      rw [h2]
      congr 2
      have : k + 1 + (i : Int) = k + ((i + 1 : Nat) : Int) := by omega
      rw [this]
theorem en_len : ∀ (xs : List D) (k : Int), (pairs k xs).length = xs.length
  | [], k => rfl
  | x :: xs, k => by unfold pairs; rw [List.length_cons, List.length_cons, en_len xs (k + 1)]
theorem atI_nat {α : Type} {xs : List α} {k : Nat} {x : α} (h : xs[k]? = some x) : L2.atI xs (k : Int) = some x := by
  have hl : k < xs.length := (List.getElem?_eq_some_iff.mp h).1
  unfold L2.atI L2.ixN
  rw [if_pos (by omega), if_pos (by omega)]
  show xs[(k : Int).toNat]? = _
  rw [Int.toNat_natCast]; exact h
theorem evI_rngZ {c : Cn} {e : Ex} {s s1 : S} {z : Int} {m : Nat} (h : evX c e s = .ok (.val (.int z)) s1) (hm : in62 z = true) (hz : z.toNat = m) : evI c (.rng (.cons e .nil)) s = .ok ⟨rngL 0 m, [], []⟩ s1 := by
  subst hz
  simp [evI, evXs, h, R.bind, lif, rngD, hm]
theorem rngL_get {m j : Nat} {x : D} (h : (rngL 0 m)[j]? = some x) : x = .int (j : Int) ∧ j < m := by
  unfold rngL at h
  rw [List.getElem?_map] at h
  have hj : j < m := by
    by_cases hj : j < m
    · exact hj
    · rw [List.getElem?_eq_none (by rw [List.length_range]; omega)] at h; cases h
  rw [List.getElem?_eq_getElem (by rw [List.length_range]; exact hj), List.getElem_range] at h
  cases h
  exact ⟨congrArg D.int (Int.zero_add _), hj⟩
theorem rngL_len (m : Nat) : (rngL 0 m).length = m := by unfold rngL; rw [List.length_map, List.length_range]
theorem len62 {n : Nat} (hl : n < 1000000) : in62 (n : Int) = true := by
  unfold in62
  rw [Bool.and_eq_true, decide_eq_true_eq, decide_eq_true_eq]
  omega
theorem fits_lt {n : Nat} (hl : n < 1000000) : fits n = true := by
  unfold fits PySem.sizeLine
  exact Nat.ble_eq.mpr (by omega)
theorem lt_sizeLine {n : Nat} (hl : n < 1000000) : n < sizeLine := by unfold PySem.sizeLine; omega
theorem ite_t {c : Cn} {t : Te} {a b : Stms} {s s1 : S} {r : R Fl} (h : evT c t s = .ok true s1) (h2 : evSs c a s1 = r) : evS c (.ite t a b) s = r := by
  rw [evS, h]; exact h2
theorem ite_f {c : Cn} {t : Te} {a b : Stms} {s s1 : S} {r : R Fl} (h : evT c t s = .ok false s1) (h2 : evSs c b s1 = r) : evS c (.ite t a b) s = r := by
  rw [evS, h]; exact h2
theorem sq {c : Cn} {st : Stm} {ss : Stms} {s s1 : S} {r : R Fl} (h : evS c st s = .ok .nx s1) (h2 : evSs c ss s1 = r) : evSs c (.cons st ss) s = r := by
  rw [evSs, h]; exact h2
theorem ret_tup {c : Cn} {X : Ex} {s s1 : S} {L : List D} (h : evX c X s = .ok (.new L) s1) (ss : Stms) : evSs c (.cons (.ret (.bi .tuple (.cons X .nil))) ss) s = .ok (.rt (.val (.tup L))) s1 := by
  simp [evSs, evS, evX, evXs, R.bind, h, biD, bi1, seq, lif, retD]
theorem ret_all {c : Cn} {X : Ex} {s s1 : S} {L : List D} {bs : List Bool} (h : evX c X s = .ok (.new L) s1) (hb : asBools L = some bs) (ss : Stms) : evSs c (.cons (.ret (.bi .all (.cons X .nil))) ss) s = .ok (.rt (.val (.bl (bs.all id)))) s1 := by
  simp [evSs, evS, evX, evXs, R.bind, h, biD, bi1, lis, lif, retD, hb]
theorem evX_tup {c : Cn} {X : Ex} {s s1 : S} {L : List D} (h : evX c X s = .ok (.new L) s1) : evX c (.bi .tuple (.cons X .nil)) s = .ok (.val (.tup L)) s1 := by
  simp [evX, evXs, R.bind, h, biD, bi1, seq, lif]
theorem fit0 : fits 0 = true := by decide
theorem fit1 : fits 1 = true := by decide
theorem fit2 : fits 2 = true := by decide
theorem fit3 : fits 3 = true := by decide
theorem fit4 : fits 4 = true := by decide
theorem fit5 : fits 5 = true := by decide
theorem fit6 : fits 6 = true := by decide
theorem fit7 : fits 7 = true := by decide
theorem fit8 : fits 8 = true := by decide
theorem fit9 : fits 9 = true := by decide
theorem fit10 : fits 10 = true := by decide
theorem fit11 : fits 11 = true := by decide
theorem fit12 : fits 12 = true := by decide
theorem fit13 : fits 13 = true := by decide
theorem fit14 : fits 14 = true := by decide
theorem fit15 : fits 15 = true := by decide
theorem fit16 : fits 16 = true := by decide
end G

/-! ## W1 -/
set_option Elab.async false
set_option linter.all false
set_option maxRecDepth 100000
set_option maxHeartbeats 4000000
namespace G
open PySem
abbrev GL : Str → Option D := fun x => csL.lookup x
abbrev RN (n : Nat) : Str → List Slot → List Cell → RF := run prog GL n
def CN (n : Nat) : Cn := ⟨RN n, kbOf prog, GL⟩
/-- no rfl for the simplifier: the kernel would run the program -/
theorem call_CN (n : Nat) (f : Str) (vs : List Slot) (M : List Cell) : (CN n).call f vs M = RN n f vs M := Eq.trans rfl rfl
/-- the calls of one level, behind a name: the kernel can't run the program -/
theorem opq (n : Nat) : ∃ C : Cn, C = CN n ∧ ∀ {f : Str} {vs : List Slot} {M : List Cell} {r : RF}, RN n f vs M = r → C.call f vs M = r := ⟨_, rfl, fun h => (call_CN _ _ _ _).trans h⟩
abbrev T2 (a b : Int) : D := .tup [.int a, .int b]
theorem seq_nx {c : Cn} {st : Stm} {ss : Stms} {s s1 : S} (h : evS c st s = .ok .nx s1) : evSs c (.cons st ss) s = evSs c ss s1 := by
  rw [evSs, h]; rfl
theorem seq_rt {c : Cn} {st : Stm} {ss : Stms} {s s1 : S} {o : Slot} (h : evS c st s = .ok (.rt o) s1) : evSs c (.cons st ss) s = .ok (.rt o) s1 := by
  rw [evSs, h]; rfl
theorem bind_ok {α β : Type} {a : α} {s : S} {f : α → S → R β} {r : R β} (h : f a s = r) : (R.ok a s).bind f = r := h
theorem Sd_ok {i : Int} (h : i.natAbs < 2 ^ 9000) (h0 : i ≠ 0) : Sd i = true := by
  unfold Sd
  rw [Nat.blt_eq]
  exact (Nat.log2_lt (by omega)).mpr h
theorem Sm_ok {i : Int} (h : i.natAbs < 2 ^ 9000) : Sm i = true := by
  unfold Sm LIM
  rw [Nat.blt_eq]
  by_cases h0 : i.natAbs = 0
  · rw [h0]; decide
  · have := (Nat.log2_lt h0).mpr h
    omega
theorem p64 {k : Nat} (h : k < 2 ^ 64) : k < 2 ^ 9000 := Nat.lt_of_lt_of_le h (Nat.pow_le_pow_right (by decide) (by decide))
theorem Sm64 {i : Int} (h : i.natAbs < 2 ^ 64) : Sm i = true := Sm_ok (p64 h)
theorem Sd64 {i : Int} (h : i.natAbs < 2 ^ 64) (h0 : i ≠ 0) : Sd i = true := Sd_ok (p64 h) h0
theorem fmod_nn {a b : Int} (h : 0 < b) : 0 ≤ a.fmod b ∧ a.fmod b < b := ⟨Int.fmod_nonneg_of_pos _ h, Int.fmod_lt_of_pos _ h⟩
def gcdI (a b : Int) : Int := (Nat.gcd a.natAbs b.natAbs : Nat)
theorem bi2_gcd (a b : Int) : bi2 .gcd (.val (.int a)) (.val (.int b)) = some (.val (.int (gcdI a b))) := rfl
theorem lt_get {α : Type} {xs : List α} {j : Nat} {x : α} (h : xs[j]? = some x) : j < xs.length := (List.getElem?_eq_some_iff.mp h).1
theorem get_lt {α : Type} {xs : List α} {j : Nat} (h : j < xs.length) : ∃ x, xs[j]? = some x := ⟨_, List.getElem?_eq_getElem h⟩
theorem get_map {α β : Type} {f : α → β} {xs : List α} {j : Nat} {y : β} (h : (xs.map f)[j]? = some y) : ∃ x, xs[j]? = some x ∧ y = f x := by
  rw [List.getElem?_map] at h
  obtain ⟨x, e, rfl⟩ := Option.map_eq_some_iff.mp h
  exact ⟨x, e, rfl⟩
theorem map_get {α β : Type} {f : α → β} {xs : List α} {j : Nat} {x : α} (h : xs[j]? = some x) : (xs.map f)[j]? = some (f x) := by rw [List.getElem?_map, h]; rfl
theorem at_list {xs : List D} {i : Int} (h0 : 0 ≤ i) (h1 : i < xs.length) : ∃ d ∈ xs, L2.atI xs i = some d := by
  obtain ⟨m, rfl⟩ := Int.eq_ofNat_of_zero_le h0
  exact ⟨xs[m], List.getElem_mem (by omega), atI_nat (List.getElem?_eq_getElem (by omega))⟩
/-! ### programs -/
inductive Pg where
  | tell (w : Str)
  | ask (ps : List Int) (n : Int) (y o : Pg)
def inD' (ps : List Int) : D := .tup (ps.map D.int)
def quD (ps : List Int) (n : Int) : D := .tup [inD' ps, .int n]
abbrev sTell : Str := Str.ofString "tell"
abbrev sAsk : Str := Str.ofString "ask"
def pgD : Pg → D
  | .tell w => .tup [.str sTell, .str w]
  | .ask ps n y o => .tup [.str sAsk, quD ps n, pgD y, pgD o]
def dep : Pg → Nat
  | .tell _ => 0
  | .ask _ _ y o => max (dep y) (dep o) + 1
def asks : Pg → Nat
  | .tell _ => 0
  | .ask _ _ y o => asks y + asks o + 1
/-- the questions: so many parts, none great -/
def Qk (m : Nat) : Pg → Prop
  | .tell w => PySem.PyData.strOk w = true
  | .ask ps n y o => ps.length = m ∧ (∀ p ∈ ps, p.natAbs ≤ 1000) ∧ n.natAbs ≤ 1000 ∧ Qk m y ∧ Qk m o
/-! ### loops that may break or return -/
theorem forL_gen {ok : S → Bool} {body : D → S → R Fl} (hok : ∀ s, ok s = true) (P : Nat → S → Prop) (Q : S → Prop) (QR : Slot → S → Prop) : ∀ (xs : List D) (k : Nat),
    (∀ j x s, xs[j]? = some x → P (k + j) s → (∃ s', body x s = .ok .nx s' ∧ P (k + j + 1) s') ∨ (∃ s', body x s = .ok .bk s' ∧ Q s') ∨ ∃ o s', body x s = .ok (.rt o) s' ∧ QR o s') → (∀ s, P (k + xs.length) s → Q s) → ∀ s, P k s →
    (∃ s', forL ok body xs s = .ok .nx s' ∧ Q s') ∨ ∃ o s', forL ok body xs s = .ok (.rt o) s' ∧ QR o s'
  | [], k, _, hq, s, h => .inl ⟨s, by rw [forL, hok]; rfl, hq s h⟩
  | x :: xs, k, hs, hq, s, h => by
    rcases hs 0 x s rfl h with ⟨s1, e1, h1⟩ | ⟨s1, e1, h1⟩ | ⟨o, s1, e1, h1⟩
    · rcases forL_gen hok P Q QR xs (k + 1) (fun j y t hy ht => by
        have := hs (j + 1) y t hy (by rw [show k + (j + 1) = k + 1 + j by omega]; exact ht)
        rw [show k + (j + 1) + 1 = k + 1 + j + 1 by omega] at this
        exact this) (fun s hs => hq s (by rw [List.length_cons, show k + (xs.length + 1) = k + 1 + xs.length by omega]; exact hs)) s1 h1 with ⟨s2, e2, h2⟩ | ⟨o, s2, e2, h2⟩
      · exact .inl ⟨s2, by rw [forL, hok, e1]; exact e2, h2⟩
      · exact .inr ⟨o, s2, by rw [forL, hok, e1]; exact e2, h2⟩
    · exact .inl ⟨s1, by rw [forL, hok, e1]; rfl, h1⟩
    · exact .inr ⟨o, s1, by rw [forL, hok, e1]; rfl, h1⟩
theorem fors_gen {c : Cn} (st : Stm) {t : Tg} {it : It} {b : Stms} {s s1 : S} {m : Itm} (hst : st = .fors t it b) (hi : evI c it s = .ok m s1) (hl : m.lks = []) (hc : m.chk = []) (P : Nat → S → Prop) (Q : S → Prop) (QR : Slot → S → Prop) (h0 : P 0 s1)
    (step : ∀ j x s, m.xs[j]? = some x → P j s → (∃ s', ((evG c t x s).bind fun _ s2 => evSs c b s2) = .ok .nx s' ∧ P (j + 1) s') ∨ (∃ s', ((evG c t x s).bind fun _ s2 => evSs c b s2) = .ok .bk s' ∧ Q s') ∨ ∃ o s', ((evG c t x s).bind fun _ s2 => evSs c b s2) = .ok (.rt o) s' ∧ QR o s')
    (hq : ∀ s, P m.xs.length s → Q s) : (∃ s', evS c st s = .ok .nx s' ∧ Q s') ∨ ∃ o s', evS c st s = .ok (.rt o) s' ∧ QR o s' := by
  subst hst
  obtain ⟨xs, chk, lks⟩ := m
  dsimp only at hl hc step hq
  subst hl hc
  rcases forL_gen (ok := Itm.ok ⟨xs, [], []⟩) (fun _ => rfl) P Q QR xs 0 (fun j x s hx hp => by
    rw [Nat.zero_add] at hp ⊢
    exact step j x s hx hp) (fun s h => by rw [Nat.zero_add] at h; exact hq s h) s1 h0 with ⟨s', e, h⟩ | ⟨o, s', e, h⟩
  · refine .inl ⟨s', ?_, h⟩
    rw [evS, hi]
    exact (congrArg (unl []) e).trans rfl
  · refine .inr ⟨o, s', ?_, h⟩
    rw [evS, hi]
    exact (congrArg (unl []) e).trans rfl
theorem ask_ask : decide (sAsk = sAsk) = true := by decide
theorem tell_ask : decide (sTell = sAsk) = false := by decide
theorem tell_tell : decide (sTell = sTell) = true := by decide
theorem ask_tell : decide (sAsk = sTell) = false := by decide
theorem q0 (a b c d : D) : L2.atI [a, b, c, d] 0 = some a := rfl
theorem q1 (a b c d : D) : L2.atI [a, b, c, d] 1 = some b := rfl
theorem q2 (a b c d : D) : L2.atI [a, b, c, d] 2 = some c := rfl
theorem q3 (a b c d : D) : L2.atI [a, b, c, d] 3 = some d := rfl
theorem t0 (a b : D) : L2.atI [a, b] 0 = some a := rfl
theorem t1 (a b : D) : L2.atI [a, b] 1 = some b := rfl
theorem eqS (a b : Str) : eqD (.str a) (.str b) = some (decide (a = b)) := rfl
theorem a20 (a b : D) : L2.atI [a, b] 0 = some a := rfl
theorem a21 (a b : D) : L2.atI [a, b] 1 = some b := rfl
theorem a30 (a b c : D) : L2.atI [a, b, c] 0 = some a := rfl
theorem a31 (a b c : D) : L2.atI [a, b, c] 1 = some b := rfl
theorem a32 (a b c : D) : L2.atI [a, b, c] 2 = some c := rfl
theorem a40 (a b c d : D) : L2.atI [a, b, c, d] 0 = some a := rfl
theorem a41 (a b c d : D) : L2.atI [a, b, c, d] 1 = some b := rfl
theorem a42 (a b c d : D) : L2.atI [a, b, c, d] 2 = some c := rfl
theorem a43 (a b c d : D) : L2.atI [a, b, c, d] 3 = some d := rfl
theorem a50 (a b c d e : D) : L2.atI [a, b, c, d, e] 0 = some a := rfl
theorem a51 (a b c d e : D) : L2.atI [a, b, c, d, e] 1 = some b := rfl
theorem a52 (a b c d e : D) : L2.atI [a, b, c, d, e] 2 = some c := rfl
theorem a53 (a b c d e : D) : L2.atI [a, b, c, d, e] 3 = some d := rfl
theorem a54 (a b c d e : D) : L2.atI [a, b, c, d, e] 4 = some e := rfl
theorem a60 (a b c d e f : D) : L2.atI [a, b, c, d, e, f] 0 = some a := rfl
theorem a61 (a b c d e f : D) : L2.atI [a, b, c, d, e, f] 1 = some b := rfl
theorem a62 (a b c d e f : D) : L2.atI [a, b, c, d, e, f] 2 = some c := rfl
theorem a63 (a b c d e f : D) : L2.atI [a, b, c, d, e, f] 3 = some d := rfl
theorem a64 (a b c d e f : D) : L2.atI [a, b, c, d, e, f] 4 = some e := rfl
theorem a65 (a b c d e f : D) : L2.atI [a, b, c, d, e, f] 5 = some f := rfl
def wD (w : List Int) : D := .tup (w.map D.int)
theorem catOk_lt {xs ys : List D} (h : xs.length + ys.length < 1000000) : catOk xs ys = true := fits_lt h
abbrev We := List Int × Str
abbrev Wp := List Int × Pg
def endsF (w : List Int) : Pg → List We
  | .tell s => [(w, s)]
  | .ask _ _ y o => endsF (w ++ [1]) y ++ endsF (w ++ [0]) o
def nodes : Pg → Nat
  | .tell _ => 1
  | .ask _ _ y o => nodes y + nodes o + 1
def leaves : Pg → Nat
  | .tell _ => 1
  | .ask _ _ y o => leaves y + leaves o
def fD (p : Wp) : D := .tup [wD p.1, pgD p.2]
def eD (p : We) : D := .tup [wD p.1, .str p.2]
def flatS : List Wp → List We
  | [] => []
  | (w, q) :: st => endsF w q ++ flatS st
def sizeS : List Wp → Nat
  | [] => 0
  | (w, q) :: st => nodes q + sizeS st
theorem nodes_pos (p : Pg) : 0 < nodes p := by cases p <;> rw [nodes] <;> omega
theorem len_size : ∀ (st : List Wp), st.length ≤ sizeS st
  | [] => Nat.le_refl _
  | (w, q) :: st => by
    have := len_size st
    have := nodes_pos q
    rw [sizeS, List.length_cons]; omega
theorem wD_snoc (w : List Int) (i : Int) : wD (w ++ [i]) = .tup (w.map D.int ++ [.int i]) := by unfold wD; rw [List.map_append]; rfl
end G

/-! ## W2 -/
set_option Elab.async false
set_option linter.all false
set_option maxRecDepth 100000
set_option maxHeartbeats 8000000
namespace G
open PySem
/-! ### texts -/
theorem str_ext {a b : Str} (h : a.cps.toList = b.cps.toList) : a = b := by
  cases a; cases b
  congr 1
  exact Array.toList_inj.mp h
theorem cl_app (a b : Str) : (a ++ b).cps.toList = a.cps.toList ++ b.cps.toList := by
  show (a.cps ++ b.cps).toList = _
  rw [Array.toList_append]
theorem sl_app (a b : Str) : (a ++ b).length = a.length + b.length := by
  show (a.cps ++ b.cps).size = _
  rw [Array.size_append]; rfl
theorem sl_cl (a : Str) : a.length = a.cps.toList.length := by rw [Array.length_toList]; rfl
theorem s_assoc (a b c : Str) : a ++ b ++ c = a ++ (b ++ c) := str_ext (by rw [cl_app, cl_app, cl_app, cl_app, List.append_assoc])
theorem s_empty (a : Str) : Str.empty ++ a = a := str_ext (by rw [cl_app]; rfl)
abbrev sE : Str := Str.ofString ""
abbrev sP : Str := Str.ofString " + "
abbrev sM : Str := Str.ofString " - "
abbrev sN : Str := Str.ofString "-"
abbrev sBk : Str := Str.ofString " "
abbrev s0 : Str := Str.ofString "0"
abbrev sL : Str := Str.ofString "is at least"
abbrev sW : Str := Str.ofString "is below"
abbrev sL' : Str := Str.ofString " is at least "
abbrev sW' : Str := Str.ofString " is below "
theorem sE_eq : sE = Str.empty := by decide
theorem sP_cl : sP.cps.toList = [32, 43, 32] := by decide
theorem sM_cl : sM.cps.toList = [32, 45, 32] := by decide
theorem sE_iff (a : Str) : a = sE ↔ a.length = 0 := by
  constructor
  · intro h; rw [h]; rfl
  · intro h
    refine str_ext ?_
    rw [sl_cl] at h
    rw [List.eq_nil_of_length_eq_zero h]; rfl
theorem sub3 {z r : Str} (hz : z.cps.toList.length = 3) : slcD (.val (.str (z ++ r))) (some 3) none s = if fits (z ++ r).length then some (.val (.str r)) else none := by
  have e : (cut (z ++ r).cps.toList (some 3) none) = r.cps.toList := by
    unfold cut
    have h1 : HT.sIx (z ++ r).cps.toList.length 0 (some 3) = 3 := by
      show (if (3 : Int) < 0 then ((3 : Int) + ((z ++ r).cps.toList.length : Int)).toNat else min (3 : Int).toNat (z ++ r).cps.toList.length) = 3
      rw [if_neg (by decide), cl_app, List.length_append, hz]
      show min 3 _ = 3
      omega
    have h2 : HT.sIx (z ++ r).cps.toList.length (z ++ r).cps.toList.length none = (z ++ r).cps.toList.length := rfl
    rw [h1, h2, cl_app, List.drop_append_of_le_length (by omega), List.drop_of_length_le (by omega), List.nil_append, List.length_append, hz, Nat.add_sub_cancel_left, List.take_length]
  simp only [slcD]
  rw [e]
theorem starts (z r y : Str) (hz : z.cps.toList.length = 3) (hy : y.cps.toList.length = 3) : Txt.startswith (z ++ r) y = decide (z.cps.toList = y.cps.toList) := by
  unfold Txt.startswith
  rw [PySem.StrLaws.subAt_eq]
  have h1 : decide (0 + y.length ≤ (z ++ r).length) = true := by
    rw [decide_eq_true_eq, sl_app, sl_cl, sl_cl, hy, hz]; omega
  have h2 : ((z ++ r).cps.toList.drop 0).take y.length = z.cps.toList := by
    rw [List.drop_zero, cl_app, sl_cl y, hy, List.take_append_of_le_length (by omega), List.take_of_length_le (by omega)]
  rw [h2, h1, Bool.true_and]
  rw [Bool.eq_iff_iff, beq_iff_eq, decide_eq_true_eq]
theorem sadd {x y : Str} (h : x.length + y.length < 1000000) : strOp .Add x y = some (x ++ y) := by
  have : St' x y = true := fits_lt h
  simp only [strOp, this, if_true]
/-! ### numbers as texts -/
def ts (i : Int) : Str := Str.ofString (toString i)
theorem ts_len : ∀ i : Int, i.natAbs ≤ 120 → (ts i).length ≤ 5 := by
  have h1 : ∀ n : Fin 121, (ts ((n : Nat) : Int)).length ≤ 5 := by decide +kernel
  have h2 : ∀ n : Fin 121, (ts (-((n : Nat) : Int))).length ≤ 5 := by decide +kernel
  intro i hi
  rcases Int.natAbs_eq i with e | e
  · rw [e]; exact h1 ⟨i.natAbs, by omega⟩
  · rw [e]; exact h2 ⟨i.natAbs, by omega⟩
theorem ts_str (i : Int) (h : i.natAbs ≤ 120) : strI i = some (.val (.str (ts i))) := by
  have : Nat.blt i.natAbs.log2 1920 = true := by
    rw [Nat.blt_eq]
    by_cases h0 : i.natAbs = 0
    · rw [h0]; decide
    · exact (Nat.log2_lt h0).mpr (Nat.lt_of_le_of_lt h (Nat.lt_of_lt_of_le (show 120 < 2 ^ 7 by decide) (Nat.pow_le_pow_right (by decide) (by decide))))
  simp only [strI, this, if_true]
  rfl
theorem ts_fmt (i : Int) (h : i.natAbs ≤ 120) : fmtD (.val (.int i)) = some (ts i) := by
  have : Nat.blt i.natAbs.log2 1920 = true := by
    rw [Nat.blt_eq]
    by_cases h0 : i.natAbs = 0
    · rw [h0]; decide
    · exact (Nat.log2_lt h0).mpr (Nat.lt_of_le_of_lt h (Nat.lt_of_lt_of_le (show 120 < 2 ^ 7 by decide) (Nat.pow_le_pow_right (by decide) (by decide))))
  simp only [fmtD, this, if_true]
  rfl
/-! ### sums in words -/
def ab (p : Int) : Int := if p < 0 then -p else p
def wordOf (p : Int) (nm : Str) : Str := if ab p = 1 then nm else ts (ab p) ++ sBk ++ nm
abbrev Np := Str × Int
def tolF (told : Str) (x : Np) : Str := if x.2 = 0 then told else told ++ (if x.2 < 0 then sM else sP) ++ wordOf x.2 x.1
def saiF (said : Str) (x : Np) : Str := if x.2 = 0 then said else if said = sE then (if 0 < x.2 then wordOf x.2 x.1 else sN ++ wordOf x.2 x.1) else said ++ (if 0 < x.2 then sP else sM) ++ wordOf x.2 x.1
def NmOk (x : Str) : Prop := 1 ≤ x.length ∧ x.length ≤ 20
def NpOk (x : Np) : Prop := NmOk x.1 ∧ x.2.natAbs ≤ 9
theorem word_len {x : Np} (h : NpOk x) : 1 ≤ (wordOf x.2 x.1).length ∧ (wordOf x.2 x.1).length ≤ 26 := by
  obtain ⟨⟨h1, h2⟩, h3⟩ := h
  unfold wordOf
  split
  · omega
  · rw [sl_app, sl_app]
    have := ts_len (ab x.2) (by unfold ab; split <;> omega)
    have : sBk.length = 1 := rfl
    omega
def Rl (told said : Str) : Prop := (told = sE ∧ said = sE) ∨ ∃ r : Str, 1 ≤ r.length ∧ ((told = sP ++ r ∧ said = r) ∨ (told = sM ++ r ∧ said = sN ++ r))
theorem rl_step {told said : Str} {x : Np} (h : Rl told said) (hx : NpOk x) : Rl (tolF told x) (saiF said x) := by
  obtain ⟨w1, w2⟩ := word_len hx
  unfold tolF saiF
  by_cases h0 : x.2 = 0
  · rw [if_pos h0, if_pos h0]; exact h
  rw [if_neg h0, if_neg h0]
  generalize wordOf x.2 x.1 = w at *
  rcases h with ⟨rfl, rfl⟩ | ⟨r, hr, h⟩
  · rw [if_pos rfl]
    have e : ∀ z : Str, sE ++ z = z := fun z => by rw [sE_eq]; exact s_empty z
    rw [e]
    refine .inr ⟨w, w1, ?_⟩
    by_cases hn : x.2 < 0
    · rw [if_pos hn, if_neg (by omega)]; exact .inr ⟨rfl, rfl⟩
    · rw [if_neg hn, if_pos (by omega)]; exact .inl ⟨rfl, rfl⟩
  · have hne : ¬ said = sE := by
      rw [sE_iff]
      rcases h with ⟨_, rfl⟩ | ⟨_, rfl⟩
      · omega
      · rw [sl_app]; omega
    rw [if_neg hne]
    have hs : (if 0 < x.2 then sP else sM) = (if x.2 < 0 then sM else sP) := by
      by_cases hn : x.2 < 0
      · rw [if_pos hn, if_neg (by omega)]
      · rw [if_neg hn, if_pos (by omega)]
    rw [hs]
    generalize (if x.2 < 0 then sM else sP) = z at *
    refine .inr ⟨r ++ z ++ w, by rw [sl_app, sl_app]; omega, ?_⟩
    rcases h with ⟨rfl, rfl⟩ | ⟨rfl, rfl⟩
    · exact .inl ⟨by rw [s_assoc, s_assoc, s_assoc], rfl⟩
    · exact .inr ⟨by rw [s_assoc, s_assoc, s_assoc], by rw [s_assoc, s_assoc, s_assoc]⟩
theorem rl_fold : ∀ (L : List Np) {told said : Str}, Rl told said → (∀ x ∈ L, NpOk x) → Rl (L.foldl tolF told) (L.foldl saiF said)
  | [], _, _, h, _ => h
  | x :: L, _, _, h, hL => rl_fold L (rl_step h (hL x List.mem_cons_self)) fun y hy => hL y (List.mem_cons_of_mem _ hy)
theorem tol_len : ∀ (L : List Np) (told : Str), (∀ x ∈ L, NpOk x) → (L.foldl tolF told).length ≤ told.length + 40 * L.length
  | [], _, _ => by simp
  | x :: L, told, hL => by
    have ih := tol_len L (tolF told x) fun y hy => hL y (List.mem_cons_of_mem _ hy)
    have hx := word_len (hL x List.mem_cons_self)
    have : (tolF told x).length ≤ told.length + 29 := by
      unfold tolF
      split
      · omega
      · rw [sl_app, sl_app]
        have : (if x.2 < 0 then sM else sP).length = 3 := by split <;> rfl
        omega
    rw [List.foldl_cons, List.length_cons]
    omega
theorem sai_len : ∀ (L : List Np) (told : Str), (∀ x ∈ L, NpOk x) → (L.foldl saiF told).length ≤ told.length + 40 * L.length
  | [], _, _ => by simp
  | x :: L, told, hL => by
    have ih := sai_len L (saiF told x) fun y hy => hL y (List.mem_cons_of_mem _ hy)
    have hx := word_len (hL x List.mem_cons_self)
    have : (saiF told x).length ≤ told.length + 29 := by
      unfold saiF
      split
      · omega
      · split
        · split
          · omega
          · rw [sl_app]
            have : sN.length = 1 := rfl
            omega
        · rw [sl_app, sl_app]
          have : (if 0 < x.2 then sP else sM).length = 3 := by split <;> rfl
          omega
    rw [List.foldl_cons, List.length_cons]
    omega
/-- the sum in words -/
def suW (L : List Np) : Str := if L.foldl saiF sE = sE then s0 else L.foldl saiF sE
theorem su_len {L : List Np} (hL : ∀ x ∈ L, NpOk x) (h : L.length ≤ 8) : (suW L).length ≤ 330 := by
  unfold suW
  split
  · decide
  · have := sai_len L sE hL
    have : sE.length = 0 := rfl
    omega
theorem take_snoc {α : Type} {L : List α} {j : Nat} {y : α} (h : L[j]? = some y) : L.take (j + 1) = L.take j ++ [y] := by rw [List.take_add_one, h]; rfl
theorem fold_snoc {α β : Type} {f : β → α → β} {b : β} {L : List α} {j : Nat} {y : α} (h : L[j]? = some y) : (L.take (j + 1)).foldl f b = f ((L.take j).foldl f b) y := by
  rw [take_snoc h, List.foldl_append]; rfl
theorem zip_get {α β : Type} {xs : List α} {ys : List β} {j : Nat} {a : α} {b : β} (h1 : xs[j]? = some a) (h2 : ys[j]? = some b) : (xs.zip ys)[j]? = some (a, b) := by
  rw [List.getElem?_zip_eq_some]; exact ⟨h1, h2⟩
/-! ### the program's sum -/
theorem c_summand (n : Nat) (a b : Slot) (M : List Cell) : RN (n+1) (Str.ofString "summand") [a, b] M = ofBody (evSs (CN n) bf_summand ⟨[a, b], M⟩) := rfl
theorem s_summand (n : Nat) (M : List Cell) (p : Int) (nm : Str) (h : NpOk (nm, p)) : RN (n+1) (Str.ofString "summand") [.val (.int p), .val (.str nm)] M = .ok (.val (.str (wordOf p nm))) M := by
  rw [c_summand]
  obtain ⟨⟨h1, h2⟩, h3⟩ := h
  have h3 : p.natAbs ≤ 9 := h3
  have h2 : nm.length ≤ 20 := h2
  have ha : (ab p).natAbs ≤ 120 := by unfold ab; split <;> omega
  have e1 := ts_str (ab p) ha
  have l1 := ts_len (ab p) ha
  have a1 := sadd (x := ts (ab p)) (y := sBk) (by have : sBk.length = 1 := rfl; omega)
  have a2 := sadd (x := ts (ab p) ++ sBk) (y := nm) (by rw [sl_app]; have : sBk.length = 1 := rfl; omega)
  have hab : (if p < 0 then -p else p) = ab p := rfl
  unfold wordOf
  by_cases hk : ab p = 1
  · rw [if_pos hk]
    simp [bf_summand, evSs, evS, evX, evXs, evEs, evA, evAg, evT, evTB, evB, evG, evGs, evI, Tgs.len, varD, R.bind, biD, bi1, bi2_gcd, lif, toVal, setName_def, isRo_no, isRo_val, isRo_own, cmpD, truD, negD, binD, intOp, retD, ofBody, callD, call_CN, callkD, slots, Ar.slot, lend, ofCall, subD, seq, lis, G.atI, isTys, isTy, eqD, D.eqv, pure60, D.pure, D.deep, List.set, setD, putL, cell, methD, mtD, ofSeq, plcC, plcV, unl, lock, unlock, rngD, forL, Itm.ok, stays, List.all_nil, fit0, fit1, fit2, fit3, fit4, fit5, fit6, fit7, fit8, fit9, fit10, fit11, fit12, fit13, fit14, fit15, fit16, hab, hk]
  · rw [if_neg hk]
    generalize ts (ab p) = t at *
    simp [bf_summand, evSs, evS, evX, evXs, evEs, evA, evAg, evT, evTB, evB, evG, evGs, evI, Tgs.len, varD, R.bind, biD, bi1, bi2_gcd, lif, toVal, setName_def, isRo_no, isRo_val, isRo_own, cmpD, truD, negD, binD, intOp, retD, ofBody, callD, call_CN, callkD, slots, Ar.slot, lend, ofCall, subD, seq, lis, G.atI, isTys, isTy, eqD, D.eqv, pure60, D.pure, D.deep, List.set, setD, putL, cell, methD, mtD, ofSeq, plcC, plcV, unl, lock, unlock, rngD, forL, Itm.ok, stays, List.all_nil, fit0, fit1, fit2, fit3, fit4, fit5, fit6, fit7, fit8, fit9, fit10, fit11, fit12, fit13, fit14, fit15, fit16, hab, hk, e1, a1, a2]
theorem c_sum_words (n : Nat) (a b : Slot) (M : List Cell) : RN (n+1) (Str.ofString "sum_words") [a, b] M = ofBody (evSs (CN n) bf_sum_words ⟨[a, b, .no, .no, .no, .no], M⟩) := rfl
def nsD (ns : List Str) : D := .tup (ns.map D.str)
theorem s_sum_words (n : Nat) (M : List Cell) (ns : List Str) (ps : List Int) (k : Int) (hl : ns.length = ps.length) (hl2 : ps.length ≤ 8) (hL : ∀ x ∈ ns.zip ps, NpOk x) :
    RN (n+2) (Str.ofString "sum_words") [.val (nsD ns), .val (quD ps k)] M = .ok (.val (.str (suW (ns.zip ps)))) M := by
  rw [c_sum_words]
  obtain ⟨C, hC, hg⟩ := opq (n+1)
  rw [← hC]
  have i0 : evS C f_sum_words_0 ⟨[.val (nsD ns), .val (quD ps k), .no, .no, .no, .no], M⟩ = .ok .nx ⟨[.val (nsD ns), .val (quD ps k), .val (.str sE), .no, .no, .no], M⟩ := by
    simp [evSs, evS, evX, evXs, evEs, evA, evAg, evT, evTB, evB, evG, evGs, evI, Tgs.len, varD, R.bind, biD, bi1, bi2_gcd, lif, toVal, setName_def, isRo_no, isRo_val, isRo_own, cmpD, truD, negD, binD, intOp, retD, ofBody, callD, call_CN, callkD, slots, Ar.slot, lend, ofCall, subD, seq, lis, G.atI, isTys, isTy, eqD, D.eqv, pure60, D.pure, D.deep, List.set, setD, putL, cell, methD, mtD, strI, ofSeq, plcC, plcV, unl, lock, unlock, rngD, forL, Itm.ok, stays, List.all_nil, fit0, fit1, fit2, fit3, fit4, fit5, fit6, fit7, fit8, fit9, fit10, fit11, fit12, fit13, fit14, fit15, fit16]
  have hi : evI C (.zip (.var 0) (.sub (.var 1) (.cst (.int 0)))) ⟨[.val (nsD ns), .val (quD ps k), .val (.str sE), .no, .no, .no], M⟩ = .ok ⟨zips (ns.map D.str) (ps.map D.int), [], []⟩ ⟨[.val (nsD ns), .val (quD ps k), .val (.str sE), .no, .no, .no], M⟩ := by
    simp [evSs, evS, evX, evXs, evEs, evA, evAg, evT, evTB, evB, evG, evGs, evI, Tgs.len, varD, R.bind, biD, bi1, bi2_gcd, lif, toVal, setName_def, isRo_no, isRo_val, isRo_own, cmpD, truD, negD, binD, intOp, retD, ofBody, callD, call_CN, callkD, slots, Ar.slot, lend, ofCall, subD, seq, lis, G.atI, isTys, isTy, eqD, D.eqv, pure60, D.pure, D.deep, List.set, setD, putL, cell, methD, mtD, strI, ofSeq, plcC, plcV, unl, lock, unlock, rngD, forL, Itm.ok, stays, List.all_nil, fit0, fit1, fit2, fit3, fit4, fit5, fit6, fit7, fit8, fit9, fit10, fit11, fit12, fit13, fit14, fit15, fit16, a20, a21, a30, a31, a32, a40, a41, a42, a43, a50, a51, a52, a53, a54, a60, a61, a62, a63, a64, a65, nsD, quD, inD', isTup]
  obtain ⟨s', i1, told, x3, x4, x5, n3, n4, n5, ht, es⟩ := fors_inv f_sum_words_1 rfl hi rfl rfl (fun j s => ∃ (told : Str) (x3 x4 x5 : Slot), isRo x3 = false ∧ isRo x4 = false ∧ isRo x5 = false ∧ told = ((ns.zip ps).take j).foldl tolF sE ∧ s = ⟨[.val (nsD ns), .val (quD ps k), .val (.str told), x3, x4, x5], M⟩)
    ⟨_, _, _, _, rfl, rfl, rfl, rfl, rfl⟩ (by
    rintro j x s hx ⟨told, x3, x4, x5, n3, n4, n5, ht, rfl⟩
    obtain ⟨a, b, ha, hb, rfl⟩ := zp_get hx
    obtain ⟨nm, ga, rfl⟩ := get_map ha
    obtain ⟨p, gb, rfl⟩ := get_map hb
    have gz := zip_get ga gb
    have ok := hL _ (List.mem_of_getElem? gz)
    have hj : j < 8 := by have := lt_get gb; omega
    have tl : told.length ≤ 400 := by
      have := tol_len ((ns.zip ps).take j) sE fun x hx => hL x (List.mem_of_mem_take hx)
      rw [← ht, List.length_take] at this
      have : sE.length = 0 := rfl
      omega
    obtain ⟨w1, w2⟩ := word_len ok
    have e1 := hg (s_summand n M p nm ok)
    rw [fold_snoc gz, ← ht] 
    unfold tolF
    by_cases h0 : p = 0
    · subst h0
      refine ⟨⟨[.val (nsD ns), .val (quD ps k), .val (.str told), .val (.str nm), .val (.int 0), x5], M⟩, ?_, told, _, _, _, rfl, rfl, n5, by rw [if_pos rfl], rfl⟩
      generalize nsD ns = nd at *
      generalize quD ps k = qu at *
      simp [evSs, evS, evX, evXs, evEs, evA, evAg, evT, evTB, evB, evG, evGs, evI, Tgs.len, varD, R.bind, biD, bi1, bi2_gcd, lif, toVal, setName_def, isRo_no, isRo_val, isRo_own, cmpD, truD, negD, binD, intOp, retD, ofBody, callD, call_CN, callkD, slots, Ar.slot, lend, ofCall, subD, seq, lis, G.atI, isTys, isTy, eqD, D.eqv, pure60, D.pure, D.deep, List.set, setD, putL, cell, methD, mtD, strI, ofSeq, plcC, plcV, unl, lock, unlock, rngD, forL, Itm.ok, stays, List.all_nil, fit0, fit1, fit2, fit3, fit4, fit5, fit6, fit7, fit8, fit9, fit10, fit11, fit12, fit13, fit14, fit15, fit16, n3, n4]
    · have w2 : (wordOf p nm).length ≤ 26 := w2
      generalize wordOf p nm = w at *
      have hz3 : (if p < 0 then sM else sP).length = 3 := by split <;> rfl
      have a1 := sadd (x := told) (y := if p < 0 then sM else sP) (by omega)
      have a2 := sadd (x := told ++ (if p < 0 then sM else sP)) (y := w) (by rw [sl_app]; omega)
      refine ⟨⟨[.val (nsD ns), .val (quD ps k), .val (.str (told ++ (if p < 0 then sM else sP) ++ w)), .val (.str nm), .val (.int p), .val (.str (if p < 0 then sM else sP))], M⟩, ?_, told ++ (if p < 0 then sM else sP) ++ w, _, _, _, rfl, rfl, rfl, by rw [if_neg h0], rfl⟩
      generalize nsD ns = nd at *
      generalize quD ps k = qu at *
      by_cases hn : p < 0
      · simp only [hn, if_true] at a1 a2 ⊢
        simp [evSs, evS, evX, evXs, evEs, evA, evAg, evT, evTB, evB, evG, evGs, evI, Tgs.len, varD, R.bind, biD, bi1, bi2_gcd, lif, toVal, setName_def, isRo_no, isRo_val, isRo_own, cmpD, truD, negD, binD, intOp, retD, ofBody, callD, call_CN, callkD, slots, Ar.slot, lend, ofCall, subD, seq, lis, G.atI, isTys, isTy, eqD, D.eqv, pure60, D.pure, D.deep, List.set, setD, putL, cell, methD, mtD, strI, ofSeq, plcC, plcV, unl, lock, unlock, rngD, forL, Itm.ok, stays, List.all_nil, fit0, fit1, fit2, fit3, fit4, fit5, fit6, fit7, fit8, fit9, fit10, fit11, fit12, fit13, fit14, fit15, fit16, n3, n4, n5, h0, hn, e1, a1, a2]
      · simp only [hn, if_false] at a1 a2 ⊢
        simp [evSs, evS, evX, evXs, evEs, evA, evAg, evT, evTB, evB, evG, evGs, evI, Tgs.len, varD, R.bind, biD, bi1, bi2_gcd, lif, toVal, setName_def, isRo_no, isRo_val, isRo_own, cmpD, truD, negD, binD, intOp, retD, ofBody, callD, call_CN, callkD, slots, Ar.slot, lend, ofCall, subD, seq, lis, G.atI, isTys, isTy, eqD, D.eqv, pure60, D.pure, D.deep, List.set, setD, putL, cell, methD, mtD, strI, ofSeq, plcC, plcV, unl, lock, unlock, rngD, forL, Itm.ok, stays, List.all_nil, fit0, fit1, fit2, fit3, fit4, fit5, fit6, fit7, fit8, fit9, fit10, fit11, fit12, fit13, fit14, fit15, fit16, n3, n4, n5, h0, hn, e1, a1, a2])
  subst es
  dsimp only at ht
  have hlen : (zips (ns.map D.str) (ps.map D.int)).length = ps.length := by rw [zp_len, List.length_map, List.length_map]; omega
  have hfull : (ns.zip ps).take ps.length = ns.zip ps := List.take_of_length_le (by rw [List.length_zip]; omega)
  rw [hlen, hfull] at ht
  have tl : told.length ≤ 400 := by
    have := tol_len (ns.zip ps) sE hL
    rw [← ht, List.length_zip] at this
    have : sE.length = 0 := rfl
    omega
  have rl := rl_fold (ns.zip ps) (told := sE) (said := sE) (.inl ⟨rfl, rfl⟩) hL
  rw [← ht] at rl
  unfold bf_sum_words
  rw [seq_nx i0, seq_nx i1]
  unfold suW
  generalize (ns.zip ps).foldl saiF sE = said at *
  generalize nsD ns = nd at *
  generalize quD ps k = qu at *
  have key : ∀ (z : Str), evSs C (.cons f_sum_words_2 (.cons f_sum_words_3 .nil)) ⟨[.val nd, .val qu, .val (.str told), x3, x4, x5], M⟩ = .ok (.rt (.val (.str z))) ⟨[.val nd, .val qu, .val (.str told), x3, x4, x5], M⟩ → ofBody (evSs C (.cons f_sum_words_2 (.cons f_sum_words_3 .nil)) ⟨[.val nd, .val qu, .val (.str told), x3, x4, x5], M⟩) = .ok (.val (.str z)) M := fun z h => by rw [h]; rfl
  refine key _ ?_
  rcases rl with ⟨rfl, rfl⟩ | ⟨r, hr, rl⟩
  · rw [if_pos rfl]
    simp [evSs, evS, evX, evXs, evEs, evA, evAg, evT, evTB, evB, evG, evGs, evI, Tgs.len, varD, R.bind, biD, bi1, bi2_gcd, lif, toVal, setName_def, isRo_no, isRo_val, isRo_own, cmpD, truD, negD, binD, intOp, retD, ofBody, callD, call_CN, callkD, slots, Ar.slot, lend, ofCall, subD, seq, lis, G.atI, isTys, isTy, eqD, D.eqv, pure60, D.pure, D.deep, List.set, setD, putL, cell, methD, mtD, strI, ofSeq, plcC, plcV, unl, lock, unlock, rngD, forL, Itm.ok, stays, List.all_nil, fit0, fit1, fit2, fit3, fit4, fit5, fit6, fit7, fit8, fit9, fit10, fit11, fit12, fit13, fit14, fit15, fit16]
  · have hne : ¬ said = sE := by
      rw [sE_iff]
      rcases rl with ⟨_, rfl⟩ | ⟨_, rfl⟩
      · omega
      · rw [sl_app]; omega
    rw [if_neg hne]
    have htne : ¬ told = sE := by
      rw [sE_iff]
      rcases rl with ⟨rfl, _⟩ | ⟨rfl, _⟩ <;> (rw [sl_app]; omega)
    have j2 : evS C f_sum_words_2 ⟨[.val nd, .val qu, .val (.str told), x3, x4, x5], M⟩ = .ok .nx ⟨[.val nd, .val qu, .val (.str told), x3, x4, x5], M⟩ := by
      have hd : decide (told = sE) = false := decide_eq_false htne
      have hd2 : eqD (.str told) (.str sE) = some false := by show some (decide (told = sE)) = _; rw [hd]
      simp [evSs, evS, evX, evXs, evEs, evA, evAg, evT, evTB, evB, evG, evGs, evI, Tgs.len, varD, R.bind, biD, bi1, bi2_gcd, lif, toVal, setName_def, isRo_no, isRo_val, isRo_own, cmpD, truD, negD, binD, intOp, retD, ofBody, callD, call_CN, callkD, slots, Ar.slot, lend, ofCall, subD, seq, lis, G.atI, isTys, isTy, D.pure, D.deep, List.set, setD, putL, cell, methD, mtD, strI, ofSeq, plcC, plcV, unl, lock, unlock, rngD, forL, Itm.ok, stays, List.all_nil, fit0, fit1, fit2, fit3, fit4, fit5, fit6, fit7, fit8, fit9, fit10, fit11, fit12, fit13, fit14, fit15, fit16, hd2]
    rw [seq_nx j2]
    have ft : fits told.length = true := fits_lt (by omega)
    rcases rl with ⟨rfl, rfl⟩ | ⟨rfl, rfl⟩
    · have st : Txt.startswith (sP ++ said) sP = true := by rw [starts _ _ _ (by rw [sP_cl]; rfl) (by rw [sP_cl]; rfl)]; exact decide_eq_true rfl
      have sl := fun s : S => sub3 (s := s) (z := sP) (r := said) (by rw [sP_cl]; rfl)
      simp only [ft, if_true] at sl
      generalize sP ++ said = tt at *
      simp [evSs, evS, evX, evXs, evEs, evA, evAg, evT, evTB, evB, evG, evGs, evI, Tgs.len, varD, R.bind, biD, bi1, bi2_gcd, lif, toVal, setName_def, isRo_no, isRo_val, isRo_own, cmpD, truD, negD, binD, intOp, retD, ofBody, callD, call_CN, callkD, slots, Ar.slot, lend, ofCall, subD, seq, lis, G.atI, isTys, isTy, eqD, D.eqv, pure60, D.pure, D.deep, List.set, setD, putL, cell, methD, mtD, strI, ofSeq, plcC, plcV, unl, lock, unlock, rngD, forL, Itm.ok, stays, List.all_nil, fit0, fit1, fit2, fit3, fit4, fit5, fit6, fit7, fit8, fit9, fit10, fit11, fit12, fit13, fit14, fit15, fit16, smD, evO, optI, st, sl]
    · have st : Txt.startswith (sM ++ r) sP = false := by rw [starts _ _ _ (by rw [sM_cl]; rfl) (by rw [sP_cl]; rfl), sM_cl, sP_cl]; rfl
      have sl := fun s : S => sub3 (s := s) (z := sM) (r := r) (by rw [sM_cl]; rfl)
      simp only [ft, if_true] at sl
      have a1 := sadd (x := sN) (y := r) (by rw [sl_app] at tl; have : sN.length = 1 := rfl; omega)
      generalize sM ++ r = tt at *
      simp [evSs, evS, evX, evXs, evEs, evA, evAg, evT, evTB, evB, evG, evGs, evI, Tgs.len, varD, R.bind, biD, bi1, bi2_gcd, lif, toVal, setName_def, isRo_no, isRo_val, isRo_own, cmpD, truD, negD, binD, intOp, retD, ofBody, callD, call_CN, callkD, slots, Ar.slot, lend, ofCall, subD, seq, lis, G.atI, isTys, isTy, eqD, D.eqv, pure60, D.pure, D.deep, List.set, setD, putL, cell, methD, mtD, strI, ofSeq, plcC, plcV, unl, lock, unlock, rngD, forL, Itm.ok, stays, List.all_nil, fit0, fit1, fit2, fit3, fit4, fit5, fit6, fit7, fit8, fit9, fit10, fit11, fit12, fit13, fit14, fit15, fit16, smD, evO, optI, st, sl, a1]
end G

/-! ## W3 -/
set_option Elab.async false
set_option linter.all false
set_option maxRecDepth 100000
set_option maxHeartbeats 8000000
namespace G
open PySem
/-! ### questions in words -/
def qw (L : List Np) (k : Int) (y : Bool) : Str := suW L ++ (if y then sL' else sW') ++ ts k
theorem join3 (a b c : Str) : Txt.join sBk [a, b, c] = a ++ sBk ++ b ++ sBk ++ c := rfl
theorem asStrs_map : ∀ ys : List Str, asStrs (ys.map D.str) = some ys
  | [] => rfl
  | y :: ys => by rw [List.map_cons, asStrs, asStrs_map ys]; rfl
theorem sum_le : ∀ {ys : List Str} {k : Nat}, (∀ y ∈ ys, y.length ≤ k) → (ys.map (·.length)).sum ≤ k * ys.length
  | [], _, _ => by simp
  | y :: ys, k, h => by
    have h1 := h y List.mem_cons_self
    have h2 := sum_le (ys := ys) (k := k) fun z hz => h z (List.mem_cons_of_mem _ hz)
    rw [List.map_cons, List.sum_cons, List.length_cons, Nat.mul_add, Nat.mul_one]; omega
theorem join_new {a : Str} {ys : List Str} {s : S} (h : ∀ y ∈ ys, y.length ≤ 1000) (h2 : ys.length ≤ 1000) (h3 : a.length ≤ 100) : Nat.ble ((ys.map (·.length)).sum + ys.length * a.length) 16777216 = true := by
  rw [Nat.ble_eq]
  have h4 := sum_le h
  have h5 : ys.length * a.length ≤ 1000 * 100 := Nat.mul_le_mul h2 h3
  omega
theorem jn_new {a : Str} {ys : List Str} {s : S} (h : ∀ y ∈ ys, y.length ≤ 1000) (h2 : ys.length ≤ 1000) (h3 : a.length ≤ 100) : smD .join a (.new (ys.map D.str)) s = some (.val (.str (Txt.join a ys))) := by
  have := join_new (s := s) h h2 h3
  simp only [smD, seq, Option.bind_some, asStrs_map, this, if_true]
theorem jn_own {a : Str} {ys : List Str} {v : List Slot} {M : List Cell} {i : Nat} (hv : v[i]? = some (.own (ys.map D.str))) (h : ∀ y ∈ ys, y.length ≤ 1000) (h2 : ys.length ≤ 1000) (h3 : a.length ≤ 100) : smD .join a (.var i) ⟨v, M⟩ = some (.val (.str (Txt.join a ys))) := by
  have := join_new (s := ⟨v, M⟩) h h2 h3
  simp only [smD, seq, hv, Option.bind_some, asStrs_map, this, if_true]
theorem len_join {a : Str} {ys : List Str} (h : ∀ y ∈ ys, y.length ≤ 1000) (h2 : ys.length ≤ 100) (h3 : a.length ≤ 10) : (Txt.join a ys).length ≤ 110000 := by
  cases ys with
  | nil => exact Nat.zero_le _
  | cons y ys =>
    have key : ∀ (zs : List Str) (acc : Array Nat), (∀ z ∈ zs, z.length ≤ 1000) → (zs.foldl (fun acc p => acc ++ a.cps ++ p.cps) acc).size ≤ acc.size + zs.length * 1010 := by
      intro zs
      induction zs with
      | nil => intro acc _; simp
      | cons z zs ih =>
        intro acc hz
        have i1 := ih (acc ++ a.cps ++ z.cps) fun x hx => hz x (List.mem_cons_of_mem _ hx)
        have i2 : z.cps.size ≤ 1000 := hz z List.mem_cons_self
        have i3 : a.cps.size ≤ 10 := h3
        rw [Array.size_append, Array.size_append] at i1
        rw [List.foldl_cons, List.length_cons, Nat.add_mul]
        omega
    have k := key ys y.cps fun z hz => h z (List.mem_cons_of_mem _ hz)
    have hy : y.cps.size ≤ 1000 := h y List.mem_cons_self
    show (((y :: ys).drop 1).foldl (fun acc p => acc ++ a.cps ++ p.cps) y.cps).size ≤ _
    rw [List.length_cons] at h2
    have h5 : ys.length * 1010 ≤ 100 * 1010 := Nat.mul_le_mul (by omega) (Nat.le_refl _)
    show (ys.foldl (fun acc p => acc ++ a.cps ++ p.cps) y.cps).size ≤ _
    omega
/-- a setting: the kinds, the readings -/
def rdD (x : Str × Int) : D := .tup [.str x.1, .int x.2]
def stD (kd : D) (rs : List (Str × Int)) : D := .tup [kd, .tup (rs.map rdD)]
def nms (rs : List (Str × Int)) : List Str := rs.map (·.1)
theorem c_names_of (n : Nat) (a : Slot) (M : List Cell) : RN (n+1) (Str.ofString "names_of") [a] M = ofBody (evSs (CN n) bf_names_of ⟨[a, .no, .no], M⟩) := rfl
theorem s_names_of (n : Nat) (M : List Cell) (kd : D) (rs : List (Str × Int)) (hl : rs.length ≤ 8) : RN (n+1) (Str.ofString "names_of") [.val (stD kd rs)] M = .ok (.val (nsD (nms rs))) M := by
  rw [c_names_of]
  have hi : evI (CN n) (.q (.sub (.var 0) (.cst (.int 1)))) ⟨[.val (stD kd rs), .no, .no], M⟩ = .ok ⟨rs.map rdD, [], []⟩ ⟨[.val (stD kd rs), .no, .no], M⟩ := by
    simp [evSs, evS, evX, evXs, evEs, evA, evAg, evT, evTB, evB, evG, evGs, evI, Tgs.len, varD, R.bind, biD, bi1, bi2_gcd, lif, toVal, setName_def, isRo_no, isRo_val, isRo_own, cmpD, truD, negD, binD, intOp, retD, ofBody, callD, call_CN, callkD, slots, Ar.slot, lend, ofCall, subD, seq, lis, G.atI, isTys, isTy, eqD, D.eqv, pure60, D.pure, D.deep, List.set, setD, putL, cell, methD, mtD, strI, ofSeq, plcC, plcV, unl, lock, unlock, rngD, forL, Itm.ok, stays, List.all_nil, fit0, fit1, fit2, fit3, fit4, fit5, fit6, fit7, fit8, fit9, fit10, fit11, fit12, fit13, fit14, fit15, fit16, a20, a21, a30, a31, a32, a40, a41, a42, a43, a50, a51, a52, a53, a54, a60, a61, a62, a63, a64, a65, stD]
  have e := comp_map f_names_of_C0 rfl ((nms rs).map D.str) hi rfl rfl rfl rfl (fits_lt (by dsimp only; rw [List.length_map]; omega)) (by unfold nms; simp) (by
    intro j x d hx hd
    obtain ⟨r, g1, rfl⟩ := get_map hx
    have hd2 : ((nms rs).map D.str)[j]? = some (.str r.1) := by unfold nms; rw [List.getElem?_map, List.getElem?_map, g1]; rfl
    rw [hd2] at hd
    cases hd
    refine ⟨[.val (stD kd rs), .val (.str r.1), .val (.int r.2)], ?_, rfl⟩
    generalize stD kd rs = st at *
    simp [turnC, evSs, evS, evX, evXs, evEs, evA, evAg, evT, evTB, evB, evG, evGs, evI, Tgs.len, varD, R.bind, biD, bi1, bi2_gcd, lif, toVal, setName_def, isRo_no, isRo_val, isRo_own, cmpD, truD, negD, binD, intOp, retD, ofBody, callD, call_CN, callkD, slots, Ar.slot, lend, ofCall, subD, seq, lis, G.atI, isTys, isTy, eqD, D.eqv, pure60, D.pure, D.deep, List.set, setD, putL, cell, methD, mtD, strI, ofSeq, plcC, plcV, unl, lock, unlock, rngD, forL, Itm.ok, stays, List.all_nil, fit0, fit1, fit2, fit3, fit4, fit5, fit6, fit7, fit8, fit9, fit10, fit11, fit12, fit13, fit14, fit15, fit16, rdD])
  rw [show bf_names_of = .cons (.ret (.bi .tuple (.cons f_names_of_C0 .nil))) .nil from rfl, ret_tup e]
  rfl
/-- a question: so many parts -/
def QuOk (rs : List (Str × Int)) (ps : List Int) (k : Int) : Prop := ps.length = rs.length ∧ (∀ p ∈ ps, p.natAbs ≤ 9) ∧ k.natAbs ≤ 99
def RsOk (rs : List (Str × Int)) : Prop := rs.length ≤ 8 ∧ ∀ r ∈ rs, NmOk r.1
theorem np_all {rs : List (Str × Int)} {ps : List Int} {k : Int} (h : RsOk rs) (q : QuOk rs ps k) : ∀ x ∈ (nms rs).zip ps, NpOk x := fun x hx => by
  obtain ⟨h1, h2⟩ := List.of_mem_zip (a := x.1) (b := x.2) hx
  obtain ⟨r, hr, e⟩ := List.mem_map.mp h1
  exact ⟨by rw [← e]; exact h.2 r hr, q.2.1 _ h2⟩
theorem qw_len {rs : List (Str × Int)} {ps : List Int} {k : Int} (h : RsOk rs) (q : QuOk rs ps k) (y : Bool) : (qw ((nms rs).zip ps) k y).length ≤ 400 := by
  have h1 := su_len (np_all h q) (by rw [List.length_zip]; have := h.1; have := q.1; omega)
  have h2 := ts_len k (by have := q.2.2; omega)
  have h3 : (if y then sL' else sW').length ≤ 20 := by cases y <;> decide
  unfold qw
  rw [sl_app, sl_app]
  omega
theorem c_question_words (n : Nat) (a b c : Slot) (M : List Cell) : RN (n+1) (Str.ofString "question_words") [a, b, c] M = ofBody (evSs (CN n) bf_question_words ⟨[a, b, c, .no], M⟩) := rfl
def yI (y : Bool) : Int := if y then 1 else 0
theorem s_question_words (n : Nat) (M : List Cell) (kd : D) (rs : List (Str × Int)) (ps : List Int) (k : Int) (y : Bool) (h : RsOk rs) (q : QuOk rs ps k) :
    RN (n+3) (Str.ofString "question_words") [.val (stD kd rs), .val (quD ps k), .val (.int (yI y))] M = .ok (.val (.str (qw ((nms rs).zip ps) k y))) M := by
  rw [c_question_words]
  obtain ⟨C, hC, hg⟩ := opq (n+2)
  rw [← hC]
  have e1 := hg (s_names_of (n+1) M kd rs h.1)
  have e2 := hg (s_sum_words n M (nms rs) ps k (by unfold nms; rw [List.length_map]; exact q.1.symm) (by have := h.1; have := q.1; omega) (np_all h q))
  have l1 := su_len (np_all h q) (by rw [List.length_zip]; have := h.1; have := q.1; omega)
  have e3 := ts_str k (by have := q.2.2; omega)
  have l3 := ts_len k (by have := q.2.2; omega)
  have i0 : evS C f_question_words_0 ⟨[.val (stD kd rs), .val (quD ps k), .val (.int (yI y)), .no], M⟩ = .ok .nx ⟨[.val (stD kd rs), .val (quD ps k), .val (.int (yI y)), .val (.str (if y then sL else sW))], M⟩ := by
    generalize stD kd rs = st at *
    generalize quD ps k = qu at *
    cases y <;> simp [evSs, evS, evX, evXs, evEs, evA, evAg, evT, evTB, evB, evG, evGs, evI, Tgs.len, varD, R.bind, biD, bi1, bi2_gcd, lif, toVal, setName_def, isRo_no, isRo_val, isRo_own, cmpD, truD, negD, binD, intOp, retD, ofBody, callD, call_CN, callkD, slots, Ar.slot, lend, ofCall, subD, seq, lis, G.atI, isTys, isTy, eqD, D.eqv, pure60, D.pure, D.deep, List.set, setD, putL, cell, methD, mtD, strI, ofSeq, plcC, plcV, unl, lock, unlock, rngD, forL, Itm.ok, stays, List.all_nil, fit0, fit1, fit2, fit3, fit4, fit5, fit6, fit7, fit8, fit9, fit10, fit11, fit12, fit13, fit14, fit15, fit16, yI]
  have jn := fun s : S => jn_new (a := sBk) (ys := [suW ((nms rs).zip ps), if y then sL else sW, ts k]) (s := s) (by
    intro z hz
    simp only [List.mem_cons, List.not_mem_nil, or_false] at hz
    rcases hz with rfl | rfl | rfl
    · omega
    · cases y <;> decide
    · omega) (by simp) (by decide)
  rw [join3] at jn
  have eq : suW ((nms rs).zip ps) ++ sBk ++ (if y then sL else sW) ++ sBk ++ ts k = qw ((nms rs).zip ps) k y := by
    unfold qw
    have : (if y then sL' else sW') = sBk ++ (if y then sL else sW) ++ sBk := by cases y <;> decide
    rw [this, s_assoc, s_assoc, s_assoc, s_assoc, s_assoc, s_assoc]
  rw [eq] at jn
  have q0 : quD ps k = .tup [inD' ps, .int k] := rfl
  unfold bf_question_words
  rw [seq_nx i0]
  generalize qw ((nms rs).zip ps) k y = z at *
  generalize suW ((nms rs).zip ps) = z1 at *
  generalize (if y then sL else sW) = z2 at *
  generalize ts k = z3 at *
  generalize stD kd rs = st at *
  rw [q0] at e2 ⊢
  generalize inD' ps = ip at *
  simp only [List.map_cons, List.map_nil] at jn
  simp [evSs, evS, evX, evXs, evEs, evA, evAg, evT, evTB, evB, evG, evGs, evI, Tgs.len, varD, R.bind, biD, bi1, bi2_gcd, lif, toVal, setName_def, isRo_no, isRo_val, isRo_own, cmpD, truD, negD, binD, intOp, retD, ofBody, callD, call_CN, callkD, slots, Ar.slot, lend, ofCall, subD, seq, lis, G.atI, isTys, isTy, eqD, D.eqv, pure60, D.pure, D.deep, List.set, setD, putL, cell, methD, mtD, ofSeq, plcC, plcV, unl, lock, unlock, rngD, forL, Itm.ok, stays, List.all_nil, fit0, fit1, fit2, fit3, fit4, fit5, fit6, fit7, fit8, fit9, fit10, fit11, fit12, fit13, fit14, fit15, fit16, a20, a21, a30, a31, a32, a40, a41, a42, a43, a50, a51, a52, a53, a54, a60, a61, a62, a63, a64, a65, e1, e2, e3, jn]
/-! ### the law's words -/
theorem c_lsum (n : Nat) (a b : Slot) (M : List Cell) : RN (n+1) (Str.ofString "_law_sum") [a, b] M = ofBody (evSs (CN n) bl_sum ⟨[a, b, .no, .no, .no, .no, .no], M⟩) := rfl
theorem s_lsum (n : Nat) (M : List Cell) (ns : List Str) (ps : List Int) (k : Int) (hl : ns.length = ps.length) (hl2 : ps.length ≤ 8) (hL : ∀ x ∈ ns.zip ps, NpOk x) :
    RN (n+1) (Str.ofString "_law_sum") [.ro (ns.map D.str), .val (quD ps k)] M = .ok (.val (.str (suW (ns.zip ps)))) M := by
  rw [c_lsum]
  obtain ⟨C, hC, hg⟩ := opq n
  rw [← hC]
  have i0 : evS C l_sum_0 ⟨[.ro (ns.map D.str), .val (quD ps k), .no, .no, .no, .no, .no], M⟩ = .ok .nx ⟨[.ro (ns.map D.str), .val (quD ps k), .val (.str sE), .no, .no, .no, .no], M⟩ := by
    simp [evSs, evS, evX, evXs, evEs, evA, evAg, evT, evTB, evB, evG, evGs, evI, Tgs.len, varD, R.bind, biD, bi1, bi2_gcd, lif, toVal, setName_def, isRo_no, isRo_val, isRo_own, cmpD, truD, negD, binD, intOp, retD, ofBody, callD, call_CN, callkD, slots, Ar.slot, lend, ofCall, subD, seq, lis, G.atI, isTys, isTy, eqD, D.eqv, pure60, D.pure, D.deep, List.set, setD, putL, cell, methD, mtD, strI, ofSeq, plcC, plcV, unl, lock, unlock, rngD, forL, Itm.ok, stays, List.all_nil, fit0, fit1, fit2, fit3, fit4, fit5, fit6, fit7, fit8, fit9, fit10, fit11, fit12, fit13, fit14, fit15, fit16]
  have hi : evI C (.rng (.cons (.bi .len (.cons (.var 0) .nil)) .nil)) ⟨[.ro (ns.map D.str), .val (quD ps k), .val (.str sE), .no, .no, .no, .no], M⟩ = .ok ⟨rngL 0 ns.length, [], []⟩ ⟨[.ro (ns.map D.str), .val (quD ps k), .val (.str sE), .no, .no, .no, .no], M⟩ := evI_rngZ (z := (ns.length : Int)) (by simp [evSs, evS, evX, evXs, evEs, evA, evAg, evT, evTB, evB, evG, evGs, evI, Tgs.len, varD, R.bind, biD, bi1, bi2_gcd, lif, toVal, setName_def, isRo_no, isRo_val, isRo_own, cmpD, truD, negD, binD, intOp, retD, ofBody, callD, call_CN, callkD, slots, Ar.slot, lend, ofCall, subD, seq, lis, G.atI, isTys, isTy, eqD, D.eqv, pure60, D.pure, D.deep, List.set, setD, putL, cell, methD, mtD, strI, ofSeq, plcC, plcV, unl, lock, unlock, rngD, forL, Itm.ok, stays, List.all_nil, fit0, fit1, fit2, fit3, fit4, fit5, fit6, fit7, fit8, fit9, fit10, fit11, fit12, fit13, fit14, fit15, fit16]) (len62 (by omega)) (Int.toNat_natCast _)
  obtain ⟨s', i1, said, x3, x4, x5, x6, n3, n4, n5, n6, ht, es⟩ := fors_inv l_sum_1 rfl hi rfl rfl (fun j s => ∃ (said : Str) (x3 x4 x5 x6 : Slot), isRo x3 = false ∧ isRo x4 = false ∧ isRo x5 = false ∧ isRo x6 = false ∧ said = ((ns.zip ps).take j).foldl saiF sE ∧ s = ⟨[.ro (ns.map D.str), .val (quD ps k), .val (.str said), x3, x4, x5, x6], M⟩)
    ⟨_, _, _, _, _, rfl, rfl, rfl, rfl, rfl, rfl⟩ (by
    rintro j x s hx ⟨said, x3, x4, x5, x6, n3, n4, n5, n6, ht, rfl⟩
    obtain ⟨rfl, hj⟩ := rngL_get hx
    obtain ⟨nm, ga⟩ := get_lt (xs := ns) hj
    obtain ⟨p, gb⟩ := get_lt (xs := ps) (j := j) (by omega)
    have gz := zip_get ga gb
    have ok := hL _ (List.mem_of_getElem? gz)
    have tl : said.length ≤ 400 := by
      have := sai_len ((ns.zip ps).take j) sE fun x hx => hL x (List.mem_of_mem_take hx)
      rw [← ht, List.length_take] at this
      have : sE.length = 0 := rfl
      omega
    obtain ⟨w1, w2⟩ := word_len ok
    have w2 : (wordOf p nm).length ≤ 26 := w2
    have aN : L2.atI (ns.map D.str) (j : Int) = some (.str nm) := atI_nat (map_get ga)
    have aP : L2.atI (ps.map D.int) (j : Int) = some (.int p) := atI_nat (map_get gb)
    have ok2 : p.natAbs ≤ 9 := ok.2
    have ok1 : nm.length ≤ 20 := ok.1.2
    have hab : (if 0 < p then p else 0 - p) = ab p := by
      unfold ab
      by_cases h : p < 0
      · rw [if_pos h, if_neg (by omega)]; omega
      · rw [if_neg h]
        split <;> omega
    have j0 : evG C (.name 3) (.int (j : Int)) ⟨[.ro (ns.map D.str), .val (quD ps k), .val (.str said), x3, x4, x5, x6], M⟩ = .ok () ⟨[.ro (ns.map D.str), .val (quD ps k), .val (.str said), .val (.int j), x4, x5, x6], M⟩ := by
      simp [evSs, evS, evX, evXs, evEs, evA, evAg, evT, evTB, evB, evG, evGs, evI, Tgs.len, varD, R.bind, biD, bi1, bi2_gcd, lif, toVal, setName_def, isRo_no, isRo_val, isRo_own, cmpD, truD, negD, binD, intOp, retD, ofBody, callD, call_CN, callkD, slots, Ar.slot, lend, ofCall, subD, seq, lis, G.atI, isTys, isTy, eqD, D.eqv, pure60, D.pure, D.deep, List.set, setD, putL, cell, methD, mtD, strI, ofSeq, plcC, plcV, unl, lock, unlock, rngD, forL, Itm.ok, stays, List.all_nil, fit0, fit1, fit2, fit3, fit4, fit5, fit6, fit7, fit8, fit9, fit10, fit11, fit12, fit13, fit14, fit15, fit16, n3]
    have j1 : evS C l_sum_1b_0 ⟨[.ro (ns.map D.str), .val (quD ps k), .val (.str said), .val (.int j), x4, x5, x6], M⟩ = .ok .nx ⟨[.ro (ns.map D.str), .val (quD ps k), .val (.str said), .val (.int j), .val (.int p), x5, x6], M⟩ := by
      unfold quD inD'
      simp [evSs, evS, evX, evXs, evEs, evA, evAg, evT, evTB, evB, evG, evGs, evI, Tgs.len, varD, R.bind, biD, bi1, bi2_gcd, lif, toVal, setName_def, isRo_no, isRo_val, isRo_own, cmpD, truD, negD, binD, intOp, retD, ofBody, callD, call_CN, callkD, slots, Ar.slot, lend, ofCall, subD, seq, lis, G.atI, isTys, isTy, eqD, D.eqv, pure60, D.pure, D.deep, List.set, setD, putL, cell, methD, mtD, strI, ofSeq, plcC, plcV, unl, lock, unlock, rngD, forL, Itm.ok, stays, List.all_nil, fit0, fit1, fit2, fit3, fit4, fit5, fit6, fit7, fit8, fit9, fit10, fit11, fit12, fit13, fit14, fit15, fit16, a20, a21, a30, a31, a32, a40, a41, a42, a43, a50, a51, a52, a53, a54, a60, a61, a62, a63, a64, a65, n4, aP]
    have j2 : evS C l_sum_1b_1 ⟨[.ro (ns.map D.str), .val (quD ps k), .val (.str said), .val (.int j), .val (.int p), x5, x6], M⟩ = .ok .nx ⟨[.ro (ns.map D.str), .val (quD ps k), .val (.str said), .val (.int j), .val (.int p), .val (.int (ab p)), x6], M⟩ := by
      rw [← hab]
      generalize quD ps k = qu at *
      by_cases h : 0 < p
      · simp [evSs, evS, evX, evXs, evEs, evA, evAg, evT, evTB, evB, evG, evGs, evI, Tgs.len, varD, R.bind, biD, bi1, bi2_gcd, lif, toVal, setName_def, isRo_no, isRo_val, isRo_own, cmpD, truD, negD, binD, intOp, retD, ofBody, callD, call_CN, callkD, slots, Ar.slot, lend, ofCall, subD, seq, lis, G.atI, isTys, isTy, eqD, D.eqv, pure60, D.pure, D.deep, List.set, setD, putL, cell, methD, mtD, strI, ofSeq, plcC, plcV, unl, lock, unlock, rngD, forL, Itm.ok, stays, List.all_nil, fit0, fit1, fit2, fit3, fit4, fit5, fit6, fit7, fit8, fit9, fit10, fit11, fit12, fit13, fit14, fit15, fit16, n5, h]
      · simp [evSs, evS, evX, evXs, evEs, evA, evAg, evT, evTB, evB, evG, evGs, evI, Tgs.len, varD, R.bind, biD, bi1, bi2_gcd, lif, toVal, setName_def, isRo_no, isRo_val, isRo_own, cmpD, truD, negD, binD, intOp, retD, ofBody, callD, call_CN, callkD, slots, Ar.slot, lend, ofCall, subD, seq, lis, G.atI, isTys, isTy, eqD, D.eqv, pure60, D.pure, D.deep, List.set, setD, putL, cell, methD, mtD, strI, ofSeq, plcC, plcV, unl, lock, unlock, rngD, forL, Itm.ok, stays, List.all_nil, fit0, fit1, fit2, fit3, fit4, fit5, fit6, fit7, fit8, fit9, fit10, fit11, fit12, fit13, fit14, fit15, fit16, n5, h]
    have ha : (ab p).natAbs ≤ 120 := by unfold ab; split <;> omega
    have hfm := ts_fmt (ab p) ha
    have l1 := ts_len (ab p) ha
    rw [fold_snoc gz, ← ht]
    unfold saiF
    refine ⟨⟨[.ro (ns.map D.str), .val (quD ps k), .val (.str (saiF said (nm, p))), .val (.int j), .val (.int p), .val (.int (ab p)), if p = 0 then x6 else .val (.str (wordOf p nm))], M⟩, ?_, _, _, _, _, _, rfl, rfl, rfl, by split <;> first | exact n6 | rfl, rfl, rfl⟩
    rw [j0]
    refine bind_ok ?_
    show evSs C (.cons l_sum_1b_0 (.cons l_sum_1b_1 (.cons l_sum_1b_2 .nil))) _ = _
    rw [seq_nx j1, seq_nx j2]
    unfold saiF
    dsimp only
    by_cases h0 : p = 0
    · rw [if_pos h0, if_pos h0]
      have hz : ab p = 0 := by unfold ab; rw [h0]; rfl
      rw [hz]
      generalize quD ps k = qu at *
      simp [evSs, evS, evX, evXs, evEs, evA, evAg, evT, evTB, evB, evG, evGs, evI, Tgs.len, varD, R.bind, biD, bi1, bi2_gcd, lif, toVal, setName_def, isRo_no, isRo_val, isRo_own, cmpD, truD, negD, binD, intOp, retD, ofBody, callD, call_CN, callkD, slots, Ar.slot, lend, ofCall, subD, seq, lis, G.atI, isTys, isTy, eqD, D.eqv, pure60, D.pure, D.deep, List.set, setD, putL, cell, methD, mtD, strI, ofSeq, plcC, plcV, unl, lock, unlock, rngD, forL, Itm.ok, stays, List.all_nil, fit0, fit1, fit2, fit3, fit4, fit5, fit6, fit7, fit8, fit9, fit10, fit11, fit12, fit13, fit14, fit15, fit16]
    · rw [if_neg h0, if_neg h0]
      have hpos : 0 < ab p := by unfold ab; split <;> omega
      have tt : evT C (.x (.cmp .Gt (.var 5) (.cst (.int 0)))) ⟨[.ro (ns.map D.str), .val (quD ps k), .val (.str said), .val (.int j), .val (.int p), .val (.int (ab p)), x6], M⟩ = .ok true ⟨[.ro (ns.map D.str), .val (quD ps k), .val (.str said), .val (.int j), .val (.int p), .val (.int (ab p)), x6], M⟩ := by
        generalize quD ps k = qu at *
        simp [evSs, evS, evX, evXs, evEs, evA, evAg, evT, evTB, evB, evG, evGs, evI, Tgs.len, varD, R.bind, biD, bi1, bi2_gcd, lif, toVal, setName_def, isRo_no, isRo_val, isRo_own, cmpD, truD, negD, binD, intOp, retD, ofBody, callD, call_CN, callkD, slots, Ar.slot, lend, ofCall, subD, seq, lis, G.atI, isTys, isTy, eqD, D.eqv, pure60, D.pure, D.deep, List.set, setD, putL, cell, methD, mtD, strI, ofSeq, plcC, plcV, unl, lock, unlock, rngD, forL, Itm.ok, stays, List.all_nil, fit0, fit1, fit2, fit3, fit4, fit5, fit6, fit7, fit8, fit9, fit10, fit11, fit12, fit13, fit14, fit15, fit16, hpos]
      refine sq (ite_t tt (sq (s1 := ⟨[.ro (ns.map D.str), .val (quD ps k), .val (.str said), .val (.int j), .val (.int p), .val (.int (ab p)), .val (.str (wordOf p nm))], M⟩) ?_ (sq (s1 := ⟨[.ro (ns.map D.str), .val (quD ps k), .val (.str (if said = sE then (if 0 < p then wordOf p nm else sN ++ wordOf p nm) else said ++ (if 0 < p then sP else sM) ++ wordOf p nm)), .val (.int j), .val (.int p), .val (.int (ab p)), .val (.str (wordOf p nm))], M⟩) ?_ rfl))) rfl
      · have fb : fmtD (.val (.str sBk)) = some sBk := by decide
        have fn : fmtD (.val (.str nm)) = some nm := by
          have : fits nm.length = true := fits_lt (by omega)
          simp only [fmtD, this, if_true]
        have f1 : fits (ts (ab p)).length = true := fits_lt (by omega)
        have f2 : fits (ts (ab p) ++ sBk).length = true := fits_lt (by rw [sl_app]; have : sBk.length = 1 := rfl; omega)
        have f3 : fits (ts (ab p) ++ sBk ++ nm).length = true := fits_lt (by rw [sl_app, sl_app]; have : sBk.length = 1 := rfl; omega)
        unfold wordOf
        generalize quD ps k = qu at *
        generalize ns.map D.str = NS at *
        by_cases h1 : ab p = 1
        · rw [if_pos h1]
          simp [evSs, evS, evX, evXs, evEs, evA, evAg, evT, evTB, evB, evG, evGs, evI, Tgs.len, varD, R.bind, biD, bi1, bi2_gcd, lif, toVal, setName_def, isRo_no, isRo_val, isRo_own, cmpD, truD, negD, binD, intOp, retD, ofBody, callD, call_CN, callkD, slots, Ar.slot, lend, ofCall, subD, seq, lis, G.atI, isTys, isTy, eqD, D.eqv, pure60, D.pure, D.deep, List.set, setD, putL, cell, methD, mtD, strI, ofSeq, plcC, plcV, unl, lock, unlock, rngD, forL, Itm.ok, stays, List.all_nil, fit0, fit1, fit2, fit3, fit4, fit5, fit6, fit7, fit8, fit9, fit10, fit11, fit12, fit13, fit14, fit15, fit16, n6, h1, aN]
        · rw [if_neg h1]
          generalize ts (ab p) = t at *
          simp [evSs, evS, evX, evXs, evEs, evA, evAg, evT, evTB, evB, evG, evGs, evI, Tgs.len, varD, R.bind, biD, bi1, bi2_gcd, lif, toVal, setName_def, isRo_no, isRo_val, isRo_own, cmpD, truD, negD, binD, intOp, retD, ofBody, callD, call_CN, callkD, slots, Ar.slot, lend, ofCall, subD, seq, lis, G.atI, isTys, isTy, eqD, D.eqv, pure60, D.pure, D.deep, List.set, setD, putL, cell, methD, mtD, strI, ofSeq, plcC, plcV, unl, lock, unlock, rngD, forL, Itm.ok, stays, List.all_nil, fit0, fit1, fit2, fit3, fit4, fit5, fit6, fit7, fit8, fit9, fit10, fit11, fit12, fit13, fit14, fit15, fit16, evF, n6, h1, aN, hfm, fb, fn, s_empty, f1, f2, f3]
      · generalize wordOf p nm = w at *
        generalize quD ps k = qu at *
        generalize ns.map D.str = NS at *
        have a0 := sadd (x := sN) (y := w) (by have : sN.length = 1 := rfl; omega)
        have z3 : (if 0 < p then sP else sM).length = 3 := by split <;> rfl
        have a1 := sadd (x := said) (y := if 0 < p then sP else sM) (by omega)
        have a2 := sadd (x := said ++ (if 0 < p then sP else sM)) (y := w) (by rw [sl_app]; omega)
        by_cases hs : said = sE
        · have hd2 : eqD (.str said) (.str sE) = some true := by show some (decide (said = sE)) = _; rw [decide_eq_true hs]
          rw [if_pos hs]
          by_cases hp : 0 < p
          · simp [evSs, evS, evX, evXs, evEs, evA, evAg, evT, evTB, evB, evG, evGs, evI, Tgs.len, varD, R.bind, biD, bi1, bi2_gcd, lif, toVal, setName_def, isRo_no, isRo_val, isRo_own, cmpD, truD, negD, binD, intOp, retD, ofBody, callD, call_CN, callkD, slots, Ar.slot, lend, ofCall, subD, seq, lis, G.atI, isTys, isTy, D.pure, D.deep, List.set, setD, putL, cell, methD, mtD, strI, ofSeq, plcC, plcV, unl, lock, unlock, rngD, forL, Itm.ok, stays, List.all_nil, fit0, fit1, fit2, fit3, fit4, fit5, fit6, fit7, fit8, fit9, fit10, fit11, fit12, fit13, fit14, fit15, fit16, hd2, hp]
          · simp [evSs, evS, evX, evXs, evEs, evA, evAg, evT, evTB, evB, evG, evGs, evI, Tgs.len, varD, R.bind, biD, bi1, bi2_gcd, lif, toVal, setName_def, isRo_no, isRo_val, isRo_own, cmpD, truD, negD, binD, intOp, retD, ofBody, callD, call_CN, callkD, slots, Ar.slot, lend, ofCall, subD, seq, lis, G.atI, isTys, isTy, D.pure, D.deep, List.set, setD, putL, cell, methD, mtD, strI, ofSeq, plcC, plcV, unl, lock, unlock, rngD, forL, Itm.ok, stays, List.all_nil, fit0, fit1, fit2, fit3, fit4, fit5, fit6, fit7, fit8, fit9, fit10, fit11, fit12, fit13, fit14, fit15, fit16, hd2, hp, a0]
        · have hd2 : eqD (.str said) (.str sE) = some false := by show some (decide (said = sE)) = _; rw [decide_eq_false hs]
          rw [if_neg hs]
          by_cases hp : 0 < p
          · simp only [hp, if_true] at a1 a2 ⊢
            simp [evSs, evS, evX, evXs, evEs, evA, evAg, evT, evTB, evB, evG, evGs, evI, Tgs.len, varD, R.bind, biD, bi1, bi2_gcd, lif, toVal, setName_def, isRo_no, isRo_val, isRo_own, cmpD, truD, negD, binD, intOp, retD, ofBody, callD, call_CN, callkD, slots, Ar.slot, lend, ofCall, subD, seq, lis, G.atI, isTys, isTy, D.pure, D.deep, List.set, setD, putL, cell, methD, mtD, strI, ofSeq, plcC, plcV, unl, lock, unlock, rngD, forL, Itm.ok, stays, List.all_nil, fit0, fit1, fit2, fit3, fit4, fit5, fit6, fit7, fit8, fit9, fit10, fit11, fit12, fit13, fit14, fit15, fit16, hd2, hp, a1, a2]
          · simp only [hp, if_false] at a1 a2 ⊢
            simp [evSs, evS, evX, evXs, evEs, evA, evAg, evT, evTB, evB, evG, evGs, evI, Tgs.len, varD, R.bind, biD, bi1, bi2_gcd, lif, toVal, setName_def, isRo_no, isRo_val, isRo_own, cmpD, truD, negD, binD, intOp, retD, ofBody, callD, call_CN, callkD, slots, Ar.slot, lend, ofCall, subD, seq, lis, G.atI, isTys, isTy, D.pure, D.deep, List.set, setD, putL, cell, methD, mtD, strI, ofSeq, plcC, plcV, unl, lock, unlock, rngD, forL, Itm.ok, stays, List.all_nil, fit0, fit1, fit2, fit3, fit4, fit5, fit6, fit7, fit8, fit9, fit10, fit11, fit12, fit13, fit14, fit15, fit16, hd2, hp, a1, a2])
  subst es
  dsimp only at ht
  rw [rngL_len, List.take_of_length_le (by rw [List.length_zip]; omega)] at ht
  unfold bl_sum
  rw [seq_nx i0, seq_nx i1]
  unfold suW
  rw [← ht]
  generalize quD ps k = qu at *
  generalize ns.map D.str = NS at *
  by_cases hs : said = sE
  · have hd2 : eqD (.str said) (.str sE) = some true := by show some (decide (said = sE)) = _; rw [decide_eq_true hs]
    rw [if_pos hs]
    simp [evSs, evS, evX, evXs, evEs, evA, evAg, evT, evTB, evB, evG, evGs, evI, Tgs.len, varD, R.bind, biD, bi1, bi2_gcd, lif, toVal, setName_def, isRo_no, isRo_val, isRo_own, cmpD, truD, negD, binD, intOp, retD, ofBody, callD, call_CN, callkD, slots, Ar.slot, lend, ofCall, subD, seq, lis, G.atI, isTys, isTy, D.pure, D.deep, List.set, setD, putL, cell, methD, mtD, strI, ofSeq, plcC, plcV, unl, lock, unlock, rngD, forL, Itm.ok, stays, List.all_nil, fit0, fit1, fit2, fit3, fit4, fit5, fit6, fit7, fit8, fit9, fit10, fit11, fit12, fit13, fit14, fit15, fit16, hd2]
  · have hd2 : eqD (.str said) (.str sE) = some false := by show some (decide (said = sE)) = _; rw [decide_eq_false hs]
    rw [if_neg hs]
    simp [evSs, evS, evX, evXs, evEs, evA, evAg, evT, evTB, evB, evG, evGs, evI, Tgs.len, varD, R.bind, biD, bi1, bi2_gcd, lif, toVal, setName_def, isRo_no, isRo_val, isRo_own, cmpD, truD, negD, binD, intOp, retD, ofBody, callD, call_CN, callkD, slots, Ar.slot, lend, ofCall, subD, seq, lis, G.atI, isTys, isTy, D.pure, D.deep, List.set, setD, putL, cell, methD, mtD, strI, ofSeq, plcC, plcV, unl, lock, unlock, rngD, forL, Itm.ok, stays, List.all_nil, fit0, fit1, fit2, fit3, fit4, fit5, fit6, fit7, fit8, fit9, fit10, fit11, fit12, fit13, fit14, fit15, fit16, hd2]
theorem c_words (n : Nat) (a b c : Slot) (M : List Cell) : RN (n+1) (Str.ofString "_law_words") [a, b, c] M = ofBody (evSs (CN n) bl_words ⟨[a, b, c, .no], M⟩) := rfl
theorem s_words (n : Nat) (M : List Cell) (rs : List (Str × Int)) (ps : List Int) (k : Int) (y : Bool) (h : RsOk rs) (q : QuOk rs ps k) :
    RN (n+2) (Str.ofString "_law_words") [.ro ((nms rs).map D.str), .val (quD ps k), .val (.int (yI y))] M = .ok (.val (.str (qw ((nms rs).zip ps) k y))) M := by
  rw [c_words]
  obtain ⟨C, hC, hg⟩ := opq (n+1)
  rw [← hC]
  have e2 := hg (s_lsum n M (nms rs) ps k (by unfold nms; rw [List.length_map]; exact q.1.symm) (by have := h.1; have := q.1; omega) (np_all h q))
  have l1 := su_len (np_all h q) (by rw [List.length_zip]; have := h.1; have := q.1; omega)
  have e3 := ts_str k (by have := q.2.2; omega)
  have l3 := ts_len k (by have := q.2.2; omega)
  have l2 : (if y then sL' else sW').length ≤ 20 := by cases y <;> decide
  have a1 := sadd (x := suW ((nms rs).zip ps)) (y := if y then sL' else sW') (by omega)
  have a2 := sadd (x := suW ((nms rs).zip ps) ++ (if y then sL' else sW')) (y := ts k) (by rw [sl_app]; omega)
  have i0 : evS C l_words_0 ⟨[.ro ((nms rs).map D.str), .val (quD ps k), .val (.int (yI y)), .no], M⟩ = .ok .nx ⟨[.ro ((nms rs).map D.str), .val (quD ps k), .val (.int (yI y)), .val (.str (if y then sL' else sW'))], M⟩ := by
    generalize quD ps k = qu at *
    cases y <;> simp [evSs, evS, evX, evXs, evEs, evA, evAg, evT, evTB, evB, evG, evGs, evI, Tgs.len, varD, R.bind, biD, bi1, bi2_gcd, lif, toVal, setName_def, isRo_no, isRo_val, isRo_own, cmpD, truD, negD, binD, intOp, retD, ofBody, callD, call_CN, callkD, slots, Ar.slot, lend, ofCall, subD, seq, lis, G.atI, isTys, isTy, eqD, D.eqv, pure60, D.pure, D.deep, List.set, setD, putL, cell, methD, mtD, strI, ofSeq, plcC, plcV, unl, lock, unlock, rngD, forL, Itm.ok, stays, List.all_nil, fit0, fit1, fit2, fit3, fit4, fit5, fit6, fit7, fit8, fit9, fit10, fit11, fit12, fit13, fit14, fit15, fit16, yI]
  have q0 : quD ps k = .tup [inD' ps, .int k] := rfl
  unfold bl_words
  rw [seq_nx i0]
  unfold qw
  generalize suW ((nms rs).zip ps) = z1 at *
  generalize (if y then sL' else sW') = z2 at *
  generalize ts k = z3 at *
  generalize (nms rs).map D.str = NS at *
  rw [q0] at e2 ⊢
  generalize inD' ps = ip at *
  simp [evSs, evS, evX, evXs, evEs, evA, evAg, evT, evTB, evB, evG, evGs, evI, Tgs.len, varD, R.bind, biD, bi1, bi2_gcd, lif, toVal, setName_def, isRo_no, isRo_val, isRo_own, cmpD, truD, negD, binD, intOp, retD, ofBody, callD, call_CN, callkD, slots, Ar.slot, lend, ofCall, subD, seq, lis, G.atI, isTys, isTy, eqD, D.eqv, pure60, D.pure, D.deep, List.set, setD, putL, cell, methD, mtD, ofSeq, plcC, plcV, unl, lock, unlock, rngD, forL, Itm.ok, stays, List.all_nil, fit0, fit1, fit2, fit3, fit4, fit5, fit6, fit7, fit8, fit9, fit10, fit11, fit12, fit13, fit14, fit15, fit16, a20, a21, a30, a31, a32, a40, a41, a42, a43, a50, a51, a52, a53, a54, a60, a61, a62, a63, a64, a65, e2, e3, a1, a2]
/-! ### alike -/
theorem c_same (n : Nat) (a b : Slot) (M : List Cell) : RN (n+1) (Str.ofString "_law_same") [a, b] M = ofBody (evSs (CN n) bl_same ⟨[a, b, .no], M⟩) := rfl
theorem s_sameS (n : Nat) (M : List Cell) (x : Str) : RN (n+1) (Str.ofString "_law_same") [.val (.str x), .val (.str x)] M = .ok (.val (.bl true)) M := by
  rw [c_same]
  simp [bl_same, evSs, evS, evX, evXs, evEs, evA, evAg, evT, evTB, evB, evG, evGs, evI, Tgs.len, varD, R.bind, biD, bi1, bi2_gcd, lif, toVal, setName_def, isRo_no, isRo_val, isRo_own, cmpD, truD, negD, binD, intOp, retD, ofBody, callD, call_CN, callkD, slots, Ar.slot, lend, ofCall, subD, seq, lis, G.atI, isTys, isTy, eqD, D.eqv, pure60, D.pure, D.deep, List.set, setD, putL, cell, methD, mtD, strI, ofSeq, plcC, plcV, unl, lock, unlock, rngD, forL, Itm.ok, stays, List.all_nil, fit0, fit1, fit2, fit3, fit4, fit5, fit6, fit7, fit8, fit9, fit10, fit11, fit12, fit13, fit14, fit15, fit16]
theorem s_sameL (n : Nat) (M : List Cell) (xs : List Str) (hl : xs.length < 1000) : RN (n+1) (Str.ofString "_law_same") [.ro (xs.map D.str), .ro (xs.map D.str)] M = .ok (.val (.bl true)) M := by
  rw [c_same]
  obtain ⟨C, hC, hg⟩ := opq n
  rw [← hC]
  have hi : evI C (.rng (.cons (.bi .len (.cons (.var 1) .nil)) .nil)) ⟨[.ro (xs.map D.str), .ro (xs.map D.str), .no], M⟩ = .ok ⟨rngL 0 xs.length, [], []⟩ ⟨[.ro (xs.map D.str), .ro (xs.map D.str), .no], M⟩ := evI_rngZ (z := (xs.length : Int)) (by simp [evSs, evS, evX, evXs, evEs, evA, evAg, evT, evTB, evB, evG, evGs, evI, Tgs.len, varD, R.bind, biD, bi1, bi2_gcd, lif, toVal, setName_def, isRo_no, isRo_val, isRo_own, cmpD, truD, negD, binD, intOp, retD, ofBody, callD, call_CN, callkD, slots, Ar.slot, lend, ofCall, subD, seq, lis, G.atI, isTys, isTy, eqD, D.eqv, pure60, D.pure, D.deep, List.set, setD, putL, cell, methD, mtD, strI, ofSeq, plcC, plcV, unl, lock, unlock, rngD, forL, Itm.ok, stays, List.all_nil, fit0, fit1, fit2, fit3, fit4, fit5, fit6, fit7, fit8, fit9, fit10, fit11, fit12, fit13, fit14, fit15, fit16]) (len62 (by omega)) (Int.toNat_natCast _)
  obtain ⟨s', i1, y, hy, es⟩ := fors_inv (.fors (.name 2) (.rng (.cons (.bi .len (.cons (.var 1) .nil)) .nil)) l_same_0t1b) rfl hi rfl rfl (fun _ s => ∃ y, isRo y = false ∧ s = ⟨[.ro (xs.map D.str), .ro (xs.map D.str), y], M⟩) ⟨_, rfl, rfl⟩ (by
    rintro j x s hx ⟨y, hy, rfl⟩
    obtain ⟨rfl, hj⟩ := rngL_get hx
    obtain ⟨z, hz⟩ := get_lt hj
    have ea : L2.atI (xs.map D.str) (j : Int) = some (.str z) := atI_nat (map_get hz)
    refine ⟨⟨[.ro (xs.map D.str), .ro (xs.map D.str), .val (.int j)], M⟩, ?_, _, rfl, rfl⟩
    generalize xs.map D.str = XS at *
    simp [evSs, evS, evX, evXs, evEs, evA, evAg, evT, evTB, evB, evG, evGs, evI, Tgs.len, varD, R.bind, biD, bi1, bi2_gcd, lif, toVal, setName_def, isRo_no, isRo_val, isRo_own, cmpD, truD, negD, binD, intOp, retD, ofBody, callD, call_CN, callkD, slots, Ar.slot, lend, ofCall, subD, seq, lis, G.atI, isTys, isTy, eqD, D.eqv, pure60, D.pure, D.deep, List.set, setD, putL, cell, methD, mtD, strI, ofSeq, plcC, plcV, unl, lock, unlock, rngD, forL, Itm.ok, stays, List.all_nil, fit0, fit1, fit2, fit3, fit4, fit5, fit6, fit7, fit8, fit9, fit10, fit11, fit12, fit13, fit14, fit15, fit16, hy, ea])
  subst es
  have key : evSs C bl_same ⟨[.ro (xs.map D.str), .ro (xs.map D.str), .no], M⟩ = .ok (.rt (.val (.bl true))) ⟨[.ro (xs.map D.str), .ro (xs.map D.str), y], M⟩ := by
    unfold bl_same
    refine seq_rt (ite_t (s1 := ⟨[.ro (xs.map D.str), .ro (xs.map D.str), .no], M⟩) (by simp [evSs, evS, evX, evXs, evEs, evA, evAg, evT, evTB, evB, evG, evGs, evI, Tgs.len, varD, R.bind, biD, bi1, bi2_gcd, lif, toVal, setName_def, isRo_no, isRo_val, isRo_own, cmpD, truD, negD, binD, intOp, retD, ofBody, callD, call_CN, callkD, slots, Ar.slot, lend, ofCall, subD, seq, lis, G.atI, isTys, isTy, eqD, D.eqv, pure60, D.pure, D.deep, List.set, setD, putL, cell, methD, mtD, strI, ofSeq, plcC, plcV, unl, lock, unlock, rngD, forL, Itm.ok, stays, List.all_nil, fit0, fit1, fit2, fit3, fit4, fit5, fit6, fit7, fit8, fit9, fit10, fit11, fit12, fit13, fit14, fit15, fit16]) (sq (s1 := ⟨[.ro (xs.map D.str), .ro (xs.map D.str), .no], M⟩) (by simp [evSs, evS, evX, evXs, evEs, evA, evAg, evT, evTB, evB, evG, evGs, evI, Tgs.len, varD, R.bind, biD, bi1, bi2_gcd, lif, toVal, setName_def, isRo_no, isRo_val, isRo_own, cmpD, truD, negD, binD, intOp, retD, ofBody, callD, call_CN, callkD, slots, Ar.slot, lend, ofCall, subD, seq, lis, G.atI, isTys, isTy, eqD, D.eqv, pure60, D.pure, D.deep, List.set, setD, putL, cell, methD, mtD, strI, ofSeq, plcC, plcV, unl, lock, unlock, rngD, forL, Itm.ok, stays, List.all_nil, fit0, fit1, fit2, fit3, fit4, fit5, fit6, fit7, fit8, fit9, fit10, fit11, fit12, fit13, fit14, fit15, fit16]) (sq i1 ?_)))
    simp [evSs, evS, evX, evXs, evEs, evA, evAg, evT, evTB, evB, evG, evGs, evI, Tgs.len, varD, R.bind, biD, bi1, bi2_gcd, lif, toVal, setName_def, isRo_no, isRo_val, isRo_own, cmpD, truD, negD, binD, intOp, retD, ofBody, callD, call_CN, callkD, slots, Ar.slot, lend, ofCall, subD, seq, lis, G.atI, isTys, isTy, eqD, D.eqv, pure60, D.pure, D.deep, List.set, setD, putL, cell, methD, mtD, strI, ofSeq, plcC, plcV, unl, lock, unlock, rngD, forL, Itm.ok, stays, List.all_nil, fit0, fit1, fit2, fit3, fit4, fit5, fit6, fit7, fit8, fit9, fit10, fit11, fit12, fit13, fit14, fit15, fit16]
  rw [key]
  rfl
end G

/-! ## W4 -/
set_option Elab.async false
set_option linter.all false
set_option maxRecDepth 100000
set_option maxHeartbeats 8000000
namespace G
open PySem
/-! ### along a way -/
def Qw (rs : List (Str × Int)) : Pg → Prop
  | .tell w => w.length ≤ 20
  | .ask ps k y o => QuOk rs ps k ∧ Qw rs y ∧ Qw rs o
def Vw : Pg → List Int → Prop
  | _, [] => True
  | .tell _, _ :: _ => False
  | .ask _ _ y o, s :: w => (s = 1 ∨ s = 0) ∧ Vw (if s = 1 then y else o) w
def al (ns : List Str) : Pg → List Int → List Str
  | _, [] => []
  | .tell _, _ :: _ => []
  | .ask ps k y o, s :: w => qw (ns.zip ps) k (decide (s = 1)) :: al ns (if s = 1 then y else o) w
def fol : Pg → List Int → Pg
  | p, [] => p
  | .tell a, _ :: _ => .tell a
  | .ask _ _ y o, s :: w => fol (if s = 1 then y else o) w
theorem al_nil (ns : List Str) (p : Pg) : al ns p [] = [] := by cases p <;> rfl
theorem fol_nil (p : Pg) : fol p [] = p := by cases p <;> rfl
theorem al_len {ns : List Str} : ∀ {p : Pg} {w : List Int}, Vw p w → (al ns p w).length = w.length
  | p, [], _ => by rw [al_nil]; rfl
  | .tell _, _ :: _, h => h.elim
  | .ask ps k y o, s :: w, h => by
    show (al ns (if s = 1 then y else o) w).length + 1 = w.length + 1
    rw [al_len h.2]
theorem al_str {rs : List (Str × Int)} (hr : RsOk rs) : ∀ {p : Pg} {w : List Int}, Qw rs p → ∀ z ∈ al (nms rs) p w, z.length ≤ 1000
  | p, [], _, z, hz => by rw [al_nil] at hz; cases hz
  | .tell _, _ :: _, _, z, hz => by cases hz
  | .ask ps k y o, s :: w, q, z, hz => by
    have hz : z ∈ qw ((nms rs).zip ps) k (decide (s = 1)) :: al (nms rs) (if s = 1 then y else o) w := hz
    rcases List.mem_cons.mp hz with rfl | hz
    · have := qw_len hr q.1 (decide (s = 1)); omega
    · by_cases h1 : s = 1
      · rw [if_pos h1] at hz; exact al_str hr q.2.1 z hz
      · rw [if_neg h1] at hz; exact al_str hr q.2.2 z hz
theorem vw_snoc : ∀ {p : Pg} {w : List Int} {ps : List Int} {k : Int} {y o : Pg} (s : Int), Vw p w → fol p w = .ask ps k y o → (s = 1 ∨ s = 0) → Vw p (w ++ [s]) ∧ fol p (w ++ [s]) = (if s = 1 then y else o)
  | p, [], ps, k, y, o, s, _, hf, hs => by
    rw [fol_nil] at hf
    subst hf
    exact ⟨⟨hs, by split <;> (cases y <;> cases o <;> trivial)⟩, fol_nil _⟩
  | .tell _, _ :: _, _, _, _, _, _, h, _, _ => h.elim
  | .ask ps' k' y' o', t :: w, ps, k, y, o, s, h, hf, hs => by
    have hf : fol (if t = 1 then y' else o') w = .ask ps k y o := hf
    obtain ⟨h1, h2⟩ := vw_snoc s h.2 hf hs
    exact ⟨⟨h.1, h1⟩, h2⟩
theorem qw_fol {rs : List (Str × Int)} : ∀ {p : Pg} {w : List Int}, Qw rs p → Qw rs (fol p w)
  | p, [], h => by rw [fol_nil]; exact h
  | .tell _, _ :: _, h => h
  | .ask ps k y o, s :: w, h => by
    show Qw rs (fol (if s = 1 then y else o) w)
    by_cases h1 : s = 1
    · rw [if_pos h1]; exact qw_fol h.2.1
    · rw [if_neg h1]; exact qw_fol h.2.2
theorem way_len : ∀ {p : Pg} {w : List Int}, Vw p w → w.length ≤ dep p
  | p, [], _ => Nat.zero_le _
  | .tell _, _ :: _, h => h.elim
  | .ask ps k y o, s :: w, h => by
    have h2 := way_len h.2
    rw [dep, List.length_cons]
    have l := Nat.le_max_left (dep y) (dep o)
    have r := Nat.le_max_right (dep y) (dep o)
    by_cases h1 : s = 1
    · rw [if_pos h1] at h2; omega
    · rw [if_neg h1] at h2; omega
theorem pg_ask (ps : List Int) (k : Int) (y o : Pg) : pgD (.ask ps k y o) = .tup [.str sAsk, quD ps k, pgD y, pgD o] := rfl
theorem fors_run {c : Cn} {st : Stm} {t : Tg} {it : It} {b : Stms} {s s1 s2 : S} {xs : List D} (hst : st = .fors t it b) (hi : evI c it s = .ok ⟨xs, [], []⟩ s1) (h : forL (Itm.ok ⟨xs, [], []⟩) (fun x s2 => (evG c t x s2).bind fun _ s3 => evSs c b s3) xs s1 = .ok .nx s2) : evS c st s = .ok .nx s2 := by
  subst hst
  rw [evS, hi]
  exact (congrArg (unl []) h).trans rfl
/-! ### the program's words along a way -/
theorem c_way_words (n : Nat) (a b c : Slot) (M : List Cell) : RN (n+1) (Str.ofString "way_words") [a, b, c] M = ofBody (evSs (CN n) bf_way_words ⟨[a, b, c, .no, .no], M⟩) := rfl
theorem way_loop (n : Nat) (C : Cn) (hg : ∀ {f : Str} {vs : List Slot} {M : List Cell} {r : RF}, RN (n+3) f vs M = r → C.call f vs M = r) (M : List Cell) (kd : D) (rs : List (Str × Int)) (hr : RsOk rs) (W : D) {ok : S → Bool} (hok : ∀ s, ok s = true) : ∀ (w : List Int) (p : Pg) (told : List Str) (x4 : Slot), isRo x4 = false → Qw rs p → Vw p w → told.length + w.length ≤ 1000 →
    ∃ x, isRo x = false ∧ forL ok (fun x s2 => (evG C (.name 4) x s2).bind fun _ s3 => evSs C f_way_words_1b s3) (w.map D.int) ⟨[.val (stD kd rs), .val (pgD p), .val W, .own (told.map D.str), x4], M⟩ = .ok .nx ⟨[.val (stD kd rs), .val (pgD (fol p w)), .val W, .own ((told ++ al (nms rs) p w).map D.str), x], M⟩
  | [], p, told, x4, h4, hq, hv, hl => ⟨x4, h4, by rw [al_nil, fol_nil, List.append_nil, List.map_nil, forL, hok]; rfl⟩
  | s :: w, .tell _, _, _, _, _, hv, _ => hv.elim
  | s :: w, .ask ps k y o, told, x4, h4, hq, hv, hl => by
    obtain ⟨hs, hv⟩ := hv
    rw [List.length_cons] at hl
    have hyI : .int s = D.int (yI (decide (s = 1))) := by
      rcases hs with rfl | rfl <;> rfl
    have e1 := hg (s_question_words n M kd rs ps k (decide (s = 1)) hr hq.1)
    have hq2 : Qw rs (if s = 1 then y else o) := by split; exact hq.2.1; exact hq.2.2
    obtain ⟨x, hx, ih⟩ := way_loop n C hg M kd rs hr W hok w (if s = 1 then y else o) (told ++ [qw ((nms rs).zip ps) k (decide (s = 1))]) (.val (.int s)) rfl hq2 hv (by rw [List.length_append, List.length_singleton]; omega)
    refine ⟨x, hx, ?_⟩
    have ht : told.length < sizeLine := lt_sizeLine (by omega)
    have hb : (evG C (.name 4) (.int s) ⟨[.val (stD kd rs), .val (pgD (.ask ps k y o)), .val W, .own (told.map D.str), x4], M⟩).bind (fun _ s3 => evSs C f_way_words_1b s3) = .ok .nx ⟨[.val (stD kd rs), .val (pgD (if s = 1 then y else o)), .val W, .own ((told ++ [qw ((nms rs).zip ps) k (decide (s = 1))]).map D.str), .val (.int s)], M⟩ := by
      have hap : (told ++ [qw ((nms rs).zip ps) k (decide (s = 1))]).map D.str = told.map D.str ++ [.str (qw ((nms rs).zip ps) k (decide (s = 1)))] := by rw [List.map_append]; rfl
      have hlt : (told.map D.str).length = told.length := List.length_map _
      rw [hap, pg_ask]
      rw [← hyI] at e1
      generalize qw ((nms rs).zip ps) k (decide (s = 1)) = z at *
      generalize told.map D.str = TD at *
      generalize stD kd rs = st at *
      generalize quD ps k = qu at *
      rcases hs with rfl | rfl
      · simp [evSs, evS, evX, evXs, evEs, evA, evAg, evT, evTB, evB, evG, evGs, evI, Tgs.len, varD, R.bind, biD, bi1, bi2_gcd, lif, toVal, setName_def, isRo_no, isRo_val, isRo_own, cmpD, truD, negD, binD, intOp, retD, ofBody, callD, call_CN, callkD, slots, Ar.slot, lend, ofCall, subD, seq, lis, G.atI, isTys, isTy, eqD, D.eqv, pure60, D.pure, D.deep, List.set, setD, putL, cell, methD, mtD, strI, ofSeq, plcC, plcV, unl, lock, unlock, rngD, forL, Itm.ok, stays, List.all_nil, fit0, fit1, fit2, fit3, fit4, fit5, fit6, fit7, fit8, fit9, fit10, fit11, fit12, fit13, fit14, fit15, fit16, a20, a21, a30, a31, a32, a40, a41, a42, a43, a50, a51, a52, a53, a54, a60, a61, a62, a63, a64, a65, h4, e1, hlt, ht]
      · simp [evSs, evS, evX, evXs, evEs, evA, evAg, evT, evTB, evB, evG, evGs, evI, Tgs.len, varD, R.bind, biD, bi1, bi2_gcd, lif, toVal, setName_def, isRo_no, isRo_val, isRo_own, cmpD, truD, negD, binD, intOp, retD, ofBody, callD, call_CN, callkD, slots, Ar.slot, lend, ofCall, subD, seq, lis, G.atI, isTys, isTy, eqD, D.eqv, pure60, D.pure, D.deep, List.set, setD, putL, cell, methD, mtD, strI, ofSeq, plcC, plcV, unl, lock, unlock, rngD, forL, Itm.ok, stays, List.all_nil, fit0, fit1, fit2, fit3, fit4, fit5, fit6, fit7, fit8, fit9, fit10, fit11, fit12, fit13, fit14, fit15, fit16, a20, a21, a30, a31, a32, a40, a41, a42, a43, a50, a51, a52, a53, a54, a60, a61, a62, a63, a64, a65, h4, e1, hlt, ht]
    rw [List.map_cons, forL, hok]
    show (if true = true then _ else _) = _
    rw [if_pos rfl, hb]
    show forL _ _ _ _ = _
    rw [ih]
    show _ = R.ok Fl.nx ⟨[.val (stD kd rs), .val (pgD (fol (if s = 1 then y else o) w)), .val W, .own ((told ++ qw ((nms rs).zip ps) k (decide (s = 1)) :: al (nms rs) (if s = 1 then y else o) w).map D.str), x], M⟩
    rw [List.append_assoc]
    rfl
theorem s_way_words (n : Nat) (M : List Cell) (kd : D) (rs : List (Str × Int)) (p : Pg) (w : List Int) (hr : RsOk rs) (hq : Qw rs p) (hv : Vw p w) (hw : w.length ≤ 900) :
    RN (n+4) (Str.ofString "way_words") [.val (stD kd rs), .val (pgD p), .val (wD w)] M = .ok (.own ((al (nms rs) p w).map D.str)) M := by
  rw [c_way_words]
  obtain ⟨C, hC, hg⟩ := opq (n+3)
  rw [← hC]
  have i0 : evS C f_way_words_0 ⟨[.val (stD kd rs), .val (pgD p), .val (wD w), .no, .no], M⟩ = .ok .nx ⟨[.val (stD kd rs), .val (pgD p), .val (wD w), .own [], .no], M⟩ := by
    generalize stD kd rs = st at *
    generalize pgD p = pd at *
    generalize wD w = ww at *
    simp [evSs, evS, evX, evXs, evEs, evA, evAg, evT, evTB, evB, evG, evGs, evI, Tgs.len, varD, R.bind, biD, bi1, bi2_gcd, lif, toVal, setName_def, isRo_no, isRo_val, isRo_own, cmpD, truD, negD, binD, intOp, retD, ofBody, callD, call_CN, callkD, slots, Ar.slot, lend, ofCall, subD, seq, lis, G.atI, isTys, isTy, eqD, D.eqv, pure60, D.pure, D.deep, List.set, setD, putL, cell, methD, mtD, strI, ofSeq, plcC, plcV, unl, lock, unlock, rngD, forL, Itm.ok, stays, List.all_nil, fit0, fit1, fit2, fit3, fit4, fit5, fit6, fit7, fit8, fit9, fit10, fit11, fit12, fit13, fit14, fit15, fit16]
  have hi : evI C (.q (.var 2)) ⟨[.val (stD kd rs), .val (pgD p), .val (wD w), .own [], .no], M⟩ = .ok ⟨w.map D.int, [], []⟩ ⟨[.val (stD kd rs), .val (pgD p), .val (wD w), .own [], .no], M⟩ := by
    generalize stD kd rs = st at *
    generalize pgD p = pd at *
    simp [evSs, evS, evX, evXs, evEs, evA, evAg, evT, evTB, evB, evG, evGs, evI, Tgs.len, varD, R.bind, biD, bi1, bi2_gcd, lif, toVal, setName_def, isRo_no, isRo_val, isRo_own, cmpD, truD, negD, binD, intOp, retD, ofBody, callD, call_CN, callkD, slots, Ar.slot, lend, ofCall, subD, seq, lis, G.atI, isTys, isTy, eqD, D.eqv, pure60, D.pure, D.deep, List.set, setD, putL, cell, methD, mtD, strI, ofSeq, plcC, plcV, unl, lock, unlock, rngD, forL, Itm.ok, stays, List.all_nil, fit0, fit1, fit2, fit3, fit4, fit5, fit6, fit7, fit8, fit9, fit10, fit11, fit12, fit13, fit14, fit15, fit16, wD]
  obtain ⟨x, hx, e⟩ := way_loop n C hg M kd rs hr (wD w) (ok := Itm.ok ⟨w.map D.int, [], []⟩) (fun _ => rfl) w p [] .no rfl hq hv (by simp; omega)
  have i1 := fors_run (st := f_way_words_1) rfl hi e
  rw [List.nil_append] at i1
  unfold bf_way_words
  rw [seq_nx i0, seq_nx i1]
  generalize (al (nms rs) p w).map D.str = A at *
  generalize stD kd rs = st at *
  generalize pgD (fol p w) = pd at *
  generalize wD w = ww at *
  simp [evSs, evS, evX, evXs, evEs, evA, evAg, evT, evTB, evB, evG, evGs, evI, Tgs.len, varD, R.bind, biD, bi1, bi2_gcd, lif, toVal, setName_def, isRo_no, isRo_val, isRo_own, cmpD, truD, negD, binD, intOp, retD, ofBody, callD, call_CN, callkD, slots, Ar.slot, lend, ofCall, subD, seq, lis, G.atI, isTys, isTy, eqD, D.eqv, pure60, D.pure, D.deep, List.set, setD, putL, cell, methD, mtD, strI, ofSeq, plcC, plcV, unl, lock, unlock, rngD, forL, Itm.ok, stays, List.all_nil, fit0, fit1, fit2, fit3, fit4, fit5, fit6, fit7, fit8, fit9, fit10, fit11, fit12, fit13, fit14, fit15, fit16]
/-! ### the law's words along a way -/
theorem c_along (n : Nat) (a b c : Slot) (M : List Cell) : RN (n+1) (Str.ofString "_law_along") [a, b, c] M = ofBody (evSs (CN n) bl_along ⟨[a, b, c, .no, .no], M⟩) := rfl
theorem along_loop (n : Nat) (C : Cn) (hg : ∀ {f : Str} {vs : List Slot} {M : List Cell} {r : RF}, RN (n+2) f vs M = r → C.call f vs M = r) (M : List Cell) (rs : List (Str × Int)) (hr : RsOk rs) (W : D) {ok : S → Bool} (hok : ∀ s, ok s = true) : ∀ (w : List Int) (p : Pg) (told : List Str) (x4 : Slot), isRo x4 = false → Qw rs p → Vw p w → told.length + w.length ≤ 1000 →
    ∃ x, isRo x = false ∧ forL ok (fun x s2 => (evG C (.name 4) x s2).bind fun _ s3 => evSs C l_along_1b s3) (w.map D.int) ⟨[.ro ((nms rs).map D.str), .val (pgD p), .val W, .own (told.map D.str), x4], M⟩ = .ok .nx ⟨[.ro ((nms rs).map D.str), .val (pgD (fol p w)), .val W, .own ((told ++ al (nms rs) p w).map D.str), x], M⟩
  | [], p, told, x4, h4, hq, hv, hl => ⟨x4, h4, by rw [al_nil, fol_nil, List.append_nil, List.map_nil, forL, hok]; rfl⟩
  | s :: w, .tell _, _, _, _, _, hv, _ => hv.elim
  | s :: w, .ask ps k y o, told, x4, h4, hq, hv, hl => by
    obtain ⟨hs, hv⟩ := hv
    rw [List.length_cons] at hl
    have hyI : .int s = D.int (yI (decide (s = 1))) := by
      rcases hs with rfl | rfl <;> rfl
    have e1 := hg (s_words n M rs ps k (decide (s = 1)) hr hq.1)
    have hq2 : Qw rs (if s = 1 then y else o) := by split; exact hq.2.1; exact hq.2.2
    obtain ⟨x, hx, ih⟩ := along_loop n C hg M rs hr W hok w (if s = 1 then y else o) (told ++ [qw ((nms rs).zip ps) k (decide (s = 1))]) (.val (.int s)) rfl hq2 hv (by rw [List.length_append, List.length_singleton]; omega)
    refine ⟨x, hx, ?_⟩
    have ht : told.length < sizeLine := lt_sizeLine (by omega)
    have hb : (evG C (.name 4) (.int s) ⟨[.ro ((nms rs).map D.str), .val (pgD (.ask ps k y o)), .val W, .own (told.map D.str), x4], M⟩).bind (fun _ s3 => evSs C l_along_1b s3) = .ok .nx ⟨[.ro ((nms rs).map D.str), .val (pgD (if s = 1 then y else o)), .val W, .own ((told ++ [qw ((nms rs).zip ps) k (decide (s = 1))]).map D.str), .val (.int s)], M⟩ := by
      have hap : (told ++ [qw ((nms rs).zip ps) k (decide (s = 1))]).map D.str = told.map D.str ++ [.str (qw ((nms rs).zip ps) k (decide (s = 1)))] := by rw [List.map_append]; rfl
      have hlt : (told.map D.str).length = told.length := List.length_map _
      rw [hap, pg_ask]
      rw [← hyI] at e1
      generalize qw ((nms rs).zip ps) k (decide (s = 1)) = z at *
      generalize told.map D.str = TD at *
      generalize (nms rs).map D.str = NS at *
      generalize quD ps k = qu at *
      rcases hs with rfl | rfl
      · simp [evSs, evS, evX, evXs, evEs, evA, evAg, evT, evTB, evB, evG, evGs, evI, Tgs.len, varD, R.bind, biD, bi1, bi2_gcd, lif, toVal, setName_def, isRo_no, isRo_val, isRo_own, cmpD, truD, negD, binD, intOp, retD, ofBody, callD, call_CN, callkD, slots, Ar.slot, lend, ofCall, subD, seq, lis, G.atI, isTys, isTy, eqD, D.eqv, pure60, D.pure, D.deep, List.set, setD, putL, cell, methD, mtD, strI, ofSeq, plcC, plcV, unl, lock, unlock, rngD, forL, Itm.ok, stays, List.all_nil, fit0, fit1, fit2, fit3, fit4, fit5, fit6, fit7, fit8, fit9, fit10, fit11, fit12, fit13, fit14, fit15, fit16, a20, a21, a30, a31, a32, a40, a41, a42, a43, a50, a51, a52, a53, a54, a60, a61, a62, a63, a64, a65, h4, e1, hlt, ht]
      · simp [evSs, evS, evX, evXs, evEs, evA, evAg, evT, evTB, evB, evG, evGs, evI, Tgs.len, varD, R.bind, biD, bi1, bi2_gcd, lif, toVal, setName_def, isRo_no, isRo_val, isRo_own, cmpD, truD, negD, binD, intOp, retD, ofBody, callD, call_CN, callkD, slots, Ar.slot, lend, ofCall, subD, seq, lis, G.atI, isTys, isTy, eqD, D.eqv, pure60, D.pure, D.deep, List.set, setD, putL, cell, methD, mtD, strI, ofSeq, plcC, plcV, unl, lock, unlock, rngD, forL, Itm.ok, stays, List.all_nil, fit0, fit1, fit2, fit3, fit4, fit5, fit6, fit7, fit8, fit9, fit10, fit11, fit12, fit13, fit14, fit15, fit16, a20, a21, a30, a31, a32, a40, a41, a42, a43, a50, a51, a52, a53, a54, a60, a61, a62, a63, a64, a65, h4, e1, hlt, ht]
    rw [List.map_cons, forL, hok]
    show (if true = true then _ else _) = _
    rw [if_pos rfl, hb]
    show forL _ _ _ _ = _
    rw [ih]
    show _ = R.ok Fl.nx ⟨[.ro ((nms rs).map D.str), .val (pgD (fol (if s = 1 then y else o) w)), .val W, .own ((told ++ qw ((nms rs).zip ps) k (decide (s = 1)) :: al (nms rs) (if s = 1 then y else o) w).map D.str), x], M⟩
    rw [List.append_assoc]
    rfl
theorem s_along (n : Nat) (M : List Cell) (rs : List (Str × Int)) (p : Pg) (w : List Int) (hr : RsOk rs) (hq : Qw rs p) (hv : Vw p w) (hw : w.length ≤ 900) :
    RN (n+3) (Str.ofString "_law_along") [.ro ((nms rs).map D.str), .val (pgD p), .val (wD w)] M = .ok (.own ((al (nms rs) p w).map D.str)) M := by
  rw [c_along]
  obtain ⟨C, hC, hg⟩ := opq (n+2)
  rw [← hC]
  have i0 : evS C l_along_0 ⟨[.ro ((nms rs).map D.str), .val (pgD p), .val (wD w), .no, .no], M⟩ = .ok .nx ⟨[.ro ((nms rs).map D.str), .val (pgD p), .val (wD w), .own [], .no], M⟩ := by
    generalize pgD p = pd at *
    generalize wD w = ww at *
    simp [evSs, evS, evX, evXs, evEs, evA, evAg, evT, evTB, evB, evG, evGs, evI, Tgs.len, varD, R.bind, biD, bi1, bi2_gcd, lif, toVal, setName_def, isRo_no, isRo_val, isRo_own, cmpD, truD, negD, binD, intOp, retD, ofBody, callD, call_CN, callkD, slots, Ar.slot, lend, ofCall, subD, seq, lis, G.atI, isTys, isTy, eqD, D.eqv, pure60, D.pure, D.deep, List.set, setD, putL, cell, methD, mtD, strI, ofSeq, plcC, plcV, unl, lock, unlock, rngD, forL, Itm.ok, stays, List.all_nil, fit0, fit1, fit2, fit3, fit4, fit5, fit6, fit7, fit8, fit9, fit10, fit11, fit12, fit13, fit14, fit15, fit16]
  have hi : evI C (.q (.var 2)) ⟨[.ro ((nms rs).map D.str), .val (pgD p), .val (wD w), .own [], .no], M⟩ = .ok ⟨w.map D.int, [], []⟩ ⟨[.ro ((nms rs).map D.str), .val (pgD p), .val (wD w), .own [], .no], M⟩ := by
    generalize pgD p = pd at *
    simp [evSs, evS, evX, evXs, evEs, evA, evAg, evT, evTB, evB, evG, evGs, evI, Tgs.len, varD, R.bind, biD, bi1, bi2_gcd, lif, toVal, setName_def, isRo_no, isRo_val, isRo_own, cmpD, truD, negD, binD, intOp, retD, ofBody, callD, call_CN, callkD, slots, Ar.slot, lend, ofCall, subD, seq, lis, G.atI, isTys, isTy, eqD, D.eqv, pure60, D.pure, D.deep, List.set, setD, putL, cell, methD, mtD, strI, ofSeq, plcC, plcV, unl, lock, unlock, rngD, forL, Itm.ok, stays, List.all_nil, fit0, fit1, fit2, fit3, fit4, fit5, fit6, fit7, fit8, fit9, fit10, fit11, fit12, fit13, fit14, fit15, fit16, wD]
  obtain ⟨x, hx, e⟩ := along_loop n C hg M rs hr (wD w) (ok := Itm.ok ⟨w.map D.int, [], []⟩) (fun _ => rfl) w p [] .no rfl hq hv (by simp; omega)
  have i1 := fors_run (st := l_along_1) rfl hi e
  rw [List.nil_append] at i1
  unfold bl_along
  rw [seq_nx i0, seq_nx i1]
  generalize (al (nms rs) p w).map D.str = A at *
  generalize (nms rs).map D.str = NS at *
  generalize pgD (fol p w) = pd at *
  generalize wD w = ww at *
  simp [evSs, evS, evX, evXs, evEs, evA, evAg, evT, evTB, evB, evG, evGs, evI, Tgs.len, varD, R.bind, biD, bi1, bi2_gcd, lif, toVal, setName_def, isRo_no, isRo_val, isRo_own, cmpD, truD, negD, binD, intOp, retD, ofBody, callD, call_CN, callkD, slots, Ar.slot, lend, ofCall, subD, seq, lis, G.atI, isTys, isTy, eqD, D.eqv, pure60, D.pure, D.deep, List.set, setD, putL, cell, methD, mtD, strI, ofSeq, plcC, plcV, unl, lock, unlock, rngD, forL, Itm.ok, stays, List.all_nil, fit0, fit1, fit2, fit3, fit4, fit5, fit6, fit7, fit8, fit9, fit10, fit11, fit12, fit13, fit14, fit15, fit16]
end G

/-! ## W5 -/
set_option Elab.async false
set_option linter.all false
set_option maxRecDepth 100000
set_option maxHeartbeats 8000000
namespace G
open PySem
/-! ### all parts, by a stack -/
def allF (w : List Int) : Pg → List Wp
  | .tell s => [(w, .tell s)]
  | .ask ps k y o => (w, Pg.ask ps k y o) :: (allF (w ++ [1]) y ++ allF (w ++ [0]) o)
def flatA : List Wp → List Wp
  | [] => []
  | (w, q) :: st => allF w q ++ flatA st
theorem allF_len : ∀ (w : List Int) (p : Pg), (allF w p).length = nodes p
  | _, .tell _ => rfl
  | w, .ask ps k y o => by
    rw [allF, nodes, List.length_cons, List.length_append, allF_len, allF_len]
theorem c_ways (n : Nat) (a : Slot) (M : List Cell) : RN (n+1) (Str.ofString "_law_ways") [a] M = ofBody (evSs (CN n) bl_ways ⟨[a, .no, .no, .no, .no, .no], M⟩) := rfl
theorem s_ways (n : Nat) (M : List Cell) (p : Pg) (hn : nodes p ≤ 80) (hd : dep p ≤ 1000) : RN (n+1) (Str.ofString "_law_ways") [.val (pgD p)] M = .ok (.own ((allF [] p).map fD)) M := by
  rw [c_ways]
  obtain ⟨C, hC, hg⟩ := opq n
  rw [← hC]
  have i0 : evS C l_ways_0 ⟨[.val (pgD p), .no, .no, .no, .no, .no], M⟩ = .ok .nx ⟨[.val (pgD p), .own [], .no, .no, .no, .no], M⟩ := by
    simp [evSs, evS, evX, evXs, evEs, evA, evAg, evT, evTB, evB, evG, evGs, evI, Tgs.len, varD, R.bind, biD, bi1, bi2_gcd, lif, toVal, setName_def, isRo_no, isRo_val, isRo_own, cmpD, truD, negD, binD, intOp, retD, ofBody, callD, call_CN, callkD, slots, Ar.slot, lend, ofCall, subD, seq, lis, G.atI, isTys, isTy, eqD, D.eqv, pure60, D.pure, D.deep, List.set, setD, putL, cell, methD, mtD, strI, ofSeq, plcC, plcV, unl, lock, unlock, rngD, forL, Itm.ok, stays, List.all_nil, fit0, fit1, fit2, fit3, fit4, fit5, fit6, fit7, fit8, fit9, fit10, fit11, fit12, fit13, fit14, fit15, fit16]
  have i1 : evS C l_ways_1 ⟨[.val (pgD p), .own [], .no, .no, .no, .no], M⟩ = .ok .nx ⟨[.val (pgD p), .own [], .own [fD ([], p)], .no, .no, .no], M⟩ := by
    simp [evSs, evS, evX, evXs, evEs, evA, evAg, evT, evTB, evB, evG, evGs, evI, Tgs.len, varD, R.bind, biD, bi1, bi2_gcd, lif, toVal, setName_def, isRo_no, isRo_val, isRo_own, cmpD, truD, negD, binD, intOp, retD, ofBody, callD, call_CN, callkD, slots, Ar.slot, lend, ofCall, subD, seq, lis, G.atI, isTys, isTy, eqD, D.eqv, pure60, D.pure, D.deep, List.set, setD, putL, cell, methD, mtD, strI, ofSeq, plcC, plcV, unl, lock, unlock, rngD, forL, Itm.ok, stays, List.all_nil, fit0, fit1, fit2, fit3, fit4, fit5, fit6, fit7, fit8, fit9, fit10, fit11, fit12, fit13, fit14, fit15, fit16, fD, wD]
  have h2 : in62 80 = true := by decide
  have hi : evI C (.rng (.cons (.cst (.int 80)) .nil)) ⟨[.val (pgD p), .own [], .own [fD ([], p)], .no, .no, .no], M⟩ = .ok ⟨rngL 0 80, [], []⟩ ⟨[.val (pgD p), .own [], .own [fD ([], p)], .no, .no, .no], M⟩ := evI_rngZ (z := 80) (by simp [evSs, evS, evX, evXs, evEs, evA, evAg, evT, evTB, evB, evG, evGs, evI, Tgs.len, varD, R.bind, biD, bi1, bi2_gcd, lif, toVal, setName_def, isRo_no, isRo_val, isRo_own, cmpD, truD, negD, binD, intOp, retD, ofBody, callD, call_CN, callkD, slots, Ar.slot, lend, ofCall, subD, seq, lis, G.atI, isTys, isTy, eqD, D.eqv, pure60, D.pure, D.deep, List.set, setD, putL, cell, methD, mtD, strI, ofSeq, plcC, plcV, unl, lock, unlock, rngD, forL, Itm.ok, stays, List.all_nil, fit0, fit1, fit2, fit3, fit4, fit5, fit6, fit7, fit8, fit9, fit10, fit11, fit12, fit13, fit14, fit15, fit16]) h2 rfl
  rcases fors_gen l_ways_2 rfl hi rfl rfl (fun j s => ∃ (acc st : List Wp) (x3 x4 x5 : Slot), isRo x3 = false ∧ isRo x4 = false ∧ isRo x5 = false ∧ s = ⟨[.val (pgD p), .own (acc.map fD), .own (st.reverse.map fD), x3, x4, x5], M⟩ ∧ acc ++ flatA st = allF [] p ∧ sizeS st + j = nodes p ∧ acc.length ≤ j ∧ ∀ e ∈ st, e.1.length + dep e.2 ≤ dep p)
    (fun s => ∃ (x2 x3 x4 x5 : Slot), s = ⟨[.val (pgD p), .own ((allF [] p).map fD), x2, x3, x4, x5], M⟩) (fun _ _ => False)
    ⟨[], [([], p)], _, _, _, rfl, rfl, rfl, rfl, by simp [flatA], by simp [sizeS], Nat.le_refl _, fun e he => by rw [List.mem_singleton.mp he]; simp⟩ (by
    rintro j x s hx ⟨acc, st, x3, x4, x5, n3, n4, n5, rfl, hE, hS, hA, hL⟩
    obtain ⟨rfl, hj⟩ := rngL_get hx
    have hsl := len_size st
    cases st with
    | nil =>
      refine .inr (.inl ⟨⟨[.val (pgD p), .own (acc.map fD), .own [], .val (.int j), x4, x5], M⟩, ?_, ?_⟩)
      · simp [evSs, evS, evX, evXs, evEs, evA, evAg, evT, evTB, evB, evG, evGs, evI, Tgs.len, varD, R.bind, biD, bi1, bi2_gcd, lif, toVal, setName_def, isRo_no, isRo_val, isRo_own, cmpD, truD, negD, binD, intOp, retD, ofBody, callD, call_CN, callkD, slots, Ar.slot, lend, ofCall, subD, seq, lis, G.atI, isTys, isTy, eqD, D.eqv, pure60, D.pure, D.deep, List.set, setD, putL, cell, methD, mtD, strI, ofSeq, plcC, plcV, unl, lock, unlock, rngD, forL, Itm.ok, stays, List.all_nil, fit0, fit1, fit2, fit3, fit4, fit5, fit6, fit7, fit8, fit9, fit10, fit11, fit12, fit13, fit14, fit15, fit16, n3]
      · rw [flatA, List.append_nil] at hE
        rw [hE]; exact ⟨_, _, _, _, rfl⟩
    | cons e st =>
      obtain ⟨w, q⟩ := e
      have hrev : ((w, q) :: st).reverse.map fD = st.reverse.map fD ++ [.tup [wD w, pgD q]] := by rw [List.reverse_cons, List.map_append]; rfl
      have hne : (((((w, q) :: st).reverse.map fD).length : Int) == 0) = false := by
        rw [beq_eq_false_iff_ne, List.length_map, List.length_reverse, List.length_cons]; omega
      have hsl2 : (st.reverse.map fD).length < 100000 := by
        rw [List.length_map, List.length_reverse]
        have := len_size st
        rw [sizeS] at hS
        omega
      have hac : (acc.map fD).length < sizeLine := lt_sizeLine (by rw [List.length_map]; omega)
      have hb : (evG C (.name 3) (.int (j : Int)) ⟨[.val (pgD p), .own (acc.map fD), .own (((w, q) :: st).reverse.map fD), x3, x4, x5], M⟩).bind (fun _ s2 => evSs C l_ways_2b s2) = evSs C (.cons l_ways_2b_3 .nil) ⟨[.val (pgD p), .own ((acc ++ [(w, q)]).map fD), .own (st.reverse.map fD), .val (.int j), .val (wD w), .val (pgD q)], M⟩ := by
        have g : evG C (.name 3) (.int (j : Int)) ⟨[.val (pgD p), .own (acc.map fD), .own (((w, q) :: st).reverse.map fD), x3, x4, x5], M⟩ = .ok () ⟨[.val (pgD p), .own (acc.map fD), .own (((w, q) :: st).reverse.map fD), .val (.int j), x4, x5], M⟩ := by
          simp [evSs, evS, evX, evXs, evEs, evA, evAg, evT, evTB, evB, evG, evGs, evI, Tgs.len, varD, R.bind, biD, bi1, bi2_gcd, lif, toVal, setName_def, isRo_no, isRo_val, isRo_own, cmpD, truD, negD, binD, intOp, retD, ofBody, callD, call_CN, callkD, slots, Ar.slot, lend, ofCall, subD, seq, lis, G.atI, isTys, isTy, eqD, D.eqv, pure60, D.pure, D.deep, List.set, setD, putL, cell, methD, mtD, strI, ofSeq, plcC, plcV, unl, lock, unlock, rngD, forL, Itm.ok, stays, List.all_nil, fit0, fit1, fit2, fit3, fit4, fit5, fit6, fit7, fit8, fit9, fit10, fit11, fit12, fit13, fit14, fit15, fit16, n3]
        rw [g]
        refine bind_ok ?_
        have j0 : evS C l_ways_2b_0 ⟨[.val (pgD p), .own (acc.map fD), .own (((w, q) :: st).reverse.map fD), .val (.int j), x4, x5], M⟩ = .ok .nx ⟨[.val (pgD p), .own (acc.map fD), .own (((w, q) :: st).reverse.map fD), .val (.int j), x4, x5], M⟩ := by
          generalize ((w, q) :: st).reverse.map fD = L at *
          generalize hll : (L.length : Int) = ll at *
          simp only [evSs, evS, evX, evXs, evEs, evA, evAg, evT, evTB, evB, evG, evGs, evI, Tgs.len, varD, R.bind, biD, bi1, bi2_gcd, lif, toVal, setName_def, isRo_no, isRo_val, isRo_own, cmpD, truD, negD, binD, intOp, retD, ofBody, callD, call_CN, callkD, slots, Ar.slot, lend, ofCall, subD, seq, lis, G.atI, isTys, isTy, eqD, D.eqv, pure60, D.pure, D.deep, List.set, setD, putL, cell, methD, mtD, strI, ofSeq, plcC, plcV, unl, lock, unlock, rngD, forL, Itm.ok, stays, List.all_nil, fit0, fit1, fit2, fit3, fit4, fit5, fit6, fit7, fit8, fit9, fit10, fit11, fit12, fit13, fit14, fit15, fit16, hll, hne]
          simp [evSs, evS, evX, evXs, evEs, evA, evAg, evT, evTB, evB, evG, evGs, evI, Tgs.len, varD, R.bind, biD, bi1, bi2_gcd, lif, toVal, setName_def, isRo_no, isRo_val, isRo_own, cmpD, truD, negD, binD, intOp, retD, ofBody, callD, call_CN, callkD, slots, Ar.slot, lend, ofCall, subD, seq, lis, G.atI, isTys, isTy, eqD, D.eqv, pure60, D.pure, D.deep, List.set, setD, putL, cell, methD, mtD, strI, ofSeq, plcC, plcV, unl, lock, unlock, rngD, forL, Itm.ok, stays, List.all_nil, fit0, fit1, fit2, fit3, fit4, fit5, fit6, fit7, fit8, fit9, fit10, fit11, fit12, fit13, fit14, fit15, fit16, hll, hne]
        have j1 : evS C l_ways_2b_1 ⟨[.val (pgD p), .own (acc.map fD), .own (((w, q) :: st).reverse.map fD), .val (.int j), x4, x5], M⟩ = .ok .nx ⟨[.val (pgD p), .own (acc.map fD), .own (st.reverse.map fD), .val (.int j), .val (wD w), .val (pgD q)], M⟩ := by
          rw [hrev]
          generalize st.reverse.map fD = L at *
          simp [evSs, evS, evX, evXs, evEs, evA, evAg, evT, evTB, evB, evG, evGs, evI, Tgs.len, varD, R.bind, biD, bi1, bi2_gcd, lif, toVal, setName_def, isRo_no, isRo_val, isRo_own, cmpD, truD, negD, binD, intOp, retD, ofBody, callD, call_CN, callkD, slots, Ar.slot, lend, ofCall, subD, seq, lis, G.atI, isTys, isTy, eqD, D.eqv, pure60, D.pure, D.deep, List.set, setD, putL, cell, methD, mtD, strI, ofSeq, plcC, plcV, unl, lock, unlock, rngD, forL, Itm.ok, stays, List.all_nil, fit0, fit1, fit2, fit3, fit4, fit5, fit6, fit7, fit8, fit9, fit10, fit11, fit12, fit13, fit14, fit15, fit16, n4, n5]
        have j2 : evS C l_ways_2b_2 ⟨[.val (pgD p), .own (acc.map fD), .own (st.reverse.map fD), .val (.int j), .val (wD w), .val (pgD q)], M⟩ = .ok .nx ⟨[.val (pgD p), .own ((acc ++ [(w, q)]).map fD), .own (st.reverse.map fD), .val (.int j), .val (wD w), .val (pgD q)], M⟩ := by
          have hap : (acc ++ [(w, q)]).map fD = acc.map fD ++ [.tup [wD w, pgD q]] := by rw [List.map_append]; rfl
          rw [hap]
          generalize st.reverse.map fD = L at *
          generalize acc.map fD = A at *
          generalize wD w = ww at *
          generalize pgD q = qq at *
          simp [evSs, evS, evX, evXs, evEs, evA, evAg, evT, evTB, evB, evG, evGs, evI, Tgs.len, varD, R.bind, biD, bi1, bi2_gcd, lif, toVal, setName_def, isRo_no, isRo_val, isRo_own, cmpD, truD, negD, binD, intOp, retD, ofBody, callD, call_CN, callkD, slots, Ar.slot, lend, ofCall, subD, seq, lis, G.atI, isTys, isTy, eqD, D.eqv, pure60, D.pure, D.deep, List.set, setD, putL, cell, methD, mtD, strI, ofSeq, plcC, plcV, unl, lock, unlock, rngD, forL, Itm.ok, stays, List.all_nil, fit0, fit1, fit2, fit3, fit4, fit5, fit6, fit7, fit8, fit9, fit10, fit11, fit12, fit13, fit14, fit15, fit16, hac]
        show evSs C (.cons l_ways_2b_0 (.cons l_ways_2b_1 (.cons l_ways_2b_2 (.cons l_ways_2b_3 .nil)))) _ = _
        rw [seq_nx j0, seq_nx j1, seq_nx j2]
      refine .inl ?_
      rw [hb]
      cases q with
      | tell a =>
        refine ⟨⟨[.val (pgD p), .own ((acc ++ [(w, Pg.tell a)]).map fD), .own (st.reverse.map fD), .val (.int j), .val (wD w), .val (pgD (.tell a))], M⟩, ?_, acc ++ [(w, Pg.tell a)], st, _, _, _, rfl, rfl, rfl, rfl, ?_, ?_, by rw [List.length_append, List.length_singleton]; omega, fun e he => hL e (List.mem_cons_of_mem _ he)⟩
        · generalize st.reverse.map fD = L at *
          generalize (acc ++ [(w, Pg.tell a)]).map fD = A at *
          generalize wD w = ww at *
          simp [evSs, evS, evX, evXs, evEs, evA, evAg, evT, evTB, evB, evG, evGs, evI, Tgs.len, varD, R.bind, biD, bi1, bi2_gcd, lif, toVal, setName_def, isRo_no, isRo_val, isRo_own, cmpD, truD, negD, binD, intOp, retD, ofBody, callD, call_CN, callkD, slots, Ar.slot, lend, ofCall, subD, seq, lis, G.atI, isTys, isTy, D.pure, D.deep, List.set, setD, putL, cell, methD, mtD, strI, ofSeq, plcC, plcV, unl, lock, unlock, rngD, forL, Itm.ok, stays, List.all_nil, fit0, fit1, fit2, fit3, fit4, fit5, fit6, fit7, fit8, fit9, fit10, fit11, fit12, fit13, fit14, fit15, fit16, pgD, t0, t1, eqS, tell_ask]
        · rw [← hE, flatA, allF, List.append_assoc]
        · rw [sizeS, nodes] at hS; omega
      | ask ps k y o =>
        have hw := hL (w, Pg.ask ps k y o) List.mem_cons_self
        have hw2 : w.length + dep (.ask ps k y o) ≤ dep p := hw
        rw [dep] at hw2
        have l := Nat.le_max_left (dep y) (dep o)
        have r := Nat.le_max_right (dep y) (dep o)
        refine ⟨⟨[.val (pgD p), .own ((acc ++ [(w, Pg.ask ps k y o)]).map fD), .own (((w ++ [1], y) :: (w ++ [0], o) :: st).reverse.map fD), .val (.int j), .val (wD w), .val (pgD (.ask ps k y o))], M⟩, ?_, acc ++ [(w, Pg.ask ps k y o)], (w ++ [1], y) :: (w ++ [0], o) :: st, _, _, _, rfl, rfl, rfl, rfl, ?_, ?_, by rw [List.length_append, List.length_singleton]; omega, fun e he => ?_⟩
        · have hap : ((w ++ [1], y) :: (w ++ [0], o) :: st).reverse.map fD = st.reverse.map fD ++ [.tup [.tup (w.map D.int ++ [.int 0]), pgD o]] ++ [.tup [.tup (w.map D.int ++ [.int 1]), pgD y]] := by
            rw [List.reverse_cons, List.reverse_cons, List.map_append, List.map_append, ← wD_snoc, ← wD_snoc]; rfl
          have hB : pgD (.ask ps k y o) = .tup [.str sAsk, quD ps k, pgD y, pgD o] := rfl
          have c0 : catOk (w.map D.int) [.int 0] = true := catOk_lt (by rw [List.length_map, List.length_singleton]; omega)
          have c1 : catOk (w.map D.int) [.int 1] = true := catOk_lt (by rw [List.length_map, List.length_singleton]; omega)
          have hs1 : (st.reverse.map fD).length < sizeLine := lt_sizeLine (by omega)
          have hs2 : (st.reverse.map fD).length + 1 < sizeLine := lt_sizeLine (by omega)
          generalize (acc ++ [(w, Pg.ask ps k y o)]).map fD = A at *
          rw [hap, hB]
          rw [show wD w = .tup (w.map D.int) from rfl]
          generalize w.map D.int = W at *
          generalize st.reverse.map fD = L at *
          simp [evSs, evS, evX, evXs, evEs, evA, evAg, evT, evTB, evB, evG, evGs, evI, Tgs.len, varD, R.bind, biD, bi1, bi2_gcd, lif, toVal, setName_def, isRo_no, isRo_val, isRo_own, cmpD, truD, negD, binD, intOp, retD, ofBody, callD, call_CN, callkD, slots, Ar.slot, lend, ofCall, subD, seq, lis, G.atI, isTys, isTy, D.pure, D.deep, List.set, setD, putL, cell, methD, mtD, strI, ofSeq, plcC, plcV, unl, lock, unlock, rngD, forL, Itm.ok, stays, List.all_nil, fit0, fit1, fit2, fit3, fit4, fit5, fit6, fit7, fit8, fit9, fit10, fit11, fit12, fit13, fit14, fit15, fit16, q0, q2, q3, eqS, ask_ask, c0, c1, hs1, hs2]
        · rw [← hE, flatA, flatA, flatA, allF]
          simp only [List.append_assoc, List.cons_append, List.nil_append]
        · rw [sizeS, nodes] at hS
          rw [sizeS, sizeS]; omega
        · rcases List.mem_cons.mp he with rfl | he
          · show (w ++ [1]).length + dep y ≤ _
            rw [List.length_append, List.length_singleton]; omega
          · rcases List.mem_cons.mp he with rfl | he
            · show (w ++ [0]).length + dep o ≤ _
              rw [List.length_append, List.length_singleton]; omega
            · exact hL e (List.mem_cons_of_mem _ he)) (by
    rintro s ⟨acc, st, x3, x4, x5, n3, n4, n5, rfl, hE, hS, hA, hL⟩
    dsimp only at hS
    rw [rngL_len] at hS
    have := len_size st
    have : st = [] := List.eq_nil_of_length_eq_zero (by omega)
    subst this
    rw [flatA, List.append_nil] at hE
    rw [hE]
    exact ⟨_, _, _, _, rfl⟩) with ⟨s', e, x2, x3, x4, x5, es⟩ | ⟨o, s', e, h⟩
  · subst es
    unfold bl_ways
    rw [seq_nx i0, seq_nx i1, seq_nx e]
    generalize (allF [] p).map fD = A
    simp [evSs, evS, evX, evXs, evEs, evA, evAg, evT, evTB, evB, evG, evGs, evI, Tgs.len, varD, R.bind, biD, bi1, bi2_gcd, lif, toVal, setName_def, isRo_no, isRo_val, isRo_own, cmpD, truD, negD, binD, intOp, retD, ofBody, callD, call_CN, callkD, slots, Ar.slot, lend, ofCall, subD, seq, lis, G.atI, isTys, isTy, eqD, D.eqv, pure60, D.pure, D.deep, List.set, setD, putL, cell, methD, mtD, strI, ofSeq, plcC, plcV, unl, lock, unlock, rngD, forL, Itm.ok, stays, List.all_nil, fit0, fit1, fit2, fit3, fit4, fit5, fit6, fit7, fit8, fit9, fit10, fit11, fit12, fit13, fit14, fit15, fit16]
  · exact h.elim
/-- where each part stands -/
theorem all_at {p : Pg} : ∀ {q : Pg} {w : List Int}, Vw p w → fol p w = q → ∀ e ∈ allF w q, Vw p e.1 ∧ fol p e.1 = e.2
  | .tell a, w, hv, hf, e, he => by rw [allF, List.mem_singleton] at he; subst he; exact ⟨hv, hf⟩
  | .ask ps k y o, w, hv, hf, e, he => by
    rw [allF] at he
    rcases List.mem_cons.mp he with rfl | he
    · exact ⟨hv, hf⟩
    · rcases List.mem_append.mp he with he | he
      · obtain ⟨h1, h2⟩ := vw_snoc 1 hv hf (.inl rfl)
        rw [if_pos rfl] at h2
        exact all_at h1 h2 e he
      · obtain ⟨h1, h2⟩ := vw_snoc 0 hv hf (.inr rfl)
        rw [if_neg (by decide)] at h2
        exact all_at h1 h2 e he
/-! ### the ends -/
def lvs : Pg → List We
  | .tell s => [([], s)]
  | .ask _ _ y o => (lvs y).map (fun e => (1 :: e.1, e.2)) ++ (lvs o).map (fun e => (0 :: e.1, e.2))
theorem lvs_ends : ∀ (p : Pg) (w : List Int), endsF w p = (lvs p).map fun e => (w ++ e.1, e.2)
  | .tell s, w => by rw [endsF, lvs, List.map_cons, List.map_nil, List.append_nil]
  | .ask ps k y o, w => by
    rw [endsF, lvs, lvs_ends y, lvs_ends o, List.map_append, List.map_map, List.map_map]
    congr 1
    · refine List.map_congr_left fun e _ => ?_
      show (w ++ [1] ++ e.1, e.2) = (w ++ 1 :: e.1, e.2)
      rw [List.append_assoc]; rfl
    · refine List.map_congr_left fun e _ => ?_
      show (w ++ [0] ++ e.1, e.2) = (w ++ 0 :: e.1, e.2)
      rw [List.append_assoc]; rfl
theorem lvs_len : ∀ p : Pg, (lvs p).length ≤ nodes p
  | .tell _ => Nat.le_refl _
  | .ask ps k y o => by
    rw [lvs, nodes, List.length_append, List.length_map, List.length_map]
    have := lvs_len y
    have := lvs_len o
    omega
theorem lvs_ways : ∀ (p : Pg), ∀ e ∈ lvs p, Vw p e.1 ∧ fol p e.1 = .tell e.2
  | .tell s, e, he => by rw [lvs, List.mem_singleton] at he; subst he; exact ⟨trivial, rfl⟩
  | .ask ps k y o, e, he => by
    rw [lvs] at he
    rcases List.mem_append.mp he with he | he
    · obtain ⟨e', h1, rfl⟩ := List.mem_map.mp he
      obtain ⟨h2, h3⟩ := lvs_ways y e' h1
      exact ⟨⟨.inl rfl, by rw [if_pos rfl]; exact h2⟩, by show fol (if (1 : Int) = 1 then y else o) e'.1 = _; rw [if_pos rfl]; exact h3⟩
    · obtain ⟨e', h1, rfl⟩ := List.mem_map.mp he
      obtain ⟨h2, h3⟩ := lvs_ways o e' h1
      exact ⟨⟨.inr rfl, by rw [if_neg (by decide)]; exact h2⟩, by show fol (if (0 : Int) = 1 then y else o) e'.1 = _; rw [if_neg (by decide)]; exact h3⟩
theorem c_leaves (n : Nat) (a : Slot) (M : List Cell) : RN (n+1) (Str.ofString "leaves_of") [a] M = ofBody (evSs (CN n) bf_leaves_of ⟨[a, .no, .no, .no], M⟩) := rfl
theorem s_leaves (M : List Cell) : ∀ (p : Pg) (n : Nat), dep p ≤ n → nodes p ≤ 1000 → dep p ≤ 1000 → RN (n+1) (Str.ofString "leaves_of") [.val (pgD p)] M = .ok (.val (.tup ((lvs p).map eD))) M
  | .tell a, n, hn, hs, hd => by
    rw [c_leaves]
    simp [bf_leaves_of, evSs, evS, evX, evXs, evEs, evA, evAg, evT, evTB, evB, evG, evGs, evI, Tgs.len, varD, R.bind, biD, bi1, bi2_gcd, lif, toVal, setName_def, isRo_no, isRo_val, isRo_own, cmpD, truD, negD, binD, intOp, retD, ofBody, callD, call_CN, callkD, slots, Ar.slot, lend, ofCall, subD, seq, lis, G.atI, isTys, isTy, D.pure, D.deep, List.set, setD, putL, cell, methD, mtD, strI, ofSeq, plcC, plcV, unl, lock, unlock, rngD, forL, Itm.ok, stays, List.all_nil, fit0, fit1, fit2, fit3, fit4, fit5, fit6, fit7, fit8, fit9, fit10, fit11, fit12, fit13, fit14, fit15, fit16, pgD, lvs, eD, wD, t0, t1, eqS, tell_tell]
  | .ask ps k y o, n, hn, hs, hd => by
    obtain ⟨n, rfl⟩ : ∃ k, n = k + 1 := ⟨n - 1, by rw [dep] at hn; omega⟩
    have l := Nat.le_max_left (dep y) (dep o)
    have r := Nat.le_max_right (dep y) (dep o)
    rw [dep] at hn hd
    rw [nodes] at hs
    have ly := lvs_len y
    have lo := lvs_len o
    rw [c_leaves]
    obtain ⟨C, hC, hg⟩ := opq (n+1)
    rw [← hC]
    have e1 := hg (s_leaves M y n (by omega) (by omega) (by omega))
    have e2 := hg (s_leaves M o n (by omega) (by omega) (by omega))
    have i0 : evS C f_leaves_of_0 ⟨[.val (pgD (.ask ps k y o)), .no, .no, .no], M⟩ = .ok .nx ⟨[.val (pgD (.ask ps k y o)), .no, .no, .no], M⟩ := by
      simp [evSs, evS, evX, evXs, evEs, evA, evAg, evT, evTB, evB, evG, evGs, evI, Tgs.len, varD, R.bind, biD, bi1, bi2_gcd, lif, toVal, setName_def, isRo_no, isRo_val, isRo_own, cmpD, truD, negD, binD, intOp, retD, ofBody, callD, call_CN, callkD, slots, Ar.slot, lend, ofCall, subD, seq, lis, G.atI, isTys, isTy, D.pure, D.deep, List.set, setD, putL, cell, methD, mtD, strI, ofSeq, plcC, plcV, unl, lock, unlock, rngD, forL, Itm.ok, stays, List.all_nil, fit0, fit1, fit2, fit3, fit4, fit5, fit6, fit7, fit8, fit9, fit10, fit11, fit12, fit13, fit14, fit15, fit16, pgD, q0, eqS, ask_tell]
    have hi1 : evI C (.q (.call (Str.ofString "leaves_of") (.cons (.v (.sub (.var 0) (.cst (.int 2)))) (.nil)))) ⟨[.val (pgD (.ask ps k y o)), .no, .no, .no], M⟩ = .ok ⟨(lvs y).map eD, [], []⟩ ⟨[.val (pgD (.ask ps k y o)), .no, .no, .no], M⟩ := by
      rw [pg_ask]
      generalize (lvs y).map eD = A at *
      generalize quD ps k = qu at *
      simp [evSs, evS, evX, evXs, evEs, evA, evAg, evT, evTB, evB, evG, evGs, evI, Tgs.len, varD, R.bind, biD, bi1, bi2_gcd, lif, toVal, setName_def, isRo_no, isRo_val, isRo_own, cmpD, truD, negD, binD, intOp, retD, ofBody, callD, call_CN, callkD, slots, Ar.slot, lend, ofCall, subD, seq, lis, G.atI, isTys, isTy, eqD, D.eqv, pure60, D.pure, D.deep, List.set, setD, putL, cell, methD, mtD, strI, ofSeq, plcC, plcV, unl, lock, unlock, rngD, forL, Itm.ok, stays, List.all_nil, fit0, fit1, fit2, fit3, fit4, fit5, fit6, fit7, fit8, fit9, fit10, fit11, fit12, fit13, fit14, fit15, fit16, q2, e1]
    have elt : ∀ (b : Int) (e : We), e.1.length ≤ 2000 → catOk [.int b] (e.1.map D.int) = true := fun b e h => catOk_lt (by rw [List.length_map, List.length_singleton]; omega)
    have wl : ∀ (q : Pg), dep q ≤ 1000 → ∀ e ∈ lvs q, e.1.length ≤ 2000 := fun q hq e he => by
      have := way_len (lvs_ways q e he).1; omega
    have ec1 := comp_map f_leaves_of_C0 rfl (((lvs y).map (fun e => (1 :: e.1, e.2))).map eD) hi1 rfl rfl rfl rfl (fits_lt (by dsimp only; rw [List.length_map]; omega)) (by simp) (by
      intro j x d hx hd
      obtain ⟨e, g1, rfl⟩ := get_map hx
      have hd2 : (((lvs y).map (fun e => (1 :: e.1, e.2))).map eD)[j]? = some (.tup [.tup (.int 1 :: e.1.map D.int), .str e.2]) := by rw [List.getElem?_map, List.getElem?_map, g1]; rfl
      rw [hd2] at hd
      cases hd
      have c1 := elt 1 e (wl y (by omega) e (List.mem_of_getElem? g1))
      refine ⟨[.val (pgD (.ask ps k y o)), .no, .val (wD e.1), .val (.str e.2)], ?_, rfl⟩
      unfold eD wD
      generalize e.1.map D.int = W at *
      generalize pgD (.ask ps k y o) = pp at *
      simp [turnC, evSs, evS, evX, evXs, evEs, evA, evAg, evT, evTB, evB, evG, evGs, evI, Tgs.len, varD, R.bind, biD, bi1, bi2_gcd, lif, toVal, setName_def, isRo_no, isRo_val, isRo_own, cmpD, truD, negD, binD, intOp, retD, ofBody, callD, call_CN, callkD, slots, Ar.slot, lend, ofCall, subD, seq, lis, G.atI, isTys, isTy, eqD, D.eqv, pure60, D.pure, D.deep, List.set, setD, putL, cell, methD, mtD, strI, ofSeq, plcC, plcV, unl, lock, unlock, rngD, forL, Itm.ok, stays, List.all_nil, fit0, fit1, fit2, fit3, fit4, fit5, fit6, fit7, fit8, fit9, fit10, fit11, fit12, fit13, fit14, fit15, fit16, c1])
    have i1 : evS C f_leaves_of_1 ⟨[.val (pgD (.ask ps k y o)), .no, .no, .no], M⟩ = .ok .nx ⟨[.val (pgD (.ask ps k y o)), .own (((lvs y).map (fun e => (1 :: e.1, e.2))).map eD), .no, .no], M⟩ := by
      show evS C (.own 1 f_leaves_of_C0) _ = _
      rw [evS, ec1]
      simp [R.bind, setName_def, isRo]
    have hi2 : evI C (.q (.call (Str.ofString "leaves_of") (.cons (.v (.sub (.var 0) (.cst (.int 3)))) (.nil)))) ⟨[.val (pgD (.ask ps k y o)), .own (((lvs y).map (fun e => (1 :: e.1, e.2))).map eD), .no, .no], M⟩ = .ok ⟨(lvs o).map eD, [], []⟩ ⟨[.val (pgD (.ask ps k y o)), .own (((lvs y).map (fun e => (1 :: e.1, e.2))).map eD), .no, .no], M⟩ := by
      rw [pg_ask]
      generalize (lvs o).map eD = A at *
      generalize ((lvs y).map (fun e => (1 :: e.1, e.2))).map eD = A2 at *
      generalize quD ps k = qu at *
      simp [evSs, evS, evX, evXs, evEs, evA, evAg, evT, evTB, evB, evG, evGs, evI, Tgs.len, varD, R.bind, biD, bi1, bi2_gcd, lif, toVal, setName_def, isRo_no, isRo_val, isRo_own, cmpD, truD, negD, binD, intOp, retD, ofBody, callD, call_CN, callkD, slots, Ar.slot, lend, ofCall, subD, seq, lis, G.atI, isTys, isTy, eqD, D.eqv, pure60, D.pure, D.deep, List.set, setD, putL, cell, methD, mtD, strI, ofSeq, plcC, plcV, unl, lock, unlock, rngD, forL, Itm.ok, stays, List.all_nil, fit0, fit1, fit2, fit3, fit4, fit5, fit6, fit7, fit8, fit9, fit10, fit11, fit12, fit13, fit14, fit15, fit16, q3, e2]
    have ec2 := comp_map f_leaves_of_C1 rfl (((lvs o).map (fun e => (0 :: e.1, e.2))).map eD) hi2 rfl rfl rfl rfl (fits_lt (by dsimp only; rw [List.length_map]; omega)) (by simp) (by
      intro j x d hx hd
      obtain ⟨e, g1, rfl⟩ := get_map hx
      have hd2 : (((lvs o).map (fun e => (0 :: e.1, e.2))).map eD)[j]? = some (.tup [.tup (.int 0 :: e.1.map D.int), .str e.2]) := by rw [List.getElem?_map, List.getElem?_map, g1]; rfl
      rw [hd2] at hd
      cases hd
      have c1 := elt 0 e (wl o (by omega) e (List.mem_of_getElem? g1))
      refine ⟨[.val (pgD (.ask ps k y o)), .own (((lvs y).map (fun e => (1 :: e.1, e.2))).map eD), .val (wD e.1), .val (.str e.2)], ?_, rfl⟩
      unfold eD wD
      generalize e.1.map D.int = W at *
      generalize pgD (.ask ps k y o) = pp at *
      simp [turnC, evSs, evS, evX, evXs, evEs, evA, evAg, evT, evTB, evB, evG, evGs, evI, Tgs.len, varD, R.bind, biD, bi1, bi2_gcd, lif, toVal, setName_def, isRo_no, isRo_val, isRo_own, cmpD, truD, negD, binD, intOp, retD, ofBody, callD, call_CN, callkD, slots, Ar.slot, lend, ofCall, subD, seq, lis, G.atI, isTys, isTy, eqD, D.eqv, pure60, D.pure, D.deep, List.set, setD, putL, cell, methD, mtD, strI, ofSeq, plcC, plcV, unl, lock, unlock, rngD, forL, Itm.ok, stays, List.all_nil, fit0, fit1, fit2, fit3, fit4, fit5, fit6, fit7, fit8, fit9, fit10, fit11, fit12, fit13, fit14, fit15, fit16, c1])
    unfold bf_leaves_of
    rw [seq_nx i0, seq_nx i1]
    have hc : catOk (((lvs y).map (fun e => (1 :: e.1, e.2))).map eD) (((lvs o).map (fun e => (0 :: e.1, e.2))).map eD) = true := catOk_lt (by rw [List.length_map, List.length_map, List.length_map, List.length_map]; omega)
    have hl : (lvs (.ask ps k y o)).map eD = ((lvs y).map (fun e => (1 :: e.1, e.2))).map eD ++ ((lvs o).map (fun e => (0 :: e.1, e.2))).map eD := by rw [lvs, List.map_append]
    rw [hl]
    generalize ((lvs y).map (fun e => (1 :: e.1, e.2))).map eD = A1 at *
    generalize ((lvs o).map (fun e => (0 :: e.1, e.2))).map eD = A2 at *
    have i2 : evSs C (.cons f_leaves_of_2 .nil) ⟨[.val (pgD (.ask ps k y o)), .own A1, .no, .no], M⟩ = .ok (.rt (.val (.tup (A1 ++ A2)))) ⟨[.val (pgD (.ask ps k y o)), .own A1, .no, .no], M⟩ := by
      show evSs C (.cons (.ret (.bi .tuple (.cons (.bin .Add (.var 1) f_leaves_of_C1) .nil))) .nil) _ = _
      generalize f_leaves_of_C1 = X at *
      generalize pgD (.ask ps k y o) = pp at *
      simp [evSs, evS, evX, evXs, evEs, evA, evAg, evT, evTB, evB, evG, evGs, evI, Tgs.len, varD, R.bind, biD, bi1, bi2_gcd, lif, toVal, setName_def, isRo_no, isRo_val, isRo_own, cmpD, truD, negD, binD, intOp, retD, ofBody, callD, call_CN, callkD, slots, Ar.slot, lend, ofCall, subD, seq, lis, G.atI, isTys, isTy, eqD, D.eqv, pure60, D.pure, D.deep, List.set, setD, putL, cell, methD, mtD, strI, ofSeq, plcC, plcV, unl, lock, unlock, rngD, forL, Itm.ok, stays, List.all_nil, fit0, fit1, fit2, fit3, fit4, fit5, fit6, fit7, fit8, fit9, fit10, fit11, fit12, fit13, fit14, fit15, fit16, ec2, hc]
    exact congrArg ofBody i2
end G

/-! ## W6 -/
set_option Elab.async false
set_option linter.all false
set_option maxRecDepth 100000
set_option maxHeartbeats 8000000
namespace G
open PySem
/-! ### the lines -/
abbrev sIf : Str := Str.ofString " if "
abbrev sAnd : Str := Str.ofString " and "
abbrev sAlw : Str := Str.ofString " always"
def lineOf (ns : List Str) (p : Pg) (e : We) : Str := e.2 ++ (if al ns p e.1 = [] then sAlw else sIf ++ Txt.join sAnd (al ns p e.1))
theorem word_ok {rs : List (Str × Int)} : ∀ {p : Pg}, Qw rs p → ∀ e ∈ lvs p, e.2.length ≤ 20
  | .tell s, h, e, he => by rw [lvs, List.mem_singleton] at he; subst he; exact h
  | .ask ps k y o, h, e, he => by
    rw [lvs] at he
    rcases List.mem_append.mp he with he | he
    · obtain ⟨e', h1, rfl⟩ := List.mem_map.mp he; exact word_ok h.2.1 e' h1
    · obtain ⟨e', h1, rfl⟩ := List.mem_map.mp he; exact word_ok h.2.2 e' h1
/-- the text of a line, out of what was told -/
theorem line_ev {C : Cn} {v : List Slot} {M : List Cell} {i : Nat} {A : List Str} (hv : v[i]? = some (.own (A.map D.str))) (hA : ∀ z ∈ A, z.length ≤ 1000) (hl : A.length ≤ 100) (hne : A ≠ []) :
    evX C (.bin .Add (.cst (.str (Str.ofString " if "))) (.smeth (.cst (.str (Str.ofString " and "))) .join (.var i))) ⟨v, M⟩ = .ok (.val (.str (sIf ++ Txt.join sAnd A))) ⟨v, M⟩ := by
  have jn := jn_own (a := sAnd) (v := v) (M := M) (i := i) hv hA (by omega) (by decide)
  have lj := len_join (a := sAnd) hA hl (by decide)
  have a1 := sadd (x := sIf) (y := Txt.join sAnd A) (by have : sIf.length = 4 := rfl; omega)
  simp [evX, varD, hv, R.bind, jn, lif, binD, a1]
theorem line_len {A : List Str} (hA : ∀ z ∈ A, z.length ≤ 1000) (hl : A.length ≤ 100) : (if A = [] then sAlw else sIf ++ Txt.join sAnd A).length ≤ 200000 := by
  have lj := len_join (a := sAnd) hA hl (by decide)
  split
  · decide
  · rw [sl_app]; have : sIf.length = 4 := rfl; omega
theorem c_in_words (n : Nat) (a b : Slot) (M : List Cell) : RN (n+1) (Str.ofString "in_words") [a, b] M = ofBody (evSs (CN n) bf_in_words ⟨[a, b, .no, .no, .no, .no], M⟩) := rfl
theorem emp_iff {α : Type} {l : List α} : (!l.isEmpty) = decide (l ≠ []) := by cases l <;> simp
theorem s_in_words (n : Nat) (M : List Cell) (kd : D) (rs : List (Str × Int)) (p : Pg) (hr : RsOk rs) (hq : Qw rs p) (hd : dep p ≤ 20) (hn : nodes p ≤ 80) :
    RN (n+22) (Str.ofString "in_words") [.val (stD kd rs), .val (pgD p)] M = .ok (.own (((lvs p).map (lineOf (nms rs) p)).map D.str)) M := by
  rw [c_in_words]
  obtain ⟨C, hC, hg⟩ := opq (n+21)
  rw [← hC]
  have e1 := hg (s_leaves M p (n+20) (by omega) (by omega) (by omega))
  have ll := lvs_len p
  have i0 : evS C f_in_words_0 ⟨[.val (stD kd rs), .val (pgD p), .no, .no, .no, .no], M⟩ = .ok .nx ⟨[.val (stD kd rs), .val (pgD p), .own [], .no, .no, .no], M⟩ := by
    generalize stD kd rs = st at *
    generalize pgD p = pd at *
    simp [evSs, evS, evX, evXs, evEs, evA, evAg, evT, evTB, evB, evG, evGs, evI, Tgs.len, varD, R.bind, biD, bi1, bi2_gcd, lif, toVal, setName_def, isRo_no, isRo_val, isRo_own, cmpD, truD, negD, binD, intOp, retD, ofBody, callD, call_CN, callkD, slots, Ar.slot, lend, ofCall, subD, seq, lis, G.atI, isTys, isTy, eqD, D.eqv, pure60, D.pure, D.deep, List.set, setD, putL, cell, methD, mtD, strI, ofSeq, plcC, plcV, unl, lock, unlock, rngD, forL, Itm.ok, stays, List.all_nil, fit0, fit1, fit2, fit3, fit4, fit5, fit6, fit7, fit8, fit9, fit10, fit11, fit12, fit13, fit14, fit15, fit16]
  have hi : evI C (.q (.call (Str.ofString "leaves_of") (.cons (.b (.var 1)) (.nil)))) ⟨[.val (stD kd rs), .val (pgD p), .own [], .no, .no, .no], M⟩ = .ok ⟨(lvs p).map eD, [], []⟩ ⟨[.val (stD kd rs), .val (pgD p), .own [], .no, .no, .no], M⟩ := by
    generalize stD kd rs = st at *
    generalize (lvs p).map eD = A at *
    generalize pgD p = pd at *
    simp [evSs, evS, evX, evXs, evEs, evA, evAg, evT, evTB, evB, evG, evGs, evI, Tgs.len, varD, R.bind, biD, bi1, bi2_gcd, lif, toVal, setName_def, isRo_no, isRo_val, isRo_own, cmpD, truD, negD, binD, intOp, retD, ofBody, callD, call_CN, callkD, slots, Ar.slot, lend, ofCall, subD, seq, lis, G.atI, isTys, isTy, eqD, D.eqv, pure60, D.pure, D.deep, List.set, setD, putL, cell, methD, mtD, strI, ofSeq, plcC, plcV, unl, lock, unlock, rngD, forL, Itm.ok, stays, List.all_nil, fit0, fit1, fit2, fit3, fit4, fit5, fit6, fit7, fit8, fit9, fit10, fit11, fit12, fit13, fit14, fit15, fit16, e1]
  obtain ⟨s', i1, x3, x4, x5, n3, n4, n5, es⟩ := fors_inv f_in_words_1 rfl hi rfl rfl (fun j s => ∃ (x3 x4 x5 : Slot), isRo x3 = false ∧ isRo x4 = false ∧ isRo x5 = false ∧ s = ⟨[.val (stD kd rs), .val (pgD p), .own ((((lvs p).take j).map (lineOf (nms rs) p)).map D.str), x3, x4, x5], M⟩)
    ⟨_, _, _, rfl, rfl, rfl, rfl⟩ (by
    rintro j x s hx ⟨x3, x4, x5, n3, n4, n5, rfl⟩
    obtain ⟨e, ge, rfl⟩ := get_map hx
    have me := List.mem_of_getElem? ge
    have hj : j < 80 := by have := lt_get ge; omega
    obtain ⟨hv, hf⟩ := lvs_ways p e me
    have wl := way_len hv
    have e2 := hg (s_way_words (n+17) M kd rs p e.1 hr hq hv (by omega))
    have hA := al_str hr (w := e.1) hq
    have hAl := al_len (ns := nms rs) hv
    have wk := word_ok hq e me
    have hll := line_len (A := al (nms rs) p e.1) hA (by omega)
    have a1 := sadd (x := e.2) (y := if al (nms rs) p e.1 = [] then sAlw else sIf ++ Txt.join sAnd (al (nms rs) p e.1)) (by omega)
    have hap : (((lvs p).take (j+1)).map (lineOf (nms rs) p)).map D.str = (((lvs p).take j).map (lineOf (nms rs) p)).map D.str ++ [.str (lineOf (nms rs) p e)] := by rw [take_snoc ge, List.map_append, List.map_append]; rfl
    have hlt : ((((lvs p).take j).map (lineOf (nms rs) p)).map D.str).length < sizeLine := lt_sizeLine (by rw [List.length_map, List.length_map, List.length_take]; omega)
    rw [hap]
    have hle : lineOf (nms rs) p e = e.2 ++ (if al (nms rs) p e.1 = [] then sAlw else sIf ++ Txt.join sAnd (al (nms rs) p e.1)) := rfl
    rw [hle]
    generalize (((lvs p).take j).map (lineOf (nms rs) p)).map D.str = LS at *
    refine ⟨⟨[.val (stD kd rs), .val (pgD p), .own (LS ++ [.str (e.2 ++ (if al (nms rs) p e.1 = [] then sAlw else sIf ++ Txt.join sAnd (al (nms rs) p e.1)))]), .val (wD e.1), .val (.str e.2), .own ((al (nms rs) p e.1).map D.str)], M⟩, ?_, _, _, _, rfl, rfl, rfl, rfl⟩
    have j0 : evG C (.tup (.cons (.name 3) (.cons (.name 4) (.nil)))) (eD e) ⟨[.val (stD kd rs), .val (pgD p), .own LS, x3, x4, x5], M⟩ = .ok () ⟨[.val (stD kd rs), .val (pgD p), .own LS, .val (wD e.1), .val (.str e.2), x5], M⟩ := by
      unfold eD
      generalize stD kd rs = st at *
      generalize pgD p = pd at *
      generalize wD e.1 = ww at *
      simp [evSs, evS, evX, evXs, evEs, evA, evAg, evT, evTB, evB, evG, evGs, evI, Tgs.len, varD, R.bind, biD, bi1, bi2_gcd, lif, toVal, setName_def, isRo_no, isRo_val, isRo_own, cmpD, truD, negD, binD, intOp, retD, ofBody, callD, call_CN, callkD, slots, Ar.slot, lend, ofCall, subD, seq, lis, G.atI, isTys, isTy, eqD, D.eqv, pure60, D.pure, D.deep, List.set, setD, putL, cell, methD, mtD, strI, ofSeq, plcC, plcV, unl, lock, unlock, rngD, forL, Itm.ok, stays, List.all_nil, fit0, fit1, fit2, fit3, fit4, fit5, fit6, fit7, fit8, fit9, fit10, fit11, fit12, fit13, fit14, fit15, fit16, n3, n4]
    have j1 : evS C f_in_words_1b_0 ⟨[.val (stD kd rs), .val (pgD p), .own LS, .val (wD e.1), .val (.str e.2), x5], M⟩ = .ok .nx ⟨[.val (stD kd rs), .val (pgD p), .own LS, .val (wD e.1), .val (.str e.2), .own ((al (nms rs) p e.1).map D.str)], M⟩ := by
      generalize (al (nms rs) p e.1).map D.str = AD at *
      generalize stD kd rs = st at *
      generalize pgD p = pd at *
      generalize wD e.1 = ww at *
      simp [evSs, evS, evX, evXs, evEs, evA, evAg, evT, evTB, evB, evG, evGs, evI, Tgs.len, varD, R.bind, biD, bi1, bi2_gcd, lif, toVal, setName_def, isRo_no, isRo_val, isRo_own, cmpD, truD, negD, binD, intOp, retD, ofBody, callD, call_CN, callkD, slots, Ar.slot, lend, ofCall, subD, seq, lis, G.atI, isTys, isTy, eqD, D.eqv, pure60, D.pure, D.deep, List.set, setD, putL, cell, methD, mtD, strI, ofSeq, plcC, plcV, unl, lock, unlock, rngD, forL, Itm.ok, stays, List.all_nil, fit0, fit1, fit2, fit3, fit4, fit5, fit6, fit7, fit8, fit9, fit10, fit11, fit12, fit13, fit14, fit15, fit16, e2, n5]
    rw [j0]
    refine bind_ok ?_
    show evSs C (.cons f_in_words_1b_0 (.cons f_in_words_1b_1 .nil)) _ = _
    rw [seq_nx j1]
    refine sq ?_ rfl
    generalize hAA : al (nms rs) p e.1 = A at *
    by_cases hne : A = []
    · subst hne
      simp only [if_true] at a1 ⊢
      generalize stD kd rs = st at *
      generalize pgD p = pd at *
      generalize wD e.1 = ww at *
      generalize e.2 = wo at *
      simp [evSs, evS, evX, evXs, evEs, evA, evAg, evT, evTB, evB, evG, evGs, evI, Tgs.len, varD, R.bind, biD, bi1, bi2_gcd, lif, toVal, setName_def, isRo_no, isRo_val, isRo_own, cmpD, truD, negD, binD, intOp, retD, ofBody, callD, call_CN, callkD, slots, Ar.slot, lend, ofCall, subD, seq, lis, G.atI, isTys, isTy, eqD, D.eqv, pure60, D.pure, D.deep, List.set, setD, putL, cell, methD, mtD, strI, ofSeq, plcC, plcV, unl, lock, unlock, rngD, forL, Itm.ok, stays, List.all_nil, fit0, fit1, fit2, fit3, fit4, fit5, fit6, fit7, fit8, fit9, fit10, fit11, fit12, fit13, fit14, fit15, fit16, a1, hlt]
    · rw [if_neg hne] at a1 ⊢
      have lv := line_ev (C := C) (v := [.val (stD kd rs), .val (pgD p), .own LS, .val (wD e.1), .val (.str e.2), .own (A.map D.str)]) (M := M) (i := 5) rfl hA (by omega) hne
      have hte : (!(A.map D.str).isEmpty) = true := by cases A with
        | nil => exact absurd rfl hne
        | cons => rfl
      have tr : evT C (.x (.var 5)) ⟨[.val (stD kd rs), .val (pgD p), .own LS, .val (wD e.1), .val (.str e.2), .own (A.map D.str)], M⟩ = .ok true ⟨[.val (stD kd rs), .val (pgD p), .own LS, .val (wD e.1), .val (.str e.2), .own (A.map D.str)], M⟩ := by
        simp only [evT, evX, varD, R.bind, truD, seq, lif]
        show (match Option.map (fun xs : List D => !xs.isEmpty) (some (A.map D.str)), _ with | some a, s => R.ok a s | none, _ => R.bad) = _
        rw [Option.map_some, hte]
      show evS C (.ex (.meth (.var 2) .append (.cons (.bin .Add (.var 4) (.ife (.x (.var 5)) (.bin .Add (.cst (.str (Str.ofString " if "))) (.smeth (.cst (.str (Str.ofString " and "))) .join (.var 5))) (.cst (.str (Str.ofString " always"))))) .nil))) _ = _
      generalize (.bin .Add (.cst (.str (Str.ofString " if "))) (.smeth (.cst (.str (Str.ofString " and "))) .join (.var 5)) : Ex) = X at *
      generalize (.x (.var 5) : Te) = T at *
      generalize A.map D.str = AD at *
      generalize stD kd rs = st at *
      generalize pgD p = pd at *
      generalize wD e.1 = ww at *
      generalize e.2 = wo at *
      simp [evSs, evS, evX, evXs, evEs, evA, evAg, evT, evTB, evB, evG, evGs, evI, Tgs.len, varD, R.bind, biD, bi1, bi2_gcd, lif, toVal, setName_def, isRo_no, isRo_val, isRo_own, cmpD, truD, negD, binD, intOp, retD, ofBody, callD, call_CN, callkD, slots, Ar.slot, lend, ofCall, subD, seq, lis, G.atI, isTys, isTy, eqD, D.eqv, pure60, D.pure, D.deep, List.set, setD, putL, cell, methD, mtD, strI, ofSeq, plcC, plcV, unl, lock, unlock, rngD, forL, Itm.ok, stays, List.all_nil, fit0, fit1, fit2, fit3, fit4, fit5, fit6, fit7, fit8, fit9, fit10, fit11, fit12, fit13, fit14, fit15, fit16, tr, lv, a1, hlt])
  subst es
  dsimp only at i1
  rw [List.length_map, List.take_length] at i1
  unfold bf_in_words
  rw [seq_nx i0, seq_nx i1]
  generalize ((lvs p).map (lineOf (nms rs) p)).map D.str = LS at *
  generalize stD kd rs = st at *
  generalize pgD p = pd at *
  simp [evSs, evS, evX, evXs, evEs, evA, evAg, evT, evTB, evB, evG, evGs, evI, Tgs.len, varD, R.bind, biD, bi1, bi2_gcd, lif, toVal, setName_def, isRo_no, isRo_val, isRo_own, cmpD, truD, negD, binD, intOp, retD, ofBody, callD, call_CN, callkD, slots, Ar.slot, lend, ofCall, subD, seq, lis, G.atI, isTys, isTy, eqD, D.eqv, pure60, D.pure, D.deep, List.set, setD, putL, cell, methD, mtD, strI, ofSeq, plcC, plcV, unl, lock, unlock, rngD, forL, Itm.ok, stays, List.all_nil, fit0, fit1, fit2, fit3, fit4, fit5, fit6, fit7, fit8, fit9, fit10, fit11, fit12, fit13, fit14, fit15, fit16]
end G

/-! ## W7 -/
set_option Elab.async false
set_option linter.all false
set_option maxRecDepth 100000
set_option maxHeartbeats 8000000
namespace G
open PySem
def tel : Wp → Option We
  | (w, .tell s) => some (w, s)
  | _ => none
theorem tel_all : ∀ (p : Pg) (w : List Int), (allF w p).filterMap tel = endsF w p
  | .tell s, w => rfl
  | .ask ps k y o, w => by
    rw [allF, endsF, List.filterMap_cons]
    show ((allF (w ++ [1]) y ++ allF (w ++ [0]) o).filterMap tel) = _
    rw [List.filterMap_append, tel_all y, tel_all o]
theorem tel_lvs (p : Pg) : (allF [] p).filterMap tel = lvs p := by
  rw [tel_all, lvs_ends]
  have : (fun e : We => (([] : List Int) ++ e.1, e.2)) = id := by funext e; rfl
  rw [this, List.map_id]
theorem kb_qw (n : Nat) (a b c : Slot) : (CN n).kb (Str.ofString "question_words") 0 [Str.ofString "yes", Str.ofString "question", Str.ofString "setting"] [a, b, c] = some [c, b, a] := rfl
theorem c_asked (n : Nat) (a b c : Slot) (M : List Cell) : RN (n+1) (Str.ofString "_law_asked") [a, b, c] M = ofBody (evSs (CN n) bl_asked ⟨[a, b, c, .no, .no, .no, .no, .no], M⟩) := rfl
theorem s_asked (n : Nat) (M : List Cell) (kd : D) (rs : List (Str × Int)) (p : Pg) (hr : RsOk rs) (hq : Qw rs p) (hd : dep p ≤ 20) (hn : nodes p ≤ 80) :
    RN (n+24) (Str.ofString "_law_asked") [.ro ((nms rs).map D.str), .val (stD kd rs), .val (pgD p)] M = .ok (.val (.bl true)) M := by
  rw [c_asked]
  obtain ⟨C, hC, hg⟩ := opq (n+23)
  rw [← hC]
  have e1 := hg (s_ways (n+22) M p hn (by omega))
  have al0 := allF_len [] p
  have i0 : evS C l_asked_0 ⟨[.ro ((nms rs).map D.str), .val (stD kd rs), .val (pgD p), .no, .no, .no, .no, .no], M⟩ = .ok .nx ⟨[.ro ((nms rs).map D.str), .val (stD kd rs), .val (pgD p), .own [], .no, .no, .no, .no], M⟩ := by
    generalize stD kd rs = st at *
    generalize pgD p = pd at *
    simp [evSs, evS, evX, evXs, evEs, evA, evAg, evT, evTB, evB, evG, evGs, evI, Tgs.len, varD, R.bind, biD, bi1, bi2_gcd, lif, toVal, setName_def, isRo_no, isRo_val, isRo_own, cmpD, truD, negD, binD, intOp, retD, ofBody, callD, call_CN, callkD, slots, Ar.slot, lend, ofCall, subD, seq, lis, G.atI, isTys, isTy, eqD, D.eqv, pure60, D.pure, D.deep, List.set, setD, putL, cell, methD, mtD, strI, ofSeq, plcC, plcV, unl, lock, unlock, rngD, forL, Itm.ok, stays, List.all_nil, fit0, fit1, fit2, fit3, fit4, fit5, fit6, fit7, fit8, fit9, fit10, fit11, fit12, fit13, fit14, fit15, fit16]
  have hi : evI C (.q (.call (Str.ofString "_law_ways") (.cons (.v (.var 2)) (.nil)))) ⟨[.ro ((nms rs).map D.str), .val (stD kd rs), .val (pgD p), .own [], .no, .no, .no, .no], M⟩ = .ok ⟨(allF [] p).map fD, [], []⟩ ⟨[.ro ((nms rs).map D.str), .val (stD kd rs), .val (pgD p), .own [], .no, .no, .no, .no], M⟩ := by
    generalize stD kd rs = st at *
    generalize (allF [] p).map fD = A at *
    generalize pgD p = pd at *
    simp [evSs, evS, evX, evXs, evEs, evA, evAg, evT, evTB, evB, evG, evGs, evI, Tgs.len, varD, R.bind, biD, bi1, bi2_gcd, lif, toVal, setName_def, isRo_no, isRo_val, isRo_own, cmpD, truD, negD, binD, intOp, retD, ofBody, callD, call_CN, callkD, slots, Ar.slot, lend, ofCall, subD, seq, lis, G.atI, isTys, isTy, eqD, D.eqv, pure60, D.pure, D.deep, List.set, setD, putL, cell, methD, mtD, strI, ofSeq, plcC, plcV, unl, lock, unlock, rngD, forL, Itm.ok, stays, List.all_nil, fit0, fit1, fit2, fit3, fit4, fit5, fit6, fit7, fit8, fit9, fit10, fit11, fit12, fit13, fit14, fit15, fit16, e1]
  obtain ⟨s', i1, x4, x5, x6, x7, n4, n5, n6, n7, es⟩ := fors_inv l_asked_1 rfl hi rfl rfl (fun j s => ∃ (x4 x5 x6 x7 : Slot), isRo x4 = false ∧ isRo x5 = false ∧ isRo x6 = false ∧ isRo x7 = false ∧ s = ⟨[.ro ((nms rs).map D.str), .val (stD kd rs), .val (pgD p), .own (((((allF [] p).take j).filterMap tel).map (lineOf (nms rs) p)).map D.str), x4, x5, x6, x7], M⟩)
    ⟨_, _, _, _, rfl, rfl, rfl, rfl, rfl⟩ (by
    rintro j x s hx ⟨x4, x5, x6, x7, n4, n5, n6, n7, rfl⟩
    obtain ⟨e, ge, rfl⟩ := get_map hx
    obtain ⟨w, q⟩ := e
    have me := List.mem_of_getElem? ge
    have hj : j < 80 := by have := lt_get ge; omega
    obtain ⟨hv, hf⟩ := all_at (p := p) (q := p) (w := []) (by cases p <;> trivial) (fol_nil p) (w, q) me
    have hv : Vw p w := hv
    have hf : fol p w = q := hf
    have wl := way_len hv
    have e2 := hg (s_along (n+20) M rs p w hr hq hv (by omega))
    have e3 := hg (s_way_words (n+19) M kd rs p w hr hq hv (by omega))
    have hA := al_str hr (w := w) hq
    have hAl := al_len (ns := nms rs) hv
    have e4 := hg (s_sameL (n+22) M (al (nms rs) p w) (by omega))
    have hqq := qw_fol (w := w) hq
    rw [hf] at hqq
    have htk : ((allF [] p).take (j+1)).filterMap tel = ((allF [] p).take j).filterMap tel ++ (tel (w, q)).toList := by
      rw [take_snoc ge, List.filterMap_append]
      congr 1
    have hlt : (((((allF [] p).take j).filterMap tel).map (lineOf (nms rs) p)).map D.str).length < sizeLine := lt_sizeLine (by
      rw [List.length_map, List.length_map]
      have := List.length_filterMap_le tel ((allF [] p).take j)
      rw [List.length_take] at this
      omega)
    rw [htk]
    have j0 : evG C (.tup (.cons (.name 4) (.cons (.name 5) (.nil)))) (fD (w, q)) ⟨[.ro ((nms rs).map D.str), .val (stD kd rs), .val (pgD p), .own (((((allF [] p).take j).filterMap tel).map (lineOf (nms rs) p)).map D.str), x4, x5, x6, x7], M⟩ = .ok () ⟨[.ro ((nms rs).map D.str), .val (stD kd rs), .val (pgD p), .own (((((allF [] p).take j).filterMap tel).map (lineOf (nms rs) p)).map D.str), .val (wD w), .val (pgD q), x6, x7], M⟩ := by
      generalize ((((allF [] p).take j).filterMap tel).map (lineOf (nms rs) p)).map D.str = LS at *
      unfold fD
      generalize stD kd rs = st at *
      generalize pgD p = pd at *
      generalize pgD q = qd at *
      generalize wD w = ww at *
      simp [evSs, evS, evX, evXs, evEs, evA, evAg, evT, evTB, evB, evG, evGs, evI, Tgs.len, varD, R.bind, biD, bi1, bi2_gcd, lif, toVal, setName_def, isRo_no, isRo_val, isRo_own, cmpD, truD, negD, binD, intOp, retD, ofBody, callD, call_CN, callkD, slots, Ar.slot, lend, ofCall, subD, seq, lis, G.atI, isTys, isTy, eqD, D.eqv, pure60, D.pure, D.deep, List.set, setD, putL, cell, methD, mtD, strI, ofSeq, plcC, plcV, unl, lock, unlock, rngD, forL, Itm.ok, stays, List.all_nil, fit0, fit1, fit2, fit3, fit4, fit5, fit6, fit7, fit8, fit9, fit10, fit11, fit12, fit13, fit14, fit15, fit16, n4, n5]
    have j1 : ∀ LS : List D, evS C l_asked_1b_0 ⟨[.ro ((nms rs).map D.str), .val (stD kd rs), .val (pgD p), .own LS, .val (wD w), .val (pgD q), x6, x7], M⟩ = .ok .nx ⟨[.ro ((nms rs).map D.str), .val (stD kd rs), .val (pgD p), .own LS, .val (wD w), .val (pgD q), .own ((al (nms rs) p w).map D.str), x7], M⟩ := fun LS => by
      generalize (al (nms rs) p w).map D.str = AD at *
      generalize (nms rs).map D.str = NS at *
      generalize stD kd rs = st at *
      generalize pgD p = pd at *
      generalize pgD q = qd at *
      generalize wD w = ww at *
      simp [evSs, evS, evX, evXs, evEs, evA, evAg, evT, evTB, evB, evG, evGs, evI, Tgs.len, varD, R.bind, biD, bi1, bi2_gcd, lif, toVal, setName_def, isRo_no, isRo_val, isRo_own, cmpD, truD, negD, binD, intOp, retD, ofBody, callD, call_CN, callkD, slots, Ar.slot, lend, ofCall, subD, seq, lis, G.atI, isTys, isTy, eqD, D.eqv, pure60, D.pure, D.deep, List.set, setD, putL, cell, methD, mtD, strI, ofSeq, plcC, plcV, unl, lock, unlock, rngD, forL, Itm.ok, stays, List.all_nil, fit0, fit1, fit2, fit3, fit4, fit5, fit6, fit7, fit8, fit9, fit10, fit11, fit12, fit13, fit14, fit15, fit16, e2, n6]
    have j2 : ∀ LS : List D, evS C l_asked_1b_1 ⟨[.ro ((nms rs).map D.str), .val (stD kd rs), .val (pgD p), .own LS, .val (wD w), .val (pgD q), .own ((al (nms rs) p w).map D.str), x7], M⟩ = .ok .nx ⟨[.ro ((nms rs).map D.str), .val (stD kd rs), .val (pgD p), .own LS, .val (wD w), .val (pgD q), .own ((al (nms rs) p w).map D.str), x7], M⟩ := fun LS => by
      generalize (al (nms rs) p w).map D.str = AD at *
      generalize (nms rs).map D.str = NS at *
      generalize stD kd rs = st at *
      generalize pgD p = pd at *
      generalize pgD q = qd at *
      generalize wD w = ww at *
      simp [evSs, evS, evX, evXs, evEs, evA, evAg, evT, evTB, evB, evG, evGs, evI, Tgs.len, varD, R.bind, biD, bi1, bi2_gcd, lif, toVal, setName_def, isRo_no, isRo_val, isRo_own, cmpD, truD, negD, binD, intOp, retD, ofBody, callD, call_CN, callkD, slots, Ar.slot, lend, ofCall, subD, seq, lis, G.atI, isTys, isTy, eqD, D.eqv, pure60, D.pure, D.deep, List.set, setD, putL, cell, methD, mtD, strI, ofSeq, plcC, plcV, unl, lock, unlock, rngD, forL, Itm.ok, stays, List.all_nil, fit0, fit1, fit2, fit3, fit4, fit5, fit6, fit7, fit8, fit9, fit10, fit11, fit12, fit13, fit14, fit15, fit16, e3, e4]
    rw [j0]
    show ∃ s', evSs C (.cons l_asked_1b_0 (.cons l_asked_1b_1 (.cons l_asked_1b_2 .nil))) _ = _ ∧ _
    rw [seq_nx (j1 _), seq_nx (j2 _)]
    generalize hLL : (((allF [] p).take j).filterMap tel).map (lineOf (nms rs) p) = LL at *
    cases q with
    | tell a =>
      have hw20 : a.length ≤ 20 := hqq
      have hll := line_len (A := al (nms rs) p w) hA (by omega)
      have a1 := sadd (x := a) (y := if al (nms rs) p w = [] then sAlw else sIf ++ Txt.join sAnd (al (nms rs) p w)) (by omega)
      refine ⟨⟨[.ro ((nms rs).map D.str), .val (stD kd rs), .val (pgD p), .own ((LL ++ [lineOf (nms rs) p (w, a)]).map D.str), .val (wD w), .val (pgD (.tell a)), .own ((al (nms rs) p w).map D.str), x7], M⟩, ?_, .val (wD w), .val (pgD (.tell a)), .own ((al (nms rs) p w).map D.str), x7, rfl, rfl, rfl, n7, ?_⟩
      · refine sq ?_ rfl
        have hap : (LL ++ [lineOf (nms rs) p (w, a)]).map D.str = LL.map D.str ++ [.str (lineOf (nms rs) p (w, a))] := by rw [List.map_append]; rfl
        have hle : lineOf (nms rs) p (w, a) = a ++ (if al (nms rs) p w = [] then sAlw else sIf ++ Txt.join sAnd (al (nms rs) p w)) := rfl
        rw [hap, hle]
        have t1' : evT C (.x (.cmp .Eq (.sub (.var 5) (.cst (.int 0))) (.cst (.str (Str.ofString "tell"))))) ⟨[.ro ((nms rs).map D.str), .val (stD kd rs), .val (pgD p), .own (LL.map D.str), .val (wD w), .val (pgD (.tell a)), .own ((al (nms rs) p w).map D.str), x7], M⟩ = .ok true ⟨[.ro ((nms rs).map D.str), .val (stD kd rs), .val (pgD p), .own (LL.map D.str), .val (wD w), .val (pgD (.tell a)), .own ((al (nms rs) p w).map D.str), x7], M⟩ := by
          generalize stD kd rs = st at *
          generalize pgD p = pd at *
          simp [evSs, evS, evX, evXs, evEs, evA, evAg, evT, evTB, evB, evG, evGs, evI, Tgs.len, varD, R.bind, biD, bi1, bi2_gcd, lif, toVal, setName_def, isRo_no, isRo_val, isRo_own, cmpD, truD, negD, binD, intOp, retD, ofBody, callD, call_CN, callkD, slots, Ar.slot, lend, ofCall, subD, seq, lis, G.atI, isTys, isTy, D.pure, D.deep, List.set, setD, putL, cell, methD, mtD, strI, ofSeq, plcC, plcV, unl, lock, unlock, rngD, forL, Itm.ok, stays, List.all_nil, fit0, fit1, fit2, fit3, fit4, fit5, fit6, fit7, fit8, fit9, fit10, fit11, fit12, fit13, fit14, fit15, fit16, pgD, t0, eqS, tell_tell]
        refine ite_t t1' (sq ?_ rfl)
        generalize hAA : al (nms rs) p w = A at *
        generalize LL.map D.str = LS at *
        generalize (nms rs).map D.str = NS at *
        by_cases hne : A = []
        · subst hne
          have hw0 : w = [] := List.eq_nil_of_length_eq_zero (by rw [← hAl]; rfl)
          subst hw0
          simp only [if_true] at a1 ⊢
          generalize stD kd rs = st at *
          generalize pgD p = pd at *
          simp [evSs, evS, evX, evXs, evEs, evA, evAg, evT, evTB, evB, evG, evGs, evI, Tgs.len, varD, R.bind, biD, bi1, bi2_gcd, lif, toVal, setName_def, isRo_no, isRo_val, isRo_own, cmpD, truD, negD, binD, intOp, retD, ofBody, callD, call_CN, callkD, slots, Ar.slot, lend, ofCall, subD, seq, lis, G.atI, isTys, isTy, eqD, D.eqv, pure60, D.pure, D.deep, List.set, setD, putL, cell, methD, mtD, strI, ofSeq, plcC, plcV, unl, lock, unlock, rngD, forL, Itm.ok, stays, List.all_nil, fit0, fit1, fit2, fit3, fit4, fit5, fit6, fit7, fit8, fit9, fit10, fit11, fit12, fit13, fit14, fit15, fit16, pgD, wD, t1, a1, hlt]
        · rw [if_neg hne] at a1 ⊢
          have hw1 : (0 : Int) < (w.length : Int) := by
            have : A.length ≠ 0 := fun h => hne (List.eq_nil_of_length_eq_zero h)
            omega
          have lv := line_ev (C := C) (v := [.ro NS, .val (stD kd rs), .val (pgD p), .own LS, .val (wD w), .val (pgD (.tell a)), .own (A.map D.str), x7]) (M := M) (i := 6) rfl hA (by omega) hne
          generalize (.bin .Add (.cst (.str (Str.ofString " if "))) (.smeth (.cst (.str (Str.ofString " and "))) .join (.var 6)) : Ex) = X at *
          generalize A.map D.str = AD at *
          generalize stD kd rs = st at *
          generalize pgD p = pd at *
          have hp2 : pgD (.tell a) = .tup [.str sTell, .str a] := rfl
          have hww : wD w = .tup (w.map D.int) := rfl
          have hwl : (w.map D.int).length = w.length := List.length_map _
          rw [hp2, hww] at lv ⊢
          generalize w.map D.int = W at *
          rw [← hwl] at hw1
          have hw2 : 0 < W.length := by omega
          simp [evSs, evS, evX, evXs, evEs, evA, evAg, evT, evTB, evB, evG, evGs, evI, Tgs.len, varD, R.bind, biD, bi1, bi2_gcd, lif, toVal, setName_def, isRo_no, isRo_val, isRo_own, cmpD, truD, negD, binD, intOp, retD, ofBody, callD, call_CN, callkD, slots, Ar.slot, lend, ofCall, subD, seq, lis, G.atI, isTys, isTy, eqD, D.eqv, pure60, D.pure, D.deep, List.set, setD, putL, cell, methD, mtD, strI, ofSeq, plcC, plcV, unl, lock, unlock, rngD, forL, Itm.ok, stays, List.all_nil, fit0, fit1, fit2, fit3, fit4, fit5, fit6, fit7, fit8, fit9, fit10, fit11, fit12, fit13, fit14, fit15, fit16, t1, lv, a1, hlt, hw1, hw2]
          done
      · have e0 : List.map (lineOf (nms rs) p) (List.filterMap tel (List.take j (allF [] p)) ++ (tel (w, Pg.tell a)).toList) = LL ++ [lineOf (nms rs) p (w, a)] := by rw [List.map_append, hLL]; rfl
        rw [e0]
    | ask ps k y o =>
      have qo : QuOk rs ps k := hqq.1
      refine ⟨⟨[.ro ((nms rs).map D.str), .val (stD kd rs), .val (pgD p), .own (LL.map D.str), .val (wD w), .val (pgD (.ask ps k y o)), .own ((al (nms rs) p w).map D.str), .val (.int 0)], M⟩, ?_, .val (wD w), .val (pgD (.ask ps k y o)), .own ((al (nms rs) p w).map D.str), .val (.int 0), rfl, rfl, rfl, rfl, ?_⟩
      · refine sq ?_ rfl
        have t1' : evT C (.x (.cmp .Eq (.sub (.var 5) (.cst (.int 0))) (.cst (.str (Str.ofString "tell"))))) ⟨[.ro ((nms rs).map D.str), .val (stD kd rs), .val (pgD p), .own (LL.map D.str), .val (wD w), .val (pgD (.ask ps k y o)), .own ((al (nms rs) p w).map D.str), x7], M⟩ = .ok false ⟨[.ro ((nms rs).map D.str), .val (stD kd rs), .val (pgD p), .own (LL.map D.str), .val (wD w), .val (pgD (.ask ps k y o)), .own ((al (nms rs) p w).map D.str), x7], M⟩ := by
          rw [pg_ask]
          generalize stD kd rs = st at *
          generalize pgD p = pd at *
          generalize quD ps k = qu at *
          simp [evSs, evS, evX, evXs, evEs, evA, evAg, evT, evTB, evB, evG, evGs, evI, Tgs.len, varD, R.bind, biD, bi1, bi2_gcd, lif, toVal, setName_def, isRo_no, isRo_val, isRo_own, cmpD, truD, negD, binD, intOp, retD, ofBody, callD, call_CN, callkD, slots, Ar.slot, lend, ofCall, subD, seq, lis, G.atI, isTys, isTy, D.pure, D.deep, List.set, setD, putL, cell, methD, mtD, strI, ofSeq, plcC, plcV, unl, lock, unlock, rngD, forL, Itm.ok, stays, List.all_nil, fit0, fit1, fit2, fit3, fit4, fit5, fit6, fit7, fit8, fit9, fit10, fit11, fit12, fit13, fit14, fit15, fit16, q0, eqS, ask_tell]
        refine ite_f t1' (sq ?_ rfl)
        have step : ∀ (yy : Bool) (x : Slot), isRo x = false → ((evG C (.name 7) (.int (yI yy)) ⟨[.ro ((nms rs).map D.str), .val (stD kd rs), .val (pgD p), .own (LL.map D.str), .val (wD w), .val (pgD (.ask ps k y o)), .own ((al (nms rs) p w).map D.str), x], M⟩).bind fun _ s3 => evSs C l_asked_1b_2e0b s3) = .ok .nx ⟨[.ro ((nms rs).map D.str), .val (stD kd rs), .val (pgD p), .own (LL.map D.str), .val (wD w), .val (pgD (.ask ps k y o)), .own ((al (nms rs) p w).map D.str), .val (.int (yI yy))], M⟩ := fun yy x hx => by
          have f1 := hg (s_question_words (n+20) M kd rs ps k yy hr qo)
          have f2 := hg (s_words (n+21) M rs ps k yy hr qo)
          have f3 := hg (s_sameS (n+22) M (qw ((nms rs).zip ps) k yy))
          have kb : C.kb (Str.ofString "question_words") 0 [Str.ofString "yes", Str.ofString "question", Str.ofString "setting"] [.val (.int (yI yy)), .val (quD ps k), .val (stD kd rs)] = some [.val (stD kd rs), .val (quD ps k), .val (.int (yI yy))] := by rw [hC]; exact kb_qw _ _ _ _
          rw [pg_ask]
          generalize qw ((nms rs).zip ps) k yy = z at *
          generalize (al (nms rs) p w).map D.str = AD at *
          generalize (nms rs).map D.str = NS at *
          generalize LL.map D.str = LS at *
          generalize stD kd rs = st at *
          generalize pgD p = pd at *
          generalize quD ps k = qu at *
          generalize wD w = ww at *
          generalize yI yy = yi at *
          simp [evSs, evS, evX, evXs, evEs, evA, evAg, evT, evTB, evB, evG, evGs, evI, Tgs.len, varD, R.bind, biD, bi1, bi2_gcd, lif, toVal, setName_def, isRo_no, isRo_val, isRo_own, cmpD, truD, negD, binD, intOp, retD, ofBody, callD, call_CN, callkD, slots, Ar.slot, lend, ofCall, subD, seq, lis, G.atI, isTys, isTy, eqD, D.eqv, pure60, D.pure, D.deep, List.set, setD, putL, cell, methD, mtD, strI, ofSeq, plcC, plcV, unl, lock, unlock, rngD, forL, Itm.ok, stays, List.all_nil, fit0, fit1, fit2, fit3, fit4, fit5, fit6, fit7, fit8, fit9, fit10, fit11, fit12, fit13, fit14, fit15, fit16, a20, a21, a30, a31, a32, a40, a41, a42, a43, a50, a51, a52, a53, a54, a60, a61, a62, a63, a64, a65, hx, kb, f1, f2, f3]
        have hi7 : evI C (.q (.lst (.cons (.cst (.int 1)) (.cons (.cst (.int 0)) .nil)))) ⟨[.ro ((nms rs).map D.str), .val (stD kd rs), .val (pgD p), .own (LL.map D.str), .val (wD w), .val (pgD (.ask ps k y o)), .own ((al (nms rs) p w).map D.str), x7], M⟩ = .ok ⟨[.int 1, .int 0], [], []⟩ ⟨[.ro ((nms rs).map D.str), .val (stD kd rs), .val (pgD p), .own (LL.map D.str), .val (wD w), .val (pgD (.ask ps k y o)), .own ((al (nms rs) p w).map D.str), x7], M⟩ := by
          simp [evSs, evS, evX, evXs, evEs, evA, evAg, evT, evTB, evB, evG, evGs, evI, Tgs.len, varD, R.bind, biD, bi1, bi2_gcd, lif, toVal, setName_def, isRo_no, isRo_val, isRo_own, cmpD, truD, negD, binD, intOp, retD, ofBody, callD, call_CN, callkD, slots, Ar.slot, lend, ofCall, subD, seq, lis, G.atI, isTys, isTy, eqD, D.eqv, pure60, D.pure, D.deep, List.set, setD, putL, cell, methD, mtD, strI, ofSeq, plcC, plcV, unl, lock, unlock, rngD, forL, Itm.ok, stays, List.all_nil, fit0, fit1, fit2, fit3, fit4, fit5, fit6, fit7, fit8, fit9, fit10, fit11, fit12, fit13, fit14, fit15, fit16]
        refine fors_run rfl hi7 ?_
        rw [forL]
        show (if true = true then _ else _) = _
        rw [if_pos rfl]
        have st1 := step true x7 n7
        rw [show yI true = 1 from rfl] at st1
        rw [st1]
        show forL _ _ _ _ = _
        rw [forL]
        show (if true = true then _ else _) = _
        have st2 := step false (.val (.int 1)) rfl
        rw [show yI false = 0 from rfl] at st2
        rw [if_pos rfl, st2]
        rfl
      · rw [show (tel (w, Pg.ask ps k y o)).toList = [] from rfl, List.append_nil, hLL])
  subst es
  dsimp only at i1
  rw [List.length_map, List.take_length, tel_lvs] at i1
  have f1 := hg (s_in_words (n+1) M kd rs p hr hq hd hn)
  have ll := lvs_len p
  have f2 := hg (s_sameL (n+22) M ((lvs p).map (lineOf (nms rs) p)) (by rw [List.length_map]; omega))
  unfold bl_asked
  rw [seq_nx i0, seq_nx i1]
  generalize ((lvs p).map (lineOf (nms rs) p)).map D.str = LS at *
  generalize (nms rs).map D.str = NS at *
  generalize stD kd rs = st at *
  generalize pgD p = pd at *
  simp [evSs, evS, evX, evXs, evEs, evA, evAg, evT, evTB, evB, evG, evGs, evI, Tgs.len, varD, R.bind, biD, bi1, bi2_gcd, lif, toVal, setName_def, isRo_no, isRo_val, isRo_own, cmpD, truD, negD, binD, intOp, retD, ofBody, callD, call_CN, callkD, slots, Ar.slot, lend, ofCall, subD, seq, lis, G.atI, isTys, isTy, eqD, D.eqv, pure60, D.pure, D.deep, List.set, setD, putL, cell, methD, mtD, strI, ofSeq, plcC, plcV, unl, lock, unlock, rngD, forL, Itm.ok, stays, List.all_nil, fit0, fit1, fit2, fit3, fit4, fit5, fit6, fit7, fit8, fit9, fit10, fit11, fit12, fit13, fit14, fit15, fit16, f1, f2]
end G

/-! ## W8 -/
set_option Elab.async false
set_option linter.all false
set_option maxRecDepth 100000
set_option maxHeartbeats 8000000
namespace G
open PySem
/-! ### the pail -/
abbrev kSum : Str := Str.ofString "sum"
abbrev kTurn : Str := Str.ofString "turn"
abbrev kSand : Str := Str.ofString "sand"
def pailC (sm tn : Int) : Cell := .dct [(kSum, .int sm), (kTurn, .int tn), (kSand, .loc 0)]
def Urn (T : Nat) (M : List Cell) : Prop := ∃ (zs : List Int) (sm tn : Int), M[0]? = some (.lst (zs.map D.int)) ∧ M[1]? = some (pailC sm tn) ∧ (∀ z ∈ zs, 0 ≤ z) ∧ 0 ≤ sm ∧ sm < 1000159 ∧ 0 ≤ tn ∧ tn ≤ T
theorem Urn.up {T : Nat} {M : List Cell} (h : Urn T M) (U : Nat) (hu : T ≤ U) : Urn U M := by
  obtain ⟨zs, sm, tn, h1, h2, h3, h4, h5, h6, h7⟩ := h
  exact ⟨zs, sm, tn, h1, h2, h3, h4, h5, h6, by omega⟩
def Ext (M M' : List Cell) : Prop := M.length ≤ M'.length ∧ ∀ i, 2 ≤ i → i < M.length → M'[i]? = M[i]?
theorem Ext.refl (M : List Cell) : Ext M M := ⟨Nat.le_refl _, fun _ _ _ => rfl⟩
theorem Ext.trans {A B C : List Cell} (h : Ext A B) (k : Ext B C) : Ext A C := ⟨Nat.le_trans h.1 k.1, fun i n l => (k.2 i n (Nat.lt_of_lt_of_le l h.1)).trans (h.2 i n l)⟩
theorem Ext.set {M : List Cell} {x : Cell} {u : Nat} (h : u < 2) : Ext M (M.set u x) := ⟨by rw [List.length_set]; exact Nat.le_refl _, fun i n _ => List.getElem?_set_ne (by omega)⟩
theorem Ext.get {A B : List Cell} {i : Nat} {x : Cell} (h : Ext A B) (h3 : 2 ≤ i) (e : A[i]? = some x) : B[i]? = some x := by rw [h.2 _ h3 (lt_get e)]; exact e
theorem g_sum (a b c : D) : getS [(kSum, a), (kTurn, b), (kSand, c)] kSum = some a := rfl
theorem g_turn (a b c : D) : getS [(kSum, a), (kTurn, b), (kSand, c)] kTurn = some b := rfl
theorem g_sand (a b c : D) : getS [(kSum, a), (kTurn, b), (kSand, c)] kSand = some c := rfl
theorem p_sum (a b c d : D) : putS [(kSum, a), (kTurn, b), (kSand, c)] kSum d = [(kSum, d), (kTurn, b), (kSand, c)] := rfl
theorem p_turn (a b c d : D) : putS [(kSum, a), (kTurn, b), (kSand, c)] kTurn d = [(kSum, a), (kTurn, d), (kSand, c)] := rfl
theorem sl3 : 3 < sizeLine := by decide
theorem c_scoop (n : Nat) (a b : Slot) (M : List Cell) : RN (n+1) (Str.ofString "_law_scoop") [a, b] M = ofBody (evSs (CN n) bl_scoop ⟨[a, b, .no, .no], M⟩) := rfl
theorem s_scoop (n : Nat) (M : List Cell) (T : Nat) (many : Int) (P : Urn T M) (hm : 1 ≤ many) (hm2 : many < 2 ^ 60) (hT : T < 2 ^ 30) :
    ∃ v M', RN (n+1) (Str.ofString "_law_scoop") [.val (.loc 1), .val (.int many)] M = .ok (.val (.int v)) M' ∧ 0 ≤ v ∧ v < many ∧ Urn (T + 1) M' ∧ Ext M M' ∧ M'.length = M.length := by
  rw [c_scoop]
  obtain ⟨C, hC, hg⟩ := opq n
  rw [← hC]
  obtain ⟨zs, sm, tn, m0, m1, pz, s0, s1, t0', t1'⟩ := P
  have h0 : 0 < M.length := lt_get m0
  have h1 : 1 < M.length := lt_get m1
  have m1' : M[1]? = some (.dct [(kSum, .int sm), (kTurn, .int tn), (kSand, .loc 0)]) := m1
  have n0 : many ≠ 0 := by omega
  have fm := fun a => fmod_nn (a := a) (b := many) (by omega)
  have i0 : evS C l_scoop_0 ⟨[.val (.loc 1), .val (.int many), .no, .no], M⟩ = .ok .nx ⟨[.val (.loc 1), .val (.int many), .no, .no], M.set 1 (pailC sm (tn + 1))⟩ := by
    simp [evSs, evS, evX, evXs, evEs, evA, evAg, evT, evTB, evB, evG, evGs, evI, Tgs.len, varD, R.bind, biD, bi1, bi2_gcd, lif, toVal, setName_def, isRo_no, isRo_val, isRo_own, cmpD, truD, negD, binD, intOp, retD, ofBody, callD, call_CN, callkD, slots, Ar.slot, lend, ofCall, subD, seq, lis, G.atI, isTys, isTy, eqD, D.eqv, pure60, D.pure, D.deep, List.set, setD, putL, cell, methD, mtD, strI, ofSeq, plcC, plcV, unl, lock, unlock, rngD, forL, Itm.ok, stays, List.all_nil, fit0, fit1, fit2, fit3, fit4, fit5, fit6, fit7, fit8, fit9, fit10, fit11, fit12, fit13, fit14, fit15, fit16, dctOf, m1', g_turn, p_turn, sl3, pailC]
  have u0 : (M.set 1 (pailC sm (tn + 1)))[0]? = some (.lst (zs.map D.int)) := by rw [List.getElem?_set_ne (by decide)]; exact m0
  have u1 : (M.set 1 (pailC sm (tn + 1)))[1]? = some (.dct [(kSum, .int sm), (kTurn, .int (tn + 1)), (kSand, .loc 0)]) := List.getElem?_set_self h1
  have X1 : Ext M (M.set 1 (pailC sm (tn + 1))) := Ext.set (by decide)
  have N1 : (M.set 1 (pailC sm (tn + 1))).length = M.length := List.length_set
  generalize M.set 1 (pailC sm (tn + 1)) = M1 at *
  unfold bl_scoop
  rw [seq_nx i0]
  rcases List.eq_nil_or_concat zs with rfl | ⟨ws, z, hv⟩
  · have i1 : evS C l_scoop_1 ⟨[.val (.loc 1), .val (.int many), .no, .no], M1⟩ = .ok .nx ⟨[.val (.loc 1), .val (.int many), .no, .no], M1⟩ := by
      simp [evSs, evS, evX, evXs, evEs, evA, evAg, evT, evTB, evB, evG, evGs, evI, Tgs.len, varD, R.bind, biD, bi1, bi2_gcd, lif, toVal, setName_def, isRo_no, isRo_val, isRo_own, cmpD, truD, negD, binD, intOp, retD, ofBody, callD, call_CN, callkD, slots, Ar.slot, lend, ofCall, subD, seq, lis, G.atI, isTys, isTy, eqD, D.eqv, pure60, D.pure, D.deep, List.set, setD, putL, cell, methD, mtD, strI, ofSeq, plcC, plcV, unl, lock, unlock, rngD, forL, Itm.ok, stays, List.all_nil, fit0, fit1, fit2, fit3, fit4, fit5, fit6, fit7, fit8, fit9, fit10, fit11, fit12, fit13, fit14, fit15, fit16, dctOf, u1, u0, g_sand]
    have c1 : Sm sm = true := Sm64 (by omega)
    have c2 : Sm 46021 = true := Sm64 (by decide)
    have c3 : Sm (tn + 1) = true := Sm64 (by omega)
    have c4 : Sm 7919 = true := Sm64 (by decide)
    obtain ⟨q1, q2⟩ := fmod_nn (a := sm * 46021 + (tn + 1) * 7919 + 3) (b := 2147483587) (by decide)
    have i2 : evS C l_scoop_2 ⟨[.val (.loc 1), .val (.int many), .no, .no], M1⟩ = .ok .nx ⟨[.val (.loc 1), .val (.int many), .val (.int ((sm * 46021 + (tn + 1) * 7919 + 3).fmod 2147483587)), .no], M1⟩ := by
      simp [evSs, evS, evX, evXs, evEs, evA, evAg, evT, evTB, evB, evG, evGs, evI, Tgs.len, varD, R.bind, biD, bi1, bi2_gcd, lif, toVal, setName_def, isRo_no, isRo_val, isRo_own, cmpD, truD, negD, binD, intOp, retD, ofBody, callD, call_CN, callkD, slots, Ar.slot, lend, ofCall, subD, seq, lis, G.atI, isTys, isTy, eqD, D.eqv, pure60, D.pure, D.deep, List.set, setD, putL, cell, methD, mtD, strI, ofSeq, plcC, plcV, unl, lock, unlock, rngD, forL, Itm.ok, stays, List.all_nil, fit0, fit1, fit2, fit3, fit4, fit5, fit6, fit7, fit8, fit9, fit10, fit11, fit12, fit13, fit14, fit15, fit16, dctOf, u1, g_sum, g_turn, c1, c2, c3, c4]
    generalize (sm * 46021 + (tn + 1) * 7919 + 3).fmod 2147483587 = o1 at *
    have c5 : Sm o1 = true := Sm64 (by omega)
    have c6 : Sm 59 = true := Sm64 (by decide)
    obtain ⟨q3, q4⟩ := fmod_nn (a := o1 * o1 + 59 * (tn + 1)) (b := 998244353) (by decide)
    have i3 : evS C l_scoop_3 ⟨[.val (.loc 1), .val (.int many), .val (.int o1), .no], M1⟩ = .ok .nx ⟨[.val (.loc 1), .val (.int many), .val (.int o1), .val (.int ((o1 * o1 + 59 * (tn + 1)).fmod 998244353))], M1⟩ := by
      simp [evSs, evS, evX, evXs, evEs, evA, evAg, evT, evTB, evB, evG, evGs, evI, Tgs.len, varD, R.bind, biD, bi1, bi2_gcd, lif, toVal, setName_def, isRo_no, isRo_val, isRo_own, cmpD, truD, negD, binD, intOp, retD, ofBody, callD, call_CN, callkD, slots, Ar.slot, lend, ofCall, subD, seq, lis, G.atI, isTys, isTy, eqD, D.eqv, pure60, D.pure, D.deep, List.set, setD, putL, cell, methD, mtD, strI, ofSeq, plcC, plcV, unl, lock, unlock, rngD, forL, Itm.ok, stays, List.all_nil, fit0, fit1, fit2, fit3, fit4, fit5, fit6, fit7, fit8, fit9, fit10, fit11, fit12, fit13, fit14, fit15, fit16, dctOf, u1, g_turn, c3, c5, c6]
    generalize (o1 * o1 + 59 * (tn + 1)).fmod 998244353 = o2 at *
    have c7 : Sm o2 = true := Sm64 (by omega)
    have c8 : Sm 73 = true := Sm64 (by decide)
    have d7 : Sd 7 = true := by decide
    rw [seq_nx i1, seq_nx i2, seq_nx i3]
    refine ⟨(((o2 * 73 + o1).fmod 999999883).fdiv 7).fmod many, M1, ?_, (fm _).1, (fm _).2, ⟨[], sm, tn + 1, u0, u1, pz, s0, s1, by omega, by omega⟩, X1, N1⟩
    simp [evSs, evS, evX, evXs, evEs, evA, evAg, evT, evTB, evB, evG, evGs, evI, Tgs.len, varD, R.bind, biD, bi1, bi2_gcd, lif, toVal, setName_def, isRo_no, isRo_val, isRo_own, cmpD, truD, negD, binD, intOp, retD, ofBody, callD, call_CN, callkD, slots, Ar.slot, lend, ofCall, subD, seq, lis, G.atI, isTys, isTy, eqD, D.eqv, pure60, D.pure, D.deep, List.set, setD, putL, cell, methD, mtD, strI, ofSeq, plcC, plcV, unl, lock, unlock, rngD, forL, Itm.ok, stays, List.all_nil, fit0, fit1, fit2, fit3, fit4, fit5, fit6, fit7, fit8, fit9, fit10, fit11, fit12, fit13, fit14, fit15, fit16, c7, c8, d7, n0]
  · rw [List.concat_eq_append] at hv
    have pw : ∀ w ∈ ws, 0 ≤ w := fun w hw => pz w (by rw [hv]; simp [hw])
    have u0 : M1[0]? = some (.lst (ws.map D.int ++ [.int z])) := by rw [u0, hv, List.map_append]; rfl
    refine ⟨z.fmod many, M1.set 0 (.lst (ws.map D.int)), ?_, (fm _).1, (fm _).2, ⟨ws, sm, tn + 1, List.getElem?_set_self (by omega), by rw [List.getElem?_set_ne (by decide)]; exact u1, pw, s0, s1, by omega, by omega⟩, X1.trans (Ext.set (by decide)), by rw [List.length_set]; exact N1⟩
    have hl1 : (0 : Int) < (ws.length : Int) + 1 := by omega
    have i1 : evS C l_scoop_1 ⟨[.val (.loc 1), .val (.int many), .no, .no], M1⟩ = .ok (.rt (.val (.int (z.fmod many)))) ⟨[.val (.loc 1), .val (.int many), .no, .no], M1.set 0 (.lst (ws.map D.int))⟩ := by
      have hlw : (ws.map D.int).length = ws.length := List.length_map _
      generalize ws.map D.int = A at *
      simp [evSs, evS, evX, evXs, evEs, evA, evAg, evT, evTB, evB, evG, evGs, evI, Tgs.len, varD, R.bind, biD, bi1, bi2_gcd, lif, toVal, setName_def, isRo_no, isRo_val, isRo_own, cmpD, truD, negD, binD, intOp, retD, ofBody, callD, call_CN, callkD, slots, Ar.slot, lend, ofCall, subD, seq, lis, G.atI, isTys, isTy, eqD, D.eqv, pure60, D.pure, D.deep, List.set, setD, putL, cell, methD, mtD, strI, ofSeq, plcC, plcV, unl, lock, unlock, rngD, forL, Itm.ok, stays, List.all_nil, fit0, fit1, fit2, fit3, fit4, fit5, fit6, fit7, fit8, fit9, fit10, fit11, fit12, fit13, fit14, fit15, fit16, dctOf, u1, u0, g_sand, n0, hl1, hlw]
    rw [seq_rt i1]
    rfl
/-! ### names drawn -/
theorem at_str {z : Str} {i : Int} (h0 : 0 ≤ i) (h1 : i < z.cps.toList.length) : ∃ c, L2.atI z.cps.toList i = some c := by
  obtain ⟨m, rfl⟩ := Int.eq_ofNat_of_zero_le h0
  have hm : m < z.cps.toList.length := by omega
  exact ⟨z.cps.toList[m], atI_nat (List.getElem?_eq_getElem hm)⟩
abbrev sAbc : Str := Str.ofString "abcdefghijklmnopqrstuvwxyz"
abbrev sDig : Str := Str.ofString "0123456789"
theorem abc_len : sAbc.cps.toList.length = 26 ∧ (sAbc ++ sDig).cps.toList.length = 36 ∧ sAbc.length = 26 ∧ (sAbc ++ sDig).length = 36 := by decide
theorem one_len (c : Nat) : (⟨#[c]⟩ : Str).length = 1 := rfl
theorem cut7 (z : Str) (h : 1 ≤ z.length) : 1 ≤ (⟨(cut z.cps.toList none (some 7)).toArray⟩ : Str).length ∧ (⟨(cut z.cps.toList none (some 7)).toArray⟩ : Str).length ≤ 7 := by
  rw [sl_cl]
  show 1 ≤ (cut z.cps.toList none (some 7)).length ∧ (cut z.cps.toList none (some 7)).length ≤ 7
  have h2 : 1 ≤ z.cps.toList.length := by rw [← sl_cl]; exact h
  unfold cut
  have e1 : HT.sIx z.cps.toList.length 0 none = 0 := rfl
  have e2 : HT.sIx z.cps.toList.length z.cps.toList.length (some 7) = min 7 z.cps.toList.length := by
    show (if (7 : Int) < 0 then ((7 : Int) + (z.cps.toList.length : Int)).toNat else min (7 : Int).toNat z.cps.toList.length) = _
    rw [if_neg (by decide)]; rfl
  rw [e1, e2, List.drop_zero, List.length_take]
  omega
theorem c_names (n : Nat) (a b : Slot) (M : List Cell) : RN (n+1) (Str.ofString "_law_names") [a, b] M = ofBody (evSs (CN n) bl_names ⟨[a, b, .no, .no, .no, .no, .no], M⟩) := rfl
theorem s_names (n : Nat) (M : List Cell) (T : Nat) (m : Nat) (P : Urn T M) (hT : T < 2 ^ 29) (hm : m ≤ 4) :
    ∃ (ns : List Str) (M' : List Cell), RN (n+2) (Str.ofString "_law_names") [.val (.loc 1), .val (.int m)] M = .ok (.own (ns.map D.str)) M' ∧ ns.length = m ∧ (∀ x ∈ ns, NmOk x) ∧ Urn (T + 50) M' ∧ Ext M M' := by
  rw [c_names]
  obtain ⟨C, hC, hg⟩ := opq (n+1)
  rw [← hC]
  obtain ⟨ab1, ab2, ab3, ab4⟩ := abc_len
  have i0 : evS C l_names_0 ⟨[.val (.loc 1), .val (.int m), .no, .no, .no, .no, .no], M⟩ = .ok .nx ⟨[.val (.loc 1), .val (.int m), .val (.str sAbc), .no, .no, .no, .no], M⟩ := by
    simp [evSs, evS, evX, evXs, evEs, evA, evAg, evT, evTB, evB, evG, evGs, evI, Tgs.len, varD, R.bind, biD, bi1, bi2_gcd, lif, toVal, setName_def, isRo_no, isRo_val, isRo_own, cmpD, truD, negD, binD, intOp, retD, ofBody, callD, call_CN, callkD, slots, Ar.slot, lend, ofCall, subD, seq, lis, G.atI, isTys, isTy, eqD, D.eqv, pure60, D.pure, D.deep, List.set, setD, putL, cell, methD, mtD, strI, ofSeq, plcC, plcV, unl, lock, unlock, rngD, forL, Itm.ok, stays, List.all_nil, fit0, fit1, fit2, fit3, fit4, fit5, fit6, fit7, fit8, fit9, fit10, fit11, fit12, fit13, fit14, fit15, fit16]
  have i1 : evS C l_names_1 ⟨[.val (.loc 1), .val (.int m), .val (.str sAbc), .no, .no, .no, .no], M⟩ = .ok .nx ⟨[.val (.loc 1), .val (.int m), .val (.str sAbc), .own [], .no, .no, .no], M⟩ := by
    simp [evSs, evS, evX, evXs, evEs, evA, evAg, evT, evTB, evB, evG, evGs, evI, Tgs.len, varD, R.bind, biD, bi1, bi2_gcd, lif, toVal, setName_def, isRo_no, isRo_val, isRo_own, cmpD, truD, negD, binD, intOp, retD, ofBody, callD, call_CN, callkD, slots, Ar.slot, lend, ofCall, subD, seq, lis, G.atI, isTys, isTy, eqD, D.eqv, pure60, D.pure, D.deep, List.set, setD, putL, cell, methD, mtD, strI, ofSeq, plcC, plcV, unl, lock, unlock, rngD, forL, Itm.ok, stays, List.all_nil, fit0, fit1, fit2, fit3, fit4, fit5, fit6, fit7, fit8, fit9, fit10, fit11, fit12, fit13, fit14, fit15, fit16]
  have hi : evI C (.rng (.cons (.var 1) .nil)) ⟨[.val (.loc 1), .val (.int m), .val (.str sAbc), .own [], .no, .no, .no], M⟩ = .ok ⟨rngL 0 m, [], []⟩ ⟨[.val (.loc 1), .val (.int m), .val (.str sAbc), .own [], .no, .no, .no], M⟩ := evI_rngZ (z := (m : Int)) (by simp [evSs, evS, evX, evXs, evEs, evA, evAg, evT, evTB, evB, evG, evGs, evI, Tgs.len, varD, R.bind, biD, bi1, bi2_gcd, lif, toVal, setName_def, isRo_no, isRo_val, isRo_own, cmpD, truD, negD, binD, intOp, retD, ofBody, callD, call_CN, callkD, slots, Ar.slot, lend, ofCall, subD, seq, lis, G.atI, isTys, isTy, eqD, D.eqv, pure60, D.pure, D.deep, List.set, setD, putL, cell, methD, mtD, strI, ofSeq, plcC, plcV, unl, lock, unlock, rngD, forL, Itm.ok, stays, List.all_nil, fit0, fit1, fit2, fit3, fit4, fit5, fit6, fit7, fit8, fit9, fit10, fit11, fit12, fit13, fit14, fit15, fit16]) (len62 (by omega)) (Int.toNat_natCast _)
  obtain ⟨s', i2, ns, x4, x5, x6, M1, n4, n5, n6, es, ln, on, U1, X1⟩ := fors_inv l_names_2 rfl hi rfl rfl (fun j s => ∃ (ns : List Str) (x4 x5 x6 : Slot) (M' : List Cell), isRo x4 = false ∧ isRo x5 = false ∧ isRo x6 = false ∧ s = ⟨[.val (.loc 1), .val (.int m), .val (.str sAbc), .own (ns.map D.str), x4, x5, x6], M'⟩ ∧ ns.length = j ∧ (∀ x ∈ ns, NmOk x) ∧ Urn (T + 10 * j) M' ∧ Ext M M')
    ⟨[], _, _, _, _, rfl, rfl, rfl, rfl, rfl, fun x h => absurd h List.not_mem_nil, P, Ext.refl _⟩ (by
    rintro j x s hx ⟨ns, x4, x5, x6, M', n4, n5, n6, rfl, ln, on, U1, X1⟩
    obtain ⟨rfl, hj⟩ := rngL_get hx
    obtain ⟨v, M2, e2, v0, v1, U2, X2, N2⟩ := s_scoop n M' _ 26 U1 (by decide) (by decide) (by omega)
    have e2 := hg e2
    obtain ⟨c, hc⟩ := at_str (z := sAbc) v0 (by rw [ab1]; exact v1)
    have f26 : fits sAbc.length = true := by rw [ab3]; decide
    have f36 : fits (sAbc ++ sDig).length = true := by rw [ab4]; decide
    have j0 : evG C (.name 4) (.int (j : Int)) ⟨[.val (.loc 1), .val (.int m), .val (.str sAbc), .own (ns.map D.str), x4, x5, x6], M'⟩ = .ok () ⟨[.val (.loc 1), .val (.int m), .val (.str sAbc), .own (ns.map D.str), .val (.int j), x5, x6], M'⟩ := by
      simp [evSs, evS, evX, evXs, evEs, evA, evAg, evT, evTB, evB, evG, evGs, evI, Tgs.len, varD, R.bind, biD, bi1, bi2_gcd, lif, toVal, setName_def, isRo_no, isRo_val, isRo_own, cmpD, truD, negD, binD, intOp, retD, ofBody, callD, call_CN, callkD, slots, Ar.slot, lend, ofCall, subD, seq, lis, G.atI, isTys, isTy, eqD, D.eqv, pure60, D.pure, D.deep, List.set, setD, putL, cell, methD, mtD, strI, ofSeq, plcC, plcV, unl, lock, unlock, rngD, forL, Itm.ok, stays, List.all_nil, fit0, fit1, fit2, fit3, fit4, fit5, fit6, fit7, fit8, fit9, fit10, fit11, fit12, fit13, fit14, fit15, fit16, n4]
    have j1 : evS C l_names_2b_0 ⟨[.val (.loc 1), .val (.int m), .val (.str sAbc), .own (ns.map D.str), .val (.int j), x5, x6], M'⟩ = .ok .nx ⟨[.val (.loc 1), .val (.int m), .val (.str sAbc), .own (ns.map D.str), .val (.int j), .val (.str ⟨#[c]⟩), x6], M2⟩ := by
      generalize sAbc = ABC at *
      simp [evSs, evS, evX, evXs, evEs, evA, evAg, evT, evTB, evB, evG, evGs, evI, Tgs.len, varD, R.bind, biD, bi1, bi2_gcd, lif, toVal, setName_def, isRo_no, isRo_val, isRo_own, cmpD, truD, negD, binD, intOp, retD, ofBody, callD, call_CN, callkD, slots, Ar.slot, lend, ofCall, subD, seq, lis, G.atI, isTys, isTy, eqD, D.eqv, pure60, D.pure, D.deep, List.set, setD, putL, cell, methD, mtD, strI, ofSeq, plcC, plcV, unl, lock, unlock, rngD, forL, Itm.ok, stays, List.all_nil, fit0, fit1, fit2, fit3, fit4, fit5, fit6, fit7, fit8, fit9, fit10, fit11, fit12, fit13, fit14, fit15, fit16, n5, e2, hc, f26]
    obtain ⟨u, M3, e3, u0, u1, U3, X3, N3⟩ := s_scoop n M2 _ 7 U2 (by decide) (by decide) (by omega)
    have e3 := hg e3
    have hi2 : evI C (.rng (.cons (.call (Str.ofString "_law_scoop") (.cons (.v (.var 0)) (.cons (.v (.cst (.int 7))) (.nil)))) .nil)) ⟨[.val (.loc 1), .val (.int m), .val (.str sAbc), .own (ns.map D.str), .val (.int j), .val (.str ⟨#[c]⟩), x6], M2⟩ = .ok ⟨rngL 0 u.toNat, [], []⟩ ⟨[.val (.loc 1), .val (.int m), .val (.str sAbc), .own (ns.map D.str), .val (.int j), .val (.str ⟨#[c]⟩), x6], M3⟩ := evI_rngZ (z := u) (by
      generalize sAbc = ABC at *
      simp [evSs, evS, evX, evXs, evEs, evA, evAg, evT, evTB, evB, evG, evGs, evI, Tgs.len, varD, R.bind, biD, bi1, bi2_gcd, lif, toVal, setName_def, isRo_no, isRo_val, isRo_own, cmpD, truD, negD, binD, intOp, retD, ofBody, callD, call_CN, callkD, slots, Ar.slot, lend, ofCall, subD, seq, lis, G.atI, isTys, isTy, eqD, D.eqv, pure60, D.pure, D.deep, List.set, setD, putL, cell, methD, mtD, strI, ofSeq, plcC, plcV, unl, lock, unlock, rngD, forL, Itm.ok, stays, List.all_nil, fit0, fit1, fit2, fit3, fit4, fit5, fit6, fit7, fit8, fit9, fit10, fit11, fit12, fit13, fit14, fit15, fit16, e3]) (by unfold in62; rw [Bool.and_eq_true, decide_eq_true_eq, decide_eq_true_eq]; omega) rfl
    obtain ⟨s', j2, nm, y6, M4, n6', es, lnm, U4, X4⟩ := fors_inv l_names_2b_1 rfl hi2 rfl rfl (fun i s => ∃ (nm : Str) (x6 : Slot) (M4 : List Cell), isRo x6 = false ∧ s = ⟨[.val (.loc 1), .val (.int m), .val (.str sAbc), .own (ns.map D.str), .val (.int j), .val (.str nm), x6], M4⟩ ∧ nm.length = i + 1 ∧ Urn (T + 10 * j + 2 + i) M4 ∧ Ext M M4)
      ⟨_, x6, M3, n6, rfl, rfl, U3, (X1.trans X2).trans X3⟩ (by
      rintro i x s hx ⟨nm, x6, M4, n6, rfl, lnm, U4, X4⟩
      obtain ⟨rfl, hi⟩ := rngL_get hx
      obtain ⟨v2, M5, e5, v20, v21, U5, X5, N5⟩ := s_scoop n M4 _ 36 U4 (by decide) (by decide) (by omega)
      have e5 := hg e5
      obtain ⟨c2, hc2⟩ := at_str (z := sAbc ++ sDig) v20 (by rw [ab2]; exact v21)
      have a1 := sadd (x := sAbc) (y := sDig) (by rw [ab3]; have : sDig.length = 10 := by decide
                                                  omega)
      have a2 := sadd (x := nm) (y := ⟨#[c2]⟩) (by rw [one_len]; omega)
      refine ⟨⟨[.val (.loc 1), .val (.int m), .val (.str sAbc), .own (ns.map D.str), .val (.int j), .val (.str (nm ++ ⟨#[c2]⟩)), .val (.int i)], M5⟩, ?_, nm ++ ⟨#[c2]⟩, _, _, rfl, rfl, by rw [sl_app, one_len, lnm], U5.up _ (by omega), X4.trans X5⟩
      generalize sAbc ++ sDig = ABD at *
      generalize sAbc = ABC at *
      simp [evSs, evS, evX, evXs, evEs, evA, evAg, evT, evTB, evB, evG, evGs, evI, Tgs.len, varD, R.bind, biD, bi1, bi2_gcd, lif, toVal, setName_def, isRo_no, isRo_val, isRo_own, cmpD, truD, negD, binD, intOp, retD, ofBody, callD, call_CN, callkD, slots, Ar.slot, lend, ofCall, subD, seq, lis, G.atI, isTys, isTy, eqD, D.eqv, pure60, D.pure, D.deep, List.set, setD, putL, cell, methD, mtD, strI, ofSeq, plcC, plcV, unl, lock, unlock, rngD, forL, Itm.ok, stays, List.all_nil, fit0, fit1, fit2, fit3, fit4, fit5, fit6, fit7, fit8, fit9, fit10, fit11, fit12, fit13, fit14, fit15, fit16, n6, e5, hc2, f36, a1, a2])
    subst es
    dsimp only at lnm U4
    rw [rngL_len] at lnm U4
    have hcut := cut7 nm (by omega)
    have hsl : ∀ s : S, slcD (.val (.str nm)) none (some 7) s = some (.val (.str ⟨(cut nm.cps.toList none (some 7)).toArray⟩)) := fun s => by
      have : fits nm.length = true := fits_lt (by omega)
      simp only [slcD, this, if_true]
    have hts := ts_str (j : Int) (by omega)
    have lts := ts_len (j : Int) (by omega)
    generalize (⟨(cut nm.cps.toList none (some 7)).toArray⟩ : Str) = nm7 at *
    have a3 := sadd (x := nm7) (y := ts j) (by omega)
    have hl : ns.length < sizeLine := lt_sizeLine (by omega)
    have hap : (ns ++ [nm7 ++ ts j]).map D.str = ns.map D.str ++ [.str (nm7 ++ ts j)] := by rw [List.map_append]; rfl
    have j3 : evS C l_names_2b_2 ⟨[.val (.loc 1), .val (.int m), .val (.str sAbc), .own (ns.map D.str), .val (.int j), .val (.str nm), y6], M4⟩ = .ok .nx ⟨[.val (.loc 1), .val (.int m), .val (.str sAbc), .own ((ns ++ [nm7 ++ ts j]).map D.str), .val (.int j), .val (.str nm), y6], M4⟩ := by
      rw [hap]
      have hln : (ns.map D.str).length = ns.length := List.length_map _
      generalize ns.map D.str = NS at *
      generalize ts j = tj at *
      generalize sAbc = ABC at *
      simp [evSs, evS, evX, evXs, evEs, evA, evAg, evT, evTB, evB, evG, evGs, evI, Tgs.len, varD, R.bind, biD, bi1, bi2_gcd, lif, toVal, setName_def, isRo_no, isRo_val, isRo_own, cmpD, truD, negD, binD, intOp, retD, ofBody, callD, call_CN, callkD, slots, Ar.slot, lend, ofCall, subD, seq, lis, G.atI, isTys, isTy, eqD, D.eqv, pure60, D.pure, D.deep, List.set, setD, putL, cell, methD, mtD, ofSeq, plcC, plcV, unl, lock, unlock, rngD, forL, Itm.ok, stays, List.all_nil, fit0, fit1, fit2, fit3, fit4, fit5, fit6, fit7, fit8, fit9, fit10, fit11, fit12, fit13, fit14, fit15, fit16, evO, optI, hsl, hts, a3, hln, hl]
    refine ⟨⟨[.val (.loc 1), .val (.int m), .val (.str sAbc), .own ((ns ++ [nm7 ++ ts j]).map D.str), .val (.int j), .val (.str nm), y6], M4⟩, ?_, ns ++ [nm7 ++ ts j], _, _, _, _, rfl, rfl, n6', rfl, by simp [ln], fun x hx => ?_, U4.up _ (by omega), X4⟩
    · rw [j0]
      refine bind_ok ?_
      show evSs C l_names_2b _ = _
      rw [seq_nx j1, seq_nx j2, seq_nx j3, evSs]
    · rcases List.mem_append.mp hx with hx | hx
      · exact on x hx
      · rw [List.mem_singleton.mp hx]
        exact ⟨by rw [sl_app]; omega, by rw [sl_app]; omega⟩)
  subst es
  dsimp only at ln U1
  rw [rngL_len] at ln U1
  refine ⟨ns, M1, ?_, ln, on, U1.up _ (by omega), X1⟩
  unfold bl_names
  rw [seq_nx i0, seq_nx i1, seq_nx i2]
  generalize ns.map D.str = NS at *
  simp [evSs, evS, evX, evXs, evEs, evA, evAg, evT, evTB, evB, evG, evGs, evI, Tgs.len, varD, R.bind, biD, bi1, bi2_gcd, lif, toVal, setName_def, isRo_no, isRo_val, isRo_own, cmpD, truD, negD, binD, intOp, retD, ofBody, callD, call_CN, callkD, slots, Ar.slot, lend, ofCall, subD, seq, lis, G.atI, isTys, isTy, eqD, D.eqv, pure60, D.pure, D.deep, List.set, setD, putL, cell, methD, mtD, strI, ofSeq, plcC, plcV, unl, lock, unlock, rngD, forL, Itm.ok, stays, List.all_nil, fit0, fit1, fit2, fit3, fit4, fit5, fit6, fit7, fit8, fit9, fit10, fit11, fit12, fit13, fit14, fit15, fit16]
end G

/-! ## W9 -/
set_option Elab.async false
set_option linter.all false
set_option maxRecDepth 100000
set_option maxHeartbeats 8000000
namespace G
open PySem
theorem atI_ints {L : List Int} {k : Int} (h0 : 0 ≤ k) (h1 : k < L.length) : ∃ i ∈ L, L2.atI (L.map D.int) k = some (.int i) := by
  obtain ⟨m, rfl⟩ := Int.eq_ofNat_of_zero_le h0
  have hm : m < L.length := by omega
  exact ⟨L[m], List.getElem_mem hm, atI_nat (by rw [List.getElem?_map, List.getElem?_eq_getElem hm]; rfl)⟩
theorem atI_strs {L : List Str} {k : Int} (h0 : 0 ≤ k) (h1 : k < L.length) : ∃ i ∈ L, L2.atI (L.map D.str) k = some (.str i) := by
  obtain ⟨m, rfl⟩ := Int.eq_ofNat_of_zero_le h0
  have hm : m < L.length := by omega
  exact ⟨L[m], List.getElem_mem hm, atI_nat (by rw [List.getElem?_map, List.getElem?_eq_getElem hm]; rfl)⟩
/-! ### questions drawn -/
theorem c_question (n : Nat) (a b : Slot) (M : List Cell) : RN (n+1) (Str.ofString "_law_question") [a, b] M = ofBody (evSs (CN n) bl_question ⟨[a, b, .no, .no, .no, .no, .no], M⟩) := rfl
def QS (m : Nat) (ps : List Int) (k : Int) : Prop := ps.length = m ∧ (∀ p ∈ ps, p.natAbs ≤ 9) ∧ k.natAbs ≤ 99
theorem s_question (n : Nat) (M : List Cell) (T : Nat) (m : Nat) (P : Urn T M) (hT : T < 2 ^ 29) (hm : m ≤ 4) :
    ∃ (ps : List Int) (k : Int) (M' : List Cell), RN (n+2) (Str.ofString "_law_question") [.val (.loc 1), .val (.int m)] M = .ok (.val (quD ps k)) M' ∧ QS m ps k ∧ Urn (T + 20) M' ∧ Ext M M' := by
  rw [c_question]
  obtain ⟨C, hC, hg⟩ := opq (n+1)
  rw [← hC]
  obtain ⟨wy, M0, e0, w0, w5, U0, X0, N0⟩ := s_scoop n M _ 5 P (by decide) (by decide) (by omega)
  have e0 := hg e0
  have i0 : evS C l_question_0 ⟨[.val (.loc 1), .val (.int m), .no, .no, .no, .no, .no], M⟩ = .ok .nx ⟨[.val (.loc 1), .val (.int m), .val (.int wy), .no, .no, .no, .no], M0⟩ := by
    simp [evSs, evS, evX, evXs, evEs, evA, evAg, evT, evTB, evB, evG, evGs, evI, Tgs.len, varD, R.bind, biD, bi1, bi2_gcd, lif, toVal, setName_def, isRo_no, isRo_val, isRo_own, cmpD, truD, negD, binD, intOp, retD, ofBody, callD, call_CN, callkD, slots, Ar.slot, lend, ofCall, subD, seq, lis, G.atI, isTys, isTy, eqD, D.eqv, pure60, D.pure, D.deep, List.set, setD, putL, cell, methD, mtD, strI, ofSeq, plcC, plcV, unl, lock, unlock, rngD, forL, Itm.ok, stays, List.all_nil, fit0, fit1, fit2, fit3, fit4, fit5, fit6, fit7, fit8, fit9, fit10, fit11, fit12, fit13, fit14, fit15, fit16, e0]
  have i1 : evS C l_question_1 ⟨[.val (.loc 1), .val (.int m), .val (.int wy), .no, .no, .no, .no], M0⟩ = .ok .nx ⟨[.val (.loc 1), .val (.int m), .val (.int wy), .own [], .no, .no, .no], M0⟩ := by
    simp [evSs, evS, evX, evXs, evEs, evA, evAg, evT, evTB, evB, evG, evGs, evI, Tgs.len, varD, R.bind, biD, bi1, bi2_gcd, lif, toVal, setName_def, isRo_no, isRo_val, isRo_own, cmpD, truD, negD, binD, intOp, retD, ofBody, callD, call_CN, callkD, slots, Ar.slot, lend, ofCall, subD, seq, lis, G.atI, isTys, isTy, eqD, D.eqv, pure60, D.pure, D.deep, List.set, setD, putL, cell, methD, mtD, strI, ofSeq, plcC, plcV, unl, lock, unlock, rngD, forL, Itm.ok, stays, List.all_nil, fit0, fit1, fit2, fit3, fit4, fit5, fit6, fit7, fit8, fit9, fit10, fit11, fit12, fit13, fit14, fit15, fit16]
  have hi : evI C (.rng (.cons (.var 1) .nil)) ⟨[.val (.loc 1), .val (.int m), .val (.int wy), .own [], .no, .no, .no], M0⟩ = .ok ⟨rngL 0 m, [], []⟩ ⟨[.val (.loc 1), .val (.int m), .val (.int wy), .own [], .no, .no, .no], M0⟩ := evI_rngZ (z := (m : Int)) (by simp [evSs, evS, evX, evXs, evEs, evA, evAg, evT, evTB, evB, evG, evGs, evI, Tgs.len, varD, R.bind, biD, bi1, bi2_gcd, lif, toVal, setName_def, isRo_no, isRo_val, isRo_own, cmpD, truD, negD, binD, intOp, retD, ofBody, callD, call_CN, callkD, slots, Ar.slot, lend, ofCall, subD, seq, lis, G.atI, isTys, isTy, eqD, D.eqv, pure60, D.pure, D.deep, List.set, setD, putL, cell, methD, mtD, strI, ofSeq, plcC, plcV, unl, lock, unlock, rngD, forL, Itm.ok, stays, List.all_nil, fit0, fit1, fit2, fit3, fit4, fit5, fit6, fit7, fit8, fit9, fit10, fit11, fit12, fit13, fit14, fit15, fit16]) (len62 (by omega)) (Int.toNat_natCast _)
  obtain ⟨s', i2, ps, x4, x5, M1, n4, n5, es, lp, sp, U1, X1⟩ := fors_inv l_question_2 rfl hi rfl rfl (fun j s => ∃ (ps : List Int) (x4 x5 : Slot) (M' : List Cell), isRo x4 = false ∧ isRo x5 = false ∧ s = ⟨[.val (.loc 1), .val (.int m), .val (.int wy), .own (ps.map D.int), x4, x5, .no], M'⟩ ∧ ps.length = j ∧ (∀ p ∈ ps, p.natAbs ≤ 9) ∧ Urn (T + 1 + 3 * j) M' ∧ Ext M M')
    ⟨[], _, _, _, rfl, rfl, rfl, rfl, fun p h => absurd h List.not_mem_nil, U0, X0⟩ (by
    rintro j x s hx ⟨ps, x4, x5, M', n4, n5, rfl, lp, sp, U1, X1⟩
    obtain ⟨rfl, hj⟩ := rngL_get hx
    obtain ⟨w, M2, e2, w0, w1, U2, X2, N2⟩ := s_scoop n M' _ 19 U1 (by decide) (by decide) (by omega)
    have e2 := hg e2
    obtain ⟨v, M3, e3, v0, v1, U3, X3, N3⟩ := s_scoop n M2 _ 7 U2 (by decide) (by decide) (by omega)
    have e3 := hg e3
    obtain ⟨i, hi, ha⟩ := atI_ints (L := [0, 1, -1, 9, -9, w - 9, 2]) v0 v1
    have ha : L2.atI [D.int 0, .int 1, .int (-1), .int 9, .int (-9), .int (w - 9), .int 2] v = some (.int i) := ha
    have hi9 : i.natAbs ≤ 9 := by
      simp only [List.mem_cons, List.not_mem_nil, or_false] at hi
      omega
    have hl : ps.length < sizeLine := lt_sizeLine (by omega)
    have hlm : (ps.map D.int).length = ps.length := List.length_map _
    have j0 : evG C (.name 4) (.int (j : Int)) ⟨[.val (.loc 1), .val (.int m), .val (.int wy), .own (ps.map D.int), x4, x5, .no], M'⟩ = .ok () ⟨[.val (.loc 1), .val (.int m), .val (.int wy), .own (ps.map D.int), .val (.int j), x5, .no], M'⟩ := by
      simp [evSs, evS, evX, evXs, evEs, evA, evAg, evT, evTB, evB, evG, evGs, evI, Tgs.len, varD, R.bind, biD, bi1, bi2_gcd, lif, toVal, setName_def, isRo_no, isRo_val, isRo_own, cmpD, truD, negD, binD, intOp, retD, ofBody, callD, call_CN, callkD, slots, Ar.slot, lend, ofCall, subD, seq, lis, G.atI, isTys, isTy, eqD, D.eqv, pure60, D.pure, D.deep, List.set, setD, putL, cell, methD, mtD, strI, ofSeq, plcC, plcV, unl, lock, unlock, rngD, forL, Itm.ok, stays, List.all_nil, fit0, fit1, fit2, fit3, fit4, fit5, fit6, fit7, fit8, fit9, fit10, fit11, fit12, fit13, fit14, fit15, fit16, n4]
    have j1 : evS C l_question_2b_0 ⟨[.val (.loc 1), .val (.int m), .val (.int wy), .own (ps.map D.int), .val (.int j), x5, .no], M'⟩ = .ok .nx ⟨[.val (.loc 1), .val (.int m), .val (.int wy), .own (ps.map D.int), .val (.int j), .val (.int i), .no], M3⟩ := by
      simp [evSs, evS, evX, evXs, evEs, evA, evAg, evT, evTB, evB, evG, evGs, evI, Tgs.len, varD, R.bind, biD, bi1, bi2_gcd, lif, toVal, setName_def, isRo_no, isRo_val, isRo_own, cmpD, truD, negD, binD, intOp, retD, ofBody, callD, call_CN, callkD, slots, Ar.slot, lend, ofCall, subD, seq, lis, G.atI, isTys, isTy, eqD, D.eqv, pure60, D.pure, D.deep, List.set, setD, putL, cell, methD, mtD, strI, ofSeq, plcC, plcV, unl, lock, unlock, rngD, forL, Itm.ok, stays, List.all_nil, fit0, fit1, fit2, fit3, fit4, fit5, fit6, fit7, fit8, fit9, fit10, fit11, fit12, fit13, fit14, fit15, fit16, n5, e2, e3, ha]
    obtain ⟨i', M4, hi', j2, U4, X4⟩ : ∃ (i' : Int) (M4 : List Cell), i'.natAbs ≤ 9 ∧ evS C l_question_2b_1 ⟨[.val (.loc 1), .val (.int m), .val (.int wy), .own (ps.map D.int), .val (.int j), .val (.int i), .no], M3⟩ = .ok .nx ⟨[.val (.loc 1), .val (.int m), .val (.int wy), .own (ps.map D.int ++ [.int i']), .val (.int j), .val (.int i), .no], M4⟩ ∧ Urn (T + 1 + 3 * j + 3) M4 ∧ Ext M3 M4 := by
      by_cases hw : 0 < wy
      · refine ⟨i, M3, hi9, ?_, U3.up _ (by omega), Ext.refl _⟩
        generalize ps.map D.int = PS at *
        simp [evSs, evS, evX, evXs, evEs, evA, evAg, evT, evTB, evB, evG, evGs, evI, Tgs.len, varD, R.bind, biD, bi1, bi2_gcd, lif, toVal, setName_def, isRo_no, isRo_val, isRo_own, cmpD, truD, negD, binD, intOp, retD, ofBody, callD, call_CN, callkD, slots, Ar.slot, lend, ofCall, subD, seq, lis, G.atI, isTys, isTy, eqD, D.eqv, pure60, D.pure, D.deep, List.set, setD, putL, cell, methD, mtD, strI, ofSeq, plcC, plcV, unl, lock, unlock, rngD, forL, Itm.ok, stays, List.all_nil, fit0, fit1, fit2, fit3, fit4, fit5, fit6, fit7, fit8, fit9, fit10, fit11, fit12, fit13, fit14, fit15, fit16, hw, hlm, hl]
      · obtain ⟨u, M4, e4, u0, u1, U4, X4, N4⟩ := s_scoop n M3 _ 2 U3 (by decide) (by decide) (by omega)
        have e4 := hg e4
        obtain ⟨i2, hi2, ha2⟩ := atI_ints (L := [0, i]) u0 u1
        have ha2 : L2.atI [D.int 0, .int i] u = some (.int i2) := ha2
        refine ⟨i2, M4, ?_, ?_, U4.up _ (by omega), X4⟩
        · simp only [List.mem_cons, List.not_mem_nil, or_false] at hi2
          omega
        · generalize ps.map D.int = PS at *
          simp [evSs, evS, evX, evXs, evEs, evA, evAg, evT, evTB, evB, evG, evGs, evI, Tgs.len, varD, R.bind, biD, bi1, bi2_gcd, lif, toVal, setName_def, isRo_no, isRo_val, isRo_own, cmpD, truD, negD, binD, intOp, retD, ofBody, callD, call_CN, callkD, slots, Ar.slot, lend, ofCall, subD, seq, lis, G.atI, isTys, isTy, eqD, D.eqv, pure60, D.pure, D.deep, List.set, setD, putL, cell, methD, mtD, strI, ofSeq, plcC, plcV, unl, lock, unlock, rngD, forL, Itm.ok, stays, List.all_nil, fit0, fit1, fit2, fit3, fit4, fit5, fit6, fit7, fit8, fit9, fit10, fit11, fit12, fit13, fit14, fit15, fit16, hw, hlm, hl, e4, ha2]
    refine ⟨⟨[.val (.loc 1), .val (.int m), .val (.int wy), .own ((ps ++ [i']).map D.int), .val (.int j), .val (.int i), .no], M4⟩, ?_, ps ++ [i'], _, _, _, rfl, rfl, rfl, by simp [lp], fun p hp => ?_, U4.up _ (by omega), ((X1.trans X2).trans X3).trans X4⟩
    · have hap : (ps ++ [i']).map D.int = ps.map D.int ++ [.int i'] := by rw [List.map_append]; rfl
      rw [hap, j0]
      refine bind_ok ?_
      show evSs C l_question_2b _ = _
      rw [seq_nx j1, seq_nx j2, evSs]
    · rcases List.mem_append.mp hp with hp | hp
      · exact sp p hp
      · rw [List.mem_singleton.mp hp]; exact hi')
  subst es
  dsimp only at lp U1
  rw [rngL_len] at lp U1
  obtain ⟨w, M2, e2, w0, w1, U2, X2, N2⟩ := s_scoop n M1 _ 199 U1 (by decide) (by decide) (by omega)
  have e2 := hg e2
  obtain ⟨v, M3, e3, v0, v1, U3, X3, N3⟩ := s_scoop n M2 _ 6 U2 (by decide) (by decide) (by omega)
  have e3 := hg e3
  obtain ⟨i, hi, ha⟩ := atI_ints (L := [0, 1, -1, 99, -99, w - 99]) v0 v1
  have ha : L2.atI [D.int 0, .int 1, .int (-1), .int 99, .int (-99), .int (w - 99)] v = some (.int i) := ha
  have hi99 : i.natAbs ≤ 99 := by
    simp only [List.mem_cons, List.not_mem_nil, or_false] at hi
    omega
  refine ⟨ps, i, M3, ?_, ⟨lp, sp, hi99⟩, U3.up _ (by omega), (X1.trans X2).trans X3⟩
  unfold bl_question
  rw [seq_nx i0, seq_nx i1, seq_nx i2]
  simp [evSs, evS, evX, evXs, evEs, evA, evAg, evT, evTB, evB, evG, evGs, evI, Tgs.len, varD, R.bind, biD, bi1, bi2_gcd, lif, toVal, setName_def, isRo_no, isRo_val, isRo_own, cmpD, truD, negD, binD, intOp, retD, ofBody, callD, call_CN, callkD, slots, Ar.slot, lend, ofCall, subD, seq, lis, G.atI, isTys, isTy, eqD, D.eqv, pure60, D.pure, D.deep, List.set, setD, putL, cell, methD, mtD, strI, ofSeq, plcC, plcV, unl, lock, unlock, rngD, forL, Itm.ok, stays, List.all_nil, fit0, fit1, fit2, fit3, fit4, fit5, fit6, fit7, fit8, fit9, fit10, fit11, fit12, fit13, fit14, fit15, fit16, e2, e3, ha, quD, inD']
/-! ### programs drawn -/
def Pk (m : Nat) : Pg → Prop
  | .tell w => w.length ≤ 20
  | .ask ps k y o => QS m ps k ∧ Pk m y ∧ Pk m o
theorem pk_qw {rs : List (Str × Int)} : ∀ {p : Pg}, Pk rs.length p → Qw rs p
  | .tell w, h => h
  | .ask ps k y o, h => ⟨h.1, pk_qw h.2.1, pk_qw h.2.2⟩
theorem nodes_asks : ∀ p : Pg, nodes p = 2 * asks p + 1
  | .tell _ => rfl
  | .ask ps k y o => by rw [nodes, asks, nodes_asks y, nodes_asks o]; omega
theorem c_program (n : Nat) (a b c d : Slot) (M : List Cell) : RN (n+1) (Str.ofString "_law_program") [a, b, c, d] M = ofBody (evSs (CN n) bl_program ⟨[a, b, c, d, .no, .no], M⟩) := rfl
theorem s_program (m : Nat) (hm : m ≤ 4) (c : Nat) (hc2 : 2 ≤ c) : ∀ (d n : Nat) (M : List Cell) (T l : Nat), d + 2 ≤ n → Urn T M → M[c]? = some (.lst [.int l]) → T + (50 * 2 ^ (d + 1) - 30) < 2 ^ 29 → d ≤ 6 → l ≤ 100 →
    ∃ (p : Pg) (l' : Nat) (M' : List Cell), RN (n+1) (Str.ofString "_law_program") [.val (.loc 1), .val (.int m), .val (.int d), .val (.loc c)] M = .ok (.val (pgD p)) M' ∧ Pk m p ∧ dep p ≤ d ∧ asks p + l' ≤ l ∧ Urn (T + (50 * 2 ^ (d + 1) - 30)) M' ∧ M'[c]? = some (.lst [.int l'])
  | d, n, M, T, l, hdn, P, gc, hT, hd, hl => by
    rw [c_program]
    obtain ⟨C, hC, hg⟩ := opq n
    rw [← hC]
    have h2d : 1 ≤ 2 ^ d := Nat.one_le_two_pow
    have h2s : 2 ^ (d + 1) = 2 * 2 ^ d := by rw [Nat.pow_succ]; omega
    obtain ⟨n', rfl⟩ : ∃ k, n = k + 1 := ⟨n - 1, by omega⟩
    -- a tell
    have tellR : ∀ (M1 : List Cell) (T1 : Nat), Urn T1 M1 → T1 ≤ T + 1 → M1[c]? = some (.lst [.int l]) → (evT C (.b false (.cons (.x (.cmp .Eq (.var 2) (.cst (.int 0)))) (.cons (.x (.cmp .Eq (.sub (.var 3) (.cst (.int 0))) (.cst (.int 0)))) (.cons (.x (.cmp .Eq (.call (Str.ofString "_law_scoop") (.cons (.v (.var 0)) (.cons (.v (.cst (.int 5))) (.nil)))) (.cst (.int 0)))) (.nil))))) ⟨[.val (.loc 1), .val (.int m), .val (.int d), .val (.loc c), .no, .no], M⟩ = .ok true ⟨[.val (.loc 1), .val (.int m), .val (.int d), .val (.loc c), .no, .no], M1⟩) →
        ∃ (p : Pg) (l' : Nat) (M' : List Cell), ofBody (evSs C bl_program ⟨[.val (.loc 1), .val (.int m), .val (.int d), .val (.loc c), .no, .no], M⟩) = .ok (.val (pgD p)) M' ∧ Pk m p ∧ dep p ≤ d ∧ asks p + l' ≤ l ∧ Urn (T + (50 * 2 ^ (d + 1) - 30)) M' ∧ M'[c]? = some (.lst [.int l']) := fun M1 T1 U1 hT1 g1 et => by
      obtain ⟨v, M2, e2, v0, v1, U2, X2, N2⟩ := s_scoop n' M1 T1 6 U1 (by decide) (by decide) (by omega)
      have e2 := hg e2
      obtain ⟨a, ha0, ha⟩ := atI_strs (L := [Str.ofString "late", Str.ofString "hot", Str.ofString "a", Str.ofString "b2", Str.ofString "zzzzzzz9", Str.ofString "zeros"]) v0 v1
      have ha : L2.atI [D.str (Str.ofString "late"), .str (Str.ofString "hot"), .str (Str.ofString "a"), .str (Str.ofString "b2"), .str (Str.ofString "zzzzzzz9"), .str (Str.ofString "zeros")] v = some (.str a) := ha
      have hal : a.length ≤ 20 := by
        have : ∀ x ∈ [Str.ofString "late", Str.ofString "hot", Str.ofString "a", Str.ofString "b2", Str.ofString "zzzzzzz9", Str.ofString "zeros"], x.length ≤ 20 := by decide
        exact this a ha0
      refine ⟨.tell a, l, M2, ?_, hal, Nat.zero_le _, by show 0 + l ≤ l; omega, U2.up _ (by omega), X2.get hc2 g1⟩
      have : evSs C bl_program ⟨[.val (.loc 1), .val (.int m), .val (.int d), .val (.loc c), .no, .no], M⟩ = .ok (.rt (.val (pgD (.tell a)))) ⟨[.val (.loc 1), .val (.int m), .val (.int d), .val (.loc c), .no, .no], M2⟩ := by
        refine seq_rt (ite_t et ?_)
        simp [evSs, evS, evX, evXs, evEs, evA, evAg, evT, evTB, evB, evG, evGs, evI, Tgs.len, varD, R.bind, biD, bi1, bi2_gcd, lif, toVal, setName_def, isRo_no, isRo_val, isRo_own, cmpD, truD, negD, binD, intOp, retD, ofBody, callD, call_CN, callkD, slots, Ar.slot, lend, ofCall, subD, seq, lis, G.atI, isTys, isTy, eqD, D.eqv, pure60, D.pure, D.deep, List.set, setD, putL, cell, methD, mtD, strI, ofSeq, plcC, plcV, unl, lock, unlock, rngD, forL, Itm.ok, stays, List.all_nil, fit0, fit1, fit2, fit3, fit4, fit5, fit6, fit7, fit8, fit9, fit10, fit11, fit12, fit13, fit14, fit15, fit16, e2, ha, pgD]
      rw [this]
      rfl
    by_cases hd0 : d = 0
    · refine tellR M T P (by omega) gc ?_
      subst hd0
      simp [evSs, evS, evX, evXs, evEs, evA, evAg, evT, evTB, evB, evG, evGs, evI, Tgs.len, varD, R.bind, biD, bi1, bi2_gcd, lif, toVal, setName_def, isRo_no, isRo_val, isRo_own, cmpD, truD, negD, binD, intOp, retD, ofBody, callD, call_CN, callkD, slots, Ar.slot, lend, ofCall, subD, seq, lis, G.atI, isTys, isTy, eqD, D.eqv, pure60, D.pure, D.deep, List.set, setD, putL, cell, methD, mtD, strI, ofSeq, plcC, plcV, unl, lock, unlock, rngD, forL, Itm.ok, stays, List.all_nil, fit0, fit1, fit2, fit3, fit4, fit5, fit6, fit7, fit8, fit9, fit10, fit11, fit12, fit13, fit14, fit15, fit16]
    have hdi : ¬ (d : Int) = 0 := by omega
    by_cases hl0 : l = 0
    · refine tellR M T P (by omega) gc ?_
      subst hl0
      have a00 : L2.atI [D.int 0] 0 = some (.int 0) := rfl
      simp [evSs, evS, evX, evXs, evEs, evA, evAg, evT, evTB, evB, evG, evGs, evI, Tgs.len, varD, R.bind, biD, bi1, bi2_gcd, lif, toVal, setName_def, isRo_no, isRo_val, isRo_own, cmpD, truD, negD, binD, intOp, retD, ofBody, callD, call_CN, callkD, slots, Ar.slot, lend, ofCall, subD, seq, lis, G.atI, isTys, isTy, eqD, D.eqv, pure60, D.pure, D.deep, List.set, setD, putL, cell, methD, mtD, strI, ofSeq, plcC, plcV, unl, lock, unlock, rngD, forL, Itm.ok, stays, List.all_nil, fit0, fit1, fit2, fit3, fit4, fit5, fit6, fit7, fit8, fit9, fit10, fit11, fit12, fit13, fit14, fit15, fit16, hdi, hd0, gc, a00]
    have hli : ¬ (l : Int) = 0 := by omega
    obtain ⟨v, M1, e1, v0, v1, U1, X1, N1⟩ := s_scoop n' M T 5 P (by decide) (by decide) (by omega)
    have e1 := hg e1
    have g1 := X1.get hc2 gc
    have a10 : L2.atI [D.int (l : Int)] 0 = some (.int l) := rfl
    by_cases hv : v = 0
    · refine tellR M1 (T+1) U1 (by omega) g1 ?_
      subst hv
      simp [evSs, evS, evX, evXs, evEs, evA, evAg, evT, evTB, evB, evG, evGs, evI, Tgs.len, varD, R.bind, biD, bi1, bi2_gcd, lif, toVal, setName_def, isRo_no, isRo_val, isRo_own, cmpD, truD, negD, binD, intOp, retD, ofBody, callD, call_CN, callkD, slots, Ar.slot, lend, ofCall, subD, seq, lis, G.atI, isTys, isTy, eqD, D.eqv, pure60, D.pure, D.deep, List.set, setD, putL, cell, methD, mtD, strI, ofSeq, plcC, plcV, unl, lock, unlock, rngD, forL, Itm.ok, stays, List.all_nil, fit0, fit1, fit2, fit3, fit4, fit5, fit6, fit7, fit8, fit9, fit10, fit11, fit12, fit13, fit14, fit15, fit16, hdi, hd0, gc, a10, hli, hl0, e1]
    have i0 : evS C l_program_0 ⟨[.val (.loc 1), .val (.int m), .val (.int d), .val (.loc c), .no, .no], M⟩ = .ok .nx ⟨[.val (.loc 1), .val (.int m), .val (.int d), .val (.loc c), .no, .no], M1⟩ := by
      simp [evSs, evS, evX, evXs, evEs, evA, evAg, evT, evTB, evB, evG, evGs, evI, Tgs.len, varD, R.bind, biD, bi1, bi2_gcd, lif, toVal, setName_def, isRo_no, isRo_val, isRo_own, cmpD, truD, negD, binD, intOp, retD, ofBody, callD, call_CN, callkD, slots, Ar.slot, lend, ofCall, subD, seq, lis, G.atI, isTys, isTy, eqD, D.eqv, pure60, D.pure, D.deep, List.set, setD, putL, cell, methD, mtD, strI, ofSeq, plcC, plcV, unl, lock, unlock, rngD, forL, Itm.ok, stays, List.all_nil, fit0, fit1, fit2, fit3, fit4, fit5, fit6, fit7, fit8, fit9, fit10, fit11, fit12, fit13, fit14, fit15, fit16, hdi, hd0, gc, a10, hli, hl0, e1, hv]
    have hc1 : c < M1.length := lt_get g1
    have ix1 : L2.ixN 1 0 = some 0 := by decide
    have i1 : evS C l_program_1 ⟨[.val (.loc 1), .val (.int m), .val (.int d), .val (.loc c), .no, .no], M1⟩ = .ok .nx ⟨[.val (.loc 1), .val (.int m), .val (.int d), .val (.loc c), .no, .no], M1.set c (.lst [.int ((l - 1 : Nat) : Int)])⟩ := by
      have : ((l - 1 : Nat) : Int) = (l : Int) - 1 := by omega
      rw [this]
      simp [evSs, evS, evX, evXs, evEs, evA, evAg, evT, evTB, evB, evG, evGs, evI, Tgs.len, varD, R.bind, biD, bi1, bi2_gcd, lif, toVal, setName_def, isRo_no, isRo_val, isRo_own, cmpD, truD, negD, binD, intOp, retD, ofBody, callD, call_CN, callkD, slots, Ar.slot, lend, ofCall, subD, seq, lis, G.atI, isTys, isTy, eqD, D.eqv, pure60, D.pure, D.deep, List.set, setD, putL, cell, methD, mtD, strI, ofSeq, plcC, plcV, unl, lock, unlock, rngD, forL, Itm.ok, stays, List.all_nil, fit0, fit1, fit2, fit3, fit4, fit5, fit6, fit7, fit8, fit9, fit10, fit11, fit12, fit13, fit14, fit15, fit16, g1, a10, ix1]
    have U2 : Urn (T + 1) (M1.set c (.lst [.int ((l - 1 : Nat) : Int)])) := by
      obtain ⟨zs, sm, tn, h0, h1, r⟩ := U1
      exact ⟨zs, sm, tn, by rw [List.getElem?_set_ne (by omega)]; exact h0, by rw [List.getElem?_set_ne (by omega)]; exact h1, r⟩
    have g2 : (M1.set c (.lst [.int ((l - 1 : Nat) : Int)]))[c]? = some (.lst [.int ((l - 1 : Nat) : Int)]) := List.getElem?_set_self hc1
    generalize M1.set c (.lst [.int ((l - 1 : Nat) : Int)]) = M2 at *
    obtain ⟨n'', rfl⟩ : ∃ k, n' = k + 1 := ⟨n' - 1, by omega⟩
    obtain ⟨d', rfl⟩ : ∃ k, d = k + 1 := ⟨d - 1, by omega⟩
    obtain ⟨ps, k, M3, e3, qs, U3, X3⟩ := s_question n'' M2 (T+1) m U2 (by omega) hm
    have e3 := hg e3
    have g3 := X3.get hc2 g2
    have h2' : 2 ^ (d' + 1) = 2 * 2 ^ d' := by rw [Nat.pow_succ]; omega
    have h2'' : 1 ≤ 2 ^ d' := Nat.one_le_two_pow
    have hdd : ((d' + 1 : Nat) : Int) - 1 = (d' : Int) := by omega
    obtain ⟨y, ly, M4, e4, qy, dy, ay, U4, g4⟩ := s_program m hm c hc2 d' (n''+1) M3 (T+1+20) (l-1) (by omega) U3 g3 (by omega) (by omega) (by omega)
    have e4 := hg e4
    obtain ⟨o, lo, M5, e5, qo, do', ao, U5, g5⟩ := s_program m hm c hc2 d' (n''+1) M4 (T+1+20+(50*2^(d'+1)-30)) ly (by omega) U4 g4 (by omega) (by omega) (by omega)
    have e5 := hg e5
    refine ⟨.ask ps k y o, lo, M5, ?_, ⟨qs, qy, qo⟩, by rw [dep]; have := Nat.max_le.mpr ⟨dy, do'⟩; omega, by rw [asks]; omega, U5.up _ (by omega), g5⟩
    have i2 : evS C l_program_2 ⟨[.val (.loc 1), .val (.int m), .val (.int ((d' + 1 : Nat) : Int)), .val (.loc c), .no, .no], M2⟩ = .ok .nx ⟨[.val (.loc 1), .val (.int m), .val (.int ((d' + 1 : Nat) : Int)), .val (.loc c), .val (quD ps k), .no], M3⟩ := by
      generalize quD ps k = qu at *
      generalize ((d' + 1 : Nat) : Int) = dd at *
      simp [evSs, evS, evX, evXs, evEs, evA, evAg, evT, evTB, evB, evG, evGs, evI, Tgs.len, varD, R.bind, biD, bi1, bi2_gcd, lif, toVal, setName_def, isRo_no, isRo_val, isRo_own, cmpD, truD, negD, binD, intOp, retD, ofBody, callD, call_CN, callkD, slots, Ar.slot, lend, ofCall, subD, seq, lis, G.atI, isTys, isTy, eqD, D.eqv, pure60, D.pure, D.deep, List.set, setD, putL, cell, methD, mtD, strI, ofSeq, plcC, plcV, unl, lock, unlock, rngD, forL, Itm.ok, stays, List.all_nil, fit0, fit1, fit2, fit3, fit4, fit5, fit6, fit7, fit8, fit9, fit10, fit11, fit12, fit13, fit14, fit15, fit16, e3]
    have i3 : evS C l_program_3 ⟨[.val (.loc 1), .val (.int m), .val (.int ((d' + 1 : Nat) : Int)), .val (.loc c), .val (quD ps k), .no], M3⟩ = .ok .nx ⟨[.val (.loc 1), .val (.int m), .val (.int ((d' + 1 : Nat) : Int)), .val (.loc c), .val (quD ps k), .val (pgD y)], M4⟩ := by
      generalize quD ps k = qu at *
      generalize pgD y = py at *
      generalize ((d' + 1 : Nat) : Int) = dd at *
      simp [evSs, evS, evX, evXs, evEs, evA, evAg, evT, evTB, evB, evG, evGs, evI, Tgs.len, varD, R.bind, biD, bi1, bi2_gcd, lif, toVal, setName_def, isRo_no, isRo_val, isRo_own, cmpD, truD, negD, binD, intOp, retD, ofBody, callD, call_CN, callkD, slots, Ar.slot, lend, ofCall, subD, seq, lis, G.atI, isTys, isTy, eqD, D.eqv, pure60, D.pure, D.deep, List.set, setD, putL, cell, methD, mtD, strI, ofSeq, plcC, plcV, unl, lock, unlock, rngD, forL, Itm.ok, stays, List.all_nil, fit0, fit1, fit2, fit3, fit4, fit5, fit6, fit7, fit8, fit9, fit10, fit11, fit12, fit13, fit14, fit15, fit16, hdd, e4]
    rw [pg_ask]
    unfold bl_program
    rw [seq_nx i0, seq_nx i1, seq_nx i2, seq_nx i3]
    generalize quD ps k = qu at *
    generalize pgD y = py at *
    generalize pgD o = po at *
    generalize ((d' + 1 : Nat) : Int) = dd at *
    simp [evSs, evS, evX, evXs, evEs, evA, evAg, evT, evTB, evB, evG, evGs, evI, Tgs.len, varD, R.bind, biD, bi1, bi2_gcd, lif, toVal, setName_def, isRo_no, isRo_val, isRo_own, cmpD, truD, negD, binD, intOp, retD, ofBody, callD, call_CN, callkD, slots, Ar.slot, lend, ofCall, subD, seq, lis, G.atI, isTys, isTy, eqD, D.eqv, pure60, D.pure, D.deep, List.set, setD, putL, cell, methD, mtD, strI, ofSeq, plcC, plcV, unl, lock, unlock, rngD, forL, Itm.ok, stays, List.all_nil, fit0, fit1, fit2, fit3, fit4, fit5, fit6, fit7, fit8, fit9, fit10, fit11, fit12, fit13, fit14, fit15, fit16, hdd, e5]
termination_by d => d
/-! ### a full one -/
theorem c_full (n : Nat) (a b : Slot) (M : List Cell) : RN (n+1) (Str.ofString "_law_full") [a, b] M = ofBody (evSs (CN n) bl_full ⟨[a, b, .no, .no, .no, .no, .no, .no], M⟩) := rfl
end G

/-! ## W10 -/
set_option Elab.async false
set_option linter.all false
set_option maxRecDepth 100000
set_option maxHeartbeats 8000000
namespace G
open PySem
/-! ### the pail filled -/
def BIG : Int := 2 ^ 2000
theorem shl2000 : intOp .LShift 1 2000 = some BIG := by
  have : powOk 1 2000 = true := by decide
  simp only [intOp, this, if_true]
  unfold BIG
  rw [Int.one_mul]; rfl
theorem BIG_pos : 0 < BIG := by unfold BIG; exact Int.pow_pos (by decide)
theorem pow18 : intOp .Pow 10 18 = some 1000000000000000000 := by decide
theorem ioR {i j : Int} (h : j ≠ 0) : intOp .Mod i j = some (i.fmod j) := by simp [intOp, h]
def PM (zs : List Int) (sm : Int) : List Cell := [.lst (zs.map D.int), .dct [(kSum, .int sm), (kTurn, .int 0), (kSand, .loc 0)]]
theorem pm0 (zs : List Int) (sm : Int) : (PM zs sm)[0]? = some (.lst (zs.map D.int)) := rfl
theorem pm1 (zs : List Int) (sm : Int) : (PM zs sm)[1]? = some (.dct [(kSum, .int sm), (kTurn, .int 0), (kSand, .loc 0)]) := rfl
theorem pms0 (zs ws : List Int) (sm : Int) : (PM zs sm).set 0 (.lst (ws.map D.int)) = PM ws sm := rfl
theorem pms0' (zs : List Int) (w sm : Int) : (PM zs sm).set 0 (.lst (zs.map D.int ++ [.int w])) = PM (zs ++ [w]) sm := by
  unfold PM
  rw [List.map_append]; rfl
theorem pms0r (zs : List Int) (sm : Int) : (PM zs sm).set 0 (.lst (zs.map D.int).reverse) = PM zs.reverse sm := by
  unfold PM
  rw [List.map_reverse]; rfl
theorem pms1 (zs : List Int) (sm w : Int) : (PM zs sm).set 1 (.dct [(kSum, .int w), (kTurn, .int 0), (kSand, .loc 0)]) = PM zs w := rfl
theorem c_pail (n : Nat) (a : Slot) (M : List Cell) : RN (n+1) (Str.ofString "_law_pail") [a] M = ofBody (evSs (CN n) bl_pail ⟨[a, .no, .no, .no, .no], M⟩) := rfl
theorem s_pail (n : Nat) (ns : List Int) : ∃ M', RN (n+1) (Str.ofString "_law_pail") [.ro (ns.map D.int)] [] = .ok (.val (.loc 1)) M' ∧ Urn 0 M' := by
  rw [c_pail]
  obtain ⟨C, hC, hg⟩ := opq n
  rw [← hC]
  have i0 : evS C l_pail_0 ⟨[.ro (ns.map D.int), .no, .no, .no, .no], []⟩ = .ok .nx ⟨[.ro (ns.map D.int), .val (.loc 1), .no, .no, .no], PM [] 907⟩ := by
    simp [evSs, evS, evX, evXs, evEs, evA, evAg, evT, evTB, evB, evG, evGs, evI, Tgs.len, varD, R.bind, biD, bi1, bi2_gcd, lif, toVal, setName_def, isRo_no, isRo_val, isRo_own, cmpD, truD, negD, binD, intOp, retD, ofBody, callD, call_CN, callkD, slots, Ar.slot, lend, ofCall, subD, seq, lis, G.atI, isTys, isTy, eqD, D.eqv, pure60, D.pure, D.deep, List.set, setD, putL, cell, methD, mtD, strI, ofSeq, plcC, plcV, unl, lock, unlock, rngD, forL, Itm.ok, stays, List.all_nil, fit0, fit1, fit2, fit3, fit4, fit5, fit6, fit7, fit8, fit9, fit10, fit11, fit12, fit13, fit14, fit15, fit16, PM, putS, sl3]
  have hi : evI C (.q (.slc (.var 0) .no (.yes (.cst (.int 40))))) ⟨[.ro (ns.map D.int), .val (.loc 1), .no, .no, .no], PM [] 907⟩ = .ok ⟨cut (ns.map D.int) none (some 40), [], []⟩ ⟨[.ro (ns.map D.int), .val (.loc 1), .no, .no, .no], PM [] 907⟩ := by
    simp [evSs, evS, evX, evXs, evEs, evA, evAg, evT, evTB, evB, evG, evGs, evI, Tgs.len, varD, R.bind, biD, bi1, bi2_gcd, lif, toVal, setName, cmpD, truD, negD, binD, intOp, retD, ofBody, fits, sizeLine, callD, call_CN, callkD, slots, Ar.slot, lend, ofCall, subD, seq, lis, L2.atI, L2.ixN, G.atI, isTys, isTy, eqD, D.eqv, pure60, D.pure, D.deep, List.set, setD, putL, cell, methD, mtD, strI, ofSeq, plcC, plcV, unl, lock, unlock, rngD, forL, Itm.ok, stays, List.all_nil, evO, optI, slcD]
  have hc : (∀ d ∈ cut (ns.map D.int) none (some 40), ∃ t : Int, d = .int t) ∧ (cut (ns.map D.int) none (some 40)).length ≤ 99 := by
    unfold cut
    refine ⟨fun d h => ?_, ?_⟩
    · have h := List.mem_of_mem_drop (List.mem_of_mem_take h)
      obtain ⟨t, _, rfl⟩ := List.mem_map.mp h
      exact ⟨t, rfl⟩
    · rw [List.length_take]
      have : HT.sIx (ns.map D.int).length (ns.map D.int).length (some 40) ≤ 40 := by
        show (if (40 : Int) < 0 then ((40 : Int) + ((ns.map D.int).length : Int)).toNat else min (40 : Int).toNat (ns.map D.int).length) ≤ 40
        rw [if_neg (by decide)]
        exact Nat.min_le_left _ _
      omega
  generalize cut (ns.map D.int) none (some 40) = its at *
  generalize ns.map D.int = xs at *
  have sd61 : Sd 61 = true := by decide
  have sd2520 : Sd 2520 = true := by decide
  have s1 : Sm 83 = true := Sm64 (by decide)
  have s2 : Sm 46021 = true := Sm64 (by decide)
  have s3 : Sm 10301 = true := Sm64 (by decide)
  have s4 : Sm 2089 = true := Sm64 (by decide)
  obtain ⟨s', i1, zs, sm, x2, x3, x4, n2, n3, n4, es, q1, q2, pz, _⟩ := fors_inv l_pail_1 rfl hi rfl rfl (fun k s => ∃ (zs : List Int) (sm : Int) (x2 x3 x4 : Slot), isRo x2 = false ∧ isRo x3 = false ∧ isRo x4 = false ∧ s = ⟨[.ro xs, .val (.loc 1), x2, x3, x4], PM zs sm⟩ ∧ 0 ≤ sm ∧ sm < 1000159 ∧ (∀ z ∈ zs, 0 ≤ z) ∧ zs.length ≤ 500 * k) ⟨[], 907, _, _, _, rfl, rfl, rfl, rfl, by decide, by decide, fun z hz => absurd hz List.not_mem_nil, by decide⟩ (by
    rintro k x s hx ⟨zs, sm, x2, x3, x4, n2, n3, n4, rfl, h1, h2, h3, h4⟩
    obtain ⟨t, rfl⟩ := hc.1 x (List.mem_of_getElem? hx)
    have hk : k < 100 := by have := lt_get hx; dsimp only at this; have := hc.2; omega
    have hB := BIG_pos
    have B0 : BIG ≠ 0 := by omega
    obtain ⟨z1, z2⟩ := fmod_nn (a := (if t < 0 then -t else t)) hB
    have j0 : evG C (.name 2) (.int t) ⟨[.ro xs, .val (.loc 1), x2, x3, x4], PM zs sm⟩ = .ok () ⟨[.ro xs, .val (.loc 1), .val (.int t), x3, x4], PM zs sm⟩ := by
      simp [evSs, evS, evX, evXs, evEs, evA, evAg, evT, evTB, evB, evG, evGs, evI, Tgs.len, varD, R.bind, biD, bi1, bi2_gcd, lif, toVal, setName_def, isRo_no, isRo_val, isRo_own, cmpD, truD, negD, binD, intOp, retD, ofBody, callD, call_CN, callkD, slots, Ar.slot, lend, ofCall, subD, seq, lis, G.atI, isTys, isTy, eqD, D.eqv, pure60, D.pure, D.deep, List.set, setD, putL, cell, methD, mtD, strI, ofSeq, plcC, plcV, unl, lock, unlock, rngD, forL, Itm.ok, stays, List.all_nil, fit0, fit1, fit2, fit3, fit4, fit5, fit6, fit7, fit8, fit9, fit10, fit11, fit12, fit13, fit14, fit15, fit16, n2]
    have j1 : evS C l_pail_1b_0 ⟨[.ro xs, .val (.loc 1), .val (.int t), x3, x4], PM zs sm⟩ = .ok .nx ⟨[.ro xs, .val (.loc 1), .val (.int t), .val (.int ((if t < 0 then -t else t).fmod BIG)), x4], PM zs sm⟩ := by
      simp [evSs, evS, evX, evXs, evEs, evA, evAg, evT, evTB, evB, evG, evGs, evI, Tgs.len, varD, R.bind, biD, bi1, bi2_gcd, lif, toVal, setName_def, isRo_no, isRo_val, isRo_own, cmpD, truD, negD, binD, retD, ofBody, callD, call_CN, callkD, slots, Ar.slot, lend, ofCall, subD, seq, lis, G.atI, isTys, isTy, eqD, D.eqv, pure60, D.pure, D.deep, List.set, setD, putL, cell, methD, mtD, strI, ofSeq, plcC, plcV, unl, lock, unlock, rngD, forL, Itm.ok, stays, List.all_nil, fit0, fit1, fit2, fit3, fit4, fit5, fit6, fit7, fit8, fit9, fit10, fit11, fit12, fit13, fit14, fit15, fit16, shl2000, ioR B0, n3]
    have hz : ((if t < 0 then -t else t).fmod BIG).natAbs < 2 ^ 2000 := by
      have e : ((2 ^ 2000 : Nat) : Int) = BIG := by unfold BIG; rw [Int.natCast_pow]; rfl
      generalize (2 ^ 2000 : Nat) = Q at e ⊢
      omega
    generalize (if t < 0 then -t else t).fmod BIG = z at *
    have smz : Sm z = true := Sm_ok (Nat.lt_of_lt_of_le hz (Nat.pow_le_pow_right (by decide) (by decide)))
    have sma : Sm sm = true := Sm64 (by omega)
    obtain ⟨f1, f2⟩ := fmod_nn (a := sm * 83 + z) (b := 1000159) (by decide)
    have j2 : evS C l_pail_1b_1 ⟨[.ro xs, .val (.loc 1), .val (.int t), .val (.int z), x4], PM zs sm⟩ = .ok .nx ⟨[.ro xs, .val (.loc 1), .val (.int t), .val (.int z), x4], PM zs ((sm * 83 + z).fmod 1000159)⟩ := by
      simp [evSs, evS, evX, evXs, evEs, evA, evAg, evT, evTB, evB, evG, evGs, evI, Tgs.len, varD, R.bind, biD, bi1, bi2_gcd, lif, toVal, setName_def, isRo_no, isRo_val, isRo_own, cmpD, truD, negD, binD, intOp, retD, ofBody, callD, call_CN, callkD, slots, Ar.slot, lend, ofCall, subD, seq, lis, G.atI, isTys, isTy, eqD, D.eqv, pure60, D.pure, D.deep, List.set, setD, putL, cell, methD, mtD, strI, ofSeq, plcC, plcV, unl, lock, unlock, rngD, forL, Itm.ok, stays, List.all_nil, fit0, fit1, fit2, fit3, fit4, fit5, fit6, fit7, fit8, fit9, fit10, fit11, fit12, fit13, fit14, fit15, fit16, sma, s1, dctOf, pm1, g_sum, p_sum, sl3, pms1]
    generalize (sm * 83 + z).fmod 1000159 = a' at *
    rw [j0]
    by_cases hcz : z < 1000000000000000000
    · have h6 : in62 6 = true := by decide
      have hi3 : evI C (.rng (.cons (.cst (.int 6)) .nil)) ⟨[.ro xs, .val (.loc 1), .val (.int t), .val (.int z), x4], PM zs a'⟩ = .ok ⟨rngL 0 6, [], []⟩ ⟨[.ro xs, .val (.loc 1), .val (.int t), .val (.int z), x4], PM zs a'⟩ := evI_rngZ (z := 6) (by simp [evSs, evS, evX, evXs, evEs, evA, evAg, evT, evTB, evB, evG, evGs, evI, Tgs.len, varD, R.bind, biD, bi1, bi2_gcd, lif, toVal, setName_def, isRo_no, isRo_val, isRo_own, cmpD, truD, negD, binD, intOp, retD, ofBody, callD, call_CN, callkD, slots, Ar.slot, lend, ofCall, subD, seq, lis, G.atI, isTys, isTy, eqD, D.eqv, pure60, D.pure, D.deep, List.set, setD, putL, cell, methD, mtD, strI, ofSeq, plcC, plcV, unl, lock, unlock, rngD, forL, Itm.ok, stays, List.all_nil, fit0, fit1, fit2, fit3, fit4, fit5, fit6, fit7, fit8, fit9, fit10, fit11, fit12, fit13, fit14, fit15, fit16]) h6 rfl
      obtain ⟨s', j3, r2, y4, m4, es, p1, p2'⟩ := fors_inv (.fors (.name 4) (.rng (.cons (.cst (.int 6)) .nil)) l_pail_1b_2e0b) rfl hi3 rfl rfl (fun i s => ∃ (r2 : List Int) (y4 : Slot), isRo y4 = false ∧ s = ⟨[.ro xs, .val (.loc 1), .val (.int t), .val (.int z), y4], PM r2 a'⟩ ∧ (∀ w ∈ r2, 0 ≤ w) ∧ r2.length ≤ 500 * k + i) ⟨zs, x4, n4, rfl, h3, by omega⟩ (by
        rintro i x s hx ⟨r2, y4, m4, rfl, p1, p2'⟩
        obtain ⟨rfl, hil⟩ := rngL_get hx
        obtain ⟨u1, u2⟩ := fmod_nn (a := z * 46021 + (i : Int) * 10301 + 17) (b := 2147483587) (by decide)
        obtain ⟨v1, v2⟩ := fmod_nn (a := (z * 46021 + (i : Int) * 10301 + 17).fmod 2147483587 * 2089) (b := 998244353) (by decide)
        have sml : Sm (i : Int) = true := Sm64 (by omega)
        have smu : Sm ((z * 46021 + (i : Int) * 10301 + 17).fmod 2147483587) = true := Sm64 (by omega)
        have hsz : r2.length < sizeLine := lt_sizeLine (by omega)
        have w0 : 0 ≤ (((z * 46021 + (i : Int) * 10301 + 17).fmod 2147483587 * 2089).fmod 998244353).fdiv 61 := Int.fdiv_nonneg v1 (by decide)
        refine ⟨⟨[.ro xs, .val (.loc 1), .val (.int t), .val (.int z), .val (.int i)], PM (r2 ++ [(((z * 46021 + (i : Int) * 10301 + 17).fmod 2147483587 * 2089).fmod 998244353).fdiv 61]) a'⟩, ?_, _, _, rfl, rfl, fun w hw => ?_, by rw [List.length_append, List.length_singleton]; omega⟩
        · simp [evSs, evS, evX, evXs, evEs, evA, evAg, evT, evTB, evB, evG, evGs, evI, Tgs.len, varD, R.bind, biD, bi1, bi2_gcd, lif, toVal, setName_def, isRo_no, isRo_val, isRo_own, cmpD, truD, negD, binD, intOp, retD, ofBody, callD, call_CN, callkD, slots, Ar.slot, lend, ofCall, subD, seq, lis, G.atI, isTys, isTy, eqD, D.eqv, pure60, D.pure, D.deep, List.set, setD, putL, cell, methD, mtD, strI, ofSeq, plcC, plcV, unl, lock, unlock, rngD, forL, Itm.ok, stays, List.all_nil, fit0, fit1, fit2, fit3, fit4, fit5, fit6, fit7, fit8, fit9, fit10, fit11, fit12, fit13, fit14, fit15, fit16, m4, smz, sml, smu, s2, s3, s4, sd61, hsz, dctOf, pm0, pm1, g_sand, pms0']
        · rcases List.mem_append.mp hw with hw | hw
          · exact p1 w hw
          · rw [List.mem_singleton.mp hw]; exact w0)
      subst es
      dsimp only at p2'
      rw [rngL_len] at p2'
      refine ⟨⟨[.ro xs, .val (.loc 1), .val (.int t), .val (.int z), y4], PM r2 a'⟩, ?_, r2, a', _, _, _, rfl, rfl, m4, rfl, f1, by omega, p1, by omega⟩
      refine bind_ok ?_
      show evSs C l_pail_1b _ = _
      rw [seq_nx j1, seq_nx j2]
      refine sq (ite_f (s1 := ⟨[.ro xs, .val (.loc 1), .val (.int t), .val (.int z), x4], PM zs a'⟩) (by simp [evSs, evS, evX, evXs, evEs, evA, evAg, evT, evTB, evB, evG, evGs, evI, Tgs.len, varD, R.bind, biD, bi1, bi2_gcd, lif, toVal, setName_def, isRo_no, isRo_val, isRo_own, cmpD, truD, negD, binD, retD, ofBody, callD, call_CN, callkD, slots, Ar.slot, lend, ofCall, subD, seq, lis, G.atI, isTys, isTy, eqD, D.eqv, pure60, D.pure, D.deep, List.set, setD, putL, cell, methD, mtD, strI, ofSeq, plcC, plcV, unl, lock, unlock, rngD, forL, Itm.ok, stays, List.all_nil, fit0, fit1, fit2, fit3, fit4, fit5, fit6, fit7, fit8, fit9, fit10, fit11, fit12, fit13, fit14, fit15, fit16, pow18, hcz]) (sq j3 (by rw [evSs]))) (by rw [evSs])
    · have hcz' : 1000000000000000000 ≤ z := by omega
      have h5 : in62 500 = true := by decide
      have hi3 : evI C (.rng (.cons (.cst (.int 500)) .nil)) ⟨[.ro xs, .val (.loc 1), .val (.int t), .val (.int z), x4], PM zs a'⟩ = .ok ⟨rngL 0 500, [], []⟩ ⟨[.ro xs, .val (.loc 1), .val (.int t), .val (.int z), x4], PM zs a'⟩ := evI_rngZ (z := 500) (by simp [evSs, evS, evX, evXs, evEs, evA, evAg, evT, evTB, evB, evG, evGs, evI, Tgs.len, varD, R.bind, biD, bi1, bi2_gcd, lif, toVal, setName_def, isRo_no, isRo_val, isRo_own, cmpD, truD, negD, binD, intOp, retD, ofBody, callD, call_CN, callkD, slots, Ar.slot, lend, ofCall, subD, seq, lis, G.atI, isTys, isTy, eqD, D.eqv, pure60, D.pure, D.deep, List.set, setD, putL, cell, methD, mtD, strI, ofSeq, plcC, plcV, unl, lock, unlock, rngD, forL, Itm.ok, stays, List.all_nil, fit0, fit1, fit2, fit3, fit4, fit5, fit6, fit7, fit8, fit9, fit10, fit11, fit12, fit13, fit14, fit15, fit16]) h5 rfl
      rcases fors_gen (.fors (.name 4) (.rng (.cons (.cst (.int 500)) .nil)) l_pail_1b_2t0b) rfl hi3 rfl rfl (fun i s => ∃ (r2 : List Int) (w : Int) (y4 : Slot), isRo y4 = false ∧ s = ⟨[.ro xs, .val (.loc 1), .val (.int t), .val (.int w), y4], PM r2 a'⟩ ∧ (∀ w ∈ r2, 0 ≤ w) ∧ r2.length ≤ 500 * k + i ∧ 0 ≤ w)
        (fun s => ∃ (r2 : List Int) (w : Int) (y4 : Slot), isRo y4 = false ∧ s = ⟨[.ro xs, .val (.loc 1), .val (.int t), .val (.int w), y4], PM r2 a'⟩ ∧ (∀ w ∈ r2, 0 ≤ w) ∧ r2.length ≤ 500 * k + 500) (fun _ _ => False) ⟨zs, z, x4, n4, rfl, h3, by omega, z1⟩ (by
        rintro i x s hx ⟨r2, w, y4, m4, rfl, p1, p2', w0⟩
        obtain ⟨rfl, hil⟩ := rngL_get hx
        by_cases hw0 : w = 0
        · refine .inr (.inl ⟨⟨[.ro xs, .val (.loc 1), .val (.int t), .val (.int w), .val (.int i)], PM r2 a'⟩, ?_, r2, w, _, rfl, rfl, p1, by omega⟩)
          simp [evSs, evS, evX, evXs, evEs, evA, evAg, evT, evTB, evB, evG, evGs, evI, Tgs.len, varD, R.bind, biD, bi1, bi2_gcd, lif, toVal, setName_def, isRo_no, isRo_val, isRo_own, cmpD, truD, negD, binD, intOp, retD, ofBody, callD, call_CN, callkD, slots, Ar.slot, lend, ofCall, subD, seq, lis, G.atI, isTys, isTy, eqD, D.eqv, pure60, D.pure, D.deep, List.set, setD, putL, cell, methD, mtD, strI, ofSeq, plcC, plcV, unl, lock, unlock, rngD, forL, Itm.ok, stays, List.all_nil, fit0, fit1, fit2, fit3, fit4, fit5, fit6, fit7, fit8, fit9, fit10, fit11, fit12, fit13, fit14, fit15, fit16, m4, hw0]
        · have hw1 : (w == 0) = false := by rw [beq_eq_false_iff_ne]; exact hw0
          obtain ⟨u1, u2⟩ := fmod_nn (a := w) (b := 2520) (by decide)
          have v0 : 0 ≤ w.fdiv 2520 := Int.fdiv_nonneg w0 (by decide)
          have hsz : r2.length < sizeLine := lt_sizeLine (by omega)
          refine .inl ⟨⟨[.ro xs, .val (.loc 1), .val (.int t), .val (.int (w.fdiv 2520)), .val (.int i)], PM (r2 ++ [w.fmod 2520]) a'⟩, ?_, _, _, _, rfl, rfl, fun y hy => ?_, by rw [List.length_append, List.length_singleton]; omega, v0⟩
          · simp only [evSs, evS, evX, evXs, evEs, evA, evAg, evT, evTB, evB, evG, evGs, evI, Tgs.len, varD, R.bind, biD, bi1, bi2_gcd, lif, toVal, setName_def, isRo_no, isRo_val, isRo_own, cmpD, truD, negD, binD, intOp, retD, ofBody, callD, call_CN, callkD, slots, Ar.slot, lend, ofCall, subD, seq, lis, G.atI, isTys, isTy, eqD, D.eqv, pure60, D.pure, D.deep, List.set, setD, putL, cell, methD, mtD, strI, ofSeq, plcC, plcV, unl, lock, unlock, rngD, forL, Itm.ok, stays, List.all_nil, fit0, fit1, fit2, fit3, fit4, fit5, fit6, fit7, fit8, fit9, fit10, fit11, fit12, fit13, fit14, fit15, fit16, m4, hw1]
            simp [evSs, evS, evX, evXs, evEs, evA, evAg, evT, evTB, evB, evG, evGs, evI, Tgs.len, varD, R.bind, biD, bi1, bi2_gcd, lif, toVal, setName_def, isRo_no, isRo_val, isRo_own, cmpD, truD, negD, binD, intOp, retD, ofBody, callD, call_CN, callkD, slots, Ar.slot, lend, ofCall, subD, seq, lis, G.atI, isTys, isTy, eqD, D.eqv, pure60, D.pure, D.deep, List.set, setD, putL, cell, methD, mtD, strI, ofSeq, plcC, plcV, unl, lock, unlock, rngD, forL, Itm.ok, stays, List.all_nil, fit0, fit1, fit2, fit3, fit4, fit5, fit6, fit7, fit8, fit9, fit10, fit11, fit12, fit13, fit14, fit15, fit16, m4, hw1, hw0, sd2520, hsz, dctOf, pm0, pm1, g_sand, pms0']
          · rcases List.mem_append.mp hy with hy | hy
            · exact p1 y hy
            · rw [List.mem_singleton.mp hy]; exact u1) (by
        rintro s ⟨r2, w, y4, m4, rfl, p1, p2', w0⟩
        dsimp only at p2'
        rw [rngL_len] at p2'
        exact ⟨r2, w, y4, m4, rfl, p1, by omega⟩) with ⟨s', j3, r2, w, y4, m4, es, p1, p2'⟩ | ⟨o, s', e, h⟩
      · subst es
        refine ⟨⟨[.ro xs, .val (.loc 1), .val (.int t), .val (.int w), y4], PM r2 a'⟩, ?_, r2, a', _, _, _, rfl, rfl, m4, rfl, f1, by omega, p1, by omega⟩
        refine bind_ok ?_
        show evSs C l_pail_1b _ = _
        rw [seq_nx j1, seq_nx j2]
        refine sq (ite_t (s1 := ⟨[.ro xs, .val (.loc 1), .val (.int t), .val (.int z), x4], PM zs a'⟩) (by simp [evSs, evS, evX, evXs, evEs, evA, evAg, evT, evTB, evB, evG, evGs, evI, Tgs.len, varD, R.bind, biD, bi1, bi2_gcd, lif, toVal, setName_def, isRo_no, isRo_val, isRo_own, cmpD, truD, negD, binD, retD, ofBody, callD, call_CN, callkD, slots, Ar.slot, lend, ofCall, subD, seq, lis, G.atI, isTys, isTy, eqD, D.eqv, pure60, D.pure, D.deep, List.set, setD, putL, cell, methD, mtD, strI, ofSeq, plcC, plcV, unl, lock, unlock, rngD, forL, Itm.ok, stays, List.all_nil, fit0, fit1, fit2, fit3, fit4, fit5, fit6, fit7, fit8, fit9, fit10, fit11, fit12, fit13, fit14, fit15, fit16, pow18, hcz, hcz']) (sq j3 (by rw [evSs]))) (by rw [evSs])
      · exact h.elim)
  subst es
  have i2 : evS C l_pail_2 ⟨[.ro xs, .val (.loc 1), x2, x3, x4], PM zs sm⟩ = .ok .nx ⟨[.ro xs, .val (.loc 1), x2, x3, x4], PM zs.reverse sm⟩ := by
    simp [evSs, evS, evX, evXs, evEs, evA, evAg, evT, evTB, evB, evG, evGs, evI, Tgs.len, varD, R.bind, biD, bi1, bi2_gcd, lif, toVal, setName_def, isRo_no, isRo_val, isRo_own, cmpD, truD, negD, binD, intOp, retD, ofBody, callD, call_CN, callkD, slots, Ar.slot, lend, ofCall, subD, seq, lis, G.atI, isTys, isTy, eqD, D.eqv, pure60, D.pure, D.deep, List.set, setD, putL, cell, methD, mtD, strI, ofSeq, plcC, plcV, unl, lock, unlock, rngD, forL, Itm.ok, stays, List.all_nil, fit0, fit1, fit2, fit3, fit4, fit5, fit6, fit7, fit8, fit9, fit10, fit11, fit12, fit13, fit14, fit15, fit16, dctOf, pm0, pm1, g_sand, pms0r]
  refine ⟨PM zs.reverse sm, ?_, zs.reverse, sm, 0, pm0 _ _, pm1 _ _, fun z hz => pz z (List.mem_reverse.mp hz), q1, q2, by decide, by decide⟩
  unfold bl_pail
  rw [seq_nx i0, seq_nx i1, seq_nx i2]
  simp [evSs, evS, evX, evXs, evEs, evA, evAg, evT, evTB, evB, evG, evGs, evI, Tgs.len, varD, R.bind, biD, bi1, bi2_gcd, lif, toVal, setName_def, isRo_no, isRo_val, isRo_own, cmpD, truD, negD, binD, intOp, retD, ofBody, callD, call_CN, callkD, slots, Ar.slot, lend, ofCall, subD, seq, lis, G.atI, isTys, isTy, eqD, D.eqv, pure60, D.pure, D.deep, List.set, setD, putL, cell, methD, mtD, strI, ofSeq, plcC, plcV, unl, lock, unlock, rngD, forL, Itm.ok, stays, List.all_nil, fit0, fit1, fit2, fit3, fit4, fit5, fit6, fit7, fit8, fit9, fit10, fit11, fit12, fit13, fit14, fit15, fit16]
/-! ### a full one -/
abbrev askE (ey eo : Ex) : Ex := .tup (.cons (.cst (.str (Str.ofString "ask"))) (.cons (.call (Str.ofString "_law_question") (.cons (.v (.var 0)) (.cons (.b (.var 1)) (.nil)))) (.cons ey (.cons eo .nil))))
abbrev telE (w : Str) : Ex := .tup (.cons (.cst (.str (Str.ofString "tell"))) (.cons (.cst (.str w)) .nil))
theorem full_ev (n : Nat) {C : Cn} (hg : ∀ {f : Str} {vs : List Slot} {M : List Cell} {r : RF}, RN (n+2) f vs M = r → C.call f vs M = r) {v : List Slot} {M : List Cell} {T U m : Nat} (P : Urn T M) (hT : T < 2 ^ 29) (hm : m ≤ 4) (v0 : v[0]? = some (.val (.loc 1))) (v1 : v[1]? = some (.val (.int m))) {ey eo : Ex} {y : Pg} {Rq : Pg → Prop}
    (hy : ∀ M', evX C ey ⟨v, M'⟩ = .ok (.val (pgD y)) ⟨v, M'⟩) (ho : ∀ M1, Urn (T + 20) M1 → ∃ o M2, evX C eo ⟨v, M1⟩ = .ok (.val (pgD o)) ⟨v, M2⟩ ∧ Rq o ∧ Urn U M2) :
    ∃ p M', evX C (askE ey eo) ⟨v, M⟩ = .ok (.val (pgD p)) ⟨v, M'⟩ ∧ (∃ ps k o, p = .ask ps k y o ∧ QS m ps k ∧ Rq o) ∧ Urn U M' := by
  obtain ⟨ps, k, M1, e1, qs, U1, X1⟩ := s_question n M T m P hT hm
  have e1 := hg e1
  obtain ⟨o, M2, e2, ro, U2⟩ := ho M1 U1
  refine ⟨.ask ps k y o, M2, ?_, ⟨ps, k, o, rfl, qs, ro⟩, U2⟩
  have e3 := hy M1
  rw [pg_ask]
  generalize quD ps k = qu at *
  generalize pgD y = py at *
  generalize pgD o = po at *
  simp [evSs, evS, evX, evXs, evEs, evA, evAg, evT, evTB, evB, evG, evGs, evI, Tgs.len, varD, R.bind, biD, bi1, bi2_gcd, lif, toVal, setName_def, isRo_no, isRo_val, isRo_own, cmpD, truD, negD, binD, intOp, retD, ofBody, callD, call_CN, callkD, slots, Ar.slot, lend, ofCall, subD, seq, lis, G.atI, isTys, isTy, eqD, D.eqv, pure60, D.pure, D.deep, List.set, setD, putL, cell, methD, mtD, strI, ofSeq, plcC, plcV, unl, lock, unlock, rngD, forL, Itm.ok, stays, List.all_nil, fit0, fit1, fit2, fit3, fit4, fit5, fit6, fit7, fit8, fit9, fit10, fit11, fit12, fit13, fit14, fit15, fit16, v0, v1, e1, e2, e3]
theorem full_ev1 (n : Nat) {C : Cn} (hg : ∀ {f : Str} {vs : List Slot} {M : List Cell} {r : RF}, RN (n+2) f vs M = r → C.call f vs M = r) {v : List Slot} {M : List Cell} {T m : Nat} (P : Urn T M) (hT : T < 2 ^ 29) (hm : m ≤ 4) (v0 : v[0]? = some (.val (.loc 1))) (v1 : v[1]? = some (.val (.int m))) {ey eo : Ex} {y o : Pg}
    (hy : ∀ M', evX C ey ⟨v, M'⟩ = .ok (.val (pgD y)) ⟨v, M'⟩) (ho : ∀ M', evX C eo ⟨v, M'⟩ = .ok (.val (pgD o)) ⟨v, M'⟩) :
    ∃ p M', evX C (askE ey eo) ⟨v, M⟩ = .ok (.val (pgD p)) ⟨v, M'⟩ ∧ (∃ ps k, p = .ask ps k y o ∧ QS m ps k) ∧ Urn (T + 20) M' := by
  obtain ⟨p, M', e, ⟨ps, k, o', rfl, qs, rfl⟩, U⟩ := full_ev n hg (Rq := fun x => x = o) (U := T + 20) P hT hm v0 v1 hy fun M1 U1 => ⟨o, M1, ho M1, rfl, U1⟩
  exact ⟨_, M', e, ⟨ps, k, rfl, qs⟩, U⟩
theorem asg_val {c : Cn} {i : Nat} {X : Ex} {v : List Slot} {M M' : List Cell} {d : D} {x : Slot} (h : evX c X ⟨v, M⟩ = .ok (.val d) ⟨v, M'⟩) (hx : v[i]? = some x) (hr : isRo x = false) :
    evS c (.asg (.name i) X) ⟨v, M⟩ = .ok .nx ⟨v.set i (.val d), M'⟩ := by
  simp [evS, R.bind, h, toVal, evG, setName_def, hx, hr]
theorem tel_ev {C : Cn} {w : Str} (v : List Slot) (M : List Cell) : evX C (telE w) ⟨v, M⟩ = .ok (.val (pgD (.tell w))) ⟨v, M⟩ := by
  simp [evSs, evS, evX, evXs, evEs, evA, evAg, evT, evTB, evB, evG, evGs, evI, Tgs.len, varD, R.bind, biD, bi1, bi2_gcd, lif, toVal, setName_def, isRo_no, isRo_val, isRo_own, cmpD, truD, negD, binD, intOp, retD, ofBody, callD, call_CN, callkD, slots, Ar.slot, lend, ofCall, subD, seq, lis, G.atI, isTys, isTy, eqD, D.eqv, pure60, D.pure, D.deep, List.set, setD, putL, cell, methD, mtD, strI, ofSeq, plcC, plcV, unl, lock, unlock, rngD, forL, Itm.ok, stays, List.all_nil, fit0, fit1, fit2, fit3, fit4, fit5, fit6, fit7, fit8, fit9, fit10, fit11, fit12, fit13, fit14, fit15, fit16, pgD]
theorem var_ev {C : Cn} {v : List Slot} {i : Nat} {d : D} (h : v[i]? = some (.val d)) (M : List Cell) : evX C (.var i) ⟨v, M⟩ = .ok (.val d) ⟨v, M⟩ := by
  simp [evSs, evS, evX, evXs, evEs, evA, evAg, evT, evTB, evB, evG, evGs, evI, Tgs.len, varD, R.bind, biD, bi1, bi2_gcd, lif, toVal, setName_def, isRo_no, isRo_val, isRo_own, cmpD, truD, negD, binD, intOp, retD, ofBody, callD, call_CN, callkD, slots, Ar.slot, lend, ofCall, subD, seq, lis, G.atI, isTys, isTy, eqD, D.eqv, pure60, D.pure, D.deep, List.set, setD, putL, cell, methD, mtD, strI, ofSeq, plcC, plcV, unl, lock, unlock, rngD, forL, Itm.ok, stays, List.all_nil, fit0, fit1, fit2, fit3, fit4, fit5, fit6, fit7, fit8, fit9, fit10, fit11, fit12, fit13, fit14, fit15, fit16, h]
theorem s_full (n : Nat) (M : List Cell) (T : Nat) (m : Nat) (P : Urn T M) (hT : T < 2 ^ 28) (hm : m ≤ 4) :
    ∃ (p : Pg) (M' : List Cell), RN (n+3) (Str.ofString "_law_full") [.val (.loc 1), .val (.int m)] M = .ok (.val (pgD p)) M' ∧ Pk m p ∧ dep p ≤ 6 ∧ asks p ≤ 16 ∧ Urn (T + 200) M' := by
  rw [c_full]
  obtain ⟨C, hC, hg⟩ := opq (n+2)
  rw [← hC]
  have i0 : evS C l_full_0 ⟨[.val (.loc 1), .val (.int m), .no, .no, .no, .no, .no, .no], M⟩ = .ok .nx ⟨[.val (.loc 1), .val (.int m), .val (pgD (.tell (Str.ofString "low"))), .no, .no, .no, .no, .no], M⟩ :=
    asg_val (x := .no) (tel_ev _ _) rfl rfl
  have h3 : in62 3 = true := by decide
  have hi : evI C (.rng (.cons (.cst (.int 3)) .nil)) ⟨[.val (.loc 1), .val (.int m), .val (pgD (.tell (Str.ofString "low"))), .no, .no, .no, .no, .no], M⟩ = .ok ⟨rngL 0 3, [], []⟩ ⟨[.val (.loc 1), .val (.int m), .val (pgD (.tell (Str.ofString "low"))), .no, .no, .no, .no, .no], M⟩ := evI_rngZ (z := 3) (by simp [evSs, evS, evX, evXs, evEs, evA, evAg, evT, evTB, evB, evG, evGs, evI, Tgs.len, varD, R.bind, biD, bi1, bi2_gcd, lif, toVal, setName_def, isRo_no, isRo_val, isRo_own, cmpD, truD, negD, binD, intOp, retD, ofBody, callD, call_CN, callkD, slots, Ar.slot, lend, ofCall, subD, seq, lis, G.atI, isTys, isTy, eqD, D.eqv, pure60, D.pure, D.deep, List.set, setD, putL, cell, methD, mtD, strI, ofSeq, plcC, plcV, unl, lock, unlock, rngD, forL, Itm.ok, stays, List.all_nil, fit0, fit1, fit2, fit3, fit4, fit5, fit6, fit7, fit8, fit9, fit10, fit11, fit12, fit13, fit14, fit15, fit16]) h3 rfl
  obtain ⟨s', i1, p, x3, M1, n3, es, kp, dp, ap, U1⟩ := fors_inv l_full_1 rfl hi rfl rfl (fun j s => ∃ (p : Pg) (x3 : Slot) (M1 : List Cell), isRo x3 = false ∧ s = ⟨[.val (.loc 1), .val (.int m), .val (pgD p), x3, .no, .no, .no, .no], M1⟩ ∧ Pk m p ∧ dep p ≤ j ∧ asks p ≤ j ∧ Urn (T + 20 * j) M1)
    ⟨_, _, _, rfl, rfl, by show (Str.ofString "low").length ≤ 20; decide, Nat.le_refl _, Nat.le_refl _, P⟩ (by
    rintro j x s hx ⟨p, x3, M1, n3, rfl, kp, dp, ap, U1⟩
    obtain ⟨rfl, hj⟩ := rngL_get hx
    have hts := ts_str (j : Int) (by omega)
    have lts := ts_len (j : Int) (by omega)
    have hlw : (Str.ofString "w").length = 1 := by decide
    have a3 := sadd (x := Str.ofString "w") (y := ts j) (by omega)
    have j0 : evG C (.name 3) (.int (j : Int)) ⟨[.val (.loc 1), .val (.int m), .val (pgD p), x3, .no, .no, .no, .no], M1⟩ = .ok () ⟨[.val (.loc 1), .val (.int m), .val (pgD p), .val (.int j), .no, .no, .no, .no], M1⟩ := by
      simp [evSs, evS, evX, evXs, evEs, evA, evAg, evT, evTB, evB, evG, evGs, evI, Tgs.len, varD, R.bind, biD, bi1, bi2_gcd, lif, toVal, setName_def, isRo_no, isRo_val, isRo_own, cmpD, truD, negD, binD, intOp, retD, ofBody, callD, call_CN, callkD, slots, Ar.slot, lend, ofCall, subD, seq, lis, G.atI, isTys, isTy, eqD, D.eqv, pure60, D.pure, D.deep, List.set, setD, putL, cell, methD, mtD, strI, ofSeq, plcC, plcV, unl, lock, unlock, rngD, forL, Itm.ok, stays, List.all_nil, fit0, fit1, fit2, fit3, fit4, fit5, fit6, fit7, fit8, fit9, fit10, fit11, fit12, fit13, fit14, fit15, fit16, n3]
    obtain ⟨p', M2, e2, ⟨ps, k, rfl, qs⟩, U2⟩ := full_ev1 n hg (v := [.val (.loc 1), .val (.int m), .val (pgD p), .val (.int j), .no, .no, .no, .no]) U1 (by omega) hm rfl rfl (y := .tell (Str.ofString "w" ++ ts j)) (o := p) (ey := .tup (.cons (.cst (.str (Str.ofString "tell"))) (.cons (.bin .Add (.cst (.str (Str.ofString "w"))) (.bi .str (.cons (.var 3) .nil))) .nil))) (eo := .var 2)
      (fun M' => by
        show _ = R.ok (SV.val (D.tup [.str sTell, .str (Str.ofString "w" ++ ts j)])) _
        generalize pgD p = pp at *
        generalize ts j = tj at *
        generalize Str.ofString "w" = ww at *
        simp [evSs, evS, evX, evXs, evEs, evA, evAg, evT, evTB, evB, evG, evGs, evI, Tgs.len, varD, R.bind, biD, bi1, bi2_gcd, lif, toVal, setName_def, isRo_no, isRo_val, isRo_own, cmpD, truD, negD, binD, intOp, retD, ofBody, callD, call_CN, callkD, slots, Ar.slot, lend, ofCall, subD, seq, lis, G.atI, isTys, isTy, eqD, D.eqv, pure60, D.pure, D.deep, List.set, setD, putL, cell, methD, mtD, ofSeq, plcC, plcV, unl, lock, unlock, rngD, forL, Itm.ok, stays, List.all_nil, fit0, fit1, fit2, fit3, fit4, fit5, fit6, fit7, fit8, fit9, fit10, fit11, fit12, fit13, fit14, fit15, fit16, hts, a3]) (var_ev rfl)
    refine ⟨⟨[.val (.loc 1), .val (.int m), .val (pgD (.ask ps k (.tell (Str.ofString "w" ++ ts j)) p)), .val (.int j), .no, .no, .no, .no], M2⟩, ?_, .ask ps k (.tell (Str.ofString "w" ++ ts j)) p, _, _, rfl, rfl, ⟨qs, ?_, kp⟩, ?_, ?_, U2.up _ (by omega)⟩
    · have j1 : evS C l_full_1b_0 ⟨[.val (.loc 1), .val (.int m), .val (pgD p), .val (.int j), .no, .no, .no, .no], M1⟩ = .ok .nx ⟨[.val (.loc 1), .val (.int m), .val (pgD (.ask ps k (.tell (Str.ofString "w" ++ ts j)) p)), .val (.int j), .no, .no, .no, .no], M2⟩ := asg_val (x := .val (pgD p)) e2 rfl rfl
      rw [j0]
      refine bind_ok ?_
      show evSs C l_full_1b _ = _
      rw [seq_nx j1, evSs]
    · show (Str.ofString "w" ++ ts j).length ≤ 20
      rw [sl_app]; omega
    · rw [dep, dep]; omega
    · rw [asks, asks]; omega)
  subst es
  dsimp only at dp ap U1
  rw [rngL_len] at dp ap U1
  have kt : ∀ w : Str, w.length ≤ 20 → Pk m (.tell w) := fun w h => h
  have l1 : (Str.ofString "x").length ≤ 20 ∧ (Str.ofString "y").length ≤ 20 ∧ (Str.ofString "z").length ≤ 20 ∧ (Str.ofString "q").length ≤ 20 ∧ (Str.ofString "r").length ≤ 20 := by decide
  obtain ⟨k1, k2, k3, k4, k5⟩ := l1
  obtain ⟨p2, M2, e2, ⟨ps2, q2, h2, s2⟩, U2⟩ := full_ev1 n hg (v := [.val (.loc 1), .val (.int m), .val (pgD p), x3, .no, .no, .no, .no]) U1 (by omega) hm rfl rfl (y := p) (o := .tell (Str.ofString "x")) (ey := .var 2) (eo := telE (Str.ofString "x")) (var_ev rfl) (tel_ev _)
  obtain ⟨p3, M3, e3, ⟨ps3, q3, h3, s3⟩, U3⟩ := full_ev1 n hg (v := [.val (.loc 1), .val (.int m), .val (pgD p), x3, .val (pgD p2), .no, .no, .no]) U2 (by omega) hm rfl rfl (y := .tell (Str.ofString "y")) (o := p) (eo := .var 2) (ey := telE (Str.ofString "y")) (tel_ev _) (var_ev rfl)
  obtain ⟨p4, M4, e4, ⟨ps4, q4, h4, s4⟩, U4⟩ := full_ev1 n hg (v := [.val (.loc 1), .val (.int m), .val (pgD p), x3, .val (pgD p2), .val (pgD p3), .no, .no]) U3 (by omega) hm rfl rfl (y := p2) (o := p3) (ey := .var 4) (eo := .var 5) (var_ev rfl) (var_ev rfl)
  obtain ⟨p5, M5, e5, ⟨ps5, q5, h5, s5⟩, U5⟩ := full_ev1 n hg (v := [.val (.loc 1), .val (.int m), .val (pgD p), x3, .val (pgD p2), .val (pgD p3), .val (pgD p4), .no]) U4 (by omega) hm rfl rfl (y := p) (o := .tell (Str.ofString "z")) (ey := .var 2) (eo := telE (Str.ofString "z")) (var_ev rfl) (tel_ev _)
  obtain ⟨p6, M6, e6, ⟨ps6, q6, o6, h6, s6, ps7, q7, h7, s7⟩, U6⟩ := full_ev n hg (v := [.val (.loc 1), .val (.int m), .val (pgD p), x3, .val (pgD p2), .val (pgD p3), .val (pgD p4), .val (pgD p5)]) (Rq := fun o => ∃ ps k, o = .ask ps k (.tell (Str.ofString "q")) (.tell (Str.ofString "r")) ∧ QS m ps k) (U := T + 20 * 3 + 20 + 20 + 20 + 20 + 20 + 20) U5 (by omega) hm rfl rfl (y := p5) (ey := .var 7) (eo := askE (telE (Str.ofString "q")) (telE (Str.ofString "r"))) (var_ev rfl)
    fun M1 V1 => by
      obtain ⟨p7, M7, e7, h7, V7⟩ := full_ev1 n hg (v := [.val (.loc 1), .val (.int m), .val (pgD p), x3, .val (pgD p2), .val (pgD p3), .val (pgD p4), .val (pgD p5)]) V1 (by omega) hm rfl rfl (y := .tell (Str.ofString "q")) (o := .tell (Str.ofString "r")) (ey := telE (Str.ofString "q")) (eo := telE (Str.ofString "r")) (tel_ev _) (tel_ev _)
      exact ⟨p7, M7, e7, h7, V7⟩
  obtain ⟨p8, M8, e8, ⟨ps8, q8, h8, s8⟩, U8⟩ := full_ev1 n hg (v := [.val (.loc 1), .val (.int m), .val (pgD p), x3, .val (pgD p2), .val (pgD p3), .val (pgD p4), .val (pgD p6)]) U6 (by omega) hm rfl rfl (y := p4) (o := p6) (ey := .var 6) (eo := .var 7) (var_ev rfl) (var_ev rfl)
  have j2 : evS C l_full_2 ⟨[.val (.loc 1), .val (.int m), .val (pgD p), x3, .no, .no, .no, .no], M1⟩ = .ok .nx ⟨[.val (.loc 1), .val (.int m), .val (pgD p), x3, .val (pgD p2), .no, .no, .no], M2⟩ := asg_val (x := .no) e2 rfl rfl
  have j3 : evS C l_full_3 ⟨[.val (.loc 1), .val (.int m), .val (pgD p), x3, .val (pgD p2), .no, .no, .no], M2⟩ = .ok .nx ⟨[.val (.loc 1), .val (.int m), .val (pgD p), x3, .val (pgD p2), .val (pgD p3), .no, .no], M3⟩ := asg_val (x := .no) e3 rfl rfl
  have j4 : evS C l_full_4 ⟨[.val (.loc 1), .val (.int m), .val (pgD p), x3, .val (pgD p2), .val (pgD p3), .no, .no], M3⟩ = .ok .nx ⟨[.val (.loc 1), .val (.int m), .val (pgD p), x3, .val (pgD p2), .val (pgD p3), .val (pgD p4), .no], M4⟩ := asg_val (x := .no) e4 rfl rfl
  have j5 : evS C l_full_5 ⟨[.val (.loc 1), .val (.int m), .val (pgD p), x3, .val (pgD p2), .val (pgD p3), .val (pgD p4), .no], M4⟩ = .ok .nx ⟨[.val (.loc 1), .val (.int m), .val (pgD p), x3, .val (pgD p2), .val (pgD p3), .val (pgD p4), .val (pgD p5)], M5⟩ := asg_val (x := .no) e5 rfl rfl
  have j6 : evS C l_full_6 ⟨[.val (.loc 1), .val (.int m), .val (pgD p), x3, .val (pgD p2), .val (pgD p3), .val (pgD p4), .val (pgD p5)], M5⟩ = .ok .nx ⟨[.val (.loc 1), .val (.int m), .val (pgD p), x3, .val (pgD p2), .val (pgD p3), .val (pgD p4), .val (pgD p6)], M6⟩ := asg_val (x := .val (pgD p5)) e6 rfl rfl
  have j7 : evS C l_full_7 ⟨[.val (.loc 1), .val (.int m), .val (pgD p), x3, .val (pgD p2), .val (pgD p3), .val (pgD p4), .val (pgD p6)], M6⟩ = .ok (.rt (.val (pgD p8))) ⟨[.val (.loc 1), .val (.int m), .val (pgD p), x3, .val (pgD p2), .val (pgD p3), .val (pgD p4), .val (pgD p6)], M8⟩ := by
    simp [evS, e8, R.bind, toVal, retD]
  refine ⟨p8, M8, ?_, ?_, ?_, ?_, U8.up _ (by omega)⟩
  · unfold bl_full
    rw [seq_nx i0, seq_nx i1, seq_nx j2, seq_nx j3, seq_nx j4, seq_nx j5, seq_nx j6, seq_rt j7]
    rfl
  · subst h2 h3 h4 h5 h6 h7 h8
    exact ⟨s8, ⟨s4, ⟨s2, kp, k1⟩, ⟨s3, k2, kp⟩⟩, ⟨s6, ⟨s5, kp, k3⟩, ⟨s7, k4, k5⟩⟩⟩
  · subst h2 h3 h4 h5 h6 h7 h8
    simp only [dep]; omega
  · subst h2 h3 h4 h5 h6 h7 h8
    simp only [asks]; omega
end G

/-! ## W11 -/
set_option Elab.async false
set_option linter.all false
set_option maxRecDepth 100000
set_option maxHeartbeats 8000000
namespace G
open PySem
/-! ### texts of parts -/
def exsOf : List Ex → Exs
  | [] => .nil
  | e :: r => .cons e (exsOf r)
def catF (acc : Str) : List (Ex × Str) → Str
  | [] => acc
  | x :: L => catF (acc ++ x.2) L
theorem evF_l {c : Cn} {v : List Slot} {M : List Cell} : ∀ (L : List (Ex × Str)) (acc : Str), (∀ x ∈ L, evX c x.1 ⟨v, M⟩ = .ok (.val (.str x.2)) ⟨v, M⟩ ∧ x.2.length ≤ 100) → acc.length + 100 * L.length ≤ 2000 → evF c (exsOf (L.map (·.1))) acc ⟨v, M⟩ = .ok (catF acc L) ⟨v, M⟩
  | [], acc, _, _ => rfl
  | (e, z) :: L, acc, h, hl => by
    obtain ⟨h1, h2⟩ := h (e, z) List.mem_cons_self
    have h1 : evX c e ⟨v, M⟩ = .ok (.val (.str z)) ⟨v, M⟩ := h1
    have h2 : z.length ≤ 100 := h2
    rw [List.length_cons] at hl
    have f1 : fits z.length = true := fits_lt (by omega)
    have f2 : fits (acc ++ z).length = true := fits_lt (by rw [sl_app]; omega)
    have ih := evF_l L (acc ++ z) (fun x hx => h x (List.mem_cons_of_mem _ hx)) (by rw [sl_app]; omega)
    show evF c (.cons e (exsOf (L.map (·.1)))) acc ⟨v, M⟩ = _
    rw [evF, h1]
    simp only [R.bind, fmtD, f1, if_true, lif, f2]
    exact ih
theorem fstr_ev {c : Cn} {v : List Slot} {M : List Cell} (L : List (Ex × Str)) (z : Str) (hL : ∀ x ∈ L, evX c x.1 ⟨v, M⟩ = .ok (.val (.str x.2)) ⟨v, M⟩ ∧ x.2.length ≤ 100) (hl : L.length ≤ 18) (hz : catF Str.empty L = z) : evX c (.fstr (exsOf (L.map (·.1)))) ⟨v, M⟩ = .ok (.val (.str z)) ⟨v, M⟩ := by
  have e0 : Str.empty.length = 0 := rfl
  have := evF_l L Str.empty hL (by omega)
  rw [evX, this, hz]
  rfl
theorem cst_ev {c : Cn} {v : List Slot} {M : List Cell} (d : D) : evX c (.cst d) ⟨v, M⟩ = .ok (.val d) ⟨v, M⟩ := by simp [evX]
theorem tup3_ev {c : Cn} {a b d : Ex} {x y z : D} {s : S} (ha : evX c a s = .ok (.val x) s) (hb : evX c b s = .ok (.val y) s) (hd : evX c d s = .ok (.val z) s) : evX c (.tup (.cons a (.cons b (.cons d .nil)))) s = .ok (.val (.tup [x, y, z])) s := by
  simp [evX, evEs, R.bind, ha, hb, hd, toVal, fit3]
theorem lst5_ev {C : Cn} {a1 a2 a3 a4 a5 : Ex} {x1 x2 x3 x4 x5 : D} {s : S} (h1 : evX C a1 s = .ok (.val x1) s) (h2 : evX C a2 s = .ok (.val x2) s) (h3 : evX C a3 s = .ok (.val x3) s) (h4 : evX C a4 s = .ok (.val x4) s) (h5 : evX C a5 s = .ok (.val x5) s) :
    evX C (.lst (.cons a1 (.cons a2 (.cons a3 (.cons a4 (.cons a5 .nil)))))) s = .ok (.new [x1, x2, x3, x4, x5]) s := by
  simp [evX, evEs, R.bind, h1, h2, h3, h4, h5, toVal, fit5]
/-! ### a loop over a list that a name owns -/
theorem fors_invK {c : Cn} (st : Stm) {t : Tg} {it : It} {b : Stms} {s s1 : S} {m : Itm} (hst : st = .fors t it b) (hi : evI c it s = .ok m s1) (hc : m.chk = []) (P : Nat → S → Prop) (h0 : P 0 ⟨lock s1.v m.lks, s1.M⟩)
    (step : ∀ j x s, m.xs[j]? = some x → P j s → ∃ s', ((evG c t x s).bind fun _ s2 => evSs c b s2) = .ok .nx s' ∧ P (j + 1) s') : ∃ s', evS c st s = .ok .nx ⟨unlock s'.v m.lks, s'.M⟩ ∧ P m.xs.length s' := by
  subst hst
  obtain ⟨xs, chk, lks⟩ := m
  dsimp only at hc step h0
  subst hc
  obtain ⟨s', e, h⟩ := forL_inv (ok := Itm.ok ⟨xs, [], lks⟩) (fun _ => rfl) P xs 0 (fun j x s hx hp => by
    rw [Nat.zero_add] at hp ⊢
    exact step j x s hx hp) ⟨lock s1.v lks, s1.M⟩ h0
  refine ⟨s', ?_, by rw [Nat.zero_add] at h; exact h⟩
  rw [evS, hi]
  exact (congrArg (unl lks) e).trans rfl
/-! ### the sums by hand -/
abbrev Tr (a b c : Str) (p q r : Int) : List Np := [(a, p), (b, q), (c, r)]
theorem ne_E {x : Str} (h : 1 ≤ x.length) : ¬ x = sE := fun e => by
  rw [e] at h
  exact absurd h (by decide)
theorem h_zero (a b c : Str) : suW (Tr a b c 0 0 0) = s0 := by
  simp [suW, Tr, List.foldl, saiF]
theorem h_two (a b c : Str) (ha : NmOk a) : suW (Tr a b c (-1) 0 2) = sN ++ a ++ sP ++ (ts 2 ++ sBk ++ c) := by
  have e1 : ¬ sN ++ a = sE := ne_E (by rw [sl_app]; have := ha.1; omega)
  have e2 : ¬ sN ++ a ++ sP ++ (ts 2 ++ sBk ++ c) = sE := ne_E (by rw [sl_app, sl_app, sl_app]; have := ha.1; omega)
  have a1 : ab (-1) = 1 := rfl
  have a2 : ab 2 = 2 := rfl
  simp [suW, Tr, List.foldl, saiF, wordOf, a1, a2, e1, e2]
theorem h_nine (a b c : Str) : suW (Tr a b c 0 (-9) (-1)) = sN ++ (ts 9 ++ sBk ++ b) ++ sM ++ c := by
  have e1 : ¬ sN ++ (ts 9 ++ sBk ++ b) = sE := ne_E (by rw [sl_app]; have : sN.length = 1 := rfl; omega)
  have e2 : ¬ sN ++ (ts 9 ++ sBk ++ b) ++ sM ++ c = sE := ne_E (by rw [sl_app, sl_app, sl_app]; have : sN.length = 1 := rfl; omega)
  have a1 : ab (-9) = 9 := rfl
  have a2 : ab (-1) = 1 := rfl
  simp [suW, Tr, List.foldl, saiF, wordOf, a1, a2, e1, e2]
theorem h_ones (a b c : Str) (ha : NmOk a) : suW (Tr a b c 1 1 (-1)) = a ++ sP ++ b ++ sM ++ c := by
  have e0 : ¬ a = sE := ne_E ha.1
  have e1 : ¬ a ++ sP ++ b = sE := ne_E (by rw [sl_app, sl_app]; have := ha.1; omega)
  have e2 : ¬ a ++ sP ++ b ++ sM ++ c = sE := ne_E (by rw [sl_app, sl_app, sl_app, sl_app]; have := ha.1; omega)
  have a1 : ab 1 = 1 := rfl
  have a2 : ab (-1) = 1 := rfl
  simp [suW, Tr, List.foldl, saiF, wordOf, a1, a2, e0, e1, e2]
theorem h_three (a b c : Str) : suW (Tr a b c 0 3 0) = ts 3 ++ sBk ++ b := by
  have l3 : (ts 3).length = 1 := by decide +kernel
  have e1 : ¬ ts 3 ++ sBk ++ b = sE := ne_E (by rw [sl_app, sl_app]; omega)
  have a1 : ab 3 = 3 := rfl
  simp [suW, Tr, List.foldl, saiF, wordOf, a1, e1]
abbrev yW (y : Bool) : Str := if y then sL' else sW'
theorem q0s (a b c : Str) : Str.ofString "0 is at least 5" = qw (Tr a b c 0 0 0) 5 true ∧ Str.ofString "0 is below 5" = qw (Tr a b c 0 0 0) 5 false := by
  unfold qw
  rw [h_zero]
  exact ⟨by decide +kernel, by decide +kernel⟩
theorem k_2 : Str.ofString " + 2 " = sP ++ (ts 2 ++ sBk) := by decide +kernel
theorem k_9 : Str.ofString "-9 " = sN ++ (ts 9 ++ sBk) := by decide +kernel
theorem k_3 : Str.ofString "3 " = ts 3 ++ sBk := by decide +kernel
theorem k_y : Str.ofString " is at least -3" = sL' ++ ts (-3) ∧ Str.ofString " is below -3" = sW' ++ ts (-3) ∧ Str.ofString " is at least 0" = sL' ++ ts 0 ∧ Str.ofString " is below 0" = sW' ++ ts 0 ∧ Str.ofString " is at least 99" = sL' ++ ts 99 ∧ Str.ofString " is below 99" = sW' ++ ts 99 ∧ Str.ofString " is at least -99" = sL' ++ ts (-99) ∧ Str.ofString " is below -99" = sW' ++ ts (-99) := by
  refine ⟨?_, ?_, ?_, ?_, ?_, ?_, ?_, ?_⟩ <;> decide +kernel
/-- the rows: a question, its words -/
def rowD (a b c : Str) (p q r k : Int) : D := .tup [quD [p, q, r] k, .str (qw (Tr a b c p q r) k true), .str (qw (Tr a b c p q r) k false)]
end G

/-! ## W12 -/
set_option Elab.async false
set_option linter.all false
set_option maxRecDepth 100000
set_option maxHeartbeats 8000000
namespace G
open PySem
/-! ### the rows by hand -/
abbrev rE0q : Ex := .tup (.cons (.tup (.cons (.cst (.int 0)) (.cons (.cst (.int 0)) (.cons (.cst (.int 0)) .nil)))) (.cons (.cst (.int 5)) .nil))
abbrev rE01 : Ex := .cst (.str (Str.ofString "0 is at least 5"))
abbrev rE02 : Ex := .cst (.str (Str.ofString "0 is below 5"))
theorem r0q {C : Cn} (v : List Slot) (M : List Cell) : evX C rE0q ⟨v, M⟩ = .ok (.val (quD [0, 0, 0] 5)) ⟨v, M⟩ := by
  simp [evSs, evS, evX, evXs, evEs, evA, evAg, evT, evTB, evB, evG, evGs, evI, Tgs.len, varD, R.bind, biD, bi1, bi2_gcd, lif, toVal, setName_def, isRo_no, isRo_val, isRo_own, cmpD, truD, negD, binD, intOp, retD, ofBody, callD, call_CN, callkD, slots, Ar.slot, lend, ofCall, subD, seq, lis, G.atI, isTys, isTy, eqD, D.eqv, pure60, D.pure, D.deep, List.set, setD, putL, cell, methD, mtD, strI, ofSeq, plcC, plcV, unl, lock, unlock, rngD, forL, Itm.ok, stays, List.all_nil, fit0, fit1, fit2, fit3, fit4, fit5, fit6, fit7, fit8, fit9, fit10, fit11, fit12, fit13, fit14, fit15, fit16, quD, inD']
theorem r01 {C : Cn} {v : List Slot} {a b c : Str} (va : v[2]? = some (.val (.str a))) (vb : v[3]? = some (.val (.str b))) (vc : v[4]? = some (.val (.str c))) (ha : NmOk a) (hb : NmOk b) (hc : NmOk c) (M : List Cell) : evX C rE01 ⟨v, M⟩ = .ok (.val (.str (qw (Tr a b c 0 0 0) 5 true))) ⟨v, M⟩ := by
  rw [← (q0s a b c).1]
  exact cst_ev _
theorem r02 {C : Cn} {v : List Slot} {a b c : Str} (va : v[2]? = some (.val (.str a))) (vb : v[3]? = some (.val (.str b))) (vc : v[4]? = some (.val (.str c))) (ha : NmOk a) (hb : NmOk b) (hc : NmOk c) (M : List Cell) : evX C rE02 ⟨v, M⟩ = .ok (.val (.str (qw (Tr a b c 0 0 0) 5 false))) ⟨v, M⟩ := by
  rw [← (q0s a b c).2]
  exact cst_ev _
abbrev rE1q : Ex := .tup (.cons (.tup (.cons (.neg (.cst (.int 1))) (.cons (.cst (.int 0)) (.cons (.cst (.int 2)) .nil)))) (.cons (.neg (.cst (.int 3))) .nil))
abbrev rE11 : Ex := .fstr (.cons (.cst (.str (Str.ofString "-"))) (.cons (.var 2) (.cons (.cst (.str (Str.ofString " + 2 "))) (.cons (.var 4) (.cons (.cst (.str (Str.ofString " is at least -3"))) .nil)))))
abbrev rE12 : Ex := .fstr (.cons (.cst (.str (Str.ofString "-"))) (.cons (.var 2) (.cons (.cst (.str (Str.ofString " + 2 "))) (.cons (.var 4) (.cons (.cst (.str (Str.ofString " is below -3"))) .nil)))))
theorem r1q {C : Cn} (v : List Slot) (M : List Cell) : evX C rE1q ⟨v, M⟩ = .ok (.val (quD [-1, 0, 2] (-3))) ⟨v, M⟩ := by
  simp [evSs, evS, evX, evXs, evEs, evA, evAg, evT, evTB, evB, evG, evGs, evI, Tgs.len, varD, R.bind, biD, bi1, bi2_gcd, lif, toVal, setName_def, isRo_no, isRo_val, isRo_own, cmpD, truD, negD, binD, intOp, retD, ofBody, callD, call_CN, callkD, slots, Ar.slot, lend, ofCall, subD, seq, lis, G.atI, isTys, isTy, eqD, D.eqv, pure60, D.pure, D.deep, List.set, setD, putL, cell, methD, mtD, strI, ofSeq, plcC, plcV, unl, lock, unlock, rngD, forL, Itm.ok, stays, List.all_nil, fit0, fit1, fit2, fit3, fit4, fit5, fit6, fit7, fit8, fit9, fit10, fit11, fit12, fit13, fit14, fit15, fit16, quD, inD']
theorem r11 {C : Cn} {v : List Slot} {a b c : Str} (va : v[2]? = some (.val (.str a))) (vb : v[3]? = some (.val (.str b))) (vc : v[4]? = some (.val (.str c))) (ha : NmOk a) (hb : NmOk b) (hc : NmOk c) (M : List Cell) : evX C rE11 ⟨v, M⟩ = .ok (.val (.str (qw (Tr a b c (-1) 0 2) (-3) true))) ⟨v, M⟩ := by
  refine fstr_ev [(.cst (.str (Str.ofString "-")), Str.ofString "-"), (.var 2, a), (.cst (.str (Str.ofString " + 2 ")), Str.ofString " + 2 "), (.var 4, c), (.cst (.str (Str.ofString " is at least -3")), Str.ofString " is at least -3")] _ (fun x hx => ?_) (by simp) ?_
  · simp only [List.mem_cons, List.not_mem_nil, or_false] at hx
    rcases hx with rfl | rfl | rfl | rfl | rfl
    · exact ⟨cst_ev _, by decide⟩
    · exact ⟨var_ev va M, Nat.le_trans ha.2 (by decide)⟩
    · exact ⟨cst_ev _, by decide⟩
    · exact ⟨var_ev vc M, Nat.le_trans hc.2 (by decide)⟩
    · exact ⟨cst_ev _, by decide⟩
  · obtain ⟨y1, y2, y3, y4, y5, y6, y7, y8⟩ := k_y
    unfold qw
    rw [h_two _ _ _ ha]
    simp only [catF, k_2, k_9, k_3, y1, y2, y3, y4, y5, y6, y7, y8, s_empty, s_assoc, if_true, Bool.false_eq_true, if_false]
theorem r12 {C : Cn} {v : List Slot} {a b c : Str} (va : v[2]? = some (.val (.str a))) (vb : v[3]? = some (.val (.str b))) (vc : v[4]? = some (.val (.str c))) (ha : NmOk a) (hb : NmOk b) (hc : NmOk c) (M : List Cell) : evX C rE12 ⟨v, M⟩ = .ok (.val (.str (qw (Tr a b c (-1) 0 2) (-3) false))) ⟨v, M⟩ := by
  refine fstr_ev [(.cst (.str (Str.ofString "-")), Str.ofString "-"), (.var 2, a), (.cst (.str (Str.ofString " + 2 ")), Str.ofString " + 2 "), (.var 4, c), (.cst (.str (Str.ofString " is below -3")), Str.ofString " is below -3")] _ (fun x hx => ?_) (by simp) ?_
  · simp only [List.mem_cons, List.not_mem_nil, or_false] at hx
    rcases hx with rfl | rfl | rfl | rfl | rfl
    · exact ⟨cst_ev _, by decide⟩
    · exact ⟨var_ev va M, Nat.le_trans ha.2 (by decide)⟩
    · exact ⟨cst_ev _, by decide⟩
    · exact ⟨var_ev vc M, Nat.le_trans hc.2 (by decide)⟩
    · exact ⟨cst_ev _, by decide⟩
  · obtain ⟨y1, y2, y3, y4, y5, y6, y7, y8⟩ := k_y
    unfold qw
    rw [h_two _ _ _ ha]
    simp only [catF, k_2, k_9, k_3, y1, y2, y3, y4, y5, y6, y7, y8, s_empty, s_assoc, if_true, Bool.false_eq_true, if_false]
abbrev rE2q : Ex := .tup (.cons (.tup (.cons (.cst (.int 0)) (.cons (.neg (.cst (.int 9))) (.cons (.neg (.cst (.int 1))) .nil)))) (.cons (.cst (.int 0)) .nil))
abbrev rE21 : Ex := .fstr (.cons (.cst (.str (Str.ofString "-9 "))) (.cons (.var 3) (.cons (.cst (.str (Str.ofString " - "))) (.cons (.var 4) (.cons (.cst (.str (Str.ofString " is at least 0"))) .nil)))))
abbrev rE22 : Ex := .fstr (.cons (.cst (.str (Str.ofString "-9 "))) (.cons (.var 3) (.cons (.cst (.str (Str.ofString " - "))) (.cons (.var 4) (.cons (.cst (.str (Str.ofString " is below 0"))) .nil)))))
theorem r2q {C : Cn} (v : List Slot) (M : List Cell) : evX C rE2q ⟨v, M⟩ = .ok (.val (quD [0, -9, -1] 0)) ⟨v, M⟩ := by
  simp [evSs, evS, evX, evXs, evEs, evA, evAg, evT, evTB, evB, evG, evGs, evI, Tgs.len, varD, R.bind, biD, bi1, bi2_gcd, lif, toVal, setName_def, isRo_no, isRo_val, isRo_own, cmpD, truD, negD, binD, intOp, retD, ofBody, callD, call_CN, callkD, slots, Ar.slot, lend, ofCall, subD, seq, lis, G.atI, isTys, isTy, eqD, D.eqv, pure60, D.pure, D.deep, List.set, setD, putL, cell, methD, mtD, strI, ofSeq, plcC, plcV, unl, lock, unlock, rngD, forL, Itm.ok, stays, List.all_nil, fit0, fit1, fit2, fit3, fit4, fit5, fit6, fit7, fit8, fit9, fit10, fit11, fit12, fit13, fit14, fit15, fit16, quD, inD']
theorem r21 {C : Cn} {v : List Slot} {a b c : Str} (va : v[2]? = some (.val (.str a))) (vb : v[3]? = some (.val (.str b))) (vc : v[4]? = some (.val (.str c))) (ha : NmOk a) (hb : NmOk b) (hc : NmOk c) (M : List Cell) : evX C rE21 ⟨v, M⟩ = .ok (.val (.str (qw (Tr a b c 0 (-9) (-1)) 0 true))) ⟨v, M⟩ := by
  refine fstr_ev [(.cst (.str (Str.ofString "-9 ")), Str.ofString "-9 "), (.var 3, b), (.cst (.str (Str.ofString " - ")), Str.ofString " - "), (.var 4, c), (.cst (.str (Str.ofString " is at least 0")), Str.ofString " is at least 0")] _ (fun x hx => ?_) (by simp) ?_
  · simp only [List.mem_cons, List.not_mem_nil, or_false] at hx
    rcases hx with rfl | rfl | rfl | rfl | rfl
    · exact ⟨cst_ev _, by decide⟩
    · exact ⟨var_ev vb M, Nat.le_trans hb.2 (by decide)⟩
    · exact ⟨cst_ev _, by decide⟩
    · exact ⟨var_ev vc M, Nat.le_trans hc.2 (by decide)⟩
    · exact ⟨cst_ev _, by decide⟩
  · obtain ⟨y1, y2, y3, y4, y5, y6, y7, y8⟩ := k_y
    unfold qw
    rw [h_nine]
    simp only [catF, k_2, k_9, k_3, y1, y2, y3, y4, y5, y6, y7, y8, s_empty, s_assoc, if_true, Bool.false_eq_true, if_false]
theorem r22 {C : Cn} {v : List Slot} {a b c : Str} (va : v[2]? = some (.val (.str a))) (vb : v[3]? = some (.val (.str b))) (vc : v[4]? = some (.val (.str c))) (ha : NmOk a) (hb : NmOk b) (hc : NmOk c) (M : List Cell) : evX C rE22 ⟨v, M⟩ = .ok (.val (.str (qw (Tr a b c 0 (-9) (-1)) 0 false))) ⟨v, M⟩ := by
  refine fstr_ev [(.cst (.str (Str.ofString "-9 ")), Str.ofString "-9 "), (.var 3, b), (.cst (.str (Str.ofString " - ")), Str.ofString " - "), (.var 4, c), (.cst (.str (Str.ofString " is below 0")), Str.ofString " is below 0")] _ (fun x hx => ?_) (by simp) ?_
  · simp only [List.mem_cons, List.not_mem_nil, or_false] at hx
    rcases hx with rfl | rfl | rfl | rfl | rfl
    · exact ⟨cst_ev _, by decide⟩
    · exact ⟨var_ev vb M, Nat.le_trans hb.2 (by decide)⟩
    · exact ⟨cst_ev _, by decide⟩
    · exact ⟨var_ev vc M, Nat.le_trans hc.2 (by decide)⟩
    · exact ⟨cst_ev _, by decide⟩
  · obtain ⟨y1, y2, y3, y4, y5, y6, y7, y8⟩ := k_y
    unfold qw
    rw [h_nine]
    simp only [catF, k_2, k_9, k_3, y1, y2, y3, y4, y5, y6, y7, y8, s_empty, s_assoc, if_true, Bool.false_eq_true, if_false]
abbrev rE3q : Ex := .tup (.cons (.tup (.cons (.cst (.int 1)) (.cons (.cst (.int 1)) (.cons (.neg (.cst (.int 1))) .nil)))) (.cons (.cst (.int 99)) .nil))
abbrev rE31 : Ex := .fstr (.cons (.var 2) (.cons (.cst (.str (Str.ofString " + "))) (.cons (.var 3) (.cons (.cst (.str (Str.ofString " - "))) (.cons (.var 4) (.cons (.cst (.str (Str.ofString " is at least 99"))) .nil))))))
abbrev rE32 : Ex := .fstr (.cons (.var 2) (.cons (.cst (.str (Str.ofString " + "))) (.cons (.var 3) (.cons (.cst (.str (Str.ofString " - "))) (.cons (.var 4) (.cons (.cst (.str (Str.ofString " is below 99"))) .nil))))))
theorem r3q {C : Cn} (v : List Slot) (M : List Cell) : evX C rE3q ⟨v, M⟩ = .ok (.val (quD [1, 1, -1] 99)) ⟨v, M⟩ := by
  simp [evSs, evS, evX, evXs, evEs, evA, evAg, evT, evTB, evB, evG, evGs, evI, Tgs.len, varD, R.bind, biD, bi1, bi2_gcd, lif, toVal, setName_def, isRo_no, isRo_val, isRo_own, cmpD, truD, negD, binD, intOp, retD, ofBody, callD, call_CN, callkD, slots, Ar.slot, lend, ofCall, subD, seq, lis, G.atI, isTys, isTy, eqD, D.eqv, pure60, D.pure, D.deep, List.set, setD, putL, cell, methD, mtD, strI, ofSeq, plcC, plcV, unl, lock, unlock, rngD, forL, Itm.ok, stays, List.all_nil, fit0, fit1, fit2, fit3, fit4, fit5, fit6, fit7, fit8, fit9, fit10, fit11, fit12, fit13, fit14, fit15, fit16, quD, inD']
theorem r31 {C : Cn} {v : List Slot} {a b c : Str} (va : v[2]? = some (.val (.str a))) (vb : v[3]? = some (.val (.str b))) (vc : v[4]? = some (.val (.str c))) (ha : NmOk a) (hb : NmOk b) (hc : NmOk c) (M : List Cell) : evX C rE31 ⟨v, M⟩ = .ok (.val (.str (qw (Tr a b c 1 1 (-1)) 99 true))) ⟨v, M⟩ := by
  refine fstr_ev [(.var 2, a), (.cst (.str (Str.ofString " + ")), Str.ofString " + "), (.var 3, b), (.cst (.str (Str.ofString " - ")), Str.ofString " - "), (.var 4, c), (.cst (.str (Str.ofString " is at least 99")), Str.ofString " is at least 99")] _ (fun x hx => ?_) (by simp) ?_
  · simp only [List.mem_cons, List.not_mem_nil, or_false] at hx
    rcases hx with rfl | rfl | rfl | rfl | rfl | rfl
    · exact ⟨var_ev va M, Nat.le_trans ha.2 (by decide)⟩
    · exact ⟨cst_ev _, by decide⟩
    · exact ⟨var_ev vb M, Nat.le_trans hb.2 (by decide)⟩
    · exact ⟨cst_ev _, by decide⟩
    · exact ⟨var_ev vc M, Nat.le_trans hc.2 (by decide)⟩
    · exact ⟨cst_ev _, by decide⟩
  · obtain ⟨y1, y2, y3, y4, y5, y6, y7, y8⟩ := k_y
    unfold qw
    rw [h_ones _ _ _ ha]
    simp only [catF, k_2, k_9, k_3, y1, y2, y3, y4, y5, y6, y7, y8, s_empty, s_assoc, if_true, Bool.false_eq_true, if_false]
theorem r32 {C : Cn} {v : List Slot} {a b c : Str} (va : v[2]? = some (.val (.str a))) (vb : v[3]? = some (.val (.str b))) (vc : v[4]? = some (.val (.str c))) (ha : NmOk a) (hb : NmOk b) (hc : NmOk c) (M : List Cell) : evX C rE32 ⟨v, M⟩ = .ok (.val (.str (qw (Tr a b c 1 1 (-1)) 99 false))) ⟨v, M⟩ := by
  refine fstr_ev [(.var 2, a), (.cst (.str (Str.ofString " + ")), Str.ofString " + "), (.var 3, b), (.cst (.str (Str.ofString " - ")), Str.ofString " - "), (.var 4, c), (.cst (.str (Str.ofString " is below 99")), Str.ofString " is below 99")] _ (fun x hx => ?_) (by simp) ?_
  · simp only [List.mem_cons, List.not_mem_nil, or_false] at hx
    rcases hx with rfl | rfl | rfl | rfl | rfl | rfl
    · exact ⟨var_ev va M, Nat.le_trans ha.2 (by decide)⟩
    · exact ⟨cst_ev _, by decide⟩
    · exact ⟨var_ev vb M, Nat.le_trans hb.2 (by decide)⟩
    · exact ⟨cst_ev _, by decide⟩
    · exact ⟨var_ev vc M, Nat.le_trans hc.2 (by decide)⟩
    · exact ⟨cst_ev _, by decide⟩
  · obtain ⟨y1, y2, y3, y4, y5, y6, y7, y8⟩ := k_y
    unfold qw
    rw [h_ones _ _ _ ha]
    simp only [catF, k_2, k_9, k_3, y1, y2, y3, y4, y5, y6, y7, y8, s_empty, s_assoc, if_true, Bool.false_eq_true, if_false]
abbrev rE4q : Ex := .tup (.cons (.tup (.cons (.cst (.int 0)) (.cons (.cst (.int 3)) (.cons (.cst (.int 0)) .nil)))) (.cons (.neg (.cst (.int 99))) .nil))
abbrev rE41 : Ex := .fstr (.cons (.cst (.str (Str.ofString "3 "))) (.cons (.var 3) (.cons (.cst (.str (Str.ofString " is at least -99"))) .nil)))
abbrev rE42 : Ex := .fstr (.cons (.cst (.str (Str.ofString "3 "))) (.cons (.var 3) (.cons (.cst (.str (Str.ofString " is below -99"))) .nil)))
theorem r4q {C : Cn} (v : List Slot) (M : List Cell) : evX C rE4q ⟨v, M⟩ = .ok (.val (quD [0, 3, 0] (-99))) ⟨v, M⟩ := by
  simp [evSs, evS, evX, evXs, evEs, evA, evAg, evT, evTB, evB, evG, evGs, evI, Tgs.len, varD, R.bind, biD, bi1, bi2_gcd, lif, toVal, setName_def, isRo_no, isRo_val, isRo_own, cmpD, truD, negD, binD, intOp, retD, ofBody, callD, call_CN, callkD, slots, Ar.slot, lend, ofCall, subD, seq, lis, G.atI, isTys, isTy, eqD, D.eqv, pure60, D.pure, D.deep, List.set, setD, putL, cell, methD, mtD, strI, ofSeq, plcC, plcV, unl, lock, unlock, rngD, forL, Itm.ok, stays, List.all_nil, fit0, fit1, fit2, fit3, fit4, fit5, fit6, fit7, fit8, fit9, fit10, fit11, fit12, fit13, fit14, fit15, fit16, quD, inD']
theorem r41 {C : Cn} {v : List Slot} {a b c : Str} (va : v[2]? = some (.val (.str a))) (vb : v[3]? = some (.val (.str b))) (vc : v[4]? = some (.val (.str c))) (ha : NmOk a) (hb : NmOk b) (hc : NmOk c) (M : List Cell) : evX C rE41 ⟨v, M⟩ = .ok (.val (.str (qw (Tr a b c 0 3 0) (-99) true))) ⟨v, M⟩ := by
  refine fstr_ev [(.cst (.str (Str.ofString "3 ")), Str.ofString "3 "), (.var 3, b), (.cst (.str (Str.ofString " is at least -99")), Str.ofString " is at least -99")] _ (fun x hx => ?_) (by simp) ?_
  · simp only [List.mem_cons, List.not_mem_nil, or_false] at hx
    rcases hx with rfl | rfl | rfl
    · exact ⟨cst_ev _, by decide⟩
    · exact ⟨var_ev vb M, Nat.le_trans hb.2 (by decide)⟩
    · exact ⟨cst_ev _, by decide⟩
  · obtain ⟨y1, y2, y3, y4, y5, y6, y7, y8⟩ := k_y
    unfold qw
    rw [h_three]
    simp only [catF, k_2, k_9, k_3, y1, y2, y3, y4, y5, y6, y7, y8, s_empty, s_assoc, if_true, Bool.false_eq_true, if_false]
theorem r42 {C : Cn} {v : List Slot} {a b c : Str} (va : v[2]? = some (.val (.str a))) (vb : v[3]? = some (.val (.str b))) (vc : v[4]? = some (.val (.str c))) (ha : NmOk a) (hb : NmOk b) (hc : NmOk c) (M : List Cell) : evX C rE42 ⟨v, M⟩ = .ok (.val (.str (qw (Tr a b c 0 3 0) (-99) false))) ⟨v, M⟩ := by
  refine fstr_ev [(.cst (.str (Str.ofString "3 ")), Str.ofString "3 "), (.var 3, b), (.cst (.str (Str.ofString " is below -99")), Str.ofString " is below -99")] _ (fun x hx => ?_) (by simp) ?_
  · simp only [List.mem_cons, List.not_mem_nil, or_false] at hx
    rcases hx with rfl | rfl | rfl
    · exact ⟨cst_ev _, by decide⟩
    · exact ⟨var_ev vb M, Nat.le_trans hb.2 (by decide)⟩
    · exact ⟨cst_ev _, by decide⟩
  · obtain ⟨y1, y2, y3, y4, y5, y6, y7, y8⟩ := k_y
    unfold qw
    rw [h_three]
    simp only [catF, k_2, k_9, k_3, y1, y2, y3, y4, y5, y6, y7, y8, s_empty, s_assoc, if_true, Bool.false_eq_true, if_false]
def rowsD (a b c : Str) : List D := [rowD a b c 0 0 0 5, rowD a b c (-1) 0 2 (-3), rowD a b c 0 (-9) (-1) 0, rowD a b c 1 1 (-1) 99, rowD a b c 0 3 0 (-99)]
theorem rows_ev {C : Cn} {v : List Slot} {a b c : Str} (va : v[2]? = some (.val (.str a))) (vb : v[3]? = some (.val (.str b))) (vc : v[4]? = some (.val (.str c))) (ha : NmOk a) (hb : NmOk b) (hc : NmOk c) (h5 : v[5]? = some .no) (M : List Cell) : evS C l_by_hand_1 ⟨v, M⟩ = .ok .nx ⟨v.set 5 (.own (rowsD a b c)), M⟩ := by
  have e := lst5_ev (C := C) (tup3_ev (r0q _ _) (r01 va vb vc ha hb hc M) (r02 va vb vc ha hb hc M)) (tup3_ev (r1q _ _) (r11 va vb vc ha hb hc M) (r12 va vb vc ha hb hc M)) (tup3_ev (r2q _ _) (r21 va vb vc ha hb hc M) (r22 va vb vc ha hb hc M)) (tup3_ev (r3q _ _) (r31 va vb vc ha hb hc M) (r32 va vb vc ha hb hc M)) (tup3_ev (r4q _ _) (r41 va vb vc ha hb hc M) (r42 va vb vc ha hb hc M))
  show evS C (.own 5 _) _ = _
  rw [evS, e]
  simp [R.bind, setName_def, isRo, h5, rowsD, rowD]
end G

/-! ## W13 -/
set_option Elab.async false
set_option linter.all false
set_option maxRecDepth 100000
set_option maxHeartbeats 8000000
namespace G
open PySem
theorem rows_mem {a b c : Str} {x : D} (h : x ∈ rowsD a b c) : ∃ p q r k : Int, x = rowD a b c p q r k ∧ p.natAbs ≤ 9 ∧ q.natAbs ≤ 9 ∧ r.natAbs ≤ 9 ∧ k.natAbs ≤ 99 := by
  unfold rowsD at h
  simp only [List.mem_cons, List.not_mem_nil, or_false] at h
  rcases h with rfl | rfl | rfl | rfl | rfl
  · exact ⟨_, _, _, _, rfl, by decide, by decide, by decide, by decide⟩
  · exact ⟨_, _, _, _, rfl, by decide, by decide, by decide, by decide⟩
  · exact ⟨_, _, _, _, rfl, by decide, by decide, by decide, by decide⟩
  · exact ⟨_, _, _, _, rfl, by decide, by decide, by decide, by decide⟩
  · exact ⟨_, _, _, _, rfl, by decide, by decide, by decide, by decide⟩
theorem join2 (s x y : Str) : Txt.join s [x, y] = x ++ s ++ y := rfl
theorem join1 (s x : Str) : Txt.join s [x] = x := rfl
theorem kb_in (n : Nat) (a b : Slot) : (CN n).kb (Str.ofString "in_words") 0 [Str.ofString "program", Str.ofString "setting"] [a, b] = some [b, a] := rfl
theorem c_by_hand (n : Nat) (a b : Slot) (M : List Cell) : RN (n+1) (Str.ofString "_law_by_hand") [a, b] M = ofBody (evSs (CN n) bl_by_hand ⟨[a, b, .no, .no, .no, .no, .no, .no, .no, .no, .no], M⟩) := rfl
abbrev sp : Str := Str.ofString "p"
abbrev sq' : Str := Str.ofString "q"
abbrev pgH : Pg := .ask [0, 0, 0] 5 (.ask [-1, 0, 2] (-3) (.tell sp) (.tell sq')) (.tell sp)
theorem s_by_hand (n nl : Nat) (M : List Cell) (kd : D) (a b c : Str) (ha : NmOk a) (hb : NmOk b) (hc : NmOk c) (hM : M[nl]? = some (.lst [.str a, .str b, .str c])) :
    RN (n+23) (Str.ofString "_law_by_hand") [.val (stD kd [(a, 1), (b, 1), (c, 1)]), .val (.loc nl)] M = .ok (.val (.bl true)) M := by
  rw [c_by_hand]
  obtain ⟨C, hC, hg⟩ := opq (n+22)
  rw [← hC]
  have hr : RsOk [(a, 1), (b, 1), (c, 1)] := ⟨by show 3 ≤ 8; decide, fun r h => by
    simp only [List.mem_cons, List.not_mem_nil, or_false] at h
    rcases h with rfl | rfl | rfl
    · exact ha
    · exact hb
    · exact hc⟩
  have qo : ∀ {p q r k : Int}, p.natAbs ≤ 9 → q.natAbs ≤ 9 → r.natAbs ≤ 9 → k.natAbs ≤ 99 → QuOk [(a, 1), (b, 1), (c, 1)] [p, q, r] k := fun hp hq hr hk => ⟨rfl, fun x h => by
    simp only [List.mem_cons, List.not_mem_nil, or_false] at h
    rcases h with rfl | rfl | rfl
    · exact hp
    · exact hq
    · exact hr, hk⟩
  have eq1 : ∀ (p q r k : Int) (y : Bool), p.natAbs ≤ 9 → q.natAbs ≤ 9 → r.natAbs ≤ 9 → k.natAbs ≤ 99 → C.call (Str.ofString "question_words") [.val (stD kd [(a, 1), (b, 1), (c, 1)]), .val (quD [p, q, r] k), .val (.int (yI y))] M = .ok (.val (.str (qw (Tr a b c p q r) k y))) M := fun p q r k y h1 h2 h3 h4 =>
    hg (s_question_words (n+19) M kd _ [p, q, r] k y hr (qo h1 h2 h3 h4))
  have esS : ∀ x : Str, C.call (Str.ofString "_law_same") [.val (.str x), .val (.str x)] M = .ok (.val (.bl true)) M := fun x => hg (s_sameS (n+21) M x)
  have qP : Qw [(a, 1), (b, 1), (c, 1)] pgH := ⟨qo (by decide) (by decide) (by decide) (by decide), ⟨qo (by decide) (by decide) (by decide) (by decide), by show sp.length ≤ 20; decide, by show sq'.length ≤ 20; decide⟩, by show sp.length ≤ 20; decide⟩
  have ly : ∀ (p q r k : Int) (y : Bool), p.natAbs ≤ 9 → q.natAbs ≤ 9 → r.natAbs ≤ 9 → k.natAbs ≤ 99 → (qw (Tr a b c p q r) k y).length ≤ 400 := fun p q r k y h1 h2 h3 h4 => qw_len hr (qo h1 h2 h3 h4) y
  have eI : C.call (Str.ofString "in_words") [.val (stD kd [(a, 1), (b, 1), (c, 1)]), .val (pgD pgH)] M = .ok (.own (((lvs pgH).map (lineOf [a, b, c] pgH)).map D.str)) M := hg (s_in_words n M kd _ pgH hr qP (by decide) (by decide))
  have eI2 : C.call (Str.ofString "in_words") [.val (stD kd [(a, 1), (b, 1), (c, 1)]), .val (pgD (.tell sp))] M = .ok (.own (((lvs (.tell sp)).map (lineOf [a, b, c] (.tell sp))).map D.str)) M := hg (s_in_words n M kd _ (.tell sp) hr (by show sp.length ≤ 20; decide) (by decide) (by decide))
  have eW : C.call (Str.ofString "way_words") [.val (stD kd [(a, 1), (b, 1), (c, 1)]), .val (pgD pgH), .val (wD [1, 0])] M = .ok (.own ((al [a, b, c] pgH [1, 0]).map D.str)) M := hg (s_way_words (n+18) M kd _ pgH [1, 0] hr qP ⟨.inl rfl, ⟨.inr rfl, by simp only [if_true, if_neg (show ¬ (0 : Int) = 1 by decide)]; exact trivial⟩⟩ (by decide))
  have eW2 : C.call (Str.ofString "way_words") [.val (stD kd [(a, 1), (b, 1), (c, 1)]), .val (pgD pgH), .val (wD [])] M = .ok (.own ((al [a, b, c] pgH []).map D.str)) M := hg (s_way_words (n+18) M kd _ pgH [] hr qP trivial (by decide))
  have hl2 : (al [a, b, c] pgH [1, 0]) = [qw (Tr a b c 0 0 0) 5 true, qw (Tr a b c (-1) 0 2) (-3) false] := by
    simp [al, Tr]
  have hl3 : (lvs pgH).map (lineOf [a, b, c] pgH) = [Str.ofString "p if " ++ qw (Tr a b c 0 0 0) 5 true ++ Str.ofString " and " ++ qw (Tr a b c (-1) 0 2) (-3) true, Str.ofString "q if " ++ qw (Tr a b c 0 0 0) 5 true ++ Str.ofString " and " ++ qw (Tr a b c (-1) 0 2) (-3) false, Str.ofString "p if " ++ qw (Tr a b c 0 0 0) 5 false] := by
    have k1 : Str.ofString "p if " = sp ++ sIf := by decide +kernel
    have k2 : Str.ofString "q if " = sq' ++ sIf := by decide +kernel
    rw [k1, k2]
    simp [lvs, lineOf, al, join2, join1, s_assoc, Tr]
  have hl4 : (lvs (.tell sp)).map (lineOf [a, b, c] (.tell sp)) = [Str.ofString "p always"] := by
    have k1 : Str.ofString "p always" = sp ++ sAlw := by decide +kernel
    rw [k1]
    simp [lvs, lineOf, al]
  rw [hl2] at eW
  rw [hl3] at eI
  rw [hl4] at eI2
  have q1 := eq1 0 0 0 5
  have i0 : evS C l_by_hand_0 ⟨[.val (stD kd [(a, 1), (b, 1), (c, 1)]), .val (.loc nl), .no, .no, .no, .no, .no, .no, .no, .no, .no], M⟩ = .ok .nx ⟨[.val (stD kd [(a, 1), (b, 1), (c, 1)]), .val (.loc nl), .val (.str a), .val (.str b), .val (.str c), .no, .no, .no, .no, .no, .no], M⟩ := by
    generalize stD kd [(a, 1), (b, 1), (c, 1)] = st at *
    simp [evSs, evS, evX, evXs, evEs, evA, evAg, evT, evTB, evB, evG, evGs, evI, Tgs.len, varD, R.bind, biD, bi1, bi2_gcd, lif, toVal, setName_def, isRo_no, isRo_val, isRo_own, cmpD, truD, negD, binD, intOp, retD, ofBody, callD, call_CN, callkD, slots, Ar.slot, lend, ofCall, subD, seq, lis, G.atI, isTys, isTy, eqD, D.eqv, pure60, D.pure, D.deep, List.set, setD, putL, cell, methD, mtD, strI, ofSeq, plcC, plcV, unl, lock, unlock, rngD, forL, Itm.ok, stays, List.all_nil, fit0, fit1, fit2, fit3, fit4, fit5, fit6, fit7, fit8, fit9, fit10, fit11, fit12, fit13, fit14, fit15, fit16, hM]
  have i1 : evS C l_by_hand_1 ⟨[.val (stD kd [(a, 1), (b, 1), (c, 1)]), .val (.loc nl), .val (.str a), .val (.str b), .val (.str c), .no, .no, .no, .no, .no, .no], M⟩ = .ok .nx ⟨[.val (stD kd [(a, 1), (b, 1), (c, 1)]), .val (.loc nl), .val (.str a), .val (.str b), .val (.str c), .own (rowsD a b c), .no, .no, .no, .no, .no], M⟩ :=
    rows_ev (v := [.val (stD kd [(a, 1), (b, 1), (c, 1)]), .val (.loc nl), .val (.str a), .val (.str b), .val (.str c), .no, .no, .no, .no, .no, .no]) rfl rfl rfl ha hb hc rfl M
  have hi : evI C (.q (.var 5)) ⟨[.val (stD kd [(a, 1), (b, 1), (c, 1)]), .val (.loc nl), .val (.str a), .val (.str b), .val (.str c), .own (rowsD a b c), .no, .no, .no, .no, .no], M⟩ = .ok ⟨rowsD a b c, [], [(5, rowsD a b c)]⟩ ⟨[.val (stD kd [(a, 1), (b, 1), (c, 1)]), .val (.loc nl), .val (.str a), .val (.str b), .val (.str c), .own (rowsD a b c), .no, .no, .no, .no, .no], M⟩ := by
    generalize stD kd [(a, 1), (b, 1), (c, 1)] = st at *
    generalize rowsD a b c = RR at *
    simp [evSs, evS, evX, evXs, evEs, evA, evAg, evT, evTB, evB, evG, evGs, evI, Tgs.len, varD, R.bind, biD, bi1, bi2_gcd, lif, toVal, setName_def, isRo_no, isRo_val, isRo_own, cmpD, truD, negD, binD, intOp, retD, ofBody, callD, call_CN, callkD, slots, Ar.slot, lend, ofCall, subD, seq, lis, G.atI, isTys, isTy, eqD, D.eqv, pure60, D.pure, D.deep, List.set, setD, putL, cell, methD, mtD, strI, ofSeq, plcC, plcV, unl, lock, unlock, rngD, forL, Itm.ok, stays, List.all_nil, fit0, fit1, fit2, fit3, fit4, fit5, fit6, fit7, fit8, fit9, fit10, fit11, fit12, fit13, fit14, fit15, fit16]
  obtain ⟨s', i2, x6, x7, x8, n6, n7, n8, es⟩ := fors_invK l_by_hand_2 rfl hi rfl (fun j s => ∃ x6 x7 x8 : Slot, isRo x6 = false ∧ isRo x7 = false ∧ isRo x8 = false ∧ s = ⟨[.val (stD kd [(a, 1), (b, 1), (c, 1)]), .val (.loc nl), .val (.str a), .val (.str b), .val (.str c), .ro (rowsD a b c), x6, x7, x8, .no, .no], M⟩)
    ⟨_, _, _, rfl, rfl, rfl, rfl⟩ (by
    rintro j x s hx ⟨x6, x7, x8, n6, n7, n8, rfl⟩
    obtain ⟨p, q, r, k, rfl, h1, h2, h3, h4⟩ := rows_mem (List.mem_of_getElem? hx)
    have e1 := eq1 p q r k true h1 h2 h3 h4
    have e2 := eq1 p q r k false h1 h2 h3 h4
    refine ⟨⟨[.val (stD kd [(a, 1), (b, 1), (c, 1)]), .val (.loc nl), .val (.str a), .val (.str b), .val (.str c), .ro (rowsD a b c), .val (quD [p, q, r] k), .val (.str (qw (Tr a b c p q r) k true)), .val (.str (qw (Tr a b c p q r) k false)), .no, .no], M⟩, ?_, _, _, _, rfl, rfl, rfl, rfl⟩
    unfold rowD
    generalize rowsD a b c = RR at *
    have e3 := esS (qw (Tr a b c p q r) k true)
    have e4 := esS (qw (Tr a b c p q r) k false)
    have y1 : yI true = 1 := rfl
    have y0 : yI false = 0 := rfl
    rw [y1] at e1
    rw [y0] at e2
    clear eq1 q1 eI eI2 eW eW2 esS
    generalize qw (Tr a b c p q r) k true = t1 at *
    generalize qw (Tr a b c p q r) k false = t0 at *
    generalize quD [p, q, r] k = qu at *
    generalize stD kd [(a, 1), (b, 1), (c, 1)] = st at *
    simp [evSs, evS, evX, evXs, evEs, evA, evAg, evT, evTB, evB, evG, evGs, evI, Tgs.len, varD, R.bind, biD, bi1, bi2_gcd, lif, toVal, setName_def, isRo_no, isRo_val, isRo_own, cmpD, truD, negD, binD, intOp, retD, ofBody, callD, call_CN, callkD, slots, Ar.slot, lend, ofCall, subD, seq, lis, G.atI, isTys, isTy, eqD, D.eqv, pure60, D.pure, D.deep, List.set, setD, putL, cell, methD, mtD, strI, ofSeq, plcC, plcV, unl, lock, unlock, rngD, forL, Itm.ok, stays, List.all_nil, fit0, fit1, fit2, fit3, fit4, fit5, fit6, fit7, fit8, fit9, fit10, fit11, fit12, fit13, fit14, fit15, fit16, n6, n7, n8, e1, e2, e3, e4])
  subst es
  have r0 : L2.atI (rowsD a b c) 0 = some (rowD a b c 0 0 0 5) := rfl
  have r1 : L2.atI (rowsD a b c) 1 = some (rowD a b c (-1) 0 2 (-3)) := rfl
  have y00 := ly 0 0 0 5 true (by decide) (by decide) (by decide) (by decide)
  have y01 := ly 0 0 0 5 false (by decide) (by decide) (by decide) (by decide)
  have y10 := ly (-1) 0 2 (-3) true (by decide) (by decide) (by decide) (by decide)
  have y11 := ly (-1) 0 2 (-3) false (by decide) (by decide) (by decide) (by decide)
  have pl : (Str.ofString "p if ").length = 5 := by decide
  have ql : (Str.ofString "q if ").length = 5 := by decide
  have an : (Str.ofString " and ").length = 5 := by decide
  have dP : pgD pgH = .tup [.str sAsk, quD [0, 0, 0] 5, .tup [.str sAsk, quD [-1, 0, 2] (-3), .tup [.str sTell, .str sp], .tup [.str sTell, .str sq']], .tup [.str sTell, .str sp]] := rfl
  have dT : pgD (.tell sp) = .tup [.str sTell, .str sp] := rfl
  have w10 : wD [1, 0] = .tup [.int 1, .int 0] := rfl
  have w0 : wD [] = .tup [] := rfl
  have al0 : al [a, b, c] pgH [] = [] := rfl
  rw [dT] at eI2
  rw [w10] at eW
  rw [w0, al0] at eW2
  have sL3 := hg (s_sameL (n+21) M [Str.ofString "p if " ++ qw (Tr a b c 0 0 0) 5 true ++ Str.ofString " and " ++ qw (Tr a b c (-1) 0 2) (-3) true, Str.ofString "q if " ++ qw (Tr a b c 0 0 0) 5 true ++ Str.ofString " and " ++ qw (Tr a b c (-1) 0 2) (-3) false, Str.ofString "p if " ++ qw (Tr a b c 0 0 0) 5 false] (by show 3 < 1000; decide))
  have sL2 := hg (s_sameL (n+21) M [qw (Tr a b c 0 0 0) 5 true, qw (Tr a b c (-1) 0 2) (-3) false] (by show 2 < 1000; decide))
  have sL1 := hg (s_sameL (n+21) M [Str.ofString "p always"] (by decide))
  have sL0 := hg (s_sameL (n+21) M [] (by decide))
  have kb := kb_in (n+22)
  rw [← hC] at kb
  unfold rowD at r0 r1
  generalize rowsD a b c = RR at *
  clear eq1 q1 ly hl2 hl3 esS
  generalize qw (Tr a b c 0 0 0) 5 true = t1 at *
  generalize qw (Tr a b c 0 0 0) 5 false = t2 at *
  generalize qw (Tr a b c (-1) 0 2) (-3) true = t3 at *
  generalize qw (Tr a b c (-1) 0 2) (-3) false = t4 at *
  have i3 : evS C l_by_hand_3 ⟨[.val (stD kd [(a, 1), (b, 1), (c, 1)]), .val (.loc nl), .val (.str a), .val (.str b), .val (.str c), .own RR, x6, x7, x8, .no, .no], M⟩ = .ok .nx ⟨[.val (stD kd [(a, 1), (b, 1), (c, 1)]), .val (.loc nl), .val (.str a), .val (.str b), .val (.str c), .own RR, x6, x7, x8, .val (pgD pgH), .no], M⟩ := by
    rw [dP]
    clear eI eI2 eW eW2 hM
    generalize stD kd [(a, 1), (b, 1), (c, 1)] = st at *
    generalize quD [0, 0, 0] 5 = qu at *
    generalize quD [-1, 0, 2] (-3) = qv at *
    simp [evSs, evS, evX, evXs, evEs, evA, evAg, evT, evTB, evB, evG, evGs, evI, Tgs.len, varD, R.bind, biD, bi1, bi2_gcd, lif, toVal, setName_def, isRo_no, isRo_val, isRo_own, cmpD, truD, negD, binD, intOp, retD, ofBody, callD, call_CN, callkD, slots, Ar.slot, lend, ofCall, subD, seq, lis, G.atI, isTys, isTy, eqD, D.eqv, pure60, D.pure, D.deep, List.set, setD, putL, cell, methD, mtD, strI, ofSeq, plcC, plcV, unl, lock, unlock, rngD, forL, Itm.ok, stays, List.all_nil, fit0, fit1, fit2, fit3, fit4, fit5, fit6, fit7, fit8, fit9, fit10, fit11, fit12, fit13, fit14, fit15, fit16, r0, r1, a30, a31, a32]
  clear dP
  generalize pgD pgH = pg at *
  generalize quD [0, 0, 0] 5 = qu at *
  generalize quD [-1, 0, 2] (-3) = qv at *
  generalize stD kd [(a, 1), (b, 1), (c, 1)] = st at *
  have s1 := sadd (x := Str.ofString "p if ") (y := t1) (by omega)
  have s2 := sadd (x := Str.ofString "p if " ++ t1) (y := Str.ofString " and ") (by rw [sl_app]; omega)
  have s3 := sadd (x := Str.ofString "p if " ++ t1 ++ Str.ofString " and ") (y := t3) (by rw [sl_app, sl_app]; omega)
  have s4 := sadd (x := Str.ofString "q if ") (y := t1) (by omega)
  have s5 := sadd (x := Str.ofString "q if " ++ t1) (y := Str.ofString " and ") (by rw [sl_app]; omega)
  have s6 := sadd (x := Str.ofString "q if " ++ t1 ++ Str.ofString " and ") (y := t4) (by rw [sl_app, sl_app]; omega)
  have s7 := sadd (x := Str.ofString "p if ") (y := t2) (by omega)
  have i4 : evS C l_by_hand_4 ⟨[.val st, .val (.loc nl), .val (.str a), .val (.str b), .val (.str c), .own RR, x6, x7, x8, .val pg, .no], M⟩ = .ok .nx ⟨[.val st, .val (.loc nl), .val (.str a), .val (.str b), .val (.str c), .own RR, x6, x7, x8, .val pg, .own ([Str.ofString "p if " ++ t1 ++ Str.ofString " and " ++ t3, Str.ofString "q if " ++ t1 ++ Str.ofString " and " ++ t4, Str.ofString "p if " ++ t2].map D.str)], M⟩ := by
    clear eI eI2 eW eW2 hM sL3 sL2 sL1 sL0 kb pl ql an
    simp [evSs, evS, evX, evXs, evEs, evA, evAg, evT, evTB, evB, evG, evGs, evI, Tgs.len, varD, R.bind, biD, bi1, bi2_gcd, lif, toVal, setName_def, isRo_no, isRo_val, isRo_own, cmpD, truD, negD, binD, intOp, retD, ofBody, callD, call_CN, callkD, slots, Ar.slot, lend, ofCall, subD, seq, lis, G.atI, isTys, isTy, eqD, D.eqv, pure60, D.pure, D.deep, List.set, setD, putL, cell, methD, mtD, strI, ofSeq, plcC, plcV, unl, lock, unlock, rngD, forL, Itm.ok, stays, List.all_nil, fit0, fit1, fit2, fit3, fit4, fit5, fit6, fit7, fit8, fit9, fit10, fit11, fit12, fit13, fit14, fit15, fit16, r0, r1, a30, a31, a32, s1, s2, s3, s4, s5, s6, s7]
  clear s1 s2 s3 s4 s5 s6 s7
  generalize [Str.ofString "p if " ++ t1 ++ Str.ofString " and " ++ t3, Str.ofString "q if " ++ t1 ++ Str.ofString " and " ++ t4, Str.ofString "p if " ++ t2].map D.str = DU at *
  have i5 : evS C l_by_hand_5 ⟨[.val st, .val (.loc nl), .val (.str a), .val (.str b), .val (.str c), .own RR, x6, x7, x8, .val pg, .own DU], M⟩ = .ok .nx ⟨[.val st, .val (.loc nl), .val (.str a), .val (.str b), .val (.str c), .own RR, x6, x7, x8, .val pg, .own DU], M⟩ := by
    simp only [List.map_cons, List.map_nil] at sL2 eW
    simp [evSs, evS, evX, evXs, evEs, evA, evAg, evT, evTB, evB, evG, evGs, evI, Tgs.len, varD, R.bind, biD, bi1, bi2_gcd, lif, toVal, setName_def, isRo_no, isRo_val, isRo_own, cmpD, truD, negD, binD, intOp, retD, ofBody, callD, call_CN, callkD, slots, Ar.slot, lend, ofCall, subD, seq, lis, G.atI, isTys, isTy, eqD, D.eqv, pure60, D.pure, D.deep, List.set, setD, putL, cell, methD, mtD, strI, ofSeq, plcC, plcV, unl, lock, unlock, rngD, forL, Itm.ok, stays, List.all_nil, fit0, fit1, fit2, fit3, fit4, fit5, fit6, fit7, fit8, fit9, fit10, fit11, fit12, fit13, fit14, fit15, fit16, r0, r1, a30, a31, a32, kb, eI, eW, sL3, sL2]
  unfold bl_by_hand
  rw [seq_nx i0, seq_nx i1, seq_nx i2]
  show ofBody (evSs C _ ⟨[.val st, .val (.loc nl), .val (.str a), .val (.str b), .val (.str c), .own RR, x6, x7, x8, .no, .no], M⟩) = _
  rw [seq_nx i3, seq_nx i4, seq_nx i5]
  simp only [List.map_cons, List.map_nil] at sL1 eI2 sL0 eW2
  simp [evSs, evS, evX, evXs, evEs, evA, evAg, evT, evTB, evB, evG, evGs, evI, Tgs.len, varD, R.bind, biD, bi1, bi2_gcd, lif, toVal, setName_def, isRo_no, isRo_val, isRo_own, cmpD, truD, negD, binD, intOp, retD, ofBody, callD, call_CN, callkD, slots, Ar.slot, lend, ofCall, subD, seq, lis, G.atI, isTys, isTy, eqD, D.eqv, pure60, D.pure, D.deep, List.set, setD, putL, cell, methD, mtD, strI, ofSeq, plcC, plcV, unl, lock, unlock, rngD, forL, Itm.ok, stays, List.all_nil, fit0, fit1, fit2, fit3, fit4, fit5, fit6, fit7, fit8, fit9, fit10, fit11, fit12, fit13, fit14, fit15, fit16, eI2, eW2, sL1, sL0]
end G

/-! ## W14 -/
set_option Elab.async false
set_option linter.all false
set_option maxRecDepth 100000
set_option maxHeartbeats 8000000
namespace G
open PySem
/-! ### a comprehension over a list that a name owns, with changes of the heap -/
theorem comp_invK {c : Cn} (X : Ex) {elt : Ex} {tg : Tg} {it : It} {ifs : Tes} {own : List Nat} {s : S} {m : Itm} {v u : List Slot} {M : List Cell} (hX : X = .comp elt tg it ifs own) (hi : evI c it s = .ok m ⟨v, M⟩) (hl : lock v m.lks = u) (hu : unlock u m.lks = v) (hc : m.chk = []) (hw : wipes u own = u) (hr : restor u u own = u)
    (hf : fits m.xs.length = true) (P : Nat → List Cell → Prop) (Q : Nat → D → Prop) (h0 : P 0 M)
    (step : ∀ j x M, m.xs[j]? = some x → P j M → ∃ d v' M', turnC (evG c tg) (evTB c true ifs) (evX c elt) x ⟨u, M⟩ = .ok (some d) ⟨v', M'⟩ ∧ wipes v' own = u ∧ P (j + 1) M' ∧ Q j d) :
    ∃ ds M', evX c X s = .ok (.new ds) ⟨v, M'⟩ ∧ P m.xs.length M' ∧ ds.length = m.xs.length ∧ ∀ j d, ds[j]? = some d → Q j d := by
  subst hX
  obtain ⟨xs, chk, lks⟩ := m
  dsimp only at hl hu hc step hf
  subst hc
  obtain ⟨ds, s', e, ⟨hv, hP⟩, hlen, hq⟩ := compL_inv (ok := Itm.ok ⟨xs, [], lks⟩) (body := fun x s => (turnC (evG c tg) (evTB c true ifs) (evX c elt) x s).bind fun o s' => .ok o (wiped own s')) (fun _ => rfl) (fun j s => s.v = u ∧ P j s.M) Q xs 0 (fun j x s hx hp => by
    rw [Nat.zero_add] at hp ⊢
    obtain ⟨v2, M2⟩ := s
    obtain ⟨e1, hp⟩ := hp
    dsimp only at e1 hp
    subst e1
    obtain ⟨d, v', M', e, e2, p, q⟩ := step j x M2 hx hp
    refine ⟨d, wiped own ⟨v', M'⟩, ?_, ⟨e2, p⟩, q⟩
    rw [e]
    rfl) ⟨u, M⟩ ⟨rfl, h0⟩
  obtain ⟨v2, M2⟩ := s'
  dsimp only at hv hP
  subst hv
  rw [Nat.zero_add] at hP
  refine ⟨ds, M2, ?_, hP, hlen, fun j d h => by have := hq j d h; rw [Nat.zero_add] at this; exact this⟩
  rw [evX, hi]
  show compD _ _ _ _ = _
  unfold compD
  have hwd : wiped own ⟨v2, M⟩ = ⟨v2, M⟩ := by unfold wiped; exact congrArg (fun w => (⟨w, M⟩ : S)) hw
  dsimp only
  rw [hl, hwd, e]
  show noX (if fits ds.length = true then _ else _) = _
  rw [hlen, if_pos hf]
  show R.ok _ _ = _
  rw [hr, hu]
theorem compL_at {ok : S → Bool} {body : D → S → R (Option D)} {v : List Slot} {M : List Cell} (hok : ∀ v, ok ⟨v, M⟩ = true) : ∀ (xs L : List D), L.length = xs.length → (∀ (j : Nat) x d, xs[j]? = some x → L[j]? = some d → body x ⟨v, M⟩ = .ok (some d) ⟨v, M⟩) → compL ok body xs ⟨v, M⟩ = .ok L ⟨v, M⟩
  | [], [], _, _ => by rw [compL, hok]; rfl
  | x :: xs, [], h, _ => by cases h
  | [], d :: L, h, _ => by cases h
  | x :: xs, d :: L, h, hs => by
    have e1 := hs 0 x d rfl rfl
    have e2 := compL_at (v := v) hok xs L (by rw [List.length_cons, List.length_cons] at h; omega) fun j y e hy he => hs (j + 1) y e hy he
    rw [compL, hok, e1]
    show (if true = true then (compL ok body xs ⟨v, M⟩).bind _ else _) = _
    rw [e2]
    rfl
theorem comp_mapC {c : Cn} (X : Ex) {elt : Ex} {tg : Tg} {it : It} {ifs : Tes} {own : List Nat} {s : S} {m : Itm} {v : List Slot} {M : List Cell} (hX : X = .comp elt tg it ifs own) (L : List D) (hi : evI c it s = .ok m ⟨v, M⟩) (hl : m.lks = []) (hc : ∀ v, m.ok ⟨v, M⟩ = true) (hw : wipes v own = v) (hr : restor v v own = v)
    (hf : fits m.xs.length = true) (hL : L.length = m.xs.length)
    (step : ∀ (j : Nat) x d, m.xs[j]? = some x → L[j]? = some d → ∃ v', turnC (evG c tg) (evTB c true ifs) (evX c elt) x ⟨v, M⟩ = .ok (some d) ⟨v', M⟩ ∧ wipes v' own = v) :
    evX c X s = .ok (.new L) ⟨v, M⟩ := by
  subst hX
  obtain ⟨xs, chk, lks⟩ := m
  dsimp only at hl hc step hf hL
  subst hl
  have e := compL_at (ok := Itm.ok ⟨xs, chk, []⟩) (body := fun x s => (turnC (evG c tg) (evTB c true ifs) (evX c elt) x s).bind fun o s' => .ok o (wiped own s')) (v := v) hc xs L hL (fun j x d hx hd => by
    obtain ⟨v', e, h⟩ := step j x d hx hd
    rw [e]
    show R.ok _ (wiped own ⟨v', M⟩) = _
    unfold wiped
    rw [h])
  rw [evX, hi]
  show compD _ _ _ _ = _
  unfold compD
  have hwd : wiped own ⟨lock v [], M⟩ = ⟨v, M⟩ := by unfold wiped; exact congrArg (fun w => (⟨w, M⟩ : S)) hw
  rw [hwd, e]
  show noX (if fits L.length = true then _ else _) = _
  rw [hL, if_pos hf]
  show R.ok _ _ = _
  unfold unlock lock
  rw [hr]
theorem rs_of : ∀ {ns : List Str} {ds : List D}, ds.length = ns.length → (∀ (j : Nat) d, ds[j]? = some d → ∃ (x : Str) (i : Int), ns[j]? = some x ∧ d = rdD (x, i)) → ∃ rs : List (Str × Int), ds = rs.map rdD ∧ nms rs = ns
  | [], [], _, _ => ⟨[], rfl, rfl⟩
  | [], _ :: _, h, _ => by cases h
  | _ :: _, [], h, _ => by cases h
  | n :: ns, d :: ds, h, hs => by
    obtain ⟨x, i, hx, rfl⟩ := hs 0 d rfl
    cases hx
    obtain ⟨rs, rfl, e⟩ := rs_of (ns := ns) (ds := ds) (by simpa using h) fun j d hd => hs (j + 1) d hd
    exact ⟨(n, i) :: rs, rfl, by rw [← e]; rfl⟩
theorem tupT_ev {c : Cn} {i : Nat} {X : Ex} {v : List Slot} {M M' : List Cell} {L : List D} {d : D} (h : evX c X ⟨v, M⟩ = .ok (.new L) ⟨v, M'⟩) (hx : v[i]? = some (.val d)) :
    evX c (.tup (.cons (.var i) (.cons (.bi .tuple (.cons X .nil)) .nil))) ⟨v, M⟩ = .ok (.val (.tup [d, .tup L])) ⟨v, M'⟩ := by
  simp [evX, evXs, evEs, varD, R.bind, h, biD, bi1, seq, lif, toVal, fit2, hx]
theorem Urn.app {T : Nat} {M : List Cell} {x : Cell} (h : Urn T M) : Urn T (M ++ [x]) := by
  obtain ⟨zs, sm, tn, h0, h1, r⟩ := h
  exact ⟨zs, sm, tn, by rw [List.getElem?_append_left (lt_get h0)]; exact h0, by rw [List.getElem?_append_left (lt_get h1)]; exact h1, r⟩
theorem Urn.two {T : Nat} {M : List Cell} (h : Urn T M) : 2 ≤ M.length := by
  obtain ⟨zs, sm, tn, h0, h1, r⟩ := h
  exact lt_get h1
theorem app_get (M : List Cell) (x : Cell) : (M ++ [x])[M.length]? = some x := by simp
theorem ret_call2 {C : Cn} {f : Str} {e : Ex} {i : Nat} {v : List Slot} {M M' : List Cell} {x d r : D} (h : evX C e ⟨v, M⟩ = .ok (.val x) ⟨v, M⟩) (hv : v[i]? = some (.val d)) (hcall : C.call f [.val x, .val d] M = .ok (.val r) M') :
    evS C (.ret (.call f (.cons (.v e) (.cons (.v (.var i)) .nil)))) ⟨v, M⟩ = .ok (.rt (.val r)) ⟨v, M'⟩ := by
  simp [evSs, evS, evX, evXs, evEs, evA, evAg, evT, evTB, evB, evG, evGs, evI, Tgs.len, varD, R.bind, biD, bi1, bi2_gcd, lif, toVal, setName_def, isRo_no, isRo_val, isRo_own, cmpD, truD, negD, binD, intOp, retD, ofBody, callD, call_CN, callkD, slots, Ar.slot, lend, ofCall, subD, seq, lis, G.atI, isTys, isTy, eqD, D.eqv, pure60, D.pure, D.deep, List.set, setD, putL, cell, methD, mtD, strI, ofSeq, plcC, plcV, unl, lock, unlock, rngD, forL, Itm.ok, stays, List.all_nil, fit0, fit1, fit2, fit3, fit4, fit5, fit6, fit7, fit8, fit9, fit10, fit11, fit12, fit13, fit14, fit15, fit16, h, hv, hcall]
theorem c_law (n : Nat) (a : Slot) (M : List Cell) : RN (n+1) (Str.ofString "law") [a] M = ofBody (evSs (CN n) bf_law ⟨[a, .no, .no, .no, .no, .no, .no, .no, .no, .no], M⟩) := rfl
theorem s_law (n : Nat) (ns : List Int) : ∃ M, RN (n+26) (Str.ofString "law") [.ro (ns.map D.int)] [] = .ok (.val (.bl true)) M := by
  rw [c_law]
  obtain ⟨C, hC, hg⟩ := opq (n+25)
  rw [← hC]
  obtain ⟨M0, e0, U0⟩ := s_pail (n+24) ns
  have e0 := hg e0
  generalize ns.map D.int = xs at *
  have i0 : evS C f_law_0 ⟨[.ro xs, .no, .no, .no, .no, .no, .no, .no, .no, .no], []⟩ = .ok .nx ⟨[.ro xs, .val (.loc 1), .no, .no, .no, .no, .no, .no, .no, .no], M0⟩ := by
    simp [evSs, evS, evX, evXs, evEs, evA, evAg, evT, evTB, evB, evG, evGs, evI, Tgs.len, varD, R.bind, biD, bi1, bi2_gcd, lif, toVal, setName_def, isRo_no, isRo_val, isRo_own, cmpD, truD, negD, binD, intOp, retD, ofBody, callD, call_CN, callkD, slots, Ar.slot, lend, ofCall, subD, seq, lis, G.atI, isTys, isTy, eqD, D.eqv, pure60, D.pure, D.deep, List.set, setD, putL, cell, methD, mtD, strI, ofSeq, plcC, plcV, unl, lock, unlock, rngD, forL, Itm.ok, stays, List.all_nil, fit0, fit1, fit2, fit3, fit4, fit5, fit6, fit7, fit8, fit9, fit10, fit11, fit12, fit13, fit14, fit15, fit16, e0]
  obtain ⟨w, M1, e1, w0, w1, U1, X1, N1⟩ := s_scoop (n+24) M0 _ 7 U0 (by decide) (by decide) (by omega)
  have e1 := hg e1
  obtain ⟨wd, i1⟩ : ∃ wd : Bool, evS C f_law_1 ⟨[.ro xs, .val (.loc 1), .no, .no, .no, .no, .no, .no, .no, .no], M0⟩ = .ok .nx ⟨[.ro xs, .val (.loc 1), .val (.bl wd), .no, .no, .no, .no, .no, .no, .no], M1⟩ := by
    by_cases hw : w = 3
    · exact ⟨true, by simp [evSs, evS, evX, evXs, evEs, evA, evAg, evT, evTB, evB, evG, evGs, evI, Tgs.len, varD, R.bind, biD, bi1, bi2_gcd, lif, toVal, setName_def, isRo_no, isRo_val, isRo_own, cmpD, truD, negD, binD, intOp, retD, ofBody, callD, call_CN, callkD, slots, Ar.slot, lend, ofCall, subD, seq, lis, G.atI, isTys, isTy, eqD, D.eqv, pure60, D.pure, D.deep, List.set, setD, putL, cell, methD, mtD, strI, ofSeq, plcC, plcV, unl, lock, unlock, rngD, forL, Itm.ok, stays, List.all_nil, fit0, fit1, fit2, fit3, fit4, fit5, fit6, fit7, fit8, fit9, fit10, fit11, fit12, fit13, fit14, fit15, fit16, e1, hw]⟩
    · exact ⟨false, by simp [evSs, evS, evX, evXs, evEs, evA, evAg, evT, evTB, evB, evG, evGs, evI, Tgs.len, varD, R.bind, biD, bi1, bi2_gcd, lif, toVal, setName_def, isRo_no, isRo_val, isRo_own, cmpD, truD, negD, binD, intOp, retD, ofBody, callD, call_CN, callkD, slots, Ar.slot, lend, ofCall, subD, seq, lis, G.atI, isTys, isTy, eqD, D.eqv, pure60, D.pure, D.deep, List.set, setD, putL, cell, methD, mtD, strI, ofSeq, plcC, plcV, unl, lock, unlock, rngD, forL, Itm.ok, stays, List.all_nil, fit0, fit1, fit2, fit3, fit4, fit5, fit6, fit7, fit8, fit9, fit10, fit11, fit12, fit13, fit14, fit15, fit16, e1, hw]⟩
  obtain ⟨w, M2, e2, w0, w1, U2, X2, N2⟩ := s_scoop (n+24) M1 _ 4 U1 (by decide) (by decide) (by omega)
  have e2 := hg e2
  obtain ⟨m, hm⟩ : ∃ m : Nat, 1 + w = (m : Int) := ⟨(1 + w).toNat, by omega⟩
  have hm4 : m ≤ 4 := by omega
  have i2 : evS C f_law_2 ⟨[.ro xs, .val (.loc 1), .val (.bl wd), .no, .no, .no, .no, .no, .no, .no], M1⟩ = .ok .nx ⟨[.ro xs, .val (.loc 1), .val (.bl wd), .val (.int m), .no, .no, .no, .no, .no, .no], M2⟩ := by
    rw [← hm]
    simp [evSs, evS, evX, evXs, evEs, evA, evAg, evT, evTB, evB, evG, evGs, evI, Tgs.len, varD, R.bind, biD, bi1, bi2_gcd, lif, toVal, setName_def, isRo_no, isRo_val, isRo_own, cmpD, truD, negD, binD, intOp, retD, ofBody, callD, call_CN, callkD, slots, Ar.slot, lend, ofCall, subD, seq, lis, G.atI, isTys, isTy, eqD, D.eqv, pure60, D.pure, D.deep, List.set, setD, putL, cell, methD, mtD, strI, ofSeq, plcC, plcV, unl, lock, unlock, rngD, forL, Itm.ok, stays, List.all_nil, fit0, fit1, fit2, fit3, fit4, fit5, fit6, fit7, fit8, fit9, fit10, fit11, fit12, fit13, fit14, fit15, fit16, e2]
  obtain ⟨nl, M3, e3, ln, on, U3, X3⟩ := s_names (n+23) M2 _ m U2 (by omega) hm4
  have e3 := hg e3
  have i3 : evS C f_law_3 ⟨[.ro xs, .val (.loc 1), .val (.bl wd), .val (.int m), .no, .no, .no, .no, .no, .no], M2⟩ = .ok .nx ⟨[.ro xs, .val (.loc 1), .val (.bl wd), .val (.int m), .own (nl.map D.str), .no, .no, .no, .no, .no], M3⟩ := by
    generalize nl.map D.str = NS at *
    simp [evSs, evS, evX, evXs, evEs, evA, evAg, evT, evTB, evB, evG, evGs, evI, Tgs.len, varD, R.bind, biD, bi1, bi2_gcd, lif, toVal, setName_def, isRo_no, isRo_val, isRo_own, cmpD, truD, negD, binD, intOp, retD, ofBody, callD, call_CN, callkD, slots, Ar.slot, lend, ofCall, subD, seq, lis, G.atI, isTys, isTy, eqD, D.eqv, pure60, D.pure, D.deep, List.set, setD, putL, cell, methD, mtD, strI, ofSeq, plcC, plcV, unl, lock, unlock, rngD, forL, Itm.ok, stays, List.all_nil, fit0, fit1, fit2, fit3, fit4, fit5, fit6, fit7, fit8, fit9, fit10, fit11, fit12, fit13, fit14, fit15, fit16, e3]
  obtain ⟨w, M4, e4, w0, w1, U4, X4, N4⟩ := s_scoop (n+24) M3 _ 2 U3 (by decide) (by decide) (by omega)
  have e4 := hg e4
  obtain ⟨w', M5, e5, w0', w1', U5, X5, N5⟩ := s_scoop (n+24) M4 _ 2 U4 (by decide) (by decide) (by omega)
  have e5 := hg e5
  obtain ⟨k1, _, a1⟩ := atI_strs (L := [Str.ofString "told", Str.ofString "free"]) w0 w1
  have a1 : L2.atI [D.str (Str.ofString "told"), .str (Str.ofString "free")] w = some (.str k1) := a1
  obtain ⟨k2, _, a2⟩ := atI_strs (L := [Str.ofString "told", Str.ofString "free"]) w0' w1'
  have a2 : L2.atI [D.str (Str.ofString "told"), .str (Str.ofString "free")] w' = some (.str k2) := a2
  obtain ⟨kd, i4⟩ : ∃ kd : D, evS C f_law_4 ⟨[.ro xs, .val (.loc 1), .val (.bl wd), .val (.int m), .own (nl.map D.str), .no, .no, .no, .no, .no], M3⟩ = .ok .nx ⟨[.ro xs, .val (.loc 1), .val (.bl wd), .val (.int m), .own (nl.map D.str), .val kd, .no, .no, .no, .no], M5⟩ := by
    refine ⟨.tup [.tup [.str (Str.ofString "clock"), .str k1, .str (Str.ofString "free")], .tup [.str (Str.ofString "purse"), .str (Str.ofString "told"), .str k2]], ?_⟩
    generalize nl.map D.str = NS at *
    simp [evSs, evS, evX, evXs, evEs, evA, evAg, evT, evTB, evB, evG, evGs, evI, Tgs.len, varD, R.bind, biD, bi1, bi2_gcd, lif, toVal, setName_def, isRo_no, isRo_val, isRo_own, cmpD, truD, negD, binD, intOp, retD, ofBody, callD, call_CN, callkD, slots, Ar.slot, lend, ofCall, subD, seq, lis, G.atI, isTys, isTy, eqD, D.eqv, pure60, D.pure, D.deep, List.set, setD, putL, cell, methD, mtD, strI, ofSeq, plcC, plcV, unl, lock, unlock, rngD, forL, Itm.ok, stays, List.all_nil, fit0, fit1, fit2, fit3, fit4, fit5, fit6, fit7, fit8, fit9, fit10, fit11, fit12, fit13, fit14, fit15, fit16, e4, e5, a1, a2]
  have hi : evI C (.q (.var 4)) ⟨[.ro xs, .val (.loc 1), .val (.bl wd), .val (.int m), .own (nl.map D.str), .val kd, .no, .no, .no, .no], M5⟩ = .ok ⟨nl.map D.str, [], [(4, nl.map D.str)]⟩ ⟨[.ro xs, .val (.loc 1), .val (.bl wd), .val (.int m), .own (nl.map D.str), .val kd, .no, .no, .no, .no], M5⟩ := by
    generalize nl.map D.str = NS at *
    simp [evSs, evS, evX, evXs, evEs, evA, evAg, evT, evTB, evB, evG, evGs, evI, Tgs.len, varD, R.bind, biD, bi1, bi2_gcd, lif, toVal, setName_def, isRo_no, isRo_val, isRo_own, cmpD, truD, negD, binD, intOp, retD, ofBody, callD, call_CN, callkD, slots, Ar.slot, lend, ofCall, subD, seq, lis, G.atI, isTys, isTy, eqD, D.eqv, pure60, D.pure, D.deep, List.set, setD, putL, cell, methD, mtD, strI, ofSeq, plcC, plcV, unl, lock, unlock, rngD, forL, Itm.ok, stays, List.all_nil, fit0, fit1, fit2, fit3, fit4, fit5, fit6, fit7, fit8, fit9, fit10, fit11, fit12, fit13, fit14, fit15, fit16]
  obtain ⟨ds, M6, ec, U6, ld, hd⟩ := comp_invK f_law_C0 (u := [.ro xs, .val (.loc 1), .val (.bl wd), .val (.int m), .ro (nl.map D.str), .val kd, .no, .no, .no, .no]) rfl hi rfl rfl rfl rfl rfl (fits_lt (by dsimp only; rw [List.length_map]; omega)) (fun j M' => Urn (100 + j) M') (fun j d => ∃ (x : Str) (i : Int), nl[j]? = some x ∧ d = rdD (x, i)) (U5.up _ (by omega)) (by
    rintro j x M' hx U'
    obtain ⟨z, gz, rfl⟩ := get_map hx
    have hj := lt_get gz
    obtain ⟨v, M7, e7, v0, v1, U7, X7, N7⟩ := s_scoop (n+24) M' _ 2 U' (by decide) (by decide) (by omega)
    have e7 := hg e7
    refine ⟨rdD (z, v), [.ro xs, .val (.loc 1), .val (.bl wd), .val (.int m), .ro (nl.map D.str), .val kd, .no, .val (.str z), .no, .no], M7, ?_, rfl, U7, z, v, gz, rfl⟩
    generalize nl.map D.str = NS at *
    simp [turnC, evSs, evS, evX, evXs, evEs, evA, evAg, evT, evTB, evB, evG, evGs, evI, Tgs.len, varD, R.bind, biD, bi1, bi2_gcd, lif, toVal, setName_def, isRo_no, isRo_val, isRo_own, cmpD, truD, negD, binD, intOp, retD, ofBody, callD, call_CN, callkD, slots, Ar.slot, lend, ofCall, subD, seq, lis, G.atI, isTys, isTy, eqD, D.eqv, pure60, D.pure, D.deep, List.set, setD, putL, cell, methD, mtD, strI, ofSeq, plcC, plcV, unl, lock, unlock, rngD, forL, Itm.ok, stays, List.all_nil, fit0, fit1, fit2, fit3, fit4, fit5, fit6, fit7, fit8, fit9, fit10, fit11, fit12, fit13, fit14, fit15, fit16, e7, rdD])
  dsimp only at ld U6
  rw [List.length_map] at ld U6
  have U6 := U6.up 104 (by omega)
  obtain ⟨rs, rfl, hn⟩ := rs_of ld hd
  have lr : rs.length = m := by rw [← ln, ← hn]; unfold nms; rw [List.length_map]
  have hr : RsOk rs := ⟨by omega, fun r h => on _ (by rw [← hn]; exact List.mem_map_of_mem h)⟩
  have i5 : evS C f_law_5 ⟨[.ro xs, .val (.loc 1), .val (.bl wd), .val (.int m), .own (nl.map D.str), .val kd, .no, .no, .no, .no], M5⟩ = .ok .nx ⟨[.ro xs, .val (.loc 1), .val (.bl wd), .val (.int m), .own (nl.map D.str), .val kd, .val (stD kd rs), .no, .no, .no], M6⟩ :=
    asg_val (x := .no) (tupT_ev ec rfl) rfl rfl
  have t2 := U6.two
  obtain ⟨p, M7, i6, hPk, hdp, hap, U7⟩ : ∃ (p : Pg) (M7 : List Cell), evS C f_law_6 ⟨[.ro xs, .val (.loc 1), .val (.bl wd), .val (.int m), .own (nl.map D.str), .val kd, .val (stD kd rs), .no, .no, .no], M6⟩ = .ok .nx ⟨[.ro xs, .val (.loc 1), .val (.bl wd), .val (.int m), .own (nl.map D.str), .val kd, .val (stD kd rs), .no, .val (pgD p), .no], M7⟩ ∧ Pk m p ∧ dep p ≤ 6 ∧ asks p ≤ 16 ∧ Urn 10000 M7 := by
    cases wd
    · obtain ⟨p, l', M7, e7, kp, dp, ap, U7, _⟩ := s_program m hm4 M6.length t2 6 (n+24) (M6 ++ [.lst [.int ((12 : Nat) : Int)]]) 104 12 (by omega) U6.app (app_get _ _) (by decide) (by decide) (by decide)
      have e7 := hg e7
      have e7 : C.call (Str.ofString "_law_program") [.val (.loc 1), .val (.int m), .val (.int 6), .val (.loc M6.length)] (M6 ++ [.lst [.int 12]]) = .ok (.val (pgD p)) M7 := e7
      refine ⟨p, M7, ?_, kp, dp, by omega, U7.up _ (by decide)⟩
      generalize stD kd rs = st at *
      generalize nl.map D.str = NS at *
      generalize pgD p = pg at *
      simp [evSs, evS, evX, evXs, evEs, evA, evAg, evT, evTB, evB, evG, evGs, evI, Tgs.len, varD, R.bind, biD, bi1, bi2_gcd, lif, toVal, setName_def, isRo_no, isRo_val, isRo_own, cmpD, truD, negD, binD, intOp, retD, ofBody, callD, call_CN, callkD, slots, Ar.slot, lend, ofCall, subD, seq, lis, G.atI, isTys, isTy, eqD, D.eqv, pure60, D.pure, D.deep, List.set, setD, putL, cell, methD, mtD, strI, ofSeq, plcC, plcV, unl, lock, unlock, rngD, forL, Itm.ok, stays, List.all_nil, fit0, fit1, fit2, fit3, fit4, fit5, fit6, fit7, fit8, fit9, fit10, fit11, fit12, fit13, fit14, fit15, fit16, e7]
    · obtain ⟨p, M7, e7, kp, dp, ap, U7⟩ := s_full (n+22) M6 104 m U6 (by decide) hm4
      have e7 := hg e7
      refine ⟨p, M7, ?_, kp, dp, ap, U7.up _ (by decide)⟩
      generalize stD kd rs = st at *
      generalize nl.map D.str = NS at *
      generalize pgD p = pg at *
      simp [evSs, evS, evX, evXs, evEs, evA, evAg, evT, evTB, evB, evG, evGs, evI, Tgs.len, varD, R.bind, biD, bi1, bi2_gcd, lif, toVal, setName_def, isRo_no, isRo_val, isRo_own, cmpD, truD, negD, binD, intOp, retD, ofBody, callD, call_CN, callkD, slots, Ar.slot, lend, ofCall, subD, seq, lis, G.atI, isTys, isTy, eqD, D.eqv, pure60, D.pure, D.deep, List.set, setD, putL, cell, methD, mtD, strI, ofSeq, plcC, plcV, unl, lock, unlock, rngD, forL, Itm.ok, stays, List.all_nil, fit0, fit1, fit2, fit3, fit4, fit5, fit6, fit7, fit8, fit9, fit10, fit11, fit12, fit13, fit14, fit15, fit16, e7]
  have pq : ∀ {p : Pg}, Pk m p → Qw rs p := fun h => pk_qw (by rw [lr]; exact h)
  have e8 := hg (s_asked (n+1) M7 kd rs p hr (pq hPk) (by omega) (by rw [nodes_asks]; omega))
  rw [hn] at e8
  have i7 : evS C f_law_7 ⟨[.ro xs, .val (.loc 1), .val (.bl wd), .val (.int m), .own (nl.map D.str), .val kd, .val (stD kd rs), .no, .val (pgD p), .no], M7⟩ = .ok .nx ⟨[.ro xs, .val (.loc 1), .val (.bl wd), .val (.int m), .own (nl.map D.str), .val kd, .val (stD kd rs), .no, .val (pgD p), .no], M7⟩ := by
    generalize stD kd rs = st at *
    generalize nl.map D.str = NS at *
    generalize pgD p = pg at *
    simp [evSs, evS, evX, evXs, evEs, evA, evAg, evT, evTB, evB, evG, evGs, evI, Tgs.len, varD, R.bind, biD, bi1, bi2_gcd, lif, toVal, setName_def, isRo_no, isRo_val, isRo_own, cmpD, truD, negD, binD, intOp, retD, ofBody, callD, call_CN, callkD, slots, Ar.slot, lend, ofCall, subD, seq, lis, G.atI, isTys, isTy, eqD, D.eqv, pure60, D.pure, D.deep, List.set, setD, putL, cell, methD, mtD, strI, ofSeq, plcC, plcV, unl, lock, unlock, rngD, forL, Itm.ok, stays, List.all_nil, fit0, fit1, fit2, fit3, fit4, fit5, fit6, fit7, fit8, fit9, fit10, fit11, fit12, fit13, fit14, fit15, fit16, e8]
  obtain ⟨ps, k, M8, e9, qs, U8, X8⟩ := s_question (n+23) M7 _ m U7 (by decide) hm4
  have e9 := hg e9
  obtain ⟨y, l', M9, e10, ky, dy, ay, U9, _⟩ := s_program m hm4 M8.length U8.two 2 (n+24) (M8 ++ [.lst [.int ((3 : Nat) : Int)]]) (10000 + 20) 3 (by omega) U8.app (app_get _ _) (by decide) (by decide) (by decide)
  have e10 := hg e10
  have e10 : C.call (Str.ofString "_law_program") [.val (.loc 1), .val (.int m), .val (.int 2), .val (.loc M8.length)] (M8 ++ [.lst [.int 3]]) = .ok (.val (pgD y)) M9 := e10
  have hpe : pgD (.ask ps k y (.tell (Str.ofString "end"))) = .tup [.str sAsk, quD ps k, pgD y, .tup [.str sTell, .str (Str.ofString "end")]] := rfl
  have kq : Qw rs (.ask ps k y (.tell (Str.ofString "end"))) := pq ⟨qs, ky, by show (Str.ofString "end").length ≤ 20; decide⟩
  have e11 := hg (s_asked (n+1) M9 kd rs (.ask ps k y (.tell (Str.ofString "end"))) hr kq (by simp only [dep]; omega) (by rw [nodes_asks]; simp only [asks]; omega))
  rw [hn, hpe] at e11
  have i8 : evS C f_law_8 ⟨[.ro xs, .val (.loc 1), .val (.bl wd), .val (.int m), .own (nl.map D.str), .val kd, .val (stD kd rs), .no, .val (pgD p), .no], M7⟩ = .ok .nx ⟨[.ro xs, .val (.loc 1), .val (.bl wd), .val (.int m), .own (nl.map D.str), .val kd, .val (stD kd rs), .no, .val (.tup [.str sAsk, quD ps k, pgD y, .tup [.str sTell, .str (Str.ofString "end")]]), .no], M9⟩ := by
    clear e8 e11 hpe
    generalize stD kd rs = st at *
    generalize nl.map D.str = NS at *
    generalize pgD p = pg at *
    generalize pgD y = py at *
    generalize quD ps k = qu at *
    simp [evSs, evS, evX, evXs, evEs, evA, evAg, evT, evTB, evB, evG, evGs, evI, Tgs.len, varD, R.bind, biD, bi1, bi2_gcd, lif, toVal, setName_def, isRo_no, isRo_val, isRo_own, cmpD, truD, negD, binD, intOp, retD, ofBody, callD, call_CN, callkD, slots, Ar.slot, lend, ofCall, subD, seq, lis, G.atI, isTys, isTy, eqD, D.eqv, pure60, D.pure, D.deep, List.set, setD, putL, cell, methD, mtD, strI, ofSeq, plcC, plcV, unl, lock, unlock, rngD, forL, Itm.ok, stays, List.all_nil, fit0, fit1, fit2, fit3, fit4, fit5, fit6, fit7, fit8, fit9, fit10, fit11, fit12, fit13, fit14, fit15, fit16, e9, e10]
  clear hpe
  generalize D.tup [.str sAsk, quD ps k, pgD y, .tup [.str sTell, .str (Str.ofString "end")]] = pe at *
  have i9 : evS C f_law_9 ⟨[.ro xs, .val (.loc 1), .val (.bl wd), .val (.int m), .own (nl.map D.str), .val kd, .val (stD kd rs), .no, .val pe, .no], M9⟩ = .ok .nx ⟨[.ro xs, .val (.loc 1), .val (.bl wd), .val (.int m), .own (nl.map D.str), .val kd, .val (stD kd rs), .no, .val pe, .no], M9⟩ := by
    generalize stD kd rs = st at *
    generalize nl.map D.str = NS at *
    simp [evSs, evS, evX, evXs, evEs, evA, evAg, evT, evTB, evB, evG, evGs, evI, Tgs.len, varD, R.bind, biD, bi1, bi2_gcd, lif, toVal, setName_def, isRo_no, isRo_val, isRo_own, cmpD, truD, negD, binD, intOp, retD, ofBody, callD, call_CN, callkD, slots, Ar.slot, lend, ofCall, subD, seq, lis, G.atI, isTys, isTy, eqD, D.eqv, pure60, D.pure, D.deep, List.set, setD, putL, cell, methD, mtD, strI, ofSeq, plcC, plcV, unl, lock, unlock, rngD, forL, Itm.ok, stays, List.all_nil, fit0, fit1, fit2, fit3, fit4, fit5, fit6, fit7, fit8, fit9, fit10, fit11, fit12, fit13, fit14, fit15, fit16, e11]
  obtain ⟨tl, M10, e12, lt, ot, U10, X10⟩ := s_names (n+23) M9 _ 3 U9 (by decide) (by decide)
  have e12 := hg e12
  obtain ⟨a, b, c, rfl⟩ : ∃ a b c, tl = [a, b, c] := by
    match tl, lt with
    | [a, b, c], _ => exact ⟨a, b, c, rfl⟩
  have ha := ot a (by simp)
  have hb := ot b (by simp)
  have hc := ot c (by simp)
  have e12 : C.call (Str.ofString "_law_names") [.val (.loc 1), .val (.int 3)] M9 = .ok (.own [.str a, .str b, .str c]) M10 := e12
  have i10 : evS C f_law_10 ⟨[.ro xs, .val (.loc 1), .val (.bl wd), .val (.int m), .own (nl.map D.str), .val kd, .val (stD kd rs), .no, .val pe, .no], M9⟩ = .ok .nx ⟨[.ro xs, .val (.loc 1), .val (.bl wd), .val (.int m), .own (nl.map D.str), .val kd, .val (stD kd rs), .no, .val pe, .val (.loc M10.length)], M10 ++ [.lst [.str a, .str b, .str c]]⟩ := by
    clear e8 e11
    generalize stD kd rs = st at *
    generalize nl.map D.str = NS at *
    simp [evSs, evS, evX, evXs, evEs, evA, evAg, evT, evTB, evB, evG, evGs, evI, Tgs.len, varD, R.bind, biD, bi1, bi2_gcd, lif, toVal, setName_def, isRo_no, isRo_val, isRo_own, cmpD, truD, negD, binD, intOp, retD, ofBody, callD, call_CN, callkD, slots, Ar.slot, lend, ofCall, subD, seq, lis, G.atI, isTys, isTy, eqD, D.eqv, pure60, D.pure, D.deep, List.set, setD, putL, cell, methD, mtD, strI, ofSeq, plcC, plcV, unl, lock, unlock, rngD, forL, Itm.ok, stays, List.all_nil, fit0, fit1, fit2, fit3, fit4, fit5, fit6, fit7, fit8, fit9, fit10, fit11, fit12, fit13, fit14, fit15, fit16, e12]
  have g3 := app_get M10 (.lst [.str a, .str b, .str c])
  generalize M10 ++ [.lst [.str a, .str b, .str c]] = M11 at *
  generalize M10.length = lc at *
  have e13 := hg (s_by_hand (n+2) lc M11 kd a b c ha hb hc g3)
  have hi3 : evI C (.q (.var 9)) ⟨[.ro xs, .val (.loc 1), .val (.bl wd), .val (.int m), .own (nl.map D.str), .val kd, .val (stD kd rs), .no, .val pe, .val (.loc lc)], M11⟩ = .ok ⟨[.str a, .str b, .str c], [(lc, [.str a, .str b, .str c])], []⟩ ⟨[.ro xs, .val (.loc 1), .val (.bl wd), .val (.int m), .own (nl.map D.str), .val kd, .val (stD kd rs), .no, .val pe, .val (.loc lc)], M11⟩ := by
    clear e8 e11 e13
    generalize stD kd rs = st at *
    generalize nl.map D.str = NS at *
    simp [evSs, evS, evX, evXs, evEs, evA, evAg, evT, evTB, evB, evG, evGs, evI, Tgs.len, varD, R.bind, biD, bi1, bi2_gcd, lif, toVal, setName_def, isRo_no, isRo_val, isRo_own, cmpD, truD, negD, binD, intOp, retD, ofBody, callD, call_CN, callkD, slots, Ar.slot, lend, ofCall, subD, seq, lis, G.atI, isTys, isTy, eqD, D.eqv, pure60, D.pure, D.deep, List.set, setD, putL, cell, methD, mtD, strI, ofSeq, plcC, plcV, unl, lock, unlock, rngD, forL, Itm.ok, stays, List.all_nil, fit0, fit1, fit2, fit3, fit4, fit5, fit6, fit7, fit8, fit9, fit10, fit11, fit12, fit13, fit14, fit15, fit16, g3]
  have hok : ∀ v, Itm.ok ⟨[.str a, .str b, .str c], [(lc, [.str a, .str b, .str c])], []⟩ ⟨v, M11⟩ = true := fun v => by
    simp [Itm.ok, stays, cell, g3]
  have ec1 := comp_mapC f_law_C1 rfl [rdD (a, 1), rdD (b, 1), rdD (c, 1)] hi3 rfl hok rfl rfl rfl rfl (by
    intro j x d hx hd
    have : ∃ z : Str, x = .str z ∧ d = rdD (z, 1) := by
      match j, hx, hd with
      | 0, hx, hd => cases hx; cases hd; exact ⟨_, rfl, rfl⟩
      | 1, hx, hd => cases hx; cases hd; exact ⟨_, rfl, rfl⟩
      | 2, hx, hd => cases hx; cases hd; exact ⟨_, rfl, rfl⟩
      | j + 3, hx, hd => simp at hx
    obtain ⟨z, rfl, rfl⟩ := this
    refine ⟨[.ro xs, .val (.loc 1), .val (.bl wd), .val (.int m), .own (nl.map D.str), .val kd, .val (stD kd rs), .val (.str z), .val pe, .val (.loc lc)], ?_, rfl⟩
    clear e8 e11 e13 hi3
    generalize stD kd rs = st at *
    generalize nl.map D.str = NS at *
    simp [turnC, evSs, evS, evX, evXs, evEs, evA, evAg, evT, evTB, evB, evG, evGs, evI, Tgs.len, varD, R.bind, biD, bi1, bi2_gcd, lif, toVal, setName_def, isRo_no, isRo_val, isRo_own, cmpD, truD, negD, binD, intOp, retD, ofBody, callD, call_CN, callkD, slots, Ar.slot, lend, ofCall, subD, seq, lis, G.atI, isTys, isTy, eqD, D.eqv, pure60, D.pure, D.deep, List.set, setD, putL, cell, methD, mtD, strI, ofSeq, plcC, plcV, unl, lock, unlock, rngD, forL, Itm.ok, stays, List.all_nil, fit0, fit1, fit2, fit3, fit4, fit5, fit6, fit7, fit8, fit9, fit10, fit11, fit12, fit13, fit14, fit15, fit16, rdD])
  have ec2 := tupT_ev (i := 5) (d := kd) ec1 rfl
  refine ⟨M11, ?_⟩
  unfold bf_law
  rw [seq_nx i0, seq_nx i1, seq_nx i2, seq_nx i3, seq_nx i4, seq_nx i5, seq_nx i6, seq_nx i7, seq_nx i8, seq_nx i9, seq_nx i10]
  have e13 : C.call (Str.ofString "_law_by_hand") [.val (.tup [kd, .tup [rdD (a, 1), rdD (b, 1), rdD (c, 1)]]), .val (.loc lc)] M11 = .ok (.val (.bl true)) M11 := e13
  have i11 := ret_call2 ec2 (i := 9) (d := .loc lc) rfl e13
  rw [seq_rt i11]
  rfl
end G

theorem PySem.Challenge.cw_whateverzero_k46_wording_holds : PySem.Challenge.rw_whateverzero_k46_wording.Holds :=
  G.holds fun ns _ => G.s_law 125 ns
