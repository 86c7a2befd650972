import PyProof.Rows.All
import HandS.ForMost
import HandS.Gcd
import HandS.Wide
import HandS.TupMul
import HandS.IsInst
import HandS.Style
import HandS.ExcOwn
import HandS.CallSlots
import HandS.TupAny
import HandS.Deep
import HandS.Dict
import HandS.SortInts
import HandS.More
import KE.KExcSuper
import HandS.ExcInit
import HandS.Nested
import HandS.ClsMeth
import HandS.TryMany
import HandS.ExcField
import HandS.ExcIs
import HandS.Flow
import HandS.Comp
import HandS.Iter
import HandS.Zip
import HandS.TryOnly
import KE.GoesEnum
import PyProof.EnumMake
import HandS.Conv
import HandS.Small
import HandS.Text
import HandS.FStr
import HandS.Defaults
import HandS.Head0
import HandS.Head1
import HandS.Head2
import HandS.HeadEnd
import HandS.HeadHook1
import HandS.HeadHook2
import HandS.Head3
import HandS.EndBits
import HandS.Words
import HandS.WordsExc
import PySem.Challenge.RW_whateverzero_k05_values_and_choices_chec
/-! ## GEv -/
set_option Elab.async false
set_option linter.all false
set_option maxRecDepth 100000
namespace G
open PySem

/-! ## data -/
inductive D where
  | non
  | bl (b : Bool)
  | int (i : Int)
  | str (x : Str)
  | tup (xs : List D)
  | loc (n : Nat)
  deriving Inhabited
mutual
def D.eqb : D → D → Bool
  | .non, .non => true
  | .bl a, .bl b => a == b
  | .int a, .int b => decide (a = b)
  | .str a, .str b => decide (a = b)
  | .tup a, .tup b => D.eqbs a b
  | .loc a, .loc b => decide (a = b)
  | _, _ => false
def D.eqbs : List D → List D → Bool
  | [], [] => true
  | x :: xs, y :: ys => D.eqb x y && D.eqbs xs ys
  | _, _ => false
end
mutual
theorem D.eqb_ok : ∀ a b : D, D.eqb a b = true ↔ a = b
  | .non, b => by cases b <;> simp [D.eqb]
  | .bl a, b => by cases b <;> simp [D.eqb]
  | .int a, b => by cases b <;> simp [D.eqb]
  | .str a, b => by cases b <;> simp [D.eqb]
  | .loc a, b => by cases b <;> simp [D.eqb]
  | .tup a, b => by
    cases b with
    | tup ys => simp only [D.eqb, D.tup.injEq]; exact D.eqbs_ok a ys
    | _ => simp [D.eqb]
theorem D.eqbs_ok : ∀ a b : List D, D.eqbs a b = true ↔ a = b
  | [], b => by cases b <;> simp [D.eqbs]
  | x :: xs, b => by
    cases b with
    | nil => simp [D.eqbs]
    | cons y ys => simp only [D.eqbs, Bool.and_eq_true, List.cons.injEq, D.eqb_ok x y, D.eqbs_ok xs ys]
end
instance : DecidableEq D := fun a b => decidable_of_iff _ (D.eqb_ok a b)

mutual
def D.pure : D → Bool
  | .tup xs => D.pures xs
  | .loc _ => false
  | .str x => PySem.PyData.strOk x
  | _ => true
def D.pures : List D → Bool
  | [] => true
  | x :: xs => D.pure x && D.pures xs
end
mutual
def D.deep : D → Nat
  | .tup xs => D.deeps xs + 1
  | _ => 0
def D.deeps : List D → Nat
  | [] => 0
  | x :: xs => max (D.deep x) (D.deeps xs)
end
mutual
def D.eqv : D → D → Bool
  | .non, .non => true
  | .bl a, .bl b => a == b
  | .bl a, .int j => (if a then 1 else 0) == j
  | .int i, .bl b => i == (if b then 1 else 0)
  | .int a, .int b => a == b
  | .str a, .str b => a == b
  | .tup a, .tup b => D.eqvs a b
  | _, _ => false
def D.eqvs : List D → List D → Bool
  | [], [] => true
  | x :: xs, y :: ys => D.eqv x y && D.eqvs xs ys
  | _, _ => false
end

/-! ## states -/
inductive Slot where
  | no
  | val (d : D)
  | own (xs : List D)
  | ro (xs : List D)
inductive Cell where
  | lst (xs : List D)
  | dct (kvs : List (Str × D))
structure S where
  v : List Slot
  M : List Cell
structure Xc where
  cls : Str
  fs : List (Str × D)
inductive R (α : Type) where
  | ok (a : α) (s : S)
  | exc (x : Xc) (s : S)
  | bad
inductive RF where
  | ok (o : Slot) (M : List Cell)
  | exc (x : Xc) (M : List Cell)
  | bad
def R.bind {α β : Type} : R α → (α → S → R β) → R β
  | .ok a s, f => f a s
  | .exc x s, _ => .exc x s
  | .bad, _ => .bad
/-- what an expression gives: a value; a new list; the list of the i-th name -/
inductive SV where
  | val (d : D)
  | new (xs : List D)
  | var (i : Nat)
inductive Fl where
  | nx | bk | ct
  | rt (o : Slot)
def lif {α : Type} : Option α → S → R α
  | some a, s => .ok a s
  | none, _ => .bad

/-! ## syntax -/
inductive Ty where
  | int | bool | str | tuple | list
  deriving DecidableEq
inductive Bi where
  | abs | int | str | len | gcd | all | any | sum | max | min | tuple | list | sorted
  deriving DecidableEq
inductive Sm' where
  | join | startswith | split
  deriving DecidableEq
inductive Mt where
  | append | pop | extend | insert | reverse
  deriving DecidableEq
mutual
inductive Ex where
  | cst (d : D)
  | var (i : Nat)
  | glob (x : Str)
  | bin (op : Operator) (a b : Ex)
  | neg (a : Ex)
  | not (a : Ex)
  | bool (isAnd : Bool) (es : Exs)
  | cmp (op : CmpOp) (a b : Ex)
  | chain (o1 o2 : CmpOp) (a b c : Ex)
  | ife (t : Te) (a b : Ex)
  | tup (es : Exs)
  | lst (es : Exs)
  | dct (ks : List Str) (es : Exs)
  | lrng (e : Ex)
  | smeth (o : Ex) (m : Sm') (e : Ex)
  | fstr (es : Exs)
  | comp (elt : Ex) (tg : Tg) (it : It) (ifs : Tes) (own : List Nat)
  | call (f : Str) (es : Ags)
  | callk (f : Str) (n : Nat) (ks : List Str) (es : Ags)
  | bi (b : Bi) (es : Exs)
  | isi (e : Ex) (tys : List Ty)
  | meth (o : Ex) (m : Mt) (es : Exs)
  | sub (a i : Ex)
  | slc (a : Ex) (lo hi : Ox)
inductive Exs where
  | nil
  | cons (e : Ex) (es : Exs)
inductive Te where
  | x (e : Ex)
  | n (t : Te)
  | b (isAnd : Bool) (ts : Tes)
  | ife (t a b : Te)
inductive Tes where
  | nil
  | cons (t : Te) (ts : Tes)
inductive Ag where
  | v (e : Ex)
  | b (e : Ex)
inductive Ags where
  | nil
  | cons (a : Ag) (as : Ags)
inductive It where
  | q (e : Ex)
  | rng (es : Exs)
  | enum (e : Ex)
  | zip (a b : Ex)
inductive Ox where
  | no
  | yes (e : Ex)
inductive Tg where
  | name (i : Nat)
  | tup (ts : Tgs)
  | sub (o i : Ex)
inductive Tgs where
  | nil
  | cons (t : Tg) (ts : Tgs)
end
/-! what an except clause hands back: of constants, fields of the error, by the error's class -/
mutual
inductive Hx where
  | cst (d : D)
  | att (f : Str)
  | tup (es : Hxs)
  | ifi (c : Str) (subs : List Str) (a b : Hx)
inductive Hxs where
  | nil
  | cons (e : Hx) (es : Hxs)
end
inductive Hb where
  | ret (h : Hx)
  | ifr (c : Str) (subs : List Str) (h : Hx) (r : Hb)
/-- a clause: its class, the classes below that may come, its name, its suite -/
structure Hc where
  cls : Str
  subs : List Str
  name : Option Nat
  suite : Hb
mutual
inductive Stm where
  | ex (e : Ex)
  | asg (t : Tg) (e : Ex)
  | own (i : Nat) (e : Ex)
  | par2 (i j : Nat) (a b : Ex)
  | par3 (i j k : Nat) (a b c : Ex)
  | aug (i : Nat) (op : Operator) (e : Ex)
  | ret (e : Ex)
  | retN
  | ite (t : Te) (a b : Stms)
  | whl (t : Te) (b : Stms)
  | fors (t : Tg) (it : It) (b : Stms)
  | pass
  | brk
  | cnt
  | rai (k : Str) (ns : List Str) (es : Exs)
  | trx (b : Stms) (kn : List Str) (hs : List Hc)
inductive Stms where
  | nil
  | cons (s : Stm) (ss : Stms)
end
def Tgs.len : Tgs → Nat
  | .nil => 0
  | .cons _ ts => ts.len + 1
structure Fn where
  ps : List Str
  N : List Str
  dfl : List D
  body : Stms
structure Cn where
  call : Str → List Slot → List Cell → RF
  kb : Str → Nat → List Str → List Slot → Option (List Slot)
  gl : Str → Option D

/-! ## primitive steps -/
def LIM : Nat := 60000000
/-- small enough for a product -/
def Sm (i : Int) : Bool := Nat.blt i.natAbs.log2 LIM
/-- small enough for a divisor -/
def Sd (i : Int) : Bool := Nat.blt i.natAbs.log2 9000
def St' (x y : Str) : Bool := Nat.ble (x.length + y.length) sizeLine
def fits (n : Nat) : Bool := Nat.ble n sizeLine
def powOk (i j : Int) : Bool := decide (0 ≤ j) && decide (j ≤ 1000000) && decide (i.natAbs < 2 ^ 64)
def intOp : Operator → Int → Int → Option Int
  | .Add, i, j => some (i + j)
  | .Sub, i, j => some (i - j)
  | .Mult, i, j => if Sm i && Sm j then some (i * j) else none
  | .FloorDiv, i, j => if decide (j ≠ 0) && Sd j then some (i.fdiv j) else none
  | .Mod, i, j => if j ≠ 0 then some (i.fmod j) else none
  | .Pow, i, j => if powOk i j then some (i ^ j.toNat) else none
  | .LShift, i, j => if powOk i j then some (i * 2 ^ j.toNat) else none
  | _, _, _ => none
def cell (M : List Cell) (n : Nat) : Option (List D) := match M[n]? with
  | some (.lst xs) => some xs
  | _ => none
/-- the pairs of a dict -/
def dctOf (s : S) : SV → Option (List (Str × D))
  | .val (.loc n) => (match s.M[n]? with
    | some (.dct kvs) => some kvs
    | _ => none)
  | _ => none
def asStrs : List D → Option (List Str)
  | [] => some []
  | .str z :: r => (asStrs r).map (z :: ·)
  | _ => none
def fmtD : SV → Option Str
  | .val (.str z) => if fits z.length then some z else none
  | .val (.int i) => if Nat.blt i.natAbs.log2 1920 then some (toString i) else none
  | _ => none
def putS (kvs : List (Str × D)) (k : Str) (d : D) : List (Str × D) := match kvs with
  | [] => [(k, d)]
  | p :: r => if p.1 = k then (k, d) :: r else p :: putS r k d
def getS (kvs : List (Str × D)) (k : Str) : Option D := match kvs with
  | [] => none
  | p :: r => if p.1 = k then some p.2 else getS r k
def insI (x : Int) : List Int → List Int
  | [] => [x]
  | y :: r => if x ≤ y then x :: y :: r else y :: insI x r
def isort : List Int → List Int
  | [] => []
  | x :: r => insI x (isort r)
/-- the items of a list or a tuple -/
def seq (s : S) : SV → Option (List D)
  | .val (.tup xs) => some xs
  | .val (.loc n) => cell s.M n
  | .new xs => some xs
  | .var i => (match s.v[i]? with
    | some (.own xs) => some xs
    | some (.ro xs) => some xs
    | _ => none)
  | _ => none
/-- the items of a list that is no borrowed one -/
def lis (s : S) : SV → Option (List D)
  | .val (.loc n) => cell s.M n
  | .new xs => some xs
  | .var i => (match s.v[i]? with
    | some (.own xs) => some xs
    | _ => none)
  | _ => none
def strOp : Operator → Str → Str → Option Str
  | .Add, x, y => if St' x y then some (x ++ y) else none
  | _, _, _ => none
def catOk (xs ys : List D) : Bool := fits (xs.length + ys.length)
def binD (op : Operator) (x y : SV) (s : S) : Option SV := match x, y with
  | .val (.int i), .val (.int j) => (intOp op i j).map fun k => .val (.int k)
  | .val (.str i), .val (.str j) => (strOp op i j).map fun k => .val (.str k)
  | .val (.bl i), .val (.bl j) => (match op with
    | .Sub => some (.val (.int ((if i = true then 1 else 0) - (if j = true then 1 else 0))))
    | _ => none)
  | .val (.tup xs), .val (.tup ys) => (match op with
    | .Add => if catOk xs ys then some (.val (.tup (xs ++ ys))) else none
    | _ => none)
  | .val (.tup xs), .val (.int k) => (match op with
    | .Mult => if (!xs.isEmpty) && decide (2 ≤ k) && decide (k ≤ 1000) && Nat.ble xs.length 1000 then some (.val (.tup (List.replicate k.toNat xs).flatten)) else none
    | _ => none)
  | x, .val (.int k) => (match op, lis s x with
    | .Mult, some xs => if decide (-(2 ^ 63) ≤ k) && decide (k < 2 ^ 63) && fits (xs.length * k.toNat) then some (.new (List.replicate k.toNat xs).flatten) else none
    | _, _ => none)
  | x, y => (match op, lis s x, lis s y with
    | .Add, some xs, some ys => if catOk xs ys then some (.new (xs ++ ys)) else none
    | _, _, _ => none)
def negD : SV → Option SV
  | .val (.int i) => some (.val (.int (-i)))
  | _ => none
def pure60 (d : D) : Bool := d.pure && Nat.ble d.deep 60
def eqD (x y : D) : Option Bool := match x, y with
  | .str a, .str b => some (decide (a = b))
  | x, y => if pure60 x && pure60 y then some (D.eqv x y) else none
def flat : D → Bool
  | .non => true | .bl _ => true | .int _ => true | .str _ => true
  | _ => false
def inD (x : D) (xs : List D) : Option Bool := if (flat x && xs.all flat) || (pure60 x && xs.all pure60) then some (xs.any fun y => D.eqv y x) else none
/-- a method of a text -/
def smD (m : Sm') (a : Str) (y : SV) (s : S) : Option SV := match m, y with
  | .join, y => (seq s y).bind fun ds => (asStrs ds).bind fun ys => if Nat.ble ((ys.map (·.length)).sum + ys.length * a.length) 16777216 then some (.val (.str (Txt.join a ys))) else none
  | .startswith, .val (.str b) => some (.val (.bl (Txt.startswith a b)))
  | .split, .val (.str b) => if (b.length != 0) && Nat.ble (a.length + 2) sizeLine then some (.new ((Txt.split a b).map D.str)) else none
  | _, _ => none
def inS (a : D) (y : SV) (s : S) : Option Bool := match a, dctOf s y with
  | .str k, some kvs => some (getS kvs k).isSome
  | _, some _ => none
  | a, none => (seq s y).bind fun ys => inD a ys
def cmpD (op : CmpOp) (x y : SV) (s : S) : Option Bool := match op, x, y with
  | .Eq, .val a, .val b => eqD a b
  | .NotEq, .val a, .val b => (eqD a b).map (!·)
  | .Lt, .val (.int i), .val (.int j) => some (decide (i < j))
  | .LtE, .val (.int i), .val (.int j) => some (decide (i ≤ j))
  | .Gt, .val (.int i), .val (.int j) => some (decide (j < i))
  | .GtE, .val (.int i), .val (.int j) => some (decide (j ≤ i))
  | .Is, .val a, .val .non => some (decide (a = .non))
  | .IsNot, .val a, .val .non => some (!decide (a = .non))
  | .In, .val a, y => inS a y s
  | .NotIn, .val a, y => (inS a y s).map (!·)
  | _, _, _ => none
def isTy (s : S) (t : Ty) : SV → Option Bool
  | .val .non => some false
  | .val (.bl _) => some (decide (t = .bool) || decide (t = .int))
  | .val (.int _) => some (decide (t = .int))
  | .val (.str _) => some (decide (t = .str))
  | .val (.tup _) => some (decide (t = .tuple))
  | .val (.loc n) => (match s.M[n]? with
    | some (.lst _) => some (decide (t = .list))
    | _ => none)
  | .new _ => some (decide (t = .list))
  | .var i => (match s.v[i]? with
    | some (.own _) => some (decide (t = .list))
    | some (.ro _) => some (decide (t = .list))
    | _ => none)
def isTys (s : S) (x : SV) : List Ty → Option Bool
  | [] => none
  | [t] => isTy s t x
  | t :: ts => (isTy s t x).bind fun b => (isTys s x ts).map (b || ·)
def asInts : List D → Option (List Int)
  | [] => some []
  | .int i :: r => (asInts r).map (i :: ·)
  | _ :: _ => none
def asBools : List D → Option (List Bool)
  | [] => some []
  | .bl i :: r => (asBools r).map (i :: ·)
  | _ :: _ => none
def maxL : List Int → Int
  | [] => 0
  | [x] => x
  | x :: y :: r => max x (maxL (y :: r))
def minL : List Int → Int
  | [] => 0
  | [x] => x
  | x :: y :: r => min x (minL (y :: r))
def strI (i : Int) : Option SV := if Nat.blt i.natAbs.log2 1920 then some (.val (.str (toString i))) else none
def bi1 (b : Bi) (x : SV) (s : S) : Option SV := match b, x with
  | .abs, .val (.int i) => some (.val (.int (if i < 0 then -i else i)))
  | .int, .val (.int i) => some (.val (.int i))
  | .int, .val (.bl k) => some (.val (.int (if k then 1 else 0)))
  | .str, .val (.int i) => strI i
  | .len, .val (.str z) => if fits z.length then some (.val (.int z.length)) else none
  | .len, x => (seq s x).map fun xs => .val (.int xs.length)
  | .all, x => (lis s x).bind fun xs => (asBools xs).map fun bs => .val (.bl (bs.all id))
  | .any, x => (lis s x).bind fun xs => (asBools xs).map fun bs => .val (.bl (bs.any id))
  | .sum, x => (lis s x).bind fun xs => (asInts xs).map fun bs => .val (.int bs.sum)
  | .max, x => (lis s x).bind fun xs => (asInts xs).bind fun bs => if bs.isEmpty then none else some (.val (.int (maxL bs)))
  | .min, x => (lis s x).bind fun xs => (asInts xs).bind fun bs => if bs.isEmpty then none else some (.val (.int (minL bs)))
  | .tuple, .val (.tup xs) => some (.val (.tup xs))
  | .tuple, x => (seq s x).map fun xs => .val (.tup xs)
  | .list, x => (seq s x).map fun xs => .new xs
  | .sorted, x => (lis s x).bind fun xs => (asInts xs).map fun bs => .new ((isort bs).map D.int)
  | _, _ => none
def bi2 (b : Bi) (x y : SV) : Option SV := match b, x, y with
  | .gcd, .val (.int i), .val (.int j) => some (.val (.int ((Nat.gcd i.natAbs j.natAbs : Nat) : Int)))
  | .max, .val (.int i), .val (.int j) => some (.val (.int (if j > i then j else i)))
  | .min, .val (.int i), .val (.int j) => some (.val (.int (if j < i then j else i)))
  | _, _, _ => none
def biD (b : Bi) (xs : List SV) (s : S) : Option SV := match xs with
  | [x] => bi1 b x s
  | [x, y] => bi2 b x y
  | _ => none
def atI {α : Type} (xs : List α) (i : Int) : Option α := L2.atI xs i
def subD (x y : SV) (s : S) : Option SV := match x, y with
  | .val (.str z), .val (.int i) => if fits z.length then (atI z.cps.toList i).map fun c => .val (.str ⟨#[c]⟩) else none
  | x, .val (.int i) => (seq s x).bind fun xs => (atI xs i).map fun d => .val d
  | x, .val (.str k) => (dctOf s x).bind fun kvs => (getS kvs k).map fun d => .val d
  | _, _ => none
def cut {α : Type} (xs : List α) (lo hi : Option Int) : List α := (xs.drop (HT.sIx xs.length 0 lo)).take (HT.sIx xs.length xs.length hi - HT.sIx xs.length 0 lo)
def slcD (x : SV) (lo hi : Option Int) (s : S) : Option SV := match x with
  | .val (.tup xs) => some (.val (.tup (cut xs lo hi)))
  | .val (.str z) => if fits z.length then some (.val (.str ⟨(cut z.cps.toList lo hi).toArray⟩)) else none
  | x => (seq s x).map fun xs => .new (cut xs lo hi)
/-- the list of a place is changed -/
def putL (s : S) (x : SV) (xs : List D) : Option S := match x with
  | .val (.loc n) => some ⟨s.v, s.M.set n (.lst xs)⟩
  | .var i => some ⟨s.v.set i (.own xs), s.M⟩
  | _ => none
def methD (m : Mt) (x : SV) (as : List SV) (s : S) : R SV := match m, as with
  | .append, [.val d] => (match lis s x with
    | some xs => if Nat.blt xs.length sizeLine then (match putL s x (xs ++ [d]) with
      | some s' => .ok (.val .non) s'
      | none => .bad) else .bad
    | none => .bad)
  | .pop, [] => (match lis s x with
    | some xs => (match xs.getLast?, putL s x xs.dropLast with
      | some d, some s' => .ok (.val d) s'
      | _, _ => .bad)
    | none => .bad)
  | .pop, [.val (.int i)] => (match lis s x with
    | some xs => if decide (-(2 ^ 63) ≤ i) && decide (i < 2 ^ 63) then (match seqIndex? i xs.length with
      | some k => (match xs[k]?, putL s x (xs.eraseIdx k) with
        | some d, some s' => .ok (.val d) s'
        | _, _ => .bad)
      | none => .bad) else .bad
    | none => .bad)
  | .extend, [y] => (match lis s x, lis s y with
    | some xs, some ys => if catOk xs ys then (match putL s x (xs ++ ys) with
      | some s' => .ok (.val .non) s'
      | none => .bad) else .bad
    | _, _ => .bad)
  | .reverse, [] => (match lis s x with
    | some xs => (match putL s x xs.reverse with
      | some s' => .ok (.val .non) s'
      | none => .bad)
    | none => .bad)
  | .insert, [.val (.int i), .val d] => (match lis s x with
    | some xs => if decide (0 ≤ i) && (decide (i < 2 ^ 63) && Nat.blt xs.length sizeLine) then (match putL s x (xs.take i.toNat ++ [d] ++ xs.drop i.toNat) with
      | some s' => .ok (.val .non) s'
      | none => .bad) else .bad
    | none => .bad)
  | _, _ => .bad
/-- o[i] = d -/
def setD (x : SV) (i : SV) (d : D) (s : S) : Option S := match i with
  | .val (.int k) => (lis s x).bind fun xs => (L2.ixN xs.length k).bind fun j => putL s x (xs.set j d)
  | .val (.str k) => (match x with
    | .val (.loc n) => (dctOf s (.val (.loc n))).bind fun kvs => if Nat.blt kvs.length sizeLine then some ⟨s.v, s.M.set n (.dct (putS kvs k d))⟩ else none
    | _ => none)
  | _ => none
/-- a value out of what an expression gives -/
def toVal : SV → S → R D
  | .val d, s => .ok d s
  | .new xs, s => .ok (.loc s.M.length) ⟨s.v, s.M ++ [.lst xs]⟩
  | .var _, _ => .bad
/-- truth, as a test -/
def truD (s : S) : SV → Option Bool
  | .val (.bl b) => some b
  | .val .non => some false
  | .val (.int i) => some (i != 0)
  | .val (.str x) => if fits x.length then some (x.length != 0) else none
  | x => (seq s x).map fun xs => !xs.isEmpty
/-- an argument: a value, a list that is lent, the list of a name -/
inductive Ar where
  | val (d : D)
  | tmp (xs : List D)
  | var (i : Nat)
def lend : SV → Ar
  | .val d => .val d
  | .new xs => .tmp xs
  | .var i => .var i
def Ar.slot (s : S) : Ar → Option Slot
  | .val d => some (.val d)
  | .tmp xs => some (.ro xs)
  | .var i => (match s.v[i]? with
    | some (.own xs) => some (.ro xs)
    | some (.ro xs) => some (.ro xs)
    | _ => none)
def slots (s : S) : List Ar → Option (List Slot)
  | [] => some []
  | a :: r => (a.slot s).bind fun x => (slots s r).map (x :: ·)
def ofCall (s : S) : RF → R SV
  | .ok (.val d) M => .ok (.val d) ⟨s.v, M⟩
  | .ok (.own xs) M => .ok (.new xs) ⟨s.v, M⟩
  | .ok _ _ => .bad
  | .exc x M => .exc x ⟨s.v, M⟩
  | .bad => .bad
/-- what a loop walks: the items, the lists of the heap that have to stay, the names whose lists are locked meanwhile -/
structure Itm where
  xs : List D
  chk : List (Nat × List D)
  lks : List (Nat × List D)
def stays (s : S) (p : Nat × List D) : Bool := decide (cell s.M p.1 = some p.2)
def Itm.ok (it : Itm) (s : S) : Bool := it.chk.all (stays s)
def plcC (x : SV) (xs : List D) : List (Nat × List D) := match x with
  | .val (.loc n) => [(n, xs)]
  | _ => []
def plcV (x : SV) (xs : List D) (s : S) : List (Nat × List D) := match x with
  | .var i => (match s.v[i]? with
    | some (.own _) => [(i, xs)]
    | _ => [])
  | _ => []
def ofSeq (s : S) (x : SV) : Option Itm := match x with
  | .val (.str z) => some ⟨z.cps.toList.map fun c => .str ⟨#[c]⟩, [], []⟩
  | x => (seq s x).map fun xs => ⟨xs, plcC x xs, plcV x xs s⟩
def lock (v : List Slot) : List (Nat × List D) → List Slot
  | [] => v
  | (i, xs) :: r => (lock v r).set i (.ro xs)
def unlock (v : List Slot) : List (Nat × List D) → List Slot
  | [] => v
  | (i, xs) :: r => (unlock v r).set i (.own xs)
def in62 (i : Int) : Bool := decide (-(2 ^ 62) ≤ i) && decide (i < 2 ^ 62)
def rngL (lo : Int) (n : Nat) : List D := (List.range n).map fun (k : Nat) => D.int (lo + (k : Int))
def rngC (lo c : Int) (n : Nat) : List D := (List.range n).map fun (k : Nat) => D.int (lo + (k : Int) * c)
def rngN (i j c : Int) : Nat := if 0 < c then ((j - i + c - 1) / c).toNat else if c < 0 then ((i - j - c - 1) / (-c)).toNat else 0
def rngD : List SV → Option Itm
  | [.val (.int j)] => if in62 j then some ⟨rngL 0 j.toNat, [], []⟩ else none
  | [.val (.int i), .val (.int j)] => if in62 i && in62 j then some ⟨rngL i (j - i).toNat, [], []⟩ else none
  | [.val (.int i), .val (.int j), .val (.int c)] => if in62 i && in62 j && decide (c ≠ 0) && decide (c.natAbs < 2 ^ 30) then some ⟨rngC i c (rngN i j c), [], []⟩ else none
  | _ => none
def lrngD : SV → Option SV
  | .val (.int j) => if decide (-(2 ^ 62) ≤ j) && decide (j ≤ 16777216) then some (.new (rngL 0 j.toNat)) else none
  | _ => none
def pairs : Int → List D → List D
  | _, [] => []
  | k, x :: xs => .tup [.int k, x] :: pairs (k + 1) xs
def isTup : SV → Bool
  | .val (.tup _) => true
  | _ => false
def zips : List D → List D → List D
  | x :: xs, y :: ys => .tup [x, y] :: zips xs ys
  | _, _ => []
def wipes : List Slot → List Nat → List Slot
  | v, [] => v
  | v, i :: is => (wipes v is).set i .no
def restor (v w : List Slot) : List Nat → List Slot
  | [] => w
  | i :: is => (restor v w is).set i (v.getD i .no)
/-- the items of a comprehension -/
def compL (ok : S → Bool) (body : D → S → R (Option D)) : List D → S → R (List D)
  | [], s => if ok s then .ok [] s else .bad
  | x :: xs, s => if ok s then (body x s).bind fun o s1 => (compL ok body xs s1).bind fun ys s2 => .ok (o.toList ++ ys) s2 else .bad
def noX {α : Type} : R α → R α
  | .exc _ _ => .bad
  | r => r
/-- a for loop -/
def forL (ok : S → Bool) (body : D → S → R Fl) : List D → S → R Fl
  | [], s => if ok s then .ok .nx s else .bad
  | x :: xs, s => if ok s then (body x s).bind fun f s1 => (match f with
    | .nx => forL ok body xs s1
    | .ct => forL ok body xs s1
    | .bk => .ok .nx s1
    | .rt o => .ok (.rt o) s1) else .bad
/-- a while loop: at most so many turns -/
def whlL (test : S → R Bool) (body : S → R Fl) : Nat → S → R Fl
  | 0, _ => .bad
  | n + 1, s => (test s).bind fun b s1 => if b then (body s1).bind fun f s2 => (match f with
    | .nx => whlL test body n s2
    | .ct => whlL test body n s2
    | .bk => .ok .nx s2
    | .rt o => .ok (.rt o) s2) else .ok .nx s1
def WF : Nat := 2 ^ 2000000

/-! ## evaluation -/
/-- one turn of a comprehension -/
def turnC (g : D → S → R Unit) (f : S → R Bool) (e : S → R SV) (x : D) (s : S) : R (Option D) :=
  (g x s).bind fun _ s1 => (f s1).bind fun k s2 => if k then ((e s2).bind toVal).bind fun d s3 => .ok (some d) s3 else .ok none s2
/-- a comprehension: its own names are no names ahead of each turn -/
def wiped (own : List Nat) (s : S) : S := ⟨wipes s.v own, s.M⟩
def compD (m : Itm) (own : List Nat) (turn : D → S → R (Option D)) (s1 : S) : R SV :=
  noX ((compL m.ok (fun x s => (turn x s).bind fun o s' => .ok o (wiped own s')) m.xs (wiped own ⟨lock s1.v m.lks, s1.M⟩)).bind fun ys s6 =>
    if fits ys.length then .ok (.new ys) ⟨unlock (restor (lock s1.v m.lks) s6.v own) m.lks, s6.M⟩ else .bad)
def callD (c : Cn) (f : Str) (as : List Ar) (s : S) : R SV := match slots s as with
  | some vs => ofCall s (c.call f vs s.M)
  | none => .bad
def callkD (c : Cn) (f : Str) (n : Nat) (ks : List Str) (as : List Ar) (s : S) : R SV := match (slots s as).bind (c.kb f n ks) with
  | some vs => ofCall s (c.call f vs s.M)
  | none => .bad
def varD (i : Nat) (s : S) : R SV := match s.v[i]? with
  | some (.val d) => .ok (.val d) s
  | some (.own _) => .ok (.var i) s
  | some (.ro _) => .ok (.var i) s
  | _ => .bad
def globD (c : Cn) (x : Str) (s : S) : R SV := match c.gl x with
  | some d => .ok (.val d) s
  | none => .bad
def mtD (m : Mt) (x : SV) (as : List SV) (s : S) : R SV := match m, as with
  | .append, [a] => (toVal a s).bind fun d s3 => methD .append x [.val d] s3
  | .append, _ => .bad
  | m, as => methD m x as s
def optI : SV → S → R (Option Int)
  | .val (.int i), s => .ok (some i) s
  | _, _ => .bad
/-- a name is stored; a list that is lent or locked is no name's to store over -/
def setName (i : Nat) (d : Slot) (s : S) : R Unit := match s.v[i]? with
  | some (.ro _) => .bad
  | some _ => .ok () ⟨s.v.set i d, s.M⟩
  | none => .bad
def unl (lks : List (Nat × List D)) : R Fl → R Fl
  | .ok f s => .ok f ⟨unlock s.v lks, s.M⟩
  | .exc x s => .exc x ⟨unlock s.v lks, s.M⟩
  | .bad => .bad
mutual
def evX (c : Cn) : Ex → S → R SV
  | .cst d, s => .ok (.val d) s
  | .var i, s => varD i s
  | .glob x, s => globD c x s
  | .bin op a b, s => (evX c a s).bind fun x s1 => (evX c b s1).bind fun y s2 => lif (binD op x y s2) s2
  | .neg a, s => (evX c a s).bind fun x s1 => lif (negD x) s1
  | .not a, s => (evX c a s).bind fun x s1 => lif ((truD s1 x).map fun b => SV.val (.bl (!b))) s1
  | .bool k es, s => evB c k es s
  | .cmp op a b, s => (evX c a s).bind fun x s1 => (evX c b s1).bind fun y s2 => lif ((cmpD op x y s2).map fun k => SV.val (.bl k)) s2
  | .chain o1 o2 a b e, s => (evX c a s).bind fun x s1 => (evX c b s1).bind fun y s2 => (lif (cmpD o1 x y s2) s2).bind fun k s3 =>
      if k then (evX c e s3).bind fun z s4 => lif ((cmpD o2 y z s4).map fun k => SV.val (.bl k)) s4 else .ok (.val (.bl false)) s3
  | .ife t a b, s => (evT c t s).bind fun k s1 => if k then evX c a s1 else evX c b s1
  | .tup es, s => (evEs c es s).bind fun xs s1 => if fits xs.length then .ok (.val (.tup xs)) s1 else .bad
  | .lst es, s => (evEs c es s).bind fun xs s1 => if fits xs.length then .ok (.new xs) s1 else .bad
  | .dct ks es, s => (evEs c es s).bind fun ds s1 => if ds.length = ks.length then .ok (.val (.loc s1.M.length)) ⟨s1.v, s1.M ++ [.dct (ks.zip ds)]⟩ else .bad
  | .lrng e, s => (evX c e s).bind fun x s1 => lif (lrngD x) s1
  | .smeth o m e, s => (evX c o s).bind fun x s1 => (match x with
    | .val (.str a) => (evX c e s1).bind fun y s2 => lif (smD m a y s2) s2
    | _ => .bad)
  | .fstr es, s => (evF c es Str.empty s).bind fun z s1 => .ok (.val (.str z)) s1
  | .comp elt tg it ifs own, s => (evI c it s).bind fun m s1 => compD m own (turnC (evG c tg) (evTB c true ifs) (evX c elt)) s1
  | .call f es, s => (evA c es s).bind fun as s1 => callD c f as s1
  | .callk f n ks es, s => (evA c es s).bind fun as s1 => callkD c f n ks as s1
  | .bi b es, s => (evXs c es s).bind fun xs s1 => lif (biD b xs s1) s1
  | .isi e tys, s => (evX c e s).bind fun x s1 => lif ((isTys s1 x tys).map fun k => SV.val (.bl k)) s1
  | .meth o m es, s => (evX c o s).bind fun x s1 => if (lis s1 x).isSome then (evXs c es s1).bind fun as s2 => mtD m x as s2 else .bad
  | .sub a i, s => (evX c a s).bind fun x s1 => (evX c i s1).bind fun y s2 => lif (subD x y s2) s2
  | .slc a lo hi, s => (evX c a s).bind fun x s1 => (evO c lo s1).bind fun l s2 => (evO c hi s2).bind fun h s3 => lif (slcD x l h s3) s3
/-- values, in a row -/
def evEs (c : Cn) : Exs → S → R (List D)
  | .nil, s => .ok [] s
  | .cons e es, s => ((evX c e s).bind toVal).bind fun d s1 => (evEs c es s1).bind fun ds s2 => .ok (d :: ds) s2
def evXs (c : Cn) : Exs → S → R (List SV)
  | .nil, s => .ok [] s
  | .cons e es, s => (evX c e s).bind fun d s1 => (evXs c es s1).bind fun ds s2 => .ok (d :: ds) s2
/-- the parts of an f-string -/
def evF (c : Cn) : Exs → Str → S → R Str
  | .nil, acc, s => .ok acc s
  | .cons e es, acc, s => (evX c e s).bind fun x s1 => (lif (fmtD x) s1).bind fun y s2 => if fits (acc ++ y).length then evF c es (acc ++ y) s2 else .bad
/-- arguments -/
def evAg (c : Cn) : Ag → S → R Ar
  | .v e, s => ((evX c e s).bind toVal).bind fun d s1 => .ok (.val d) s1
  | .b e, s => (evX c e s).bind fun d s1 => .ok (lend d) s1
def evA (c : Cn) : Ags → S → R (List Ar)
  | .nil, s => .ok [] s
  | .cons a as, s => (evAg c a s).bind fun d s1 => (evA c as s1).bind fun ds s2 => .ok (d :: ds) s2
def evO (c : Cn) : Ox → S → R (Option Int)
  | .no, s => .ok none s
  | .yes e, s => (evX c e s).bind optI
/-- and, or as values: bools but for the last -/
def evB (c : Cn) : Bool → Exs → S → R SV
  | _, .nil, _ => .bad
  | k, .cons e es, s => (evX c e s).bind fun x s1 => (match es with
    | .nil => .ok x s1
    | es => (match x with
      | .val (.bl b) => if b = k then evB c k es s1 else .ok (.val (.bl b)) s1
      | _ => .bad))
/-- tests -/
def evT (c : Cn) : Te → S → R Bool
  | .x e, s => (evX c e s).bind fun x s1 => lif (truD s1 x) s1
  | .n t, s => (evT c t s).bind fun b s1 => .ok (!b) s1
  | .b k ts, s => evTB c k ts s
  | .ife t a b, s => (evT c t s).bind fun k s1 => if k then evT c a s1 else evT c b s1
def evTB (c : Cn) : Bool → Tes → S → R Bool
  | k, .nil, s => .ok k s
  | k, .cons e es, s => (evT c e s).bind fun b s1 => if b = k then evTB c k es s1 else .ok b s1
/-- what is walked -/
def evI (c : Cn) : It → S → R Itm
  | .rng es, s => (evXs c es s).bind fun xs s1 => lif (rngD xs) s1
  | .enum e, s => (evX c e s).bind fun x s1 => lif ((seq s1 x).map fun xs => ⟨pairs 0 xs, plcC x xs, plcV x xs s1⟩) s1
  | .zip a b, s => (evX c a s).bind fun x s1 => (evX c b s1).bind fun y s2 => lif (if isTup x = isTup y then (seq s2 x).bind fun xs => (seq s2 y).map fun ys => ⟨zips xs ys, plcC x xs ++ plcC y ys, plcV x xs s2 ++ plcV y ys s2⟩ else none) s2
  | .q e, s => (evX c e s).bind fun x s1 => lif (ofSeq s1 x) s1
/-- d goes to the target -/
def evG (c : Cn) : Tg → D → S → R Unit
  | .name i, d, s => setName i (.val d) s
  | .tup ts, d, s => (match d with
    | .tup xs => if xs.length = ts.len then evGs c ts xs s else .bad
    | .loc n => (match cell s.M n with
      | some xs => if xs.length = ts.len then evGs c ts xs s else .bad
      | none => .bad)
    | _ => .bad)
  | .sub o i, d, s => (evX c o s).bind fun x s1 => (evX c i s1).bind fun y s2 => (lif (setD x y d s2) s2).bind fun s' _ => .ok () s'
def evGs (c : Cn) : Tgs → List D → S → R Unit
  | .nil, ds, s => (match ds with
    | [] => .ok () s
    | _ => .bad)
  | .cons t ts, ds, s => (match ds with
    | d :: ds => (evG c t d s).bind fun _ s1 => evGs c ts ds s1
    | [] => .bad)
end
def evE (c : Cn) (e : Ex) (s : S) : R D := (evX c e s).bind toVal
/-- what is handed back -/
def retD (s : S) : SV → R Fl
  | .val d => .ok (.rt (.val d)) s
  | .new xs => .ok (.rt (.own xs)) s
  | .var i => (match s.v[i]? with
    | some (.own xs) => .ok (.rt (.own xs)) s
    | _ => .bad)
def augD (i : Nat) (op : Operator) (y : SV) (s : S) : R Fl := match s.v[i]? with
  | some (.val d) => (match binD op (.val d) y s with
    | some (.val z) => .ok .nx ⟨s.v.set i (.val z), s.M⟩
    | _ => .bad)
  | _ => .bad
mutual
def evHx (x : Xc) : Hx → Option D
  | .cst d => some d
  | .att f => x.fs.lookup f
  | .tup es => (evHxs x es).bind fun ds => if fits ds.length then some (.tup ds) else none
  | .ifi _ subs a b => if subs.contains x.cls then evHx x a else evHx x b
def evHxs (x : Xc) : Hxs → Option (List D)
  | .nil => some []
  | .cons e es => (evHx x e).bind fun d => (evHxs x es).map fun ds => d :: ds
end
def evHb (x : Xc) : Hb → Option D
  | .ret h => evHx x h
  | .ifr _ subs h r => if subs.contains x.cls then evHx x h else evHb x r
/-- the slot of a clause's name bears nothing -/
def freeS (s : S) : Option Nat → Bool
  | none => true
  | some i => (match s.v[i]? with
    | some .no => true
    | _ => false)
def evHs (x : Xc) : List Hc → S → R Fl
  | [], s => .exc x s
  | h :: r, s => if h.subs.contains x.cls then (if freeS s h.name then (match evHb x h.suite with
      | some d => .ok (.rt (.val d)) s
      | none => .bad) else .bad) else evHs x r s
mutual
def evS (c : Cn) : Stm → S → R Fl
  | .ex e, s => (evX c e s).bind fun _ s1 => .ok .nx s1
  | .asg t e, s => ((evX c e s).bind toVal).bind fun d s1 => (evG c t d s1).bind fun _ s2 => .ok .nx s2
  | .own i e, s => (evX c e s).bind fun x s1 => (match x with
    | .new xs => (setName i (.own xs) s1).bind fun _ s2 => .ok .nx s2
    | _ => .bad)
  | .par2 i j a b, s => ((evX c a s).bind toVal).bind fun x s1 => ((evX c b s1).bind toVal).bind fun y s2 =>
      (setName i (.val x) s2).bind fun _ s3 => (setName j (.val y) s3).bind fun _ s4 => .ok .nx s4
  | .par3 i j k a b e, s => ((evX c a s).bind toVal).bind fun x s1 => ((evX c b s1).bind toVal).bind fun y s2 => ((evX c e s2).bind toVal).bind fun z s3 =>
      (setName i (.val x) s3).bind fun _ s4 => (setName j (.val y) s4).bind fun _ s5 => (setName k (.val z) s5).bind fun _ s6 => .ok .nx s6
  | .aug i op e, s => (evX c e s).bind fun y s1 => augD i op y s1
  | .ret e, s => (evX c e s).bind fun x s1 => retD s1 x
  | .retN, s => .ok (.rt (.val .non)) s
  | .ite t a b, s => (evT c t s).bind fun k s1 => if k then evSs c a s1 else evSs c b s1
  | .whl t b, s => whlL (evT c t) (evSs c b) WF s
  | .fors t it b, s => (evI c it s).bind fun m s1 => unl m.lks (forL m.ok (fun x s2 => (evG c t x s2).bind fun _ s3 => evSs c b s3) m.xs ⟨lock s1.v m.lks, s1.M⟩)
  | .pass, s => .ok .nx s
  | .brk, s => .ok .bk s
  | .cnt, s => .ok .ct s
  | .rai k ns es, s => (evEs c es s).bind fun ds s1 => if ds.length = ns.length then .exc ⟨k, (ns.zip ds).reverse⟩ s1 else .bad
  | .trx b kn hs, s => (match evSs c b s with
    | .exc x s1 => if kn.contains x.cls && !x.fs.isEmpty then evHs x hs s1 else .bad
    | r => r)
def evSs (c : Cn) : Stms → S → R Fl
  | .nil, s => .ok .nx s
  | .cons st ss, s => (evS c st s).bind fun f s1 => (match f with
    | .nx => evSs c ss s1
    | f => .ok f s1)
end
abbrev Prog := List (Str × Fn)
def argsOf (fd : Fn) (as : List Slot) : Option (List Slot) :=
  if as.length ≤ fd.ps.length ∧ fd.ps.length - as.length ≤ fd.dfl.length then some (as ++ (fd.dfl.drop (fd.dfl.length - (fd.ps.length - as.length))).map Slot.val) else none
/-- values by name, in the sequence of the parameters -/
def pick {α : Type} (l : List (Str × α)) : List Str → Option (List α)
  | [] => some []
  | p :: ps => (l.lookup p).bind fun a => (pick l ps).map (a :: ·)
def ofBody : R Fl → RF
  | .ok .nx s => .ok (.val .non) s.M
  | .ok (.rt o) s => .ok o s.M
  | .ok _ _ => .bad
  | .exc x s => .exc x s.M
  | .bad => .bad
def runFn (c : Cn) (fd : Fn) (as : List Slot) (M : List Cell) : RF := match argsOf fd as with
  | some vs => ofBody (evSs c fd.body ⟨vs ++ List.replicate (fd.N.length - fd.ps.length) .no, M⟩)
  | none => .bad
def kbOf (P : Prog) (f : Str) (n : Nat) (ks : List Str) (as : List Slot) : Option (List Slot) := if as.length = ks.length then (P.lookup f).bind fun fd => pick (ks.zip as) fd.ps else none
def run (P : Prog) (gl : Str → Option D) : Nat → Str → List Slot → List Cell → RF
  | 0, _, _, _ => .bad
  | n + 1, f, as, M => match P.lookup f with
    | some fd => runFn ⟨run P gl n, kbOf P, gl⟩ fd as M
    | none => .bad
end G

/-! ## GRel -/
set_option Elab.async false
set_option linter.all false
set_option maxRecDepth 100000
set_option maxHeartbeats 2000000
namespace G
open PySem PySem.Spec PyProof.Rows L2

/-! ## plain data and the abstract heap -/
mutual
def DR (K : PySem.W.Frag) (μ : List Addr) (H : Hp) : D → V → Prop
  | .non, v => v = .non
  | .bl b, v => v = .bl b
  | .int i, v => v = .int i
  | .str x, v => v = .str x
  | .tup xs, v => ∃ a vs, v = .ref a ∧ SqT K H a vs ∧ DRs K μ H xs vs
  | .loc n, v => ∃ a, v = .ref a ∧ μ[n]? = some a
def DRs (K : PySem.W.Frag) (μ : List Addr) (H : Hp) : List D → List V → Prop
  | [], vs => vs = []
  | x :: xs, vs => ∃ v r, vs = v :: r ∧ DR K μ H x v ∧ DRs K μ H xs r
end
/-- what the heap keeps: tuples -/
def TupK (H H' : Hp) : Prop := ∀ a vs, Rd H a (.tup vs) → Rd H' a (.tup vs)
theorem TupK.sqT {K : PySem.W.Frag} {H H' : Hp} (t : TupK H H') {a : Addr} {vs : List V} (h : SqT K H a vs) : SqT K H' a vs := by
  rcases h with h | h
  · exact .inl (t _ _ h)
  · exact .inr h
theorem pre_get {α : Type} {l l' : List α} (h : l <+: l') {n : Nat} {a : α} (e : l[n]? = some a) : l'[n]? = some a := by
  obtain ⟨r, rfl⟩ := h
  rw [List.getElem?_append_left (List.getElem?_eq_some_iff.mp e).1]
  exact e
section
variable {K : PySem.W.Frag} {μ μ' : List Addr} {H H' : Hp}
mutual
theorem DR.mono (p : μ <+: μ') (t : TupK H H') : ∀ (d : D) (v : V), DR K μ H d v → DR K μ' H' d v
  | .non, _, h => h
  | .bl _, _, h => h
  | .int _, _, h => h
  | .str _, _, h => h
  | .tup xs, _, h => by
    simp only [DR] at h ⊢
    obtain ⟨a, vs, e, q, r⟩ := h
    exact ⟨a, vs, e, t.sqT q, DRs.mono p t xs vs r⟩
  | .loc n, _, h => by
    simp only [DR] at h ⊢
    obtain ⟨a, e, q⟩ := h
    exact ⟨a, e, pre_get p q⟩
theorem DRs.mono (p : μ <+: μ') (t : TupK H H') : ∀ (ds : List D) (vs : List V), DRs K μ H ds vs → DRs K μ' H' ds vs
  | [], _, h => h
  | x :: xs, _, h => by
    simp only [DRs] at h ⊢
    obtain ⟨v, r, e, q, z⟩ := h
    exact ⟨v, r, e, DR.mono p t x v q, DRs.mono p t xs r z⟩
end
theorem DRs.length : ∀ {ds : List D} {vs : List V}, DRs K μ H ds vs → vs.length = ds.length
  | [], _, h => by simp only [DRs] at h; rw [h]; rfl
  | _ :: xs, _, h => by
    simp only [DRs] at h
    obtain ⟨v, r, e, _, z⟩ := h
    rw [e, List.length_cons, List.length_cons, DRs.length z]
theorem DRs.get : ∀ {ds : List D} {vs : List V} {i : Nat} {d : D}, DRs K μ H ds vs → ds[i]? = some d → ∃ v, vs[i]? = some v ∧ DR K μ H d v
  | [], _, _, _, _, e => by simp at e
  | x :: xs, _, i, d, h, e => by
    simp only [DRs] at h
    obtain ⟨v, r, rfl, q, z⟩ := h
    cases i with
    | zero => simp at e; subst e; exact ⟨v, rfl, q⟩
    | succ i => simp at e; obtain ⟨u, e1, e2⟩ := DRs.get z e; exact ⟨u, by simpa using e1, e2⟩
theorem DRs.append : ∀ {ds es : List D} {vs us : List V}, DRs K μ H ds vs → DRs K μ H es us → DRs K μ H (ds ++ es) (vs ++ us)
  | [], _, _, _, h, k => by simp only [DRs] at h; subst h; exact k
  | x :: xs, _, _, _, h, k => by
    simp only [DRs] at h
    obtain ⟨v, r, rfl, q, z⟩ := h
    simp only [List.cons_append, DRs]
    exact ⟨v, _, rfl, q, DRs.append z k⟩
theorem DRs.one {d : D} {v : V} (h : DR K μ H d v) : DRs K μ H [d] [v] := by
  simp only [DRs]; exact ⟨v, [], rfl, h, rfl⟩
theorem DRs.cons {d : D} {v : V} {ds : List D} {vs : List V} (h : DR K μ H d v) (k : DRs K μ H ds vs) : DRs K μ H (d :: ds) (v :: vs) := by
  simp only [DRs]; exact ⟨v, vs, rfl, h, k⟩
theorem DRs.nil : DRs K μ H [] [] := by simp only [DRs]
theorem DRs.take : ∀ {ds : List D} {vs : List V} (n : Nat), DRs K μ H ds vs → DRs K μ H (ds.take n) (vs.take n)
  | _, _, 0, _ => by simp [DRs]
  | [], _, n + 1, h => by simp only [DRs] at h; subst h; simp [DRs]
  | x :: xs, _, n + 1, h => by
    simp only [DRs] at h
    obtain ⟨v, r, rfl, q, z⟩ := h
    simp only [List.take_succ_cons]
    exact .cons q (DRs.take n z)
theorem DRs.drop : ∀ {ds : List D} {vs : List V} (n : Nat), DRs K μ H ds vs → DRs K μ H (ds.drop n) (vs.drop n)
  | _, _, 0, h => h
  | [], _, n + 1, h => by simp only [DRs] at h; subst h; simp [DRs]
  | x :: xs, _, n + 1, h => by
    simp only [DRs] at h
    obtain ⟨v, r, rfl, q, z⟩ := h
    simp only [List.drop_succ_cons]
    exact DRs.drop n z
theorem DRs.set : ∀ {ds : List D} {vs : List V} (i : Nat) {d : D} {v : V}, DRs K μ H ds vs → DR K μ H d v → DRs K μ H (ds.set i d) (vs.set i v)
  | [], _, _, _, _, h, _ => by simp only [DRs] at h; subst h; simp [DRs]
  | x :: xs, _, 0, _, _, h, k => by
    simp only [DRs] at h
    obtain ⟨v, r, rfl, q, z⟩ := h
    exact .cons k z
  | x :: xs, _, i + 1, _, _, h, k => by
    simp only [DRs] at h
    obtain ⟨v, r, rfl, q, z⟩ := h
    exact .cons q (DRs.set i z k)
theorem DRs.eraseIdx : ∀ {ds : List D} {vs : List V} (i : Nat), DRs K μ H ds vs → DRs K μ H (ds.eraseIdx i) (vs.eraseIdx i)
  | [], _, _, h => by simp only [DRs] at h; subst h; simp [DRs]
  | x :: xs, _, 0, h => by
    simp only [DRs] at h
    obtain ⟨v, r, rfl, q, z⟩ := h
    exact z
  | x :: xs, _, i + 1, h => by
    simp only [DRs] at h
    obtain ⟨v, r, rfl, q, z⟩ := h
    exact .cons q (DRs.eraseIdx i z)
theorem DRs.reverse : ∀ {ds : List D} {vs : List V}, DRs K μ H ds vs → DRs K μ H ds.reverse vs.reverse
  | [], _, h => by simp only [DRs] at h; subst h; simp [DRs]
  | x :: xs, _, h => by
    simp only [DRs] at h
    obtain ⟨v, r, rfl, q, z⟩ := h
    rw [List.reverse_cons, List.reverse_cons]
    exact DRs.append (DRs.reverse z) (.one q)
theorem DRs.dropLast {ds : List D} {vs : List V} (h : DRs K μ H ds vs) : DRs K μ H ds.dropLast vs.dropLast := by
  rw [List.dropLast_eq_take, List.dropLast_eq_take, h.length]
  exact h.take _
theorem DRs.rep {ds : List D} {vs : List V} (h : DRs K μ H ds vs) : ∀ n : Nat, DRs K μ H (List.replicate n ds).flatten (List.replicate n vs).flatten
  | 0 => by simp [DRs]
  | n + 1 => by
    rw [List.replicate_succ, List.replicate_succ, List.flatten_cons, List.flatten_cons]
    exact DRs.append h (DRs.rep h n)
end

/-! ## dicts with texts as keys -/
def PRs (K : PySem.W.Frag) (μ : List Addr) (H : Hp) : List (Str × D) → List (Key × V) → Prop
  | [], ps => ps = []
  | x :: r, ps => ∃ v q, ps = (Sum.inr x.1, v) :: q ∧ DR K μ H x.2 v ∧ PRs K μ H r q
section
variable {K : PySem.W.Frag} {μ μ' : List Addr} {H H' : Hp}
theorem PRs.mono (p : μ <+: μ') (t : TupK H H') : ∀ (ks : List (Str × D)) (ps : List (Key × V)), PRs K μ H ks ps → PRs K μ' H' ks ps
  | [], _, h => h
  | x :: r, _, ⟨v, q, e, h1, h2⟩ => ⟨v, q, e, DR.mono p t _ _ h1, PRs.mono p t r q h2⟩
theorem PRs.length : ∀ {ks : List (Str × D)} {ps : List (Key × V)}, PRs K μ H ks ps → ps.length = ks.length
  | [], _, h => by rw [show _ = [] from h]; rfl
  | _ :: r, _, ⟨v, q, e, _, h2⟩ => by rw [e, List.length_cons, List.length_cons, PRs.length h2]
theorem key_ne {a b : Str} (h : ¬ a = b) : ¬ (Sum.inr a : Key) = Sum.inr b := fun e => h (Sum.inr.inj e)
theorem PRs.get {k : Str} : ∀ {ks : List (Str × D)} {ps : List (Key × V)}, PRs K μ H ks ps → (getS ks k = none ∧ valV ps (Sum.inr k) = none) ∨ ∃ d v, getS ks k = some d ∧ valV ps (Sum.inr k) = some v ∧ DR K μ H d v
  | [], _, h => by rw [show _ = [] from h]; exact .inl ⟨rfl, rfl⟩
  | x :: r, _, ⟨v, q, e, h1, h2⟩ => by
    subst e
    unfold getS
    by_cases hk : x.1 = k
    · rw [if_pos hk]
      exact .inr ⟨_, v, rfl, valV_pos (by rw [hk]), h1⟩
    · rw [if_neg hk, valV_neg (key_ne hk)]
      exact PRs.get h2
theorem putK_cons {κ : Type} [DecidableEq κ] {p : κ × V} {r : List (κ × V)} {k : κ} {v : V} (h : ¬ p.1 = k) : putK (p :: r) k v = p :: putK r k v := by
  unfold putK
  rw [List.any_cons, decide_eq_false h, Bool.false_or, List.map_cons, if_neg h]
  split <;> rfl
theorem putK_miss {κ : Type} [DecidableEq κ] {k : κ} {v : V} : ∀ {r : List (κ × V)}, k ∉ r.map (·.1) → r.map (fun kv => if kv.1 = k then (kv.1, v) else kv) = r
  | [], _ => rfl
  | p :: r, h => by
    rw [List.map_cons, List.mem_cons, not_or] at h
    rw [List.map_cons, if_neg (fun e => h.1 e.symm), putK_miss h.2]
theorem PRs.keys : ∀ {ks : List (Str × D)} {ps : List (Key × V)}, PRs K μ H ks ps → ps.map (·.1) = ks.map fun x => Sum.inr x.1
  | [], _, h => by rw [show _ = [] from h]; rfl
  | x :: r, _, ⟨v, q, e, _, h2⟩ => by rw [e, List.map_cons, List.map_cons, PRs.keys h2]
theorem PRs.put {k : Str} {d : D} {v : V} (hv : DR K μ H d v) : ∀ {ks : List (Str × D)} {ps : List (Key × V)}, (ks.map (·.1)).Nodup → PRs K μ H ks ps → PRs K μ H (putS ks k d) (putK ps (Sum.inr k) v)
  | [], _, _, h => by rw [show _ = [] from h]; exact ⟨v, [], rfl, hv, rfl⟩
  | x :: r, _, nd, ⟨u, q, e, h1, h2⟩ => by
    subst e
    rw [List.map_cons, List.nodup_cons] at nd
    unfold putS
    by_cases hk : x.1 = k
    · rw [if_pos hk]
      refine ⟨v, q, ?_, hv, h2⟩
      unfold putK
      rw [List.any_cons, decide_eq_true (by rw [hk]), Bool.true_or, if_pos rfl, List.map_cons, if_pos (by rw [hk]), putK_miss, hk]
      rw [h2.keys]
      intro hm
      obtain ⟨y, hy, e⟩ := List.mem_map.mp hm
      exact nd.1 (List.mem_map.mpr ⟨y, hy, by rw [Sum.inr.inj e, hk]⟩)
    · rw [if_neg hk, putK_cons (key_ne hk)]
      exact ⟨u, _, rfl, h1, PRs.put hv nd.2 h2⟩
theorem PRs.zip : ∀ {ks : List Str} {ds : List D} {vs : List V}, DRs K μ H ds vs → PRs K μ H (ks.zip ds) ((ks.map Sum.inr).zip vs)
  | [], _, _, _ => rfl
  | k :: ks, [], _, h => by simp only [DRs] at h; subst h; rfl
  | k :: ks, d :: ds, _, h => by
    simp only [DRs] at h
    obtain ⟨v, r, rfl, q, z⟩ := h
    exact ⟨v, _, rfl, q, PRs.zip z⟩
end
theorem putS_keys {k : Str} {d : D} : ∀ {ks : List (Str × D)}, (ks.map (·.1)).Nodup → ((putS ks k d).map (·.1)).Nodup ∧ ∀ z ∈ (putS ks k d).map (·.1), z = k ∨ z ∈ ks.map (·.1)
  | [], _ => by simp [putS]
  | x :: r, h => by
    rw [List.map_cons, List.nodup_cons] at h
    unfold putS
    by_cases hk : x.1 = k
    · rw [if_pos hk]
      refine ⟨by rw [List.map_cons, List.nodup_cons]; exact ⟨by rw [← hk]; exact h.1, h.2⟩, fun z hz => ?_⟩
      rw [List.map_cons, List.mem_cons] at hz ⊢
      exact hz.imp id .inr
    · rw [if_neg hk]
      obtain ⟨i1, i2⟩ := putS_keys (k := k) (d := d) h.2
      refine ⟨?_, fun z hz => ?_⟩
      · rw [List.map_cons, List.nodup_cons]
        refine ⟨fun hm => ?_, i1⟩
        rcases i2 _ hm with e | e
        · exact hk e
        · exact h.1 e
      · rw [List.map_cons, List.mem_cons] at hz ⊢
        rcases hz with rfl | hz
        · exact .inr (.inl rfl)
        · exact (i2 z hz).imp id .inr

/-! ## states -/
/-- a list of the written part -/
def KLst (K : PySem.W.Frag) (a : Addr) (vs : List V) : Prop :=
  ∃ (o : Obj) (its : Array Value) (n : Nat), K.lookup a = some o ∧ o.cls = .type "list" ∧ o.dict = none ∧ o.data = .seq its n ∧ its.size ≤ sizeLine ∧ Vals vs its.toList
structure Cf where
  μ : List Addr
  ρ : Addr → Prop
  s : G.S
  σ : L2.St
  H : Hp
def OwnAt (c : Cf) (i : Nat) (a : Addr) : Prop := (∃ xs, c.s.v[i]? = some (.own xs)) ∧ c.σ[i]? = some (some (.ref a))
/-- what may be written -/
def Foot (c : Cf) (b : Addr) : Prop := b ∈ c.μ ∨ ∃ i, OwnAt c i b
def CellR (K : PySem.W.Frag) (μ : List Addr) (H : Hp) (a : Addr) : Cell → Prop
  | .lst xs => ∃ vs, H a = some (.lst vs) ∧ DRs K μ H xs vs
  | .dct kvs => ∃ ps, H a = some (.dK ps) ∧ PRs K μ H kvs ps ∧ (kvs.map (·.1)).Nodup
theorem CellR.mono {K : PySem.W.Frag} {μ μ' : List Addr} {H H' : Hp} {a : Addr} (p : μ <+: μ') (t : TupK H H') (e : ∀ o, H a = some o → H' a = some o) {cl : Cell} (h : CellR K μ H a cl) : CellR K μ' H' a cl := by
  cases cl with
  | lst xs => obtain ⟨vs, q1, q2⟩ := h; exact ⟨vs, e _ q1, DRs.mono p t _ _ q2⟩
  | dct kvs => obtain ⟨ps, q1, q2, q3⟩ := h; exact ⟨ps, e _ q1, PRs.mono p t _ _ q2, q3⟩
/-- what may be written -/
def Wr : HO → Prop
  | .lst _ => True
  | .dK _ => True
  | _ => False
theorem CellR.wr {K : PySem.W.Frag} {μ : List Addr} {H : Hp} {a : Addr} {cl : Cell} (h : CellR K μ H a cl) : ∃ o, H a = some o ∧ Wr o := by
  cases cl with
  | lst xs => obtain ⟨vs, q1, _⟩ := h; exact ⟨_, q1, trivial⟩
  | dct kvs => obtain ⟨ps, q1, _⟩ := h; exact ⟨_, q1, trivial⟩
def SlotR (K : PySem.W.Frag) (c : Cf) (o : Option (Option V)) : Slot → Prop
  | .no => True
  | .val d => ∃ v, o = some (some v) ∧ DR K c.μ c.H d v
  | .own xs => ∃ a vs, o = some (some (.ref a)) ∧ c.H a = some (.lst vs) ∧ DRs K c.μ c.H xs vs
  | .ro xs => ∃ a vs, o = some (some (.ref a)) ∧ DRs K c.μ c.H xs vs ∧ (KLst K a vs ∨ (c.ρ a ∧ Rd c.H a (.lst vs)))
structure SR (K : PySem.W.Frag) (c : Cf) : Prop where
  len : c.s.v.length = c.σ.length
  mlen : c.μ.length = c.s.M.length
  nd : c.μ.Nodup
  cell : ∀ (n : Nat) cl a, c.s.M[n]? = some cl → c.μ[n]? = some a → CellR K c.μ c.H a cl
  slot : ∀ (i : Nat) x, c.s.v[i]? = some x → SlotR K c c.σ[i]? x
  ownd : ∀ i j a, OwnAt c i a → OwnAt c j a → i = j
  ownm : ∀ i a, OwnAt c i a → a ∉ c.μ
  rho : ∀ b, c.ρ b → (∃ o, c.H b = some o) ∧ ¬ Foot c b
/-- from one state to a later one -/
structure Stp (c c' : Cf) : Prop where
  pre : c.μ <+: c'.μ
  rh : c'.ρ = c.ρ
  frame : ∀ b o, c.H b = some o → ¬ Foot c b → c'.H b = some o
  grow : ∀ b, Foot c' b → Foot c b ∨ c.H b = none
  trk : ∀ b o, c.H b = some o → ∃ o', c'.H b = some o'
  tup : TupK c.H c'.H
  ros : ∀ (i : Nat) xs, c'.s.v[i]? = some (.ro xs) → c.s.v[i]? = some (.ro xs) ∧ c'.σ[i]? = c.σ[i]?
  ron : ∀ (i : Nat) xs, c.s.v[i]? = some (.ro xs) → c'.s.v[i]? = some (.ro xs)
theorem Stp.refl (c : Cf) : Stp c c := ⟨List.prefix_refl _, rfl, fun _ _ h _ => h, fun _ h => .inl h, fun _ o h => ⟨o, h⟩, fun _ _ h => h, fun _ _ h => ⟨h, rfl⟩, fun _ _ h => h⟩
theorem Stp.untrk {c c' : Cf} (h : Stp c c') {b : Addr} (e : c'.H b = none) : c.H b = none := by
  cases q : c.H b with
  | none => rfl
  | some o =>
    obtain ⟨o', e'⟩ := h.trk b o q
    rw [e] at e'; cases e'
theorem Stp.trans {a b c : Cf} (h : Stp a b) (k : Stp b c) : Stp a c where
  pre := h.pre.trans k.pre
  rh := k.rh.trans h.rh
  frame := fun x o e n => k.frame x o (h.frame x o e n) fun z => by
    rcases h.grow x z with z | z
    · exact n z
    · rw [e] at z; cases z
  grow := fun x z => by
    rcases k.grow x z with z | z
    · exact h.grow x z
    · exact .inr (h.untrk z)
  trk := fun x o e => by
    obtain ⟨o', e'⟩ := h.trk x o e
    exact k.trk x o' e'
  tup := fun x vs e => k.tup x vs (h.tup x vs e)
  ros := fun i xs e => by
    obtain ⟨e1, e2⟩ := k.ros i xs e
    obtain ⟨e3, e4⟩ := h.ros i xs e1
    exact ⟨e3, e2.trans e4⟩
  ron := fun i xs e => k.ron i xs (h.ron i xs e)
section
variable {K : PySem.W.Frag} {c c' c2 : Cf}
theorem Stp.dr (h : Stp c c') {d : D} {v : V} (r : DR K c.μ c.H d v) : DR K c'.μ c'.H d v := DR.mono h.pre h.tup d v r
theorem Stp.drs (h : Stp c c') {d : List D} {v : List V} (r : DRs K c.μ c.H d v) : DRs K c'.μ c'.H d v := DRs.mono h.pre h.tup d v r
/-- what may be written is a list -/
theorem SR.foot (h : SR K c) {b : Addr} (f : Foot c b) : ∃ o, c.H b = some o ∧ Wr o := by
  rcases f with f | ⟨i, ⟨xs, e⟩, e2⟩
  · obtain ⟨n, hn, e⟩ := List.mem_iff_getElem.mp f
    have e1 : c.μ[n]? = some b := by rw [List.getElem?_eq_getElem hn, e]
    have hm : n < c.s.M.length := by rw [← h.mlen]; exact hn
    exact (h.cell n c.s.M[n] b (List.getElem?_eq_getElem hm) e1).wr
  · obtain ⟨a, vs, e3, e4, _⟩ := h.slot i _ e
    rw [e2] at e3
    cases e3
    exact ⟨_, e4, trivial⟩
theorem SR.tupF (h : SR K c) {a : Addr} {vs : List V} (r : Rd c.H a (.tup vs)) : ¬ Foot c a := fun f => by
  obtain ⟨ws, e, w⟩ := h.foot f
  rcases r with r | ⟨o, r⟩ <;> (rw [e] at r; cases r; exact w.elim)
theorem SR.fresh (h : SR K c) {p : Addr} (n : c.H p = none) : ¬ Foot c p ∧ ¬ c.ρ p := by
  refine ⟨fun f => ?_, fun r => ?_⟩
  · obtain ⟨ws, e, _⟩ := h.foot f
    rw [n] at e; cases e
  · obtain ⟨⟨o, e⟩, _⟩ := h.rho p r
    rw [n] at e; cases e
/-- a new object is laid that nobody owns -/
def Cf.lay (c : Cf) (p : Addr) (o : HO) : Cf := { c with H := upd c.H p o }
theorem tupK_lay {H : Hp} {p : Addr} {o : HO} (n : H p = none) : TupK H (upd H p o) := fun a vs r => by
  have ne : a ≠ p := by
    rintro rfl
    rcases r with r | ⟨_, r⟩ <;> (rw [n] at r; cases r)
  rcases r with r | ⟨u, r⟩
  · exact .inl (by rw [upd_ne ne]; exact r)
  · exact .inr ⟨u, by rw [upd_ne ne]; exact r⟩
theorem SlotR.mono {c c' : Cf} {o : Option (Option V)} {x : Slot} (p : c.μ <+: c'.μ) (t : TupK c.H c'.H) (hl : ∀ a vs, o = some (some (.ref a)) → (∃ xs, x = .own xs) → c.H a = some (.lst vs) → c'.H a = some (.lst vs))
    (hr : ∀ a vs, c.ρ a → Rd c.H a (.lst vs) → c'.ρ a ∧ Rd c'.H a (.lst vs)) (h : SlotR K c o x) : SlotR K c' o x := by
  cases x with
  | no => trivial
  | val d =>
    obtain ⟨v, e, r⟩ := h
    exact ⟨v, e, DR.mono p t _ _ r⟩
  | own xs =>
    obtain ⟨a, vs, e, q, r⟩ := h
    exact ⟨a, vs, e, hl a vs e ⟨xs, rfl⟩ q, DRs.mono p t _ _ r⟩
  | ro xs =>
    obtain ⟨a, vs, e, r, q⟩ := h
    refine ⟨a, vs, e, DRs.mono p t _ _ r, ?_⟩
    rcases q with q | ⟨q1, q2⟩
    · exact .inl q
    · exact .inr (hr a vs q1 q2)
theorem SR.laid (h : SR K c) {p : Addr} {o : HO} (n : c.H p = none) : SR K (c.lay p o) where
  len := h.len
  mlen := h.mlen
  nd := h.nd
  cell := fun m cl a e1 e2 => by
    have q := h.cell m cl a e1 e2
    have ne : a ≠ p := by
      rintro rfl
      exact (h.fresh n).1 (.inl (List.mem_of_getElem? e2))
    exact q.mono (List.prefix_refl _) (tupK_lay n) fun o e => by show upd c.H p _ a = _; rw [upd_ne ne]; exact e
  slot := fun i x e => by
    refine SlotR.mono (c := c) (c' := c.lay p o) (List.prefix_refl _) (tupK_lay n) (fun a vs e1 e2 e3 => ?_) (fun a vs e1 e2 => ⟨e1, ?_⟩) (h.slot i x e)
    · show upd c.H p o a = _
      rw [upd_ne (ne_of_none e3 n)]
      exact e3
    · rcases e2 with r | ⟨u, r⟩
      · exact .inl (by show upd c.H p o a = _; rw [upd_ne (ne_of_none r n)]; exact r)
      · exact .inr ⟨u, by show upd c.H p o a = _; rw [upd_ne (ne_of_none r n)]; exact r⟩
  ownd := h.ownd
  ownm := h.ownm
  rho := fun b r => by
    obtain ⟨⟨u, e⟩, nf⟩ := h.rho b r
    exact ⟨⟨u, by show upd c.H p o b = _; rw [upd_ne (ne_of_none e n)]; exact e⟩, nf⟩
theorem Stp.laid {p : Addr} {o : HO} (n : c.H p = none) : Stp c (c.lay p o) where
  pre := List.prefix_refl _
  rh := rfl
  frame := fun b u e _ => by show upd c.H p o b = _; rw [upd_ne (ne_of_none e n)]; exact e
  grow := fun b f => .inl f
  trk := fun b u e => ⟨u, by show upd c.H p o b = _; rw [upd_ne (ne_of_none e n)]; exact e⟩
  tup := tupK_lay n
  ros := fun i xs e => ⟨e, rfl⟩
  ron := fun i xs e => e
end

/-! ## what an expression's value is -/
def SVR (K : PySem.W.Frag) (c : Cf) : SV → V → Prop
  | .val d, v => DR K c.μ c.H d v
  | .new xs, v => ∃ a vs, v = .ref a ∧ c.H a = some (.lst vs) ∧ DRs K c.μ c.H xs vs ∧ ¬ Foot c a ∧ ¬ c.ρ a
  | .var i, v => c.σ[i]? = some (some v) ∧ ((∃ xs, c.s.v[i]? = some (.own xs)) ∨ ∃ xs, c.s.v[i]? = some (.ro xs))
def Fresh (H : Hp) : SV → V → Prop
  | .new _, v => ∀ a, v = .ref a → H a = none
  | _, _ => True
/-- an exception as data: its class, its fields, its own dict at d -/
def XR (K : PySem.W.Frag) (cn : Str → Option Addr) (c : Cf) (x : Xc) (cls : Value) (d : Option Addr) : Prop :=
  ∃ C fs, cn x.cls = some C ∧ cls = .ref C ∧ (x.fs = [] ∨ ∃ a, d = some a ∧ c.H a = some (.xd fs) ∧ ¬ Foot c a ∧ fs.map (·.1) = x.fs.map (·.1) ∧ DRs K c.μ c.H (x.fs.map (·.2)) (fs.map (·.2)))
section
variable {K : PySem.W.Frag} {c c' c2 : Cf}
/-- the names of the frame stay -/
def Vst (c c' : Cf) : Prop := c'.σ = c.σ ∧ ∀ i : Nat, ((∃ xs, c.s.v[i]? = some (Slot.own xs)) → ∃ xs, c'.s.v[i]? = some (Slot.own xs))
theorem Vst.refl (c : Cf) : Vst c c := ⟨rfl, fun _ h => h⟩
theorem Vst.trans {a b c : Cf} (h : Vst a b) (k : Vst b c) : Vst a c := ⟨k.1.trans h.1, fun i z => k.2 i (h.2 i z)⟩
theorem Stp.new (h : Stp c c') {a : Addr} {vs : List V} (e : c.H a = some (.lst vs)) (n : ¬ Foot c a) (r : ¬ c.ρ a) : c'.H a = some (.lst vs) ∧ ¬ Foot c' a ∧ ¬ c'.ρ a := by
  refine ⟨h.frame a _ e n, fun z => ?_, by rw [h.rh]; exact r⟩
  rcases h.grow a z with z | z
  · exact n z
  · rw [e] at z; cases z
theorem SVR.step (h : Stp c c') (hv : Vst c c') {x : SV} {v : V} (r : SVR K c x v) : SVR K c' x v := by
  cases x with
  | val d => exact h.dr r
  | new xs =>
    obtain ⟨a, vs, e, q, z, f1, f2⟩ := r
    obtain ⟨g1, g2, g3⟩ := h.new q f1 f2
    exact ⟨a, vs, e, g1, h.drs z, g2, g3⟩
  | var i =>
    obtain ⟨e, k⟩ := r
    show c'.σ[i]? = some (some v) ∧ _
    refine ⟨by rw [hv.1]; exact e, ?_⟩
    rcases k with k | ⟨xs, k⟩
    · exact .inl (hv.2 i k)
    · exact .inr ⟨xs, h.ron i xs k⟩
theorem Fresh.back (h : Stp c c') {x : SV} {v : V} (f : Fresh c'.H x v) : Fresh c.H x v := by
  cases x with
  | val d => trivial
  | new xs => exact fun a e => h.untrk (f a e)
  | var i => trivial
end

/-! ## promises over results -/
section
variable {α β : Type} {K : PySem.W.Frag} {c c' : Cf}
/-- an expression: the frame's names stay -/
def Post (K : PySem.W.Frag) (c : Cf) (r : R α) (Qn : α → Cf → Prop) (Qx : Xc → Cf → Prop) : Prop := match r with
  | .ok a s' => ∀ c', c'.s = s' → Stp c c' → SR K c' → Vst c c' → Qn a c'
  | .exc x s' => ∀ c', c'.s = s' → Stp c c' → SR K c' → Qx x c'
  | .bad => False
/-- a statement -/
def PostS (K : PySem.W.Frag) (c : Cf) (r : R α) (Qn : α → Cf → Prop) (Qx : Xc → Cf → Prop) : Prop := match r with
  | .ok a s' => ∀ c', c'.s = s' → Stp c c' → SR K c' → Qn a c'
  | .exc x s' => ∀ c', c'.s = s' → Stp c c' → SR K c' → Qx x c'
  | .bad => False
theorem Post.imp {r : R α} {Qn Qn' : α → Cf → Prop} {Qx : Xc → Cf → Prop} (h : Post K c r Qn Qx) (hq : ∀ a c', Stp c c' → SR K c' → Vst c c' → Qn a c' → Qn' a c') : Post K c r Qn' Qx := by
  cases r with
  | ok a s => exact fun c' e st sr vs => hq a c' st sr vs (h c' e st sr vs)
  | exc x s => exact h
  | bad => exact h
theorem PostS.imp {r : R α} {Qn Qn' : α → Cf → Prop} {Qx : Xc → Cf → Prop} (h : PostS K c r Qn Qx) (hq : ∀ a c', Stp c c' → SR K c' → Qn a c' → Qn' a c') : PostS K c r Qn' Qx := by
  cases r with
  | ok a s => exact fun c' e st sr => hq a c' st sr (h c' e st sr)
  | exc x s => exact h
  | bad => exact h
theorem Post.later {r : R α} {Qn : α → Cf → Prop} {Qx : Xc → Cf → Prop} (st : Stp c c') (vs : Vst c c') (h : Post K c r Qn Qx) : Post K c' r Qn Qx := by
  cases r with
  | ok a s => exact fun c2 e st2 sr vs2 => h c2 e (st.trans st2) sr (vs.trans vs2)
  | exc x s => exact fun c2 e st2 sr => h c2 e (st.trans st2) sr
  | bad => exact h
theorem PostS.later {r : R α} {Qn : α → Cf → Prop} {Qx : Xc → Cf → Prop} (st : Stp c c') (h : PostS K c r Qn Qx) : PostS K c' r Qn Qx := by
  cases r with
  | ok a s => exact fun c2 e st2 sr => h c2 e (st.trans st2) sr
  | exc x s => exact fun c2 e st2 sr => h c2 e (st.trans st2) sr
  | bad => exact h
theorem Post.bind {r : R α} {f : α → S → R β} {Qn : β → Cf → Prop} {Qx : Xc → Cf → Prop} (h : Post K c (r.bind f) Qn Qx) : Post K c r (fun a c' => Post K c' (f a c'.s) Qn Qx) Qx := by
  cases r with
  | ok a s =>
    intro c' e st sr vs
    subst e
    exact Post.later st vs h
  | exc x s => exact h
  | bad => exact h
theorem PostS.bindE {r : R α} {f : α → S → R β} {Qn : β → Cf → Prop} {Qx : Xc → Cf → Prop} (h : PostS K c (r.bind f) Qn Qx) : Post K c r (fun a c' => PostS K c' (f a c'.s) Qn Qx) Qx := by
  cases r with
  | ok a s =>
    intro c' e st sr vs
    subst e
    exact PostS.later st h
  | exc x s => exact h
  | bad => exact h
theorem PostS.bind {r : R α} {f : α → S → R β} {Qn : β → Cf → Prop} {Qx : Xc → Cf → Prop} (h : PostS K c (r.bind f) Qn Qx) : PostS K c r (fun a c' => PostS K c' (f a c'.s) Qn Qx) Qx := by
  cases r with
  | ok a s =>
    intro c' e st sr
    subst e
    exact PostS.later st h
  | exc x s => exact h
  | bad => exact h
/-- a step that is no more than a look -/
theorem Post.lif {o : Option α} {Qn : α → Cf → Prop} {Qx : Xc → Cf → Prop} (sr : SR K c) (h : Post K c (lif o c.s) Qn Qx) : ∃ a, o = some a ∧ Qn a c := by
  cases o with
  | none => exact h.elim
  | some a => exact ⟨a, rfl, h c rfl (Stp.refl c) sr (Vst.refl c)⟩
theorem Post.ok {a : α} {Qn : α → Cf → Prop} {Qx : Xc → Cf → Prop} (sr : SR K c) (h : Post K c (.ok a c.s) Qn Qx) : Qn a c := h c rfl (Stp.refl c) sr (Vst.refl c)
theorem PostS.ok {a : α} {Qn : α → Cf → Prop} {Qx : Xc → Cf → Prop} (sr : SR K c) (h : PostS K c (.ok a c.s) Qn Qx) : Qn a c := h c rfl (Stp.refl c) sr
end
end G

/-! ## GS1 -/
set_option Elab.async false
set_option linter.all false
set_option maxRecDepth 100000
set_option maxHeartbeats 2000000
namespace G
open PySem PySem.Spec PyProof.Rows L2

/-! ## weakest readings -/
section
variable (X : Cx)
def WpE (e : Expr) : TE := fun σ H Q => ∀ pins s, Inv X pins σ H s → wpAny (model X.prog X.w) X.A (eval e X.env) (EP X pins σ Q) X.xe s
def WpT (e : Expr) : TT := fun σ H Q => ∀ pins s, Inv X pins σ H s → wpAny (model X.prog X.w) X.A (isTrue e X.env (eval e X.env)) (TP X pins σ Q) X.xe s
def WpA (es : List Expr) : TA := fun σ H Q => ∀ pos pins s, Inv X pins σ H s → wpAny (model X.prog X.w) X.A (spliced (backTo pos (starEach es X.env))) (AP X pins σ Q) X.xe s
def WpS (st : Stmt) : TS := fun D σ H => ∀ pins s, Inv X pins σ H s → wpAny (model X.prog X.w) X.A (exec st X.env) (SP X pins D) X.xe s
def WpSs (st : List Stmt) : TS := fun D σ H => ∀ pins s, Inv X pins σ H s → wpAny (model X.prog X.w) X.A (execs st X.env) (SP X pins D) X.xe s
def WpG (t : Expr) : TG := fun v σ H Q => ∀ pins s u, Inv X pins σ H s → RelV v u → wpAny (model X.prog X.w) X.A (assign t X.env u) (fun _ s' => ∃ σ' H', Inv X pins σ' H' s' ∧ Q σ' H') X.xe s
def WpI (tg it : Expr) : TI := fun σ H R => ∀ pins s, Inv X pins σ H s → wpAny (model X.prog X.w) X.A (eval it X.env) (fun v s1 => wpAny (model X.prog X.w) X.A (pyIter v) (PIE X pins σ tg R) X.xe s1) X.xe s
def WpO (f : Value → Value → Sem Value) : R2 := fun x y H Q => ∀ pins s σ v u, Inv X pins σ H s → RelV x v → RelV y u → wpAny (model X.prog X.w) X.A (f v u) (EP X pins σ Q) X.xe s
def WpU (f : Value → Sem Value) : V → Hp → VK → Prop := fun x H Q => ∀ pins s σ v, Inv X pins σ H s → RelV x v → wpAny (model X.prog X.w) X.A (f v) (EP X pins σ Q) X.xe s
def WpC (f : Value) : List V → Hp → VK → Prop := fun xs H Q => ∀ pins s σ us, Inv X pins σ H s → Vals xs us → wpAny (model X.prog X.w) X.A (call f us) (EP X pins σ Q) X.xe s
def WpTr : V → Hp → (Bool → Hp → Prop) → Prop := fun x H Q => ∀ pins s σ v, Inv X pins σ H s → RelV x v → wpAny (model X.prog X.w) X.A (truthy v) (TP X pins σ Q) X.xe s
end
section
variable {X : Cx}
theorem peW (e : Expr) : PE X e (WpE X e) := ⟨fun pins s _ _ _ I h => h pins s I⟩
theorem ptW (e : Expr) : PT X e (WpT X e) := ⟨fun pins s _ _ _ I h => h pins s I⟩
theorem paW (es : List Expr) : PA X es (WpA X es) := ⟨fun pos pins s _ _ _ I h => h pos pins s I⟩
theorem psW (e : Stmt) : PS X e (WpS X e) := ⟨fun pins s _ _ _ I h => h pins s I⟩
theorem pssW (e : List Stmt) : PSs X e (WpSs X e) := ⟨fun pins s _ _ _ I h => h pins s I⟩
theorem pgW (e : Expr) : PG X e (WpG X e) := ⟨fun pins s _ _ _ u _ I r h => h pins s u I r⟩
theorem piW (tg e : Expr) : PI X tg e (WpI X tg e) := ⟨fun pins s _ _ _ I h => h pins s I⟩
theorem opW (f : Value → Value → Sem Value) : OpR X f (WpO X f) := fun pins s σ _ _ _ v u _ I r1 r2 h => h pins s σ v u I r1 r2
theorem unW (f : Value → Sem Value) : UnR X f (WpU X f) := fun pins s σ _ _ v _ I r h => h pins s σ v I r
theorem clW (f : Value) : CallR X f (WpC X f) := fun pins s σ _ _ us _ I r h => h pins s σ us I r
theorem trW : TruR X (WpTr X) := fun pins s σ _ _ v _ I r h => h pins s σ v I r
theorem WpE.of {e : Expr} {t : TE} {σ H Q} (h : PE X e t) (q : t σ H Q) : WpE X e σ H Q := fun pins s I => h.run pins s σ H Q I q
theorem WpT.of {e : Expr} {t : TT} {σ H Q} (h : PT X e t) (q : t σ H Q) : WpT X e σ H Q := fun pins s I => h.run pins s σ H Q I q
theorem WpA.of {e : List Expr} {t : TA} {σ H Q} (h : PA X e t) (q : t σ H Q) : WpA X e σ H Q := fun pos pins s I => h.run pos pins s σ H Q I q
theorem WpS.of {e : Stmt} {t : TS} {σ H D} (h : PS X e t) (q : t D σ H) : WpS X e D σ H := fun pins s I => h.run pins s σ H D I q
theorem WpSs.of {e : List Stmt} {t : TS} {σ H D} (h : PSs X e t) (q : t D σ H) : WpSs X e D σ H := fun pins s I => h.run pins s σ H D I q
theorem WpG.of {e : Expr} {t : TG} {v σ H Q} (h : PG X e t) (q : t v σ H Q) : WpG X e v σ H Q := fun pins s u I r => h.run pins s σ H v u Q I r q
theorem WpI.of {tg e : Expr} {t : TI} {σ H Q} (h : PI X tg e t) (q : t σ H Q) : WpI X tg e σ H Q := fun pins s I => h.run pins s σ H Q I q
theorem WpO.of {f : Value → Value → Sem Value} {r : R2} {x y H Q} (h : OpR X f r) (q : r x y H Q) : WpO X f x y H Q := fun pins s σ v u I r1 r2 => h pins s σ H x y v u Q I r1 r2 q
theorem WpU.of {f : Value → Sem Value} {r : V → Hp → VK → Prop} {x H Q} (h : UnR X f r) (q : r x H Q) : WpU X f x H Q := fun pins s σ v I r1 => h pins s σ H x v Q I r1 q
theorem WpC.of {f : Value} {r : List V → Hp → VK → Prop} {x H Q} (h : CallR X f r) (q : r x H Q) : WpC X f x H Q := fun pins s σ us I r1 => h pins s σ H x us Q I r1 q
theorem WpTr.of {r : V → Hp → (Bool → Hp → Prop) → Prop} {x H Q} (h : TruR X r) (q : r x H Q) : WpTr X x H Q := fun pins s σ v I r1 => h pins s σ H x v Q I r1 q
end

/-! ## operations on values -/
section
variable {X : Cx} {c : Cf}
/-- what is wanted of a value -/
def KV' (X : Cx) (c : Cf) (Q : VK) (x : SV) : Prop := ∀ c' v, c'.s = c.s → Stp c c' → SR X.K c' → Vst c c' → SVR X.K c' x v → Fresh c.H x v → Q v c'.H
theorem KV'.val {Q : VK} {d : D} {v : V} (sr : SR X.K c) (k : KV' X c Q (.val d)) (r : DR X.K c.μ c.H d v) : Q v c.H := k c v rfl (Stp.refl c) sr (Vst.refl c) r trivial
/-- a new list -/
theorem KV'.new {Q : VK} {xs : List D} {vs : List V} (sr : SR X.K c) (k : KV' X c Q (.new xs)) (r : DRs X.K c.μ c.H xs vs) : ∀ p, c.H p = none → Q (.ref p) (upd c.H p (.lst vs)) := fun p n => by
  refine k (c.lay p (.lst vs)) (.ref p) rfl (Stp.laid n) (sr.laid n) (Vst.refl c) ⟨p, vs, rfl, upd_same, ?_, ?_, ?_⟩ fun a e => by cases e; exact n
  · exact (Stp.laid n).drs r
  · exact (sr.fresh n).1
  · exact (sr.fresh n).2
theorem KV'.tup {Q : VK} {xs : List D} {vs : List V} (sr : SR X.K c) (k : KV' X c Q (.val (.tup xs))) (r : DRs X.K c.μ c.H xs vs) : ∀ p, c.H p = none → Q (.ref p) (upd c.H p (.tup vs)) := fun p n => by
  refine k (c.lay p (.tup vs)) (.ref p) rfl (Stp.laid n) (sr.laid n) (Vst.refl c) ?_ trivial
  show DR _ _ _ _ _
  simp only [DR]
  exact ⟨p, vs, rfl, .inl (.inl upd_same), (Stp.laid n).drs r⟩
theorem lt_of_blt {a b : Nat} (h : Nat.blt a b = true) : a < b := Nat.le_of_ble_eq_true h
theorem le_of_ble {a b : Nat} (h : Nat.ble a b = true) : a ≤ b := Nat.le_of_ble_eq_true h
theorem fits_of {n : Nat} (h : fits n = true) : n ≤ sizeLine := le_of_ble h
theorem mulOk_of {i j : Int} (h : (Sm i && Sm j) = true) : IntMulOk i j := by
  obtain ⟨h1, h2⟩ := Bool.and_eq_true_iff.mp h
  have b : ∀ k : Int, Sm k = true → Builtin.Int.intBits k ≤ LIM + 1 := fun k hk => by
    have := lt_of_blt hk
    unfold Builtin.Int.intBits
    split <;> omega
  exact IntMulOk.of_le (b i h1) (b j h2) (by unfold LIM; decide)
theorem op_mulS : OpR X (binaryOp .Mult) (rI (fun i j => (Sm i && Sm j) = true) fun i j => .int (i * j)) := opI fun _ _ _ _ _ _ _ hc q => mul_int q (mulOk_of hc)
theorem op_fdivS : OpR X (binaryOp .FloorDiv) (rI (fun i j => (decide (j ≠ 0) && Sd j) = true) fun i j => .int (i.fdiv j)) := opI fun i j _ _ _ _ _ hc q => by
  obtain ⟨h1, h2⟩ := Bool.and_eq_true_iff.mp hc
  exact floordiv_int (of_decide_eq_true h1) q (.inl (PyProof.noPylong_of_log2 (lt_of_blt h2)))
theorem op_powS : OpR X (binaryOp .Pow) (rI (fun i j => powOk i j = true) fun i j => .int (i ^ j.toNat)) := opI fun i j _ _ _ _ _ hc q => by
  unfold powOk at hc
  simp only [Bool.and_eq_true, decide_eq_true_eq] at hc
  exact pow_int_small hc.1.1 hc.1.2 hc.2 q
theorem op_shlS : OpR X (binaryOp .LShift) (rI (fun i j => powOk i j = true) fun i j => .int (i * 2 ^ j.toNat)) := opI fun i j _ _ _ _ _ hc q => by
  unfold powOk at hc
  simp only [Bool.and_eq_true, decide_eq_true_eq] at hc
  exact lshift_int_small hc.1.1 hc.1.2 hc.2 q
theorem int_ok {op : Operator} {i j k : Int} (h : intOp op i j = some k) {H : Hp} {Q : VK} (q : Q (.int k) H) : WpO X (binaryOp op) (.int i) (.int j) H Q := by
  unfold intOp at h
  split at h
  · cases h; exact WpO.of op_add ⟨_, _, rfl, rfl, q⟩
  · cases h; exact WpO.of op_sub ⟨_, _, rfl, rfl, q⟩
  · split at h
    · rename_i z; cases h; exact WpO.of op_mulS ⟨_, _, rfl, rfl, z, q⟩
    · cases h
  · split at h
    · rename_i z; cases h; exact WpO.of op_fdivS ⟨_, _, rfl, rfl, z, q⟩
    · cases h
  · split at h
    · rename_i z; cases h; exact WpO.of op_modN ⟨_, _, rfl, rfl, z, q⟩
    · cases h
  · split at h
    · rename_i z; cases h; exact WpO.of op_powS ⟨_, _, rfl, rfl, z, q⟩
    · cases h
  · split at h
    · rename_i z; cases h; exact WpO.of op_shlS ⟨_, _, rfl, rfl, z, q⟩
    · cases h
  · cases h
theorem gives_bb (a b : Bool) : Gives (Builtin.«int.__sub__» ⟨[.bool a, .bool b], []⟩) (.int ((if a = true then (1 : Int) else 0) - (if b = true then (1 : Int) else 0))) :=
  .of_wp fun M A E s Q h => by obtain ⟨hp, g, d, tk, os⟩ := s; wp_walk; exact ⟨_, rfl, h⟩
theorem op_subB : OpR X (binaryOp .Sub) fun x y H Q => ∃ a b : Bool, x = .bl a ∧ y = .bl b ∧ Q (.int ((if a = true then (1 : Int) else 0) - (if b = true then (1 : Int) else 0))) H := by
  intro pins s σ H x y v u Q I rx ry h
  obtain ⟨a, b, rfl, rfl, q⟩ := h
  cases rx
  cases ry
  exact binaryOp_gives (op := .Sub) (T := "bool") rfl rfl F.fills_bool_sub F.slot_bool_sub F.entry_int_sub (F.args_int_sub_2 _ _) (gives_bb a b) trivial ⟨.int _, H, I.tok _, ⟨_, rfl⟩, q⟩
/-- the list of a value, for reading -/
theorem cell_at {n : Nat} {a : Addr} {xs : List D} (sr : SR X.K c) (e : c.μ[n]? = some a) (h : cell c.s.M n = some xs) : ∃ vs, c.H a = some (.lst vs) ∧ DRs X.K c.μ c.H xs vs := by
  unfold cell at h
  split at h
  · rename_i ys q
    cases h
    exact sr.cell n _ a q e
  · cases h
theorem lis_ok {x : SV} {v : V} {xs : List D} (sr : SR X.K c) (r : SVR X.K c x v) (h : lis c.s x = some xs) : ∃ a vs, v = .ref a ∧ c.H a = some (.lst vs) ∧ DRs X.K c.μ c.H xs vs := by
  cases x with
  | val d =>
    cases d with
    | loc n =>
      obtain ⟨a, e, q⟩ := (show ∃ a, v = V.ref a ∧ c.μ[n]? = some a by simpa only [SVR, DR] using r)
      obtain ⟨vs, q1, q2⟩ := cell_at sr q h
      exact ⟨a, vs, e, q1, q2⟩
    | _ => simp only [lis] at h; cases h
  | new ys =>
    simp only [lis] at h
    cases h
    obtain ⟨a, vs, e, q, z, _⟩ := r
    exact ⟨a, vs, e, q, z⟩
  | var i =>
    simp only [lis] at h
    split at h
    · rename_i ys q
      cases h
      obtain ⟨a, vs, e, z1, z2⟩ := sr.slot i _ q
      have e1 := r.1
      rw [e] at e1
      cases e1
      exact ⟨a, vs, rfl, z1, z2⟩
    · cases h
theorem sqL_of_ro {a : Addr} {vs : List V} (h : KLst X.K a vs ∨ (c.ρ a ∧ Rd c.H a (.lst vs))) : SqL X.K c.H a vs := by
  rcases h with h | ⟨_, h⟩
  · exact .inr h
  · exact .inl h
/-- the items of a list or a tuple, for reading -/
theorem seq_ok {x : SV} {v : V} {xs : List D} (sr : SR X.K c) (r : SVR X.K c x v) (h : seq c.s x = some xs) : ∃ a vs, v = .ref a ∧ DRs X.K c.μ c.H xs vs ∧ (SqL X.K c.H a vs ∨ SqT X.K c.H a vs) := by
  cases x with
  | val d =>
    cases d with
    | loc n =>
      obtain ⟨a, e, q⟩ := (show ∃ a, v = V.ref a ∧ c.μ[n]? = some a by simpa only [SVR, DR] using r)
      obtain ⟨vs, q1, q2⟩ := cell_at sr q h
      exact ⟨a, vs, e, q2, .inl (.of q1)⟩
    | tup ys =>
      simp only [seq] at h
      cases h
      obtain ⟨a, vs, e, q, z⟩ := (show ∃ a vs, v = V.ref a ∧ SqT X.K c.H a vs ∧ DRs X.K c.μ c.H xs vs by simpa only [SVR, DR] using r)
      exact ⟨a, vs, e, z, .inr q⟩
    | _ => simp only [seq] at h; cases h
  | new ys =>
    simp only [seq] at h
    cases h
    obtain ⟨a, vs, e, q, z, _⟩ := r
    exact ⟨a, vs, e, z, .inl (.of q)⟩
  | var i =>
    simp only [seq] at h
    split at h
    · rename_i ys q
      cases h
      obtain ⟨a, vs, e, z1, z2⟩ := sr.slot i _ q
      have e1 := r.1
      rw [e] at e1
      cases e1
      exact ⟨a, vs, rfl, z2, .inl (.of z1)⟩
    · rename_i ys q
      cases h
      obtain ⟨a, vs, e, z1, z2⟩ := sr.slot i _ q
      have e1 := r.1
      rw [e] at e1
      cases e1
      exact ⟨a, vs, rfl, z1, .inl (sqL_of_ro z2)⟩
    · cases h
theorem not_nil {xs : List D} {vs : List V} (r : DRs X.K c.μ c.H xs vs) (h : (!xs.isEmpty) = true) : vs ≠ [] := fun e => by
  have l := r.length
  rw [e] at l
  cases xs with
  | nil => cases h
  | cons => cases l
theorem cat_ok {xs ys : List D} {vs us : List V} (r : DRs X.K c.μ c.H xs vs) (k : DRs X.K c.μ c.H ys us) (h : catOk xs ys = true) : vs.length + us.length ≤ sizeLine := by
  rw [r.length, k.length, ← List.length_append, List.length_append]
  exact fits_of h
theorem str_ok {op : Operator} {x y z : Str} (h : strOp op x y = some z) {H : Hp} {Q : VK} (q : Q (.str z) H) : WpO X (binaryOp op) (.str x) (.str y) H Q := by
  unfold strOp at h
  split at h
  · split at h
    · rename_i z; cases h
      exact WpO.of op_add_str ⟨_, _, rfl, rfl, le_of_ble z, q⟩
    · cases h
  · cases h
theorem bin_ok {op : Operator} {x y z : SV} {v u : V} {Q : VK} (sr : SR X.K c) (rx : SVR X.K c x v) (ry : SVR X.K c y u) (h : binD op x y c.s = some z) (k : KV' X c Q z) : WpO X (binaryOp op) v u c.H Q := by
  unfold binD at h
  split at h
  · -- ints
    obtain ⟨i, e, h⟩ := Option.map_eq_some_iff.mp h
    cases h
    simp only [SVR, DR] at rx ry
    subst rx ry
    exact int_ok e (k.val sr (by simp only [DR]))
  · obtain ⟨i, e, h⟩ := Option.map_eq_some_iff.mp h
    cases h
    simp only [SVR, DR] at rx ry
    subst rx ry
    exact str_ok e (k.val sr (by simp only [DR]))
  · split at h
    · cases h
      simp only [SVR, DR] at rx ry
      subst rx ry
      exact WpO.of op_subB ⟨_, _, rfl, rfl, k.val sr (by simp only [DR])⟩
    · cases h
  · -- tuples
    rename_i xs ys
    split at h
    · split at h
      · rename_i hc
        cases h
        simp only [SVR, DR] at rx ry
        obtain ⟨a, vs, rfl, q, r1⟩ := rx
        obtain ⟨b, us, rfl, q2, r2⟩ := ry
        refine WpO.of op_catA ⟨a, b, vs, us, rfl, rfl, q, q2, cat_ok r1 r2 hc, fun e => ?_, fun _ e => ?_, fun _ _ p n => ?_⟩
        · subst e
          have e2 : xs = [] := by
            have l := r1.length
            cases xs with
            | nil => rfl
            | cons => cases l
          subst e2
          refine k.val sr ?_
          simp only [DR]
          exact ⟨b, us, rfl, q2, r2⟩
        · subst e
          have e2 : ys = [] := by
            have l := r2.length
            cases ys with
            | nil => rfl
            | cons => cases l
          subst e2
          refine k.val sr ?_
          simp only [DR]
          exact ⟨a, vs, rfl, q, by rw [List.append_nil]; exact r1⟩
        · exact k.tup sr (r1.append r2) p n
      · cases h
    · cases h
  · -- tuple * int
    rename_i xs n
    split at h
    · split at h
      · rename_i hc
        cases h
        simp only [Bool.and_eq_true, decide_eq_true_eq] at hc
        obtain ⟨⟨⟨h1, h2⟩, h3⟩, h4⟩ := hc
        simp only [SVR, DR] at rx ry
        obtain ⟨a, vs, rfl, q, r1⟩ := rx
        subst ry
        refine WpO.of op_repT ⟨a, n, vs, rfl, rfl, q, not_nil r1 (by simpa using h1), h2, h3, by rw [r1.length]; exact le_of_ble h4, fun p np => ?_⟩
        exact k.tup sr (r1.rep n.toNat) p np
      · cases h
    · cases h
  · -- list * int
    rename_i n _ _
    split at h
    · rename_i xs e
      split at h
      · rename_i hc
        cases h
        simp only [Bool.and_eq_true, decide_eq_true_eq] at hc
        obtain ⟨⟨h1, h2⟩, h3⟩ := hc
        obtain ⟨a, vs, rfl, q, r1⟩ := lis_ok sr rx e
        simp only [SVR, DR] at ry
        subst ry
        refine WpO.of op_rep ⟨a, n, vs, rfl, rfl, q, h1, h2, by rw [r1.length]; exact fits_of h3, fun p np => ?_⟩
        exact k.new sr (r1.rep n.toNat) p np
      · cases h
    · cases h
  · split at h
    · rename_i xs ys e1 e2
      split at h
      · rename_i hc
        cases h
        obtain ⟨a, vs, rfl, q, r1⟩ := lis_ok sr rx e1
        obtain ⟨b, us, rfl, q2, r2⟩ := lis_ok sr ry e2
        refine WpO.of op_cat ⟨a, b, vs, us, rfl, rfl, q, q2, cat_ok r1 r2 hc, fun p np => ?_⟩
        exact k.new sr (r1.append r2) p np
      · cases h
    · cases h
end
end G

/-! ## GS2 -/
set_option Elab.async false
set_option linter.all false
set_option maxRecDepth 100000
set_option maxHeartbeats 2000000
namespace G
open PySem PySem.Spec PyProof.Rows L2

mutual
def D.py : D → PyData
  | .non => .none
  | .bl b => .bool b
  | .int i => .int i
  | .str x => .str x
  | .tup xs => .tuple (D.pys xs)
  | .loc _ => .none
def D.pys : List D → List PyData
  | [] => []
  | x :: xs => D.py x :: D.pys xs
end
theorem D.pys_map : ∀ xs : List D, D.pys xs = xs.map D.py
  | [] => rfl
  | x :: xs => by simp only [D.pys, List.map_cons, D.pys_map xs]
mutual
theorem D.py_lay : ∀ d : D, d.pure = true → (D.py d).canLay0 = true
  | .non, _ => by simp [D.py, PyData.canLay0]
  | .bl _, _ => by simp [D.py, PyData.canLay0]
  | .int _, _ => by simp [D.py, PyData.canLay0]
  | .str x, h => by simpa [D.py, PyData.canLay0, D.pure] using h
  | .tup xs, h => by simp only [D.py, PyData.canLay0]; exact D.pys_lay xs (by simpa [D.pure] using h)
  | .loc _, h => by simp [D.pure] at h
theorem D.pys_lay : ∀ ds : List D, D.pures ds = true → PyData.canLayAll0 (D.pys ds) = true
  | [], _ => by simp [D.pys, PyData.canLayAll0]
  | x :: xs, h => by
    simp only [D.pures, Bool.and_eq_true] at h
    simp only [D.pys, PyData.canLayAll0, Bool.and_eq_true]
    exact ⟨D.py_lay x h.1, D.pys_lay xs h.2⟩
end
mutual
theorem D.py_depth : ∀ d : D, (D.py d).depth = d.deep
  | .non => by simp [D.py, PyData.depth, D.deep]
  | .bl _ => by simp [D.py, PyData.depth, D.deep]
  | .int _ => by simp [D.py, PyData.depth, D.deep]
  | .str x => by simp [D.py, PyData.depth, D.deep]
  | .tup xs => by simp only [D.py, PyData.depth, D.deep, D.pys_depth xs]
  | .loc _ => by simp [D.py, PyData.depth, D.deep]
theorem D.pys_depth : ∀ ds : List D, PyData.depthAll (D.pys ds) = D.deeps ds
  | [] => by simp [D.pys, PyData.depthAll, D.deeps]
  | x :: xs => by simp only [D.pys, PyData.depthAll, D.deeps, D.py_depth x, D.pys_depth xs]
end
mutual
theorem D.py_eqv : ∀ a b : D, a.pure = true → b.pure = true → PyData.eqv a.py b.py = D.eqv a b
  | .non, b, _, h => by cases b <;> simp [D.py, PyData.eqv, D.eqv, D.pure] at h ⊢
  | .bl _, b, _, h => by cases b <;> simp [D.py, PyData.eqv, D.eqv, D.pure] at h ⊢
  | .int _, b, _, h => by cases b <;> simp [D.py, PyData.eqv, D.eqv, D.pure] at h ⊢
  | .str _, b, _, h => by cases b <;> simp [D.py, PyData.eqv, D.eqv, D.pure] at h ⊢
  | .loc _, b, k, h => by simp [D.pure] at k
  | .tup xs, b, k, h => by
    cases b with
    | tup ys =>
      simp only [D.py, PyData.eqv, D.eqv]
      exact D.pys_eqv xs ys (by simpa [D.pure] using k) (by simpa [D.pure] using h)
    | loc n => simp [D.pure] at h
    | _ => simp [D.py, PyData.eqv, D.eqv]
theorem D.pys_eqv : ∀ a b : List D, D.pures a = true → D.pures b = true → PyData.eqvAll (D.pys a) (D.pys b) = D.eqvs a b
  | [], b, _, _ => by cases b <;> simp [D.pys, PyData.eqvAll, D.eqvs]
  | x :: xs, b, k, h => by
    cases b with
    | nil => simp [D.pys, PyData.eqvAll, D.eqvs]
    | cons y ys =>
      simp only [D.pures, Bool.and_eq_true] at k h
      simp only [D.pys, PyData.eqvAll, D.eqvs, D.py_eqv x y k.1 h.1, D.pys_eqv xs ys k.2 h.2]
end
theorem D.pures_all : ∀ xs : List D, D.pures xs = xs.all D.pure
  | [] => rfl
  | x :: xs => by simp only [D.pures, List.all_cons, D.pures_all xs]
theorem D.deeps_le : ∀ {xs : List D} {n : Nat}, (∀ x ∈ xs, x.deep ≤ n) → D.deeps xs ≤ n
  | [], _, _ => Nat.zero_le _
  | x :: xs, n, h => by
    simp only [D.deeps]
    exact Nat.max_le.mpr ⟨h x (by simp), D.deeps_le fun y hy => h y (by simp [hy])⟩
section
variable {K : PySem.W.Frag} {μ : List Addr} {H : Hp}
mutual
theorem DR.dp : ∀ (d : D) (v : V), d.pure = true → DR K μ H d v → Dp K H v d.py
  | .non, _, _, h => by simp only [DR] at h; subst h; exact .non
  | .bl b, _, _, h => by simp only [DR] at h; subst h; exact .bl b
  | .int i, _, _, h => by simp only [DR] at h; subst h; exact .int i
  | .str x, _, _, h => by simp only [DR] at h; subst h; exact .str x
  | .tup xs, _, k, h => by
    simp only [DR] at h
    obtain ⟨a, vs, rfl, q, r⟩ := h
    simp only [D.py]
    exact .tup q (DRs.dp xs vs (by simpa [D.pure] using k) r)
  | .loc n, _, k, _ => by simp [D.pure] at k
theorem DRs.dp : ∀ (ds : List D) (vs : List V), D.pures ds = true → DRs K μ H ds vs → DpAll K H vs (D.pys ds)
  | [], _, _, h => by simp only [DRs] at h; subst h; simp only [D.pys]; exact .nil
  | x :: xs, _, k, h => by
    simp only [D.pures, Bool.and_eq_true] at k
    simp only [DRs] at h
    obtain ⟨v, r, rfl, q, z⟩ := h
    simp only [D.pys]
    exact .cons (DR.dp x v k.1 q) (DRs.dp xs r k.2 z)
end
theorem shaped_of {d : D} (h : pure60 d = true) : d.pure = true ∧ SeqAt.shaped d.py = true := by
  obtain ⟨h1, h2⟩ := Bool.and_eq_true_iff.mp h
  refine ⟨h1, ?_⟩
  unfold SeqAt.shaped
  rw [D.py_lay d h1, D.py_depth d]
  have := le_of_ble h2
  simp
  omega
theorem flat_dr {d : D} {v : V} (f : flat d = true) (r : DR K μ H d v) : flatV v = true := by
  cases d <;> first | (simp only [DR] at r; subst r; rfl) | cases f
theorem flats_dr : ∀ {ds : List D} {vs : List V}, ds.all flat = true → DRs K μ H ds vs → vs.all flatV = true
  | [], _, _, h => by simp only [DRs] at h; subst h; rfl
  | x :: xs, _, f, h => by
    simp only [DRs] at h
    obtain ⟨v, r, rfl, q, z⟩ := h
    rw [List.all_cons, Bool.and_eq_true] at f
    rw [List.all_cons, flat_dr f.1 q, flats_dr f.2 z]; rfl
theorem eqV_dr {d e : D} {v u : V} (f : flat d = true) (g : flat e = true) (r : DR K μ H d v) (k : DR K μ H e u) : eqV v u = D.eqv d e := by
  cases d <;> first
    | (simp only [DR] at r; subst r; cases e <;> first | (simp only [DR] at k; subst k; simp [eqV, D.eqv]) | cases g)
    | cases f
theorem inV_dr {d : D} {v : V} (f : flat d = true) (r : DR K μ H d v) : ∀ {ds : List D} {vs : List V}, ds.all flat = true → DRs K μ H ds vs → inV v vs = ds.any fun y => D.eqv y d
  | [], _, _, h => by simp only [DRs] at h; subst h; rfl
  | x :: xs, _, g, h => by
    simp only [DRs] at h
    obtain ⟨u, r', rfl, q, z⟩ := h
    rw [List.all_cons, Bool.and_eq_true] at g
    have e := inV_dr f r g.2 z
    unfold inV at e ⊢
    rw [List.any_cons, List.any_cons, e, eqV_dr g.1 f q r]
end
section
variable {X : Cx} {c : Cf}
theorem eq_ok {a b : D} {k : Bool} {v u : V} {Q : VK} (hu : X.A.units + 65 < cLine) (h : eqD a b = some k) (rx : DR X.K c.μ c.H a v) (ry : DR X.K c.μ c.H b u) :
    (Q (.bl k) c.H → WpO X (compareOp .Eq) v u c.H Q) ∧ (Q (.bl (!k)) c.H → WpO X (compareOp .NotEq) v u c.H Q) := by
  unfold eqD at h
  split at h
  · rename_i x y
    cases h
    simp only [DR] at rx ry
    subst rx ry
    have e : decide (V.str x = V.str y) = decide (x = y) := by simp
    exact ⟨fun q => WpO.of op_eq ⟨rfl, by rw [e]; exact q⟩, fun q => WpO.of op_ne ⟨rfl, by rw [e]; exact q⟩⟩
  · split at h
    · rename_i hc
      cases h
      obtain ⟨h1, h2⟩ := Bool.and_eq_true_iff.mp hc
      obtain ⟨p1, s1⟩ := shaped_of h1
      obtain ⟨p2, s2⟩ := shaped_of h2
      refine ⟨fun q => WpO.of (op_eqD (by omega)) ⟨a.py, b.py, DR.dp _ _ p1 rx, DR.dp _ _ p2 ry, s1, s2, ?_⟩, fun q => WpO.of (op_neD (by omega)) ⟨a.py, b.py, DR.dp _ _ p1 rx, DR.dp _ _ p2 ry, s1, s2, ?_⟩⟩ <;>
        (rw [D.py_eqv _ _ p1 p2]; exact q)
    · cases h
/-- in, not in, of things that are read whole -/
theorem op_inDT (hu : X.A.units + 65 < cLine) (neg : Bool) : OpR X (compareOp (if neg then .NotIn else .In)) fun x y H Q => ∃ d ds, Dp X.K H x d ∧ (Dp X.K H y (.list ds) ∨ Dp X.K H y (.tuple ds)) ∧ d.canLay0 = true ∧ PyData.canLayAll0 ds = true ∧ d.depth ≤ 64 ∧ Q (.bl (if neg then !(ds.any fun z => PyData.eqv z d) else ds.any fun z => PyData.eqv z d)) H := by
  intro pins s σ H x y v u Q I rx ry h
  obtain ⟨d, ds, hd, he, sd, se, dd, q⟩ := h
  obtain ⟨as, r1⟩ := Dp.reads I d x v hd rx
  have hu' : X.A.units + 1 + min (PyData.depthAll ds) d.depth < cLine := by omega
  rcases he with he | he
  · obtain ⟨bs, r2⟩ := Dp.reads I _ y u he ry
    cases neg with
    | false => exact SeqAt.in_list_reads r2 r1 se sd hu' ⟨.bl _, H, I, rfl, q⟩
    | true => exact SeqAt.notIn_list_reads r2 r1 se sd hu' ⟨.bl _, H, I, rfl, q⟩
  · obtain ⟨bs, r2⟩ := Dp.reads I _ y u he ry
    cases neg with
    | false => exact SeqAt.in_tuple_reads r2 r1 se sd hu' ⟨.bl _, H, I, rfl, q⟩
    | true => exact SeqAt.notIn_tuple_reads r2 r1 se sd hu' ⟨.bl _, H, I, rfl, q⟩
theorem in_ok {a : D} {xs : List D} {k : Bool} {v u : V} {y : SV} {Q : VK} (hu : X.A.units + 65 < cLine) (sr : SR X.K c) (h : inD a xs = some k) (rx : DR X.K c.μ c.H a v) (ry : SVR X.K c y u) (hs : seq c.s y = some xs) :
    (Q (.bl k) c.H → WpO X (compareOp .In) v u c.H Q) ∧ (Q (.bl (!k)) c.H → WpO X (compareOp .NotIn) v u c.H Q) := by
  obtain ⟨p, vs, rfl, r, sq⟩ := seq_ok sr ry hs
  unfold inD at h
  split at h
  · rename_i hc
    cases h
    rcases Bool.or_eq_true_iff.mp hc with hc | hc
    · obtain ⟨h1, h2⟩ := Bool.and_eq_true_iff.mp hc
      refine ⟨fun q => WpO.of op_in_seq ⟨p, vs, rfl, sq, flat_dr h1 rx, flats_dr h2 r, ?_⟩, fun q => WpO.of op_notIn_seq ⟨p, vs, rfl, sq, flat_dr h1 rx, flats_dr h2 r, ?_⟩⟩ <;>
        (rw [inV_dr h1 rx h2 r]; exact q)
    · obtain ⟨h1, h2⟩ := Bool.and_eq_true_iff.mp hc
      obtain ⟨p1, s1⟩ := shaped_of h1
      have hp : D.pures xs = true := by
        rw [D.pures_all, List.all_eq_true]
        exact fun x hx => (shaped_of (List.all_eq_true.mp h2 x hx)).1
      have dp := DRs.dp xs vs hp r
      have e : ((D.pys xs).any fun z => PyData.eqv z a.py) = xs.any fun y => D.eqv y a := by
        rw [D.pys_map, List.any_map, Bool.eq_iff_iff, List.any_eq_true, List.any_eq_true]
        constructor <;> rintro ⟨z, hz, e⟩ <;> refine ⟨z, hz, ?_⟩
        · rw [← D.py_eqv z a (shaped_of (List.all_eq_true.mp h2 z hz)).1 p1]; exact e
        · show PyData.eqv z.py a.py = true
          rw [D.py_eqv z a (shaped_of (List.all_eq_true.mp h2 z hz)).1 p1]; exact e
      have le : a.py.depth ≤ 64 := SeqAt.depth_of_shaped s1
      have dl : Dp X.K c.H (.ref p) (.list (D.pys xs)) ∨ Dp X.K c.H (.ref p) (.tuple (D.pys xs)) := by
        rcases sq with sq | sq
        · exact .inl (.lst sq dp)
        · exact .inr (.tup sq dp)
      refine ⟨fun q => WpO.of (op_inDT hu false) ⟨a.py, D.pys xs, DR.dp _ _ p1 rx, dl, SeqAt.canLay_of_shaped s1, D.pys_lay xs hp, le, ?_⟩, fun q => WpO.of (op_inDT hu true) ⟨a.py, D.pys xs, DR.dp _ _ p1 rx, dl, SeqAt.canLay_of_shaped s1, D.pys_lay xs hp, le, ?_⟩⟩
      · rw [e]; exact q
      · rw [e]; exact q
  · cases h
theorem dct_at {x : SV} {v : V} {kvs : List (Str × D)} (sr : SR X.K c) (rx : SVR X.K c x v) (h : dctOf c.s x = some kvs) : ∃ n a ps, x = .val (.loc n) ∧ c.μ[n]? = some a ∧ v = .ref a ∧ c.H a = some (.dK ps) ∧ PRs X.K c.μ c.H kvs ps ∧ (kvs.map (·.1)).Nodup := by
  unfold dctOf at h
  split at h
  · rename_i n
    simp only [SVR, DR] at rx
    obtain ⟨a, rfl, e⟩ := rx
    split at h
    · rename_i kvs' hz
      cases h
      obtain ⟨ps, q1, q2, q3⟩ := sr.cell n _ a hz e
      exact ⟨n, a, ps, rfl, e, rfl, q1, q2, q3⟩
    · cases h
  · cases h
theorem op_inD (hu : X.A.units + 1 < cLine) : OpR X (compareOp .In) fun x y H Q => ∃ a o, y = .ref a ∧ DGet H a x o ∧ Q (.bl o.isSome) H := by
  intro pins s σ H x y v u Q I rx ry h
  obtain ⟨a, o, rfl, g, q⟩ := h
  obtain rfl : u = Value.ref a := ry
  exact d_in hu I g rx fun s' I' => ⟨.bl o.isSome, H, I', rfl, q⟩
theorem op_notInD (hu : X.A.units + 1 < cLine) : OpR X (compareOp .NotIn) fun x y H Q => ∃ a o, y = .ref a ∧ DGet H a x o ∧ Q (.bl (!o.isSome)) H := by
  intro pins s σ H x y v u Q I rx ry h
  obtain ⟨a, o, rfl, g, q⟩ := h
  obtain rfl : u = Value.ref a := ry
  exact d_notIn hu I g rx fun s' I' => ⟨.bl (!o.isSome), H, I', rfl, q⟩
theorem inS_ok {a : D} {y : SV} {k : Bool} {v u : V} {Q : VK} (hu : X.A.units + 65 < cLine) (sr : SR X.K c) (h : inS a y c.s = some k) (rx : DR X.K c.μ c.H a v) (ry : SVR X.K c y u) :
    (Q (.bl k) c.H → WpO X (compareOp .In) v u c.H Q) ∧ (Q (.bl (!k)) c.H → WpO X (compareOp .NotIn) v u c.H Q) := by
  unfold inS at h
  split at h
  · rename_i z kvs hd
    cases h
    obtain ⟨n, p, ps, _, _, rfl, q1, q2, _⟩ := dct_at sr ry hd
    simp only [DR] at rx
    subst rx
    have g : DGet c.H p (.str z) (valV ps (Sum.inr z)) := DGet.k (k := Sum.inr z) q1
    have e : (valV ps (Sum.inr z)).isSome = (getS kvs z).isSome := by
      rcases q2.get (k := z) with ⟨e1, e2⟩ | ⟨d, w, e1, e2, _⟩ <;> rw [e1, e2] <;> rfl
    refine ⟨fun q => WpO.of (op_inD (by omega)) ⟨p, _, rfl, g, by rw [e]; exact q⟩, fun q => WpO.of (op_notInD (by omega)) ⟨p, _, rfl, g, by rw [e]; exact q⟩⟩
  · cases h
  · obtain ⟨xs, e1, e2⟩ := Option.bind_eq_some_iff.mp h
    exact in_ok hu sr e2 rx ry e1
theorem is_non {a : D} {v : V} (rx : DR X.K c.μ c.H a v) : decide (v = .non) = decide (a = .non) := by
  cases a <;> simp only [DR] at rx
  · subst rx; simp
  · subst rx; simp
  · subst rx; simp
  · subst rx; simp
  · obtain ⟨a, vs, rfl, _⟩ := rx; simp
  · obtain ⟨a, rfl, _⟩ := rx; simp
theorem cmp_ok {op : CmpOp} {x y : SV} {k : Bool} {v u : V} {Q : VK} (hu : X.A.units + 65 < cLine) (sr : SR X.K c) (rx : SVR X.K c x v) (ry : SVR X.K c y u) (h : cmpD op x y c.s = some k) (q : Q (.bl k) c.H) : WpO X (compareOp op) v u c.H Q := by
  unfold cmpD at h
  split at h
  · exact (eq_ok hu h rx ry).1 q
  · obtain ⟨b, e, rfl⟩ := Option.map_eq_some_iff.mp h
    exact (eq_ok hu e rx ry).2 q
  · cases h
    simp only [SVR, DR] at rx ry
    subst rx ry
    exact WpO.of op_lt ⟨_, _, rfl, rfl, q⟩
  · cases h
    simp only [SVR, DR] at rx ry
    subst rx ry
    exact WpO.of op_le ⟨_, _, rfl, rfl, q⟩
  · cases h
    simp only [SVR, DR] at rx ry
    subst rx ry
    exact WpO.of op_gt ⟨_, _, rfl, rfl, q⟩
  · cases h
    simp only [SVR, DR] at rx ry
    subst rx ry
    exact WpO.of op_ge ⟨_, _, rfl, rfl, q⟩
  · cases h
    have e := is_non (X := X) (c := c) rx
    simp only [SVR, DR] at ry
    subst ry
    exact WpO.of op_isN ⟨rfl, by rw [e]; exact q⟩
  · cases h
    have e := is_non (X := X) (c := c) rx
    simp only [SVR, DR] at ry
    subst ry
    exact WpO.of op_notN ⟨rfl, by rw [e]; exact q⟩
  · exact (inS_ok hu sr h rx ry).1 q
  · obtain ⟨b, e, rfl⟩ := Option.map_eq_some_iff.mp h
    exact (inS_ok hu sr e rx ry).2 q
  · cases h

/-! ### isinstance -/
def Ty.sn : Ty → Str
  | .int => "int" | .bool => "bool" | .str => "str" | .tuple => "tuple" | .list => "list"
def Ty.nm : Ty → String
  | .int => "int" | .bool => "bool" | .str => "str" | .tuple => "tuple" | .list => "list"
theorem sqL_ty {a : Addr} {vs : List V} (h : SqL X.K c.H a vs) : TyX X.K c.H (.ref a) (.type "list") := by
  rcases h with (h | ⟨o, h⟩) | ⟨o, its, n, h1, h2, _⟩
  · exact .base (.lst h)
  · exact .base (.frz h)
  · exact .kList h1 h2
theorem sqT_ty {a : Addr} {vs : List V} (h : SqT X.K c.H a vs) : TyX X.K c.H (.ref a) (.type "tuple") := by
  rcases h with (h | ⟨o, h⟩) | ⟨o, its, n, h1, h2, _⟩
  · exact .base (.tup h)
  · exact .fTuple h
  · exact .kTuple h1 h2
theorem kit_list (t : Ty) : PySem.W.kitOne X.K (.type "list") (.type t.nm) = some (decide (t = .list)) := by
  cases t <;> exact kit_ty (by decide +kernel)
theorem kit_tuple (t : Ty) : PySem.W.kitOne X.K (.type "tuple") (.type t.nm) = some (decide (t = .tuple)) := by
  cases t <;> exact kit_ty (by decide +kernel)
theorem kit_int (t : Ty) : PySem.W.kitOne X.K (.type "int") (.type t.nm) = some (decide (t = .int)) := by
  cases t <;> exact kit_ty (by decide +kernel)
theorem kit_str (t : Ty) : PySem.W.kitOne X.K (.type "str") (.type t.nm) = some (decide (t = .str)) := by
  cases t <;> exact kit_ty (by decide +kernel)
theorem kit_bool (t : Ty) : PySem.W.kitOne X.K (.type "bool") (.type t.nm) = some (decide (t = .bool) || decide (t = .int)) := by
  cases t <;> exact kit_ty (by decide +kernel)
theorem kit_none (t : Ty) : PySem.W.kitOne X.K (.type "NoneType") (.type t.nm) = some false := by
  cases t <;> exact kit_ty (by decide +kernel)
/-- a value's type, and isinstance's answer of it -/
theorem ty_ok {t : Ty} {x : SV} {b : Bool} {v : V} (sr : SR X.K c) (rx : SVR X.K c x v) (h : isTy c.s t x = some b) :
    ∃ tv, TyX X.K c.H v tv ∧ PySem.W.kitOne X.K tv (.type t.nm) = some b ∧ ∀ t' b', isTy c.s t' x = some b' → PySem.W.kitOne X.K tv (.type t'.nm) = some b' := by
  have lst : ∀ {a : Addr} {vs : List V}, v = .ref a → SqL X.K c.H a vs → (∀ t' b', isTy c.s t' x = some b' → b' = decide (t' = .list)) →
      ∃ tv, TyX X.K c.H v tv ∧ PySem.W.kitOne X.K tv (.type t.nm) = some b ∧ ∀ t' b', isTy c.s t' x = some b' → PySem.W.kitOne X.K tv (.type t'.nm) = some b' := fun {a vs} e s hb => by
    subst e
    refine ⟨_, sqL_ty s, ?_, fun t' b' h' => ?_⟩
    · rw [hb _ _ h]; exact kit_list t
    · rw [hb _ _ h']; exact kit_list t'
  cases x with
  | val d =>
    cases d with
    | non =>
      simp only [SVR, DR] at rx; subst rx
      refine ⟨_, .base .non, ?_, fun t' b' h' => ?_⟩
      · cases h; exact kit_none t
      · cases h'; exact kit_none t'
    | bl k =>
      simp only [SVR, DR] at rx; subst rx
      refine ⟨_, .base (.bl k), ?_, fun t' b' h' => ?_⟩
      · cases h; exact kit_bool t
      · cases h'; exact kit_bool t'
    | int i =>
      simp only [SVR, DR] at rx; subst rx
      refine ⟨_, .base (.int i), ?_, fun t' b' h' => ?_⟩
      · cases h; exact kit_int t
      · cases h'; exact kit_int t'
    | str z =>
      simp only [SVR, DR] at rx; subst rx
      refine ⟨_, .base (.str z), ?_, fun t' b' h' => ?_⟩
      · cases h; exact kit_str t
      · cases h'; exact kit_str t'
    | tup xs =>
      simp only [SVR, DR] at rx
      obtain ⟨a, vs, rfl, q, _⟩ := rx
      refine ⟨_, sqT_ty q, ?_, fun t' b' h' => ?_⟩
      · cases h; exact kit_tuple t
      · cases h'; exact kit_tuple t'
    | loc n =>
      have r2 := rx
      simp only [SVR, DR] at rx
      obtain ⟨a, e, q⟩ := rx
      have h2 := h
      simp only [isTy] at h2
      split at h2
      · rename_i xs z
        have hc : cell c.s.M n = some xs := by unfold cell; rw [z]
        obtain ⟨vs, q1, q2⟩ := cell_at sr q hc
        refine lst e (.of q1) fun t' b' h' => ?_
        simp only [isTy, z] at h'
        cases h'; rfl
      · cases h2
  | new xs =>
    obtain ⟨a, vs, e, q, _⟩ := rx
    exact lst e (.of q) fun t' b' h' => by simp only [isTy] at h'; cases h'; rfl
  | var i =>
    have h2 := h
    simp only [isTy] at h2
    split at h2
    · rename_i xs z
      obtain ⟨a, vs, e, z1, z2⟩ := sr.slot i _ z
      have e1 := rx.1
      rw [e] at e1
      cases e1
      refine lst rfl (.of z1) fun t' b' h' => ?_
      simp only [isTy, z] at h'
      cases h'; rfl
    · rename_i xs z
      obtain ⟨a, vs, e, z1, z2⟩ := sr.slot i _ z
      have e1 := rx.1
      rw [e] at e1
      cases e1
      refine lst rfl (sqL_of_ro z2) fun t' b' h' => ?_
      simp only [isTy, z] at h'
      cases h'; rfl
    · cases h2
end
end G

/-! ## GS3 -/
set_option Elab.async false
set_option linter.all false
set_option maxRecDepth 100000
set_option maxHeartbeats 2000000
namespace G
open PySem PySem.Spec PyProof.Rows L2

def SVRs (K : PySem.W.Frag) (c : Cf) : List SV → List V → Prop
  | [], vs => vs = []
  | x :: xs, vs => ∃ v r, vs = v :: r ∧ SVR K c x v ∧ SVRs K c xs r
section
variable {K : PySem.W.Frag} {c c' : Cf}
theorem SVRs.step (h : Stp c c') (hv : Vst c c') : ∀ {xs : List SV} {vs : List V}, SVRs K c xs vs → SVRs K c' xs vs
  | [], _, r => r
  | x :: xs, _, r => by
    obtain ⟨v, r', e, q, z⟩ := r
    exact ⟨v, r', e, q.step h hv, SVRs.step h hv z⟩
theorem asInts_dr {μ : List Addr} {H : Hp} : ∀ {xs : List D} {ns : List Int} {vs : List V}, asInts xs = some ns → DRs K μ H xs vs → vs = ns.map V.int
  | [], _, _, h, r => by simp only [asInts] at h; cases h; simp only [DRs] at r; exact r
  | x :: xs, ns, vs, h, r => by
    cases x <;> simp only [asInts] at h <;> try cases h
    obtain ⟨ms, e, rfl⟩ := Option.map_eq_some_iff.mp h
    simp only [DRs, DR] at r
    obtain ⟨v, r', rfl, rfl, z⟩ := r
    rw [List.map_cons, asInts_dr e z]
theorem asBools_dr {μ : List Addr} {H : Hp} : ∀ {xs : List D} {ns : List Bool} {vs : List V}, asBools xs = some ns → DRs K μ H xs vs → vs = ns.map V.bl
  | [], _, _, h, r => by simp only [asBools] at h; cases h; simp only [DRs] at r; exact r
  | x :: xs, ns, vs, h, r => by
    cases x <;> simp only [asBools] at h <;> try cases h
    obtain ⟨ms, e, rfl⟩ := Option.map_eq_some_iff.mp h
    simp only [DRs, DR] at r
    obtain ⟨v, r', rfl, rfl, z⟩ := r
    rw [List.map_cons, asBools_dr e z]
end
theorem maxL_mem : ∀ {l : List Int}, l ≠ [] → maxL l ∈ l ∧ ∀ y ∈ l, y ≤ maxL l
  | [], h => absurd rfl h
  | [x], _ => ⟨by simp [maxL], by simp [maxL]⟩
  | x :: y :: r, _ => by
    obtain ⟨h1, h2⟩ := maxL_mem (l := y :: r) (by simp)
    simp only [maxL]
    refine ⟨?_, fun z hz => ?_⟩
    · by_cases h : x ≤ maxL (y :: r)
      · rw [Int.max_eq_right h]; exact List.mem_cons_of_mem _ h1
      · rw [Int.max_eq_left (by omega)]; exact List.mem_cons_self
    · rcases List.mem_cons.mp hz with rfl | hz
      · exact Int.le_max_left _ _
      · exact Int.le_trans (h2 z hz) (Int.le_max_right _ _)
theorem minL_mem : ∀ {l : List Int}, l ≠ [] → minL l ∈ l ∧ ∀ y ∈ l, minL l ≤ y
  | [], h => absurd rfl h
  | [x], _ => ⟨by simp [minL], by simp [minL]⟩
  | x :: y :: r, _ => by
    obtain ⟨h1, h2⟩ := minL_mem (l := y :: r) (by simp)
    simp only [minL]
    refine ⟨?_, fun z hz => ?_⟩
    · by_cases h : x ≤ minL (y :: r)
      · rw [Int.min_eq_left h]; exact List.mem_cons_self
      · rw [Int.min_eq_right (by omega)]; exact List.mem_cons_of_mem _ h1
    · rcases List.mem_cons.mp hz with rfl | hz
      · exact Int.min_le_left _ _
      · exact Int.le_trans (Int.min_le_right _ _) (h2 z hz)
/-- a built-in's name, and the value that it holds -/
def Bi.nm : Bi → Str
  | .abs => "abs" | .int => "int" | .str => "str" | .len => "len" | .gcd => "gcd" | .all => "all" | .any => "any" | .sum => "sum" | .max => "max" | .min => "min" | .tuple => "tuple" | .list => "list" | .sorted => "sorted"
def Bi.fv : Bi → Value
  | .abs => .builtin "abs" | .int => .type "int" | .str => .type "str" | .len => .builtin "len" | .gcd => .builtin "math.gcd" | .all => .builtin "all" | .any => .builtin "any" | .sum => .builtin "sum" | .max => .builtin "max" | .min => .builtin "min" | .tuple => .type "tuple" | .list => .type "list" | .sorted => .builtin "sorted"
theorem insI_perm (x : Int) : ∀ l : List Int, (insI x l).Perm (x :: l)
  | [] => .refl _
  | y :: r => by
    unfold insI
    split
    · exact .refl _
    · exact ((insI_perm x r).cons y).trans (.swap x y r)
theorem isort_perm : ∀ l : List Int, (isort l).Perm l
  | [] => .refl _
  | x :: r => (insI_perm x (isort r)).trans ((isort_perm r).cons x)
theorem insI_srt (x : Int) : ∀ {l : List Int}, l.Pairwise (· ≤ ·) → (insI x l).Pairwise (· ≤ ·)
  | [], _ => by simp [insI]
  | y :: r, h => by
    rw [List.pairwise_cons] at h
    unfold insI
    split
    · rename_i hxy
      rw [List.pairwise_cons, List.pairwise_cons]
      refine ⟨fun z hz => ?_, h.1, h.2⟩
      rcases List.mem_cons.mp hz with rfl | hz
      · exact hxy
      · exact Int.le_trans hxy (h.1 z hz)
    · rename_i hxy
      rw [List.pairwise_cons]
      refine ⟨fun z hz => ?_, insI_srt x h.2⟩
      rcases List.mem_cons.mp ((insI_perm x r).mem_iff.mp hz) with rfl | hz
      · omega
      · exact h.1 z hz
theorem isort_srt : ∀ l : List Int, (isort l).Pairwise (· ≤ ·)
  | [] => .nil
  | x :: r => insI_srt x (isort_srt r)
theorem isort_of {l l' : List Int} (p : l'.Perm l) (h : l'.Pairwise (· ≤ ·)) : l' = isort l :=
  List.Perm.eq_of_pairwise (le := (· ≤ ·)) (fun a b _ _ h1 h2 => Int.le_antisymm h1 h2) h (isort_srt l) (p.trans (isort_perm l).symm)
section
variable {X : Cx} {c : Cf}
theorem tup_val {Q : VK} {xs : List D} {a : Addr} {vs : List V} (sr : SR X.K c) (k : KV' X c Q (.val (.tup xs))) (q : SqT X.K c.H a vs) (r : DRs X.K c.μ c.H xs vs) : Q (.ref a) c.H :=
  k.val sr (by simp only [DR]; exact ⟨a, vs, rfl, q, r⟩)
theorem seq_tup {x : SV} {xs : List D} (h : seq c.s x = some xs) (r : ∀ ys, x ≠ .val (.tup ys)) {v : V} (sr : SR X.K c) (rx : SVR X.K c x v) : ∃ a vs, v = .ref a ∧ DRs X.K c.μ c.H xs vs ∧ SqL X.K c.H a vs := by
  cases x with
  | val d =>
    cases d with
    | loc n =>
      obtain ⟨a, e, q⟩ := (show ∃ a, v = V.ref a ∧ c.μ[n]? = some a by simpa only [SVR, DR] using rx)
      obtain ⟨vs, q1, q2⟩ := cell_at sr q h
      exact ⟨a, vs, e, q2, .of q1⟩
    | tup ys => exact absurd rfl (r ys)
    | _ => simp only [seq] at h; cases h
  | new ys =>
    simp only [seq] at h
    cases h
    obtain ⟨a, vs, e, q, z, _⟩ := rx
    exact ⟨a, vs, e, z, .of q⟩
  | var i =>
    simp only [seq] at h
    split at h
    · rename_i ys q
      cases h
      obtain ⟨a, vs, e, z1, z2⟩ := sr.slot i _ q
      have e1 := rx.1
      rw [e] at e1
      cases e1
      exact ⟨a, vs, rfl, z2, .of z1⟩
    · rename_i ys q
      cases h
      obtain ⟨a, vs, e, z1, z2⟩ := sr.slot i _ q
      have e1 := rx.1
      rw [e] at e1
      cases e1
      exact ⟨a, vs, rfl, z1, sqL_of_ro z2⟩
    · cases h
theorem ints_drs {K : PySem.W.Frag} (μ : List Addr) (H : Hp) : ∀ ns : List Int, DRs K μ H (ns.map D.int) (ns.map V.int)
  | [] => .nil
  | x :: xs => .cons (by simp only [DR]) (ints_drs μ H xs)
theorem bi1_ok {b : Bi} {x z : SV} {v : V} {Q : VK} (hc : X.calm = true) (sr : SR X.K c) (rx : SVR X.K c x v) (h : bi1 b x c.s = some z) (k : KV' X c Q z) : WpC X b.fv [v] c.H Q := by
  unfold bi1 at h
  split at h
  · cases h
    simp only [SVR, DR] at rx; subst rx
    exact WpC.of call_abs ⟨_, rfl, k.val sr (by simp only [DR])⟩
  · cases h
    simp only [SVR, DR] at rx; subst rx
    exact WpC.of call_int1 (.inl ⟨_, rfl, k.val sr (by simp only [DR])⟩)
  · cases h
    simp only [SVR, DR] at rx; subst rx
    exact WpC.of call_int1 (.inr ⟨_, rfl, k.val sr (by simp only [DR])⟩)
  · simp only [SVR, DR] at rx; subst rx
    unfold strI at h
    split at h
    · rename_i hl
      cases h
      exact WpC.of call_str_int ⟨_, rfl, lt_of_blt hl, k.val sr (by simp only [DR])⟩
    · cases h
  · split at h
    · rename_i hl
      cases h
      simp only [SVR, DR] at rx; subst rx
      exact WpC.of call_len_str ⟨_, rfl, fits_of hl, k.val sr (by simp only [DR])⟩
    · cases h
  · obtain ⟨xs, e, rfl⟩ := Option.map_eq_some_iff.mp h
    obtain ⟨a, vs, rfl, r, q⟩ := seq_ok sr rx e
    refine WpC.of call_len_seq ⟨a, vs, rfl, q, ?_⟩
    rw [r.length]
    exact k.val sr (by simp only [DR])
  · obtain ⟨xs, e, h⟩ := Option.bind_eq_some_iff.mp h
    obtain ⟨bs, e2, rfl⟩ := Option.map_eq_some_iff.mp h
    obtain ⟨a, vs, rfl, q, r⟩ := lis_ok sr rx e
    have ev := asBools_dr e2 r
    subst ev
    exact WpC.of (cr_all hc) ⟨a, bs, rfl, .of q, k.val sr (by simp only [DR])⟩
  · obtain ⟨xs, e, h⟩ := Option.bind_eq_some_iff.mp h
    obtain ⟨bs, e2, rfl⟩ := Option.map_eq_some_iff.mp h
    obtain ⟨a, vs, rfl, q, r⟩ := lis_ok sr rx e
    have ev := asBools_dr e2 r
    subst ev
    exact WpC.of (cr_any hc) ⟨a, bs, rfl, .of q, k.val sr (by simp only [DR])⟩
  · obtain ⟨xs, e, h⟩ := Option.bind_eq_some_iff.mp h
    obtain ⟨bs, e2, rfl⟩ := Option.map_eq_some_iff.mp h
    obtain ⟨a, vs, rfl, q, r⟩ := lis_ok sr rx e
    have ev := asInts_dr e2 r
    subst ev
    exact WpC.of (cr_sum hc) ⟨a, bs, rfl, .of q, k.val sr (by simp only [DR])⟩
  · obtain ⟨xs, e, h⟩ := Option.bind_eq_some_iff.mp h
    obtain ⟨bs, e2, h⟩ := Option.bind_eq_some_iff.mp h
    obtain ⟨a, vs, rfl, q, r⟩ := lis_ok sr rx e
    have ev := asInts_dr e2 r
    subst ev
    split at h
    · cases h
    · rename_i hn
      cases h
      have hne : bs ≠ [] := fun e => hn (by rw [e]; rfl)
      obtain ⟨m1, m2⟩ := maxL_mem hne
      refine WpC.of (cr_max hc) ⟨a, bs, rfl, .of q, List.length_pos_iff.mpr hne, fun m hm hy => ?_⟩
      have : m = maxL bs := Int.le_antisymm (m2 m hm) (hy _ m1)
      subst this
      exact k.val sr (by simp only [DR])
  · obtain ⟨xs, e, h⟩ := Option.bind_eq_some_iff.mp h
    obtain ⟨bs, e2, h⟩ := Option.bind_eq_some_iff.mp h
    obtain ⟨a, vs, rfl, q, r⟩ := lis_ok sr rx e
    have ev := asInts_dr e2 r
    subst ev
    split at h
    · cases h
    · rename_i hn
      cases h
      have hne : bs ≠ [] := fun e => hn (by rw [e]; rfl)
      obtain ⟨m1, m2⟩ := minL_mem hne
      refine WpC.of (cr_min hc) ⟨a, bs, rfl, .of q, List.length_pos_iff.mpr hne, fun m hm hy => ?_⟩
      have : m = minL bs := Int.le_antisymm (hy _ m1) (m2 m hm)
      subst this
      exact k.val sr (by simp only [DR])
  · cases h
    simp only [SVR, DR] at rx
    obtain ⟨a, vs, rfl, q, r⟩ := rx
    exact WpC.of call_tuple_of ⟨a, vs, rfl, .inr ⟨q, tup_val sr k q r⟩⟩
  · rename_i hne
    obtain ⟨xs, e, rfl⟩ := Option.map_eq_some_iff.mp h
    obtain ⟨a, vs, rfl, r, q⟩ := seq_tup e (fun ys z => hne ys z) sr rx
    exact WpC.of call_tuple_of ⟨a, vs, rfl, .inl ⟨q, fun p n => k.tup sr r p n⟩⟩
  · obtain ⟨xs, e, rfl⟩ := Option.map_eq_some_iff.mp h
    obtain ⟨a, vs, rfl, r, q⟩ := seq_ok sr rx e
    exact WpC.of call_list_of ⟨a, vs, rfl, q, fun p n => k.new sr r p n⟩
  · obtain ⟨xs, e, h⟩ := Option.bind_eq_some_iff.mp h
    obtain ⟨bs, e2, rfl⟩ := Option.map_eq_some_iff.mp h
    obtain ⟨a, vs, rfl, q, r⟩ := lis_ok sr rx e
    have ev := asInts_dr e2 r
    subst ev
    refine WpC.of (cr_sortedI) ⟨a, bs, rfl, .of q, fun ns' p pm pw np => ?_⟩
    rw [isort_of pm pw]
    exact k.new sr (ints_drs _ _ _) p np
  · cases h
theorem bi2_ok {b : Bi} {x y z : SV} {v u : V} {Q : VK} (hc : X.calm = true) (sr : SR X.K c) (rx : SVR X.K c x v) (ry : SVR X.K c y u) (h : bi2 b x y = some z) (k : KV' X c Q z) : WpC X b.fv [v, u] c.H Q := by
  unfold bi2 at h
  split at h
  · cases h
    simp only [SVR, DR] at rx ry; subst rx ry
    exact WpC.of cr_gcd ⟨_, _, rfl, k.val sr (by simp only [DR])⟩
  · cases h
    simp only [SVR, DR] at rx ry; subst rx ry
    exact WpC.of (call_max2 hc) ⟨_, _, rfl, k.val sr (by simp only [DR])⟩
  · cases h
    simp only [SVR, DR] at rx ry; subst rx ry
    exact WpC.of (call_min2 hc) ⟨_, _, rfl, k.val sr (by simp only [DR])⟩
  · cases h
theorem bi_ok {b : Bi} {xs : List SV} {z : SV} {vs : List V} {Q : VK} (hc : X.calm = true) (sr : SR X.K c) (rx : SVRs X.K c xs vs) (h : biD b xs c.s = some z) (k : KV' X c Q z) : WpC X b.fv vs c.H Q := by
  unfold biD at h
  split at h
  · obtain ⟨v, r, rfl, q, z⟩ := rx
    have z' : r = [] := z
    subst z'
    exact bi1_ok hc sr q h k
  · obtain ⟨v, r, rfl, q, u, r2, rfl, q2, z⟩ := rx
    have z' : r2 = [] := z
    subst z'
    exact bi2_ok hc sr q q2 h k
  · cases h
/-! ### items, slices -/
theorem atI_dr {K : PySem.W.Frag} {μ : List Addr} {H : Hp} {xs : List D} {vs : List V} {i : Int} {d : D} (r : DRs K μ H xs vs) (h : atI xs i = some d) : ∃ v, L2.atI vs i = some v ∧ DR K μ H d v := by
  unfold atI L2.atI at h
  obtain ⟨j, e1, e2⟩ := Option.bind_eq_some_iff.mp h
  obtain ⟨v, e3, q⟩ := r.get e2
  refine ⟨v, ?_, q⟩
  unfold L2.atI
  rw [r.length, e1]
  exact e3
def WpIx (X : Cx) : R2 := fun x y H Q => ∀ pins s σ v u, Inv X pins σ H s → RelV x v → RelV y u → wpAny (model X.prog X.w) X.A (getItem v u) (EP X pins σ Q) X.xe s
def rIxK : R2 := fun x y H Q => ∃ a v, x = .ref a ∧ DGet H a y (some v) ∧ Q v H
theorem ix_dct (hu : X.A.units + 1 < cLine) : IxR X rIxK := by
  intro value slice pins s σ H x y v u Q I rx ry h hs
  obtain ⟨a, w, rfl, g, q⟩ := h
  obtain rfl : v = Value.ref a := rx
  exact tail_any (dict_typeIs I g) PySem.F.slot_dict_getitem.lookup (d_getItem hu I g ry fun w' s3 I3 rw' => ⟨w, H, I3, rw', q⟩) hs
def rIxG (K : PySem.W.Frag) : R2 := fun x y H Q => rIx K x y H Q ∨ rIxK x y H Q
theorem ix_any (hu : X.A.units + 1 < cLine) : IxR X (rIxG X.K) := ix_seq.or (ix_dct hu)
theorem sub_ok {x y z : SV} {v u : V} {Q : VK} (sr : SR X.K c) (rx : SVR X.K c x v) (ry : SVR X.K c y u) (h : subD x y c.s = some z) (k : KV' X c Q z) : rIxG X.K v u c.H Q := by
  unfold subD at h
  split at h
  · split at h
    · rename_i hl
      obtain ⟨d, e, rfl⟩ := Option.map_eq_some_iff.mp h
      simp only [SVR, DR] at rx ry; subst rx ry
      exact .inl (.inr (.inr ⟨_, _, d, rfl, rfl, fits_of hl, e, k.val sr (by simp only [DR])⟩))
    · cases h
  · obtain ⟨xs, e, h⟩ := Option.bind_eq_some_iff.mp h
    obtain ⟨d, e2, rfl⟩ := Option.map_eq_some_iff.mp h
    simp only [SVR, DR] at ry; subst ry
    obtain ⟨a, vs, rfl, r, q⟩ := seq_ok sr rx e
    obtain ⟨w, e3, rw⟩ := atI_dr r e2
    rcases q with q | q
    · exact .inl (.inl ⟨a, vs, _, w, rfl, rfl, q, e3, k.val sr rw⟩)
    · exact .inl (.inr (.inl ⟨a, vs, _, w, rfl, rfl, q, e3, k.val sr rw⟩))
  · rename_i z
    obtain ⟨kvs, e, h⟩ := Option.bind_eq_some_iff.mp h
    obtain ⟨d, e2, rfl⟩ := Option.map_eq_some_iff.mp h
    obtain ⟨n, p, ps, _, _, rfl, q1, q2, _⟩ := dct_at sr rx e
    simp only [SVR, DR] at ry; subst ry
    rcases q2.get (k := z) with ⟨e1, _⟩ | ⟨d', w, e1, e3, r⟩
    · rw [e2] at e1; cases e1
    · rw [e2] at e1
      cases e1
      have g : DGet c.H p (.str z) (valV ps (Sum.inr z)) := DGet.k (k := Sum.inr z) q1
      rw [e3] at g
      exact .inr ⟨p, w, rfl, g, k.val sr r⟩
  · cases h
theorem cut_dr {K : PySem.W.Frag} {μ : List Addr} {H : Hp} {xs : List D} {vs : List V} {lo hi : Option Int} (r : DRs K μ H xs vs) : DRs K μ H (cut xs lo hi) (cutV vs lo hi) := by
  unfold cut cutV
  rw [r.length]
  exact (r.drop _).take _
def rSlG (K : PySem.W.Frag) : V → Option Int → Option Int → Hp → VK → Prop := fun x lo hi H Q => rSlA K x lo hi H Q ∨ rSlS x lo hi H Q ∨ rSlL K x lo hi H Q
theorem sl_any : SlR X (rSlG X.K) := sl_tupA.or (sl_str.or sl_list)
theorem cut_whole {α : Type} {xs : List α} {lo hi : Option Int} (h : HT.sIx xs.length 0 lo = 0 ∧ HT.sIx xs.length xs.length hi = xs.length) : cut xs lo hi = xs := by
  unfold cut
  rw [h.1, h.2, List.drop_zero, Nat.sub_zero, List.take_length]
theorem slc_ok {x z : SV} {lo hi : Option Int} {v : V} {Q : VK} (sr : SR X.K c) (rx : SVR X.K c x v) (h : slcD x lo hi c.s = some z) (k : KV' X c Q z) : rSlG X.K v lo hi c.H Q := by
  unfold slcD at h
  split at h
  · cases h
    simp only [SVR, DR] at rx
    obtain ⟨a, vs, rfl, q, r⟩ := rx
    refine .inl ⟨a, vs, rfl, q, fun hw => ?_, fun _ p n => k.tup sr (cut_dr r) p n⟩
    rw [r.length] at hw
    have e := cut_whole (xs := _) hw
    rw [e] at k
    exact tup_val sr k q r
  · split at h
    · rename_i hl
      cases h
      simp only [SVR, DR] at rx; subst rx
      refine .inr (.inl ⟨_, rfl, fits_of hl, ?_⟩)
      exact k.val sr (by simp only [DR, cutS, cut]; rfl)
    · cases h
  · rename_i hn1 hn2
    obtain ⟨xs, e, rfl⟩ := Option.map_eq_some_iff.mp h
    obtain ⟨a, vs, rfl, r, q⟩ := seq_tup e (fun ys z => hn1 ys z) sr rx
    exact .inr (.inr ⟨a, vs, rfl, q, fun p n => k.new sr (cut_dr r) p n⟩)
/-! ### truth -/
theorem tru_okD {x : SV} {v : V} {b : Bool} (sr : SR X.K c) (rx : SVR X.K c x v) (h : truD c.s x = some b) : TruV X.K v c.H b := by
  have e1 : ∀ {xs : List D} {vs : List V}, DRs X.K c.μ c.H xs vs → (!xs.isEmpty) = !vs.isEmpty := fun {xs vs} r => by
    have := r.length
    cases xs <;> cases vs <;> first | rfl | cases this
  unfold truD at h
  split at h
  · cases h; simp only [SVR, DR] at rx; subst rx; exact rfl
  · cases h; simp only [SVR, DR] at rx; subst rx; exact rfl
  · cases h; simp only [SVR, DR] at rx; subst rx; exact rfl
  · split at h
    · rename_i hl
      cases h
      simp only [SVR, DR] at rx; subst rx
      refine ⟨fits_of hl, ?_⟩
      rename_i x
      show (x.length != 0) = ((x.length : Int) != 0)
      rw [Bool.eq_iff_iff]
      simp
    · cases h
  · obtain ⟨xs, e, rfl⟩ := Option.map_eq_some_iff.mp h
    obtain ⟨a, vs, rfl, r, q⟩ := seq_ok sr rx e
    rcases q with q | q
    · exact .inl ⟨vs, q, e1 r⟩
    · exact .inr (.inl ⟨vs, q, e1 r⟩)
end
end G

/-! ## GS4 -/
set_option Elab.async false
set_option linter.all false
set_option maxRecDepth 100000
set_option maxHeartbeats 2000000
namespace G
open PySem PySem.Spec PyProof.Rows L2

theorem tupK_upd {H : Hp} {a : Addr} {u : HO} {o : HO} (h : H a = some u) (w : Wr u) : TupK H (upd H a o) := fun b us r => by
  have ne : b ≠ a := by
    rintro rfl
    rcases r with r | ⟨_, r⟩ <;> (rw [h] at r; cases r; exact w.elim)
  rcases r with r | ⟨u, r⟩
  · exact .inl (by rw [upd_ne ne]; exact r)
  · exact .inr ⟨u, by rw [upd_ne ne]; exact r⟩
section
variable {K : PySem.W.Frag} {c c' : Cf}
theorem set_get {α : Type} {l : List α} {i j : Nat} {x y : α} (h : (l.set i x)[j]? = some y) : (j = i ∧ y = x ∧ i < l.length) ∨ (j ≠ i ∧ l[j]? = some y) := by
  by_cases e : i = j
  · subst e
    have hl : i < l.length := by
      by_cases q : i < l.length
      · exact q
      · rw [List.getElem?_eq_none (by rw [List.length_set]; omega)] at h; cases h
    rw [List.getElem?_set_self hl] at h
    cases h
    exact .inl ⟨rfl, rfl, hl⟩
  · rw [List.getElem?_set_ne e] at h
    exact .inr ⟨fun z => e z.symm, h⟩
/-- a cell of the heap is written -/
theorem putc_ok {n : Nat} {a : Addr} {o o' : HO} {cl : Cell} (sr : SR K c) (e : c.μ[n]? = some a) (q : c.H a = some o) (w : Wr o) (ry : TupK c.H (upd c.H a o') → CellR K c.μ (upd c.H a o') a cl) :
    (let c' : Cf := { c with s := ⟨c.s.v, c.s.M.set n cl⟩, H := upd c.H a o' }; Stp c c' ∧ SR K c' ∧ Vst c c') := by
  have fa : Foot c a := .inl (List.mem_of_getElem? e)
  have tk : TupK c.H (upd c.H a o') := tupK_upd q w
  have ft : ∀ b, Foot ({ c with s := ⟨c.s.v, c.s.M.set n cl⟩, H := upd c.H a o' } : Cf) b ↔ Foot c b := fun b => Iff.rfl
  refine ⟨⟨List.prefix_refl _, rfl, fun b o h nf => ?_, fun b f => .inl f, fun b o h => ?_, tk, fun i zs h => ⟨h, rfl⟩, fun i zs h => h⟩, ⟨sr.len, ?_, sr.nd, ?_, ?_, sr.ownd, sr.ownm, ?_⟩, rfl, fun i h => h⟩
  · show upd c.H a _ b = _
    rw [upd_ne (fun z : b = a => nf (by rw [z]; exact fa))]
    exact h
  · by_cases z : b = a
    · subst z; exact ⟨_, upd_same⟩
    · exact ⟨o, by show upd c.H a _ b = _; rw [upd_ne z]; exact h⟩
  · show c.μ.length = (c.s.M.set n _).length
    rw [List.length_set]
    exact sr.mlen
  · intro m cl1 b h1 h2
    rcases set_get h1 with ⟨rfl, rfl, _⟩ | ⟨ne, h1⟩
    · have h2 : c.μ[m]? = some b := h2
      rw [e] at h2
      cases h2
      exact ry tk
    · have q := sr.cell m cl1 b h1 h2
      have nb : b ≠ a := by
        rintro rfl
        obtain ⟨i1, e1⟩ := List.getElem?_eq_some_iff.mp e
        obtain ⟨i2, e2⟩ := List.getElem?_eq_some_iff.mp h2
        exact ne ((List.getElem_inj sr.nd).mp (e2.trans e1.symm))
      exact q.mono (List.prefix_refl _) tk fun o e => by show upd c.H a _ b = _; rw [upd_ne nb]; exact e
  · intro i x hx
    refine SlotR.mono (c := c) (List.prefix_refl _) tk (fun b ws e1 e2 e3 => ?_) (fun b ws e1 e2 => ⟨e1, ?_⟩) (sr.slot i x hx)
    · have nb : b ≠ a := by
        rintro rfl
        obtain ⟨zs, rfl⟩ := e2
        exact sr.ownm i b ⟨⟨zs, hx⟩, e1⟩ (List.mem_of_getElem? e)
      show upd c.H a _ b = _
      rw [upd_ne nb]; exact e3
    · have nb : b ≠ a := by
        rintro rfl
        exact (sr.rho b e1).2 fa
      rcases e2 with e2 | ⟨o, e2⟩
      · exact .inl (by show upd c.H a _ b = _; rw [upd_ne nb]; exact e2)
      · exact .inr ⟨o, by show upd c.H a _ b = _; rw [upd_ne nb]; exact e2⟩
  · intro b h
    obtain ⟨⟨o, e1⟩, nf⟩ := sr.rho b h
    refine ⟨?_, nf⟩
    by_cases z : b = a
    · subst z; exact ⟨_, upd_same⟩
    · exact ⟨o, by show upd c.H a _ b = _; rw [upd_ne z]; exact e1⟩
/-- the list of a place is written -/
theorem put_ok {x : SV} {v : V} {xs ys : List D} {us : List V} {s' : S} (sr : SR K c) (rx : SVR K c x v) (hx : lis c.s x = some xs) (hp : putL c.s x ys = some s') (ry : DRs K c.μ c.H ys us) :
    ∃ a vs, v = .ref a ∧ c.H a = some (.lst vs) ∧ DRs K c.μ c.H xs vs ∧
      (let c' : Cf := { c with s := s', H := upd c.H a (.lst us) }; Stp c c' ∧ SR K c' ∧ Vst c c') := by
  unfold putL at hp
  split at hp
  · rename_i n
    cases hp
    simp only [SVR, DR] at rx
    obtain ⟨a, rfl, e⟩ := rx
    simp only [lis] at hx
    have hx' := hx
    unfold cell at hx'
    split at hx'
    · rename_i zs hc
      cases hx'
      obtain ⟨vs, q, r⟩ := sr.cell n _ a hc e
      refine ⟨a, vs, rfl, q, r, ?_⟩
      exact putc_ok sr e q trivial fun tk => ⟨us, upd_same, DRs.mono (List.prefix_refl _) tk _ _ ry⟩
    · cases hx'
  · rename_i i
    cases hp
    simp only [lis] at hx
    split at hx
    · rename_i zs hc
      cases hx
      obtain ⟨a, vs, e, q, r⟩ := sr.slot i _ hc
      have e1 := rx.1
      rw [e] at e1
      cases e1
      refine ⟨a, vs, rfl, q, r, ?_⟩
      have fo : OwnAt c i a := ⟨⟨_, hc⟩, e⟩
      have fa : Foot c a := .inr ⟨i, fo⟩
      have tk : TupK c.H (upd c.H a (.lst us)) := tupK_upd q trivial
      have hil : i < c.s.v.length := (List.getElem?_eq_some_iff.mp hc).1
      have ow : ∀ j b, OwnAt ({ c with s := ⟨c.s.v.set i (.own ys), c.s.M⟩, H := upd c.H a (.lst us) } : Cf) j b → OwnAt c j b := fun j b ⟨⟨ws, h1⟩, h2⟩ => by
        rcases set_get h1 with ⟨rfl, _, _⟩ | ⟨_, h1⟩
        · exact ⟨⟨_, hc⟩, h2⟩
        · exact ⟨⟨ws, h1⟩, h2⟩
      have ft : ∀ b, Foot ({ c with s := ⟨c.s.v.set i (.own ys), c.s.M⟩, H := upd c.H a (.lst us) } : Cf) b → Foot c b := fun b f => by
        rcases f with f | ⟨j, f⟩
        · exact .inl f
        · exact .inr ⟨j, ow j b f⟩
      refine ⟨⟨List.prefix_refl _, rfl, fun b o h nf => ?_, fun b f => .inl (ft b f), fun b o h => ?_, tk, fun j zs h => ?_, fun j zs h => ?_⟩, ⟨?_, sr.mlen, sr.nd, ?_, ?_, fun j k b h1 h2 => sr.ownd j k b (ow j b h1) (ow k b h2), fun j b h => sr.ownm j b (ow j b h), ?_⟩, rfl, fun j h => ?_⟩
      · show upd c.H a _ b = _
        rw [upd_ne (fun z : b = a => nf (by rw [z]; exact fa))]
        exact h
      · by_cases z : b = a
        · subst z; exact ⟨_, upd_same⟩
        · exact ⟨o, by show upd c.H a _ b = _; rw [upd_ne z]; exact h⟩
      · rcases set_get h with ⟨_, z, _⟩ | ⟨_, h⟩
        · cases z
        · exact ⟨h, rfl⟩
      · have ne : i ≠ j := by
          rintro rfl
          rw [hc] at h; cases h
        show (c.s.v.set i _)[j]? = _
        rw [List.getElem?_set_ne ne]
        exact h
      · show (c.s.v.set i _).length = _
        rw [List.length_set]; exact sr.len
      · intro m cl b h1 h2
        have z := sr.cell m cl b h1 h2
        have nb : b ≠ a := by
          rintro rfl
          exact sr.ownm i b fo (List.mem_of_getElem? h2)
        exact z.mono (List.prefix_refl _) tk fun o e => by show upd c.H a _ b = _; rw [upd_ne nb]; exact e
      · intro j x hx
        rcases set_get hx with ⟨rfl, rfl, _⟩ | ⟨ne, hx'⟩
        · exact ⟨a, us, e, upd_same, DRs.mono (List.prefix_refl _) tk _ _ ry⟩
        · refine SlotR.mono (c := c) (List.prefix_refl _) tk (fun b ws e1 e2 e3 => ?_) (fun b ws e1 e2 => ⟨e1, ?_⟩) (sr.slot j x hx')
          · have nb : b ≠ a := by
              rintro rfl
              obtain ⟨zs, rfl⟩ := e2
              exact ne (sr.ownd j i b ⟨⟨zs, hx'⟩, e1⟩ fo)
            show upd c.H a _ b = _
            rw [upd_ne nb]; exact e3
          · have nb : b ≠ a := by
              rintro rfl
              exact (sr.rho b e1).2 fa
            rcases e2 with e2 | ⟨o, e2⟩
            · exact .inl (by show upd c.H a _ b = _; rw [upd_ne nb]; exact e2)
            · exact .inr ⟨o, by show upd c.H a _ b = _; rw [upd_ne nb]; exact e2⟩
      · intro b h
        obtain ⟨⟨o, e1⟩, nf⟩ := sr.rho b h
        refine ⟨?_, fun f => nf (ft b f)⟩
        by_cases z : b = a
        · subst z; exact ⟨_, upd_same⟩
        · exact ⟨o, by show upd c.H a _ b = _; rw [upd_ne z]; exact e1⟩
      · obtain ⟨ws, h⟩ := h
        by_cases z : i = j
        · subst z; exact ⟨ys, List.getElem?_set_self hil⟩
        · exact ⟨ws, by show (c.s.v.set i _)[j]? = _; rw [List.getElem?_set_ne z]; exact h⟩
    · cases hx
  · cases hp
/-- a new list becomes a cell of the heap; c₀: where its making began -/
theorem cell_new {c₀ : Cf} {cl : Cell} {a : Addr} (st : Stp c₀ c) (vst : Vst c₀ c) (sr : SR K c) (q : CellR K c.μ c.H a cl) (nf : ¬ Foot c a) (nr : ¬ c.ρ a) (fr : c₀.H a = none) :
    (let c' : Cf := { c with μ := c.μ ++ [a], s := ⟨c.s.v, c.s.M ++ [cl]⟩ }; Stp c₀ c' ∧ SR K c' ∧ Vst c₀ c' ∧ DR K c'.μ c'.H (.loc c.s.M.length) (.ref a)) := by
  have pre : c.μ <+: c.μ ++ [a] := List.prefix_append _ _
  have tk : TupK c.H c.H := fun _ _ h => h
  have nm : a ∉ c.μ := fun h => nf (.inl h)
  refine ⟨⟨st.pre.trans pre, st.rh, st.frame, fun b f => ?_, st.trk, st.tup, st.ros, st.ron⟩, ⟨sr.len, ?_, ?_, ?_, ?_, sr.ownd, fun i b h hb => ?_, fun b h => ?_⟩, vst, ?_⟩
  · rcases f with f | f
    · rcases List.mem_append.mp f with f | f
      · exact st.grow b (.inl f)
      · have e : b = a := by simpa using f
        subst e
        exact .inr fr
    · exact st.grow b (.inr f)
  · show (c.μ ++ [a]).length = (c.s.M ++ [_]).length
    rw [List.length_append, List.length_append, sr.mlen]; rfl
  · exact List.nodup_append.mpr ⟨sr.nd, by simp, fun x hx y hy e => by
      have : y = a := by simpa using hy
      subst this; subst e; exact nm hx⟩
  · intro n cl1 b h1 h2
    by_cases hn : n < c.s.M.length
    · have h1' : c.s.M[n]? = some cl1 := by rw [← List.getElem?_append_left (l₂ := [cl]) hn]; exact h1
      have h2' : c.μ[n]? = some b := by rw [← List.getElem?_append_left (l₂ := [a]) (by rw [sr.mlen]; exact hn)]; exact h2
      exact (sr.cell n cl1 b h1' h2').mono pre tk fun o e => e
    · have en : n = c.s.M.length := by
        have := (List.getElem?_eq_some_iff.mp h1).1
        rw [List.length_append] at this
        simp at this
        omega
      subst en
      have h1' : (c.s.M ++ [cl])[c.s.M.length]? = some cl1 := h1
      rw [List.getElem?_append_right (Nat.le_refl _), Nat.sub_self] at h1'
      have h2' : (c.μ ++ [a])[c.s.M.length]? = some b := h2
      rw [← sr.mlen, List.getElem?_append_right (Nat.le_refl _), Nat.sub_self] at h2'
      cases h1'
      cases h2'
      exact q.mono pre tk fun o e => e
  · intro i x hx
    exact SlotR.mono (c := c) pre tk (fun b ws _ _ h => h) (fun b ws h1 h2 => ⟨h1, h2⟩) (sr.slot i x hx)
  · rcases List.mem_append.mp hb with hb | hb
    · exact sr.ownm i b h hb
    · have e : b = a := by simpa using hb
      subst e
      exact nf (.inr ⟨i, h⟩)
  · obtain ⟨t, n⟩ := sr.rho b h
    refine ⟨t, fun f => ?_⟩
    rcases f with f | f
    · rcases List.mem_append.mp f with f | f
      · exact n (.inl f)
      · have e : b = a := by simpa using f
        subst e
        exact nr h
    · exact n (.inr f)
  · simp only [DR]
    refine ⟨a, rfl, ?_⟩
    show (c.μ ++ [a])[c.s.M.length]? = _
    rw [← sr.mlen, List.getElem?_append_right (Nat.le_refl _), Nat.sub_self]; rfl
/-- an expression's value, made a value proper -/
theorem toVal_ok {c₀ : Cf} {α : Type} {x : SV} {v : V} {f : D → S → R α} {Qn : α → Cf → Prop} {Qx : Xc → Cf → Prop} (st : Stp c₀ c) (vst : Vst c₀ c) (sr : SR K c) (rx : SVR K c x v) (fr : Fresh c₀.H x v)
    (h : Post K c₀ ((toVal x c.s).bind f) Qn Qx) : ∃ c' d, c'.H = c.H ∧ Stp c₀ c' ∧ SR K c' ∧ Vst c₀ c' ∧ DR K c'.μ c'.H d v ∧ Post K c' (f d c'.s) Qn Qx := by
  cases x with
  | val d => exact ⟨c, d, rfl, st, sr, vst, rx, h.later st vst⟩
  | new xs =>
    obtain ⟨a, vs, rfl, q, r, nf, nr⟩ := rx
    obtain ⟨s1, s2, s3, s4⟩ := cell_new (cl := .lst xs) st vst sr ⟨vs, q, r⟩ nf nr (fr a rfl)
    exact ⟨{ c with μ := c.μ ++ [a], s := ⟨c.s.v, c.s.M ++ [.lst xs]⟩ }, _, rfl, s1, s2, s3, s4, Post.later s1 s3 h⟩
  | var i => exact h.elim
end
end G

/-! ## GS5 -/
set_option Elab.async false
set_option linter.all false
set_option maxRecDepth 100000
set_option maxHeartbeats 2000000
namespace G
open PySem PySem.Spec PyProof.Rows L2

theorem R.bind_assoc {α β γ : Type} (r : R α) (f : α → S → R β) (g : β → S → R γ) : (r.bind f).bind g = r.bind fun a s => (f a s).bind g := by
  cases r <;> rfl
def Freshs (H : Hp) : List SV → List V → Prop
  | x :: xs, v :: vs => Fresh H x v ∧ Freshs H xs vs
  | _, _ => True
theorem Freshs.back {K : PySem.W.Frag} {c c' : Cf} (h : Stp c c') : ∀ {xs : List SV} {vs : List V}, Freshs c'.H xs vs → Freshs c.H xs vs
  | [], _, _ => trivial
  | _ :: _, [], _ => trivial
  | x :: xs, v :: vs, f => ⟨Fresh.back h f.1, Freshs.back (K := K) h f.2⟩
def cnM (mg : Str → Option Value) (x : Str) : Option Addr := match mg x with
  | some (.ref a) => some a
  | _ => none
abbrev cnX (X : Cx) : Str → Option Addr := cnM X.mg
/-- what is wanted of an exception -/
def QX (X : Cx) (W : WX) : Xc → Cf → Prop := fun x c' => ∀ cls d, XR X.K (cnX X) c' x cls d → W cls d c'.σ c'.H
def JX (X : Cx) (W : WX) (m : S → R SV) (e : Expr) : Prop := ∀ c Q, SR X.K c → Post X.K c (m c.s) (fun x c' => ∀ v, SVR X.K c' x v → Fresh c.H x v → Q v c'.H) (QX X W) → WpE X e c.σ c.H Q
def JT (X : Cx) (W : WX) (m : S → R Bool) (e : Expr) : Prop := ∀ c Q, SR X.K c → Post X.K c (m c.s) (fun b c' => Q b c'.H) (QX X W) → WpT X e c.σ c.H Q
def JXs (X : Cx) (W : WX) (m : S → R (List SV)) (es : List Expr) : Prop := ∀ c Q, SR X.K c → Post X.K c (m c.s) (fun xs c' => ∀ vs, SVRs X.K c' xs vs → Freshs c.H xs vs → Q vs c'.H) (QX X W) → WpA X es c.σ c.H Q
def JEs (X : Cx) (W : WX) (m : S → R (List D)) (es : List Expr) : Prop := ∀ c Q, SR X.K c → Post X.K c (m c.s) (fun ds c' => ∀ vs, DRs X.K c'.μ c'.H ds vs → Q vs c'.H) (QX X W) → WpA X es c.σ c.H Q
def Ar.sv : Ar → SV
  | .val d => .val d
  | .tmp xs => .new xs
  | .var i => .var i
theorem lend_sv (x : SV) : (lend x).sv = x := by cases x <;> rfl
def JA (X : Cx) (W : WX) (m : S → R (List Ar)) (es : List Expr) : Prop := ∀ c Q, SR X.K c → Post X.K c (m c.s) (fun as c' => ∀ vs, SVRs X.K c' (as.map Ar.sv) vs → Q vs c'.H) (QX X W) → WpA X es c.σ c.H Q
section
variable {X : Cx} {W : WX} {c : Cf}
/-- an expression, then its value made proper, then what follows -/
theorem JX.val {α : Type} {m : S → R SV} {e : Expr} {f : D → S → R α} {Qn : α → Cf → Prop} {Q : VK} (h : JX X W m e) (sr : SR X.K c) (p : Post X.K c (((m c.s).bind toVal).bind f) Qn (QX X W))
    (q : ∀ c' d v, Stp c c' → SR X.K c' → Vst c c' → DR X.K c'.μ c'.H d v → Post X.K c' (f d c'.s) Qn (QX X W) → Q v c'.H) : WpE X e c.σ c.H Q := by
  refine h c Q sr ?_
  rw [R.bind_assoc] at p
  cases r : m c.s with
  | ok x s1 =>
    rw [r] at p
    intro c1 e1 st sr1 vst v rv fv
    subst e1
    obtain ⟨c', d, eH, s1, s2, s3, s4, s5⟩ := toVal_ok st vst sr1 rv fv p
    rw [← eH]
    exact q c' d v s1 s2 s3 s4 s5
  | exc x s1 =>
    rw [r] at p
    exact p
  | bad =>
    rw [r] at p
    exact p
theorem Post.okc {α : Type} {K : PySem.W.Frag} {a : α} {s : S} {Qn : α → Cf → Prop} {Qx : Xc → Cf → Prop} {c c' : Cf} (h : Post K c (.ok a s) Qn Qx) (e : c'.s = s) (st : Stp c c') (sr : SR K c') (vs : Vst c c') : Qn a c' := h c' e st sr vs

/-! ### methods of lists -/
def Mt.nm : Mt → Str
  | .append => "append" | .pop => "pop" | .extend => "extend" | .insert => "insert" | .reverse => "reverse"
def Mt.id : Mt → String
  | .append => "list.append" | .pop => "list.pop" | .extend => "list.extend" | .insert => "list.insert" | .reverse => "list.reverse"
def WpM (X : Cx) (id : String) : V → List V → Hp → VK → Prop := fun x xs H Q => ∀ pins s σ v us, Inv X pins σ H s → RelV x v → Vals xs us → wpAny (model X.prog X.w) X.A (call (.builtin id) (v :: us)) (EP X pins σ Q) X.xe s
theorem mtW (id : String) : MtR X id (WpM X id) := fun pins s σ _ _ _ v us _ I r rs h => h pins s σ v us I r rs
theorem WpM.of {id : String} {r : V → List V → Hp → VK → Prop} {x xs H Q} (h : MtR X id r) (q : r x xs H Q) : WpM X id x xs H Q := fun pins s σ v us I r1 r2 => h pins s σ H x xs v us Q I r1 r2 q
theorem lis_val {x : SV} {v : V} {xs : List D} (sr : SR X.K c) (rx : SVR X.K c x v) (h : lis c.s x = some xs) : ∃ a vs, v = .ref a ∧ c.H a = some (.lst vs) ∧ DRs X.K c.μ c.H xs vs := lis_ok sr rx h
theorem none_dr {K : PySem.W.Frag} {μ : List Addr} {H : Hp} : DR K μ H .non .non := by simp only [DR]
theorem methD_ok {m : Mt} {x : SV} {as : List SV} {v : V} {vs : List V} {Q : VK} {c0 : Cf} (st0 : Stp c0 c) (vs0 : Vst c0 c) (sr : SR X.K c) (rx : SVR X.K c x v) (ras : SVRs X.K c as vs)
    (h : Post X.K c0 (methD m x as c.s) (fun z c' => ∀ w, SVR X.K c' z w → Fresh c0.H z w → Q w c'.H) (QX X W)) : WpM X m.id v vs c.H Q := by
  unfold methD at h
  split at h
  · -- append
    rename_i d
    obtain ⟨w, r, rfl, rd, z⟩ := ras
    have z' : r = [] := z
    subst z'
    split at h
    · rename_i xs e
      split at h
      · rename_i hl
        split at h
        · rename_i s' hp
          obtain ⟨a, ws, rfl, q, r⟩ := lis_ok sr rx e
          obtain ⟨a', ws', ea, q', r', st, sr', vst⟩ := put_ok sr rx e hp (r.append (.one rd))
          cases ea
          rw [q] at q'
          cases q'
          refine WpM.of mt_append ⟨a, ws, w, rfl, rfl, q, by rw [r.length]; exact lt_of_blt hl, ?_⟩
          exact h.okc (c' := { c with s := s', H := upd c.H a (.lst (ws ++ [w])) }) rfl (st0.trans st) sr' (vs0.trans vst) .non (by simp only [SVR, DR]) trivial
        · exact h.elim
      · exact h.elim
    · exact h.elim
  · -- pop
    have z' : vs = [] := ras
    subst z'
    split at h
    · rename_i xs e
      split at h
      · rename_i d s' hd hp
        obtain ⟨a, ws, rfl, q, r⟩ := lis_ok sr rx e
        obtain ⟨a', ws', ea, q', r', st, sr', vst⟩ := put_ok sr rx e hp r.dropLast
        cases ea
        rw [q] at q'
        cases q'
        rw [List.getLast?_eq_getElem?] at hd
        obtain ⟨w, e1, rw'⟩ := r.get hd
        rw [← r.length] at e1
        refine WpM.of mt_pop ⟨a, ws, w, rfl, rfl, q, e1, ?_⟩
        exact h.okc (c' := { c with s := s', H := upd c.H a (.lst ws.dropLast) }) rfl (st0.trans st) sr' (vs0.trans vst) w (st.dr rw') trivial
      · exact h.elim
    · exact h.elim
  · -- pop(i)
    rename_i i
    obtain ⟨w, r, rfl, rd, z⟩ := ras
    have z' : r = [] := z
    subst z'
    simp only [SVR, DR] at rd
    subst rd
    split at h
    · rename_i xs e
      split at h
      · rename_i hi
        simp only [Bool.and_eq_true, decide_eq_true_eq] at hi
        split at h
        · rename_i k hk
          split at h
          · rename_i d s' hd hp
            obtain ⟨a, ws, rfl, q, r⟩ := lis_ok sr rx e
            obtain ⟨a', ws', ea, q', r', st, sr', vst⟩ := put_ok sr rx e hp (r.eraseIdx k)
            cases ea
            rw [q] at q'
            cases q'
            obtain ⟨w, e1, rw'⟩ := r.get hd
            refine WpM.of mt_popAt ⟨a, ws, i, k, w, rfl, rfl, q, hi.1, hi.2, by rw [r.length]; exact hk, e1, ?_⟩
            exact h.okc (c' := { c with s := s', H := upd c.H a (.lst (ws.eraseIdx k)) }) rfl (st0.trans st) sr' (vs0.trans vst) w (st.dr rw') trivial
          · exact h.elim
        · exact h.elim
      · exact h.elim
    · exact h.elim
  · -- extend
    rename_i y
    obtain ⟨w, r, rfl, rd, z⟩ := ras
    have z' : r = [] := z
    subst z'
    split at h
    · rename_i xs ys e e2
      split at h
      · rename_i hc
        split at h
        · rename_i s' hp
          obtain ⟨a, ws, rfl, q, r⟩ := lis_ok sr rx e
          obtain ⟨b, us, rfl, q2, r2⟩ := lis_ok sr rd e2
          obtain ⟨a', ws', ea, q', r', st, sr', vst⟩ := put_ok sr rx e hp (r.append r2)
          cases ea
          rw [q] at q'
          cases q'
          refine WpM.of mt_extend ⟨a, b, ws, us, rfl, rfl, q, q2, cat_ok r r2 hc, ?_⟩
          exact h.okc (c' := { c with s := s', H := upd c.H a (.lst (ws ++ us)) }) rfl (st0.trans st) sr' (vs0.trans vst) .non (by simp only [SVR, DR]) trivial
        · exact h.elim
      · exact h.elim
    · exact h.elim
  · -- reverse
    have z' : vs = [] := ras
    subst z'
    split at h
    · rename_i xs e
      split at h
      · rename_i s' hp
        obtain ⟨a, ws, rfl, q, r⟩ := lis_ok sr rx e
        obtain ⟨a', ws', ea, q', r', st, sr', vst⟩ := put_ok sr rx e hp r.reverse
        cases ea
        rw [q] at q'
        cases q'
        refine WpM.of mt_reverse ⟨a, ws, rfl, rfl, q, ?_⟩
        exact h.okc (c' := { c with s := s', H := upd c.H a (.lst ws.reverse) }) rfl (st0.trans st) sr' (vs0.trans vst) .non (by simp only [SVR, DR]) trivial
      · exact h.elim
    · exact h.elim
  · -- insert
    rename_i i d
    obtain ⟨w0, r, rfl, rd0, w, r', rfl, rd, z⟩ := ras
    have z' : r' = [] := z
    subst z'
    simp only [SVR, DR] at rd0
    subst rd0
    split at h
    · rename_i xs e
      split at h
      · rename_i hi
        simp only [Bool.and_eq_true, decide_eq_true_eq] at hi
        split at h
        · rename_i s' hp
          obtain ⟨a, ws, rfl, q, r⟩ := lis_ok sr rx e
          obtain ⟨a', ws', ea, q', r', st, sr', vst⟩ := put_ok sr rx e hp (((r.take i.toNat).append (.one rd)).append (r.drop i.toNat))
          cases ea
          rw [q] at q'
          cases q'
          refine WpM.of mt_insert ⟨a, ws, i, w, rfl, rfl, q, by rw [r.length]; exact lt_of_blt hi.2.2, hi.1, hi.2.1, ?_⟩
          exact h.okc (c' := { c with s := s', H := upd c.H a (.lst (ws.take i.toNat ++ [w] ++ ws.drop i.toNat)) }) rfl (st0.trans st) sr' (vs0.trans vst) .non (by simp only [SVR, DR]) trivial
        · exact h.elim
      · exact h.elim
    · exact h.elim
  · exact h.elim
theorem mtD_ok {m : Mt} {x : SV} {as : List SV} {v : V} {vs : List V} {Q : VK} {c0 : Cf} (st0 : Stp c0 c) (vs0 : Vst c0 c) (sr : SR X.K c) (rx : SVR X.K c0 x v) (ras : SVRs X.K c as vs) (fr : Freshs c0.H as vs)
    (h : Post X.K c0 (mtD m x as c.s) (fun z c' => ∀ w, SVR X.K c' z w → Fresh c0.H z w → Q w c'.H) (QX X W)) : WpM X m.id v vs c.H Q := by
  unfold mtD at h
  split at h
  · rename_i a
    obtain ⟨w, r, rfl, rd, z⟩ := ras
    have z' : r = [] := z
    subst z'
    obtain ⟨c', d, eH, s1, s2, s3, s4, s5⟩ := toVal_ok st0 vs0 sr rd fr.1 h
    rw [← eH]
    refine methD_ok (W := W) (c := c') (c0 := c') (m := .append) (as := [.val d]) (Stp.refl _) (Vst.refl _) s2 (rx.step s1 s3) ⟨w, [], rfl, s4, rfl⟩ ?_
    exact s5.imp fun z c2 st sr2 vst q w' r' f => q w' r' (Fresh.back s1 f)
  · exact h.elim
  · exact methD_ok st0 vs0 sr (rx.step st0 vs0) ras h
end
end G

/-! ## EX1 -/
set_option Elab.async false
set_option linter.all false
set_option maxRecDepth 100000
set_option maxHeartbeats 4000000
namespace G
open PySem PySem.Spec PyProof.Rows L2 PySem.W PySem.Calls

/-! ### super().__init__(..) in the own __init__ of an error over ValueError -/
/-- what the written part says of the class C and of its __init__ at f, whose cell of __class__ is cc, whose code is at cd -/
structure SupF (K : Frag) (P : Program) (C f cc cd : Addr) (fdt : FuncData) : Prop where
  oex : OexC K C
  fn : ∃ oc od osl, K.lookup f = some ⟨oc, od, .func fdt, osl⟩
  cell : ∃ cl cld csl, K.lookup cc = some ⟨cl, cld, .cell (some (.ref C)), csl⟩
  code : ∃ ccl cdd vs ccs file tf, K.lookup cd = some ⟨ccl, cdd, .fields vs, ccs⟩ ∧ vs[2]? = some (.str file tf) ∧ ((P.main.file : Str) == file) = true
  cls : ∃ cD, clsIn K C = some cD
  msub : mroIn K C (.ref C) = some true
  glob : nsIn K mainGlobals "super" = some none
  top : (P.main.scope.names.lookup ("super" : Str)).isSome = false
  opq : nsIn K cStatics "thirdparty.any" = some none
  next : ks_superIn K C C "__init__" = some (some (.builtin "ValueError.__init__"))
  sub : subIn K (.ref C) (.type "ValueError") = some true
section
variable {X : Cx} {pins : List (Addr × Obj)} {σ : L2.St} {H : Hp} {s : Shared} {a C f cc cd : Addr} {fdt : FuncData} {A : Around} {E : Value → Shared → Prop}
theorem exo_inst (I : Inv X pins σ H s) (e : H a = some (exo a C none)) : ∃ ox, InstAt s.heap a ox C none := by
  obtain ⟨t1, h1⟩ := exo_at I.hok e
  exact ⟨_, h1, rfl, rfl, trivial⟩
/-- super() -/
theorem sup_base (F : SupF X.K X.prog C f cc cd fdt) (I : Inv X pins σ H s) (e : H a = some (exo a C none)) {body : List Stmt} {p0 p1 : Pos} {whole : Sem Value} {ar : Arg} {Q : Value → Shared → Prop}
    (hfu : X.env.func = some f) (hco : X.env.code = .ref cd) (hcl : X.env.cells.lookup ("__class__" : Str) = some cc) (hp : (fdt.params.posonlyargs ++ fdt.params.args).head? = some ar)
    (hks : X.env.kindOf "super" = some .globalImplicit) (hkc : X.env.kindOf "__class__" = some .free) (hself : ∀ Q : Value → Shared → Prop, Q (.ref a) s → wpAny (model X.prog X.w) A (loadName X.env ar.arg) Q E s)
    (h : ∀ so s', Inv X ((so, ks_superObj C a C) :: pins) σ H s' → Q (.ref so) s') :
    _root_.PySem.wpAt (model X.prog X.w) A (.func body X.env) (attributeBase (.Call (.Name "super" p0) [] [] p1) "__init__" X.env whole) Q E s := by
  have kin := I.kIn
  obtain ⟨oc, od, osl, hf⟩ := F.fn
  obtain ⟨cl, cld, csl, hcell⟩ := F.cell
  obtain ⟨ccl, cdd, vs, ccs, file, tf, hcode, hvs, hfile⟩ := F.code
  obtain ⟨cD, hD⟩ := F.cls
  obtain ⟨ox, IA⟩ := exo_inst I e
  have hD2 : ∃ o, s.heap.get? C = some o ∧ o.data = .cls cD := by
    unfold clsIn at hD
    split at hD
    · rename_i q1 q2 q3 q4 hl
      cases hD
      exact ⟨_, kin _ _ hl, rfl⟩
    · cases hD
  obtain ⟨oD, hoD, hdD⟩ := hD2
  refine ks_wpAt_super_base hks hkc (by decide) hfu (kin _ _ hf) rfl hp hco (kin _ _ hcode) rfl hvs hfile F.top ?_
  obtain ⟨mb, hb1, hb2⟩ := I.mod.blt
  refine ks_loadName_global I.ok.kind hks (Calls.loadGlobal_builtin (by rw [I.ok.glob]; exact I.mod.glob.keeps I.bk) (mg_none_of I.mod.kin I.mod.glob F.glob) (by rw [I.ok.blt]; exact hb1.keeps I.bk) ((hb2 "super" (by decide)).trans (by first | boot_by_name | rfl | kernel_rfl)) ⟨rfl, ?_⟩)
  refine wpAny_loadName_free I.ok.kind hkc hcl ⟨_, kin _ _ hcell, rfl⟩ ?_
  refine hself _ ?_
  refine ks_wpAny_isType_cls hoD hdD ⟨rfl, ?_⟩
  refine ks_wpAny_call_super hoD hdD IA.at_ IA.cls (fun c z => ?_) (looks_mroIn kin F.msub) (fun h' q1 q2 => ?_)
  · have := IA.no
    unfold notCls at this
    rw [z] at this
    exact Bool.noConfusion this
  · exact h _ _ (ClX.pin_new (t' := s.toks) I (fun b o z => q2 b o z) (Nat.le_refl _) q1 (fun v z => by cases z))
/-- the built-in __init__ bound to the error -/
theorem sup_meth (F : SupF X.K X.prog C f cc cd fdt) (I : Inv X pins σ H s) (e : H a = some (exo a C none)) {so : Addr} (hso : s.heap.get? so = some (ks_superObj C a C)) {pl : Sem Bool} {Q : Value × List Value → Shared → Prop}
    (h : ∀ u s', Inv X ((u, kxs_mw "ValueError.__init__" a) :: pins) σ H s' → Q (.ref u, []) s') : wpAny (model X.prog X.w) A (getMethod (.ref so) "__init__" pl) Q E s := by
  have kin := I.kIn
  obtain ⟨ox, IA⟩ := exo_inst I e
  have isV : Looks (model X.prog X.w) s.heap (isInstance (.ref a) (.type "ValueError")) true := IA.type.andThen (looks_subIn kin F.sub)
  obtain ⟨cD, hD⟩ := F.cls
  have nx := F.next
  unfold ks_superIn at nx
  rw [hD] at nx
  obtain ⟨hp, g, dr, tk, os⟩ := s
  refine kxs_getMethod kxs_ValueError hso (looks_opaque kin F.opq) (l₀ := cD.mro) (fun A Q E s k q => wpAny_bind ((looks_clsIn kin hD) A _ E s k (wpAny_pure q))) rfl kin nx isV (ks_ne kin IA hD) (by decide) ?_
  exact h _ _ (ClX.pin_new (t' := tk + 1) I (fun b o z => Heap.get?_push_of_some _ z) (Nat.le_refl _) (Heap.get?_push_at rfl rfl) (fun v z => by cases z))
/-- .. called -/
theorem sup_call (F : SupF X.K X.prog C f cc cd fdt) (I : Inv X pins σ H s) (e : H a = some (exo a C none)) {u : Addr} (hu : s.heap.get? u = some (kxs_mw "ValueError.__init__" a)) {us : List Value} (hz : us.length ≤ sizeLine) {Q : Value → Shared → Prop}
    (h : ∀ s', Inv X pins σ H s' → Q .none s') : wpAny (model X.prog X.w) A (call (.ref u) us) Q E s := by
  obtain ⟨nm, q, N, bs, bm, sn, sub, ab, col, dd, k0, k1, k2, k3, k5, hC, hbm⟩ := F.oex.cls
  obtain ⟨t1, ho⟩ := exo_at I.hok e
  have hC' := I.kIn _ _ hC
  obtain ⟨hp, g, dr, tk, os⟩ := s
  refine wpAny_call (codeAny_of_tree ?_)
  show wpAny _ A.in1 (callAny (.ref u) ⟨us, []⟩) _ _ _
  simp only [callAny]
  refine wpAny_bind (wpAny_load hu ?_)
  have hor : (Value.type "method-wrapper" == Value.type "method" || Value.type "method-wrapper" == Value.type "builtin_function_or_method" || Value.type "method-wrapper" == Value.type "method-wrapper") = true := by decide
  simp only [kxs_mw, hor, if_true]
  refine KFB.if_so (by decide) (wpAny_bind (check_bound_init PySem.F.excBase_ValueError.toExcCallFacts hC' ho rfl (wpAny_bind (wpAny_pure (wpAny_pure ⟨plainId_quiet PySem.F.excBase_ValueError.init.plain _, codeAny_builtin PySem.F.excBase_ValueError.initEntry ?_⟩)))))
  refine exc_init_tree (cls := .ref C) (t0 := t1) (dv := none) (c2 := .none) (c3 := .none) (b4 := .bool false) ho hz fun h' kk he _ => ?_
  have J := I.write (t' := tk) (x := a) (e := a) (o := exo a C none) (by rw [e]; exact True.intro) (.inl rfl) kk ⟨_, he⟩ (exo_ok he)
  have eu : upd H a (exo a C none) = H := by
    funext b
    by_cases hb : b = a
    · subst hb; rw [upd_same]; exact e.symm
    · exact upd_ne hb
  rw [eu] at J
  exact h _ J
/-- the statement super().__init__(e, ..) -/
theorem sup_stmt (F : SupF X.K X.prog C f cc cd fdt) (I : Inv X pins σ H s) (e : H a = some (exo a C none)) {body : List Stmt} {p0 p1 p2 pos pos' : Pos} {ar : Arg} {e1 : Expr} {es : List Expr} {tA : TA} {Q : Flow → Shared → Prop} {pl : Sem Bool}
    (hfu : X.env.func = some f) (hco : X.env.code = .ref cd) (hcl : X.env.cells.lookup ("__class__" : Str) = some cc) (hp : (fdt.params.posonlyargs ++ fdt.params.args).head? = some ar)
    (hks : X.env.kindOf "super" = some .globalImplicit) (hkc : X.env.kindOf "__class__" = some .free) (hself : ∀ Q : Value → Shared → Prop, Q (.ref a) s → wpAny (model X.prog X.w) X.A (loadName X.env ar.arg) Q X.xe s)
    (ha : PA X (e1 :: es) tA) (hA : tA σ H fun vs H1 => vs.length ≤ 1000 ∧ H1 a = some (exo a C none) ∧ ∀ s', Inv X pins σ H1 s' → Q .next s')
    (hc : eval (.Call (.Attribute (.Call (.Name "super" p0) [] [] p1) "__init__" p2) (e1 :: es) [] pos) X.env = (do
      let ov ← attributeBase (.Call (.Name "super" p0) [] [] p1) "__init__" X.env (eval (.Call (.Name "super" p0) [] [] p1) X.env)
      standAt p2.atName
      let (g, first) ← holding [ov] (getMethod ov "__init__" pl)
      callWith pos g first (backTo pos (starEach (e1 :: es) X.env)) []) := by rfl)
    (hi : interactive X.env = false := by rfl) (hs : swapsWith (.Call (.Attribute (.Call (.Name "super" p0) [] [] p1) "__init__" p2) (e1 :: es) [] pos) none pos'.line X.env = pure false := by rfl)
    (he : starEach (e1 :: es) X.env = (false, eval e1 X.env) :: starEach es X.env := by rfl) (hpl : (backTo pos (starEach es X.env)).any (·.1) = false := by rfl) :
    _root_.PySem.wpAt (model X.prog X.w) X.A (.func body X.env) (exec (.Expr (.Call (.Attribute (.Call (.Name "super" p0) [] [] p1) "__init__" p2) (e1 :: es) [] pos) pos') X.env) Q X.xe s := by
  refine ks_wpAt_Expr_any (ks_wpAt_MethodCall (sup_base F I e hfu hco hcl hp hks hkc hself fun so s1 I1 => ?_) hc) hi hs
  refine sup_meth F I1 e (ClX.pin_at I1) fun u s2 I2 => ?_
  show wpAny _ _ (callWith pos (.ref u) [] (backTo pos (starEach (e1 :: es) X.env)) []) _ _ _
  have run := thn (ha.run pos _ s2 σ H _ I2 hA) fun us s3 ⟨vs, H1, I3, r1, hl, e3, q⟩ =>
    (show KxsAt "ValueError.__init__" u a s3.heap ∧ wpAny (model X.prog X.w) X.A (call (.ref u) us) (fun _ => Q .next) X.xe s3 from
      ⟨ClX.pin_at I3, sup_call F I3 e3 (ClX.pin_at I3) (by rw [← Paired.length r1, sizeLine_eq]; omega) fun s4 I4 => q s4 (ClX.unpin (ClX.unpin I4))⟩)
  rw [he] at run ⊢
  refine kxs_callWith (i := "ValueError.__init__") (x := a) (by show (false || (backTo pos (starEach es X.env)).any (·.1)) = false; rw [hpl]; rfl) ?_
  exact evalArgs_plain run
end
section
variable {P : Program} {w : World} {K : Frag} {mg : Str → Option Value} {base : Heap} {CXt : CXT} {N ps : List Str} {nm qual : Str} {params : Arguments} {rest : List Stmt} {sc : Scope} {C f cc cd : Addr} {dV kV doc pm ct : Value} {an : Option Addr} {k : Nat} {sp : Sp}
  {p0 p1 p2 pos pos' : Pos} {e1 : Expr} {es : List Expr}
/-- the text of such an __init__ -/
abbrev supSt (p0 p1 p2 pos pos' : Pos) (e1 : Expr) (es : List Expr) : Stmt := .Expr (.Call (.Attribute (.Call (.Name "super" p0) [] [] p1) "__init__" p2) (e1 :: es) [] pos) pos'
abbrev nfS (nm qual : Str) (params : Arguments) (body : List Stmt) (sc : Scope) (cc cd : Addr) : NdefX.NF := ⟨nm, qual, params, body, sc, [("__class__", cc)], cd⟩
/-- THE RULE for it: the super call first, then the rest -/
theorem sinit_ok (F : SupF K P C f cc cd (fnX nm qual params (supSt p0 p1 p2 pos pos' e1 es :: rest) sc [("__class__", cc)] dV kV doc pm an (.ref cd) ct)) (S : NdefX.NScope N ps ["__class__"] sc) (hcd : codeIn K (.ref cd) qual = true) {ar : Arg} {pr : List Str}
    (hp : (params.posonlyargs ++ params.args).head? = some ar) (hps : ps = ar.arg :: pr) (hsup : sc.names.lookup ("super" : Str) = some .globalImplicit)
    (len : ∀ vs H Q E, sp vs H Q E → vs.length = ps.length)
    (hbody : ∀ (A : Around) (outer : List Env) (s : Shared) (H : Hp) (vs : List V) (Q : VK) (E : XK), sp vs H Q E →
      ∃ (a : Addr) (ws : List V) (tA : TA) (t : TS), (∀ (σ : L2.St) (H0 : Hp) (Q1 Q2 : List V → Hp → Prop), tA σ H0 Q1 → (∀ us H1, Q1 us H1 → Q2 us H1) → tA σ H0 Q2) ∧ vs = .ref a :: ws ∧ H a = some (exo a C none) ∧
        PA (NdefX.ncx CXt P w K mg base N (nfS nm qual params (supSt p0 p1 p2 pos pos' e1 es :: rest) sc cc cd) f A outer s H E) (e1 :: es) tA ∧
        PSs (NdefX.ncx CXt P w K mg base N (nfS nm qual params (supSt p0 p1 p2 pos pos' e1 es :: rest) sc cc cd) f A outer s H E) rest t ∧
        tA (NdefX.startF N vs [none]) H fun us H1 => us.length ≤ 1000 ∧ H1 a = some (exo a C none) ∧ t { nx := fun _ H' => Q .non H', rt := Q } (NdefX.startF N vs [none]) H1)
    (hcall : ∀ env : Env, env.scope = sc → ∃ pl : Sem Bool, eval (.Call (.Attribute (.Call (.Name "super" p0) [] [] p1) "__init__" p2) (e1 :: es) [] pos) env = (do
      let ov ← attributeBase (.Call (.Name "super" p0) [] [] p1) "__init__" env (eval (.Call (.Name "super" p0) [] [] p1) env)
      standAt p2.atName
      let (g, first) ← holding [ov] (getMethod ov "__init__" pl)
      callWith pos g first (backTo pos (starEach (e1 :: es) env)) []))
    (hint : ∀ env : Env, env.scope = sc → interactive env = false)
    (hsw : ∀ env : Env, env.scope = sc → swapsWith (.Call (.Attribute (.Call (.Name "super" p0) [] [] p1) "__init__" p2) (e1 :: es) [] pos) none pos'.line env = pure false)
    (hst : ∀ env : Env, starEach (e1 :: es) env = (false, eval e1 env) :: starEach es env) (hpl : ∀ env : Env, (backTo pos (starEach es env)).any (·.1) = false) :
    FnOk P w K mg base CXt (k + 1) f (fnX nm qual params (supSt p0 p1 p2 pos pos' e1 es :: rest) sc [("__class__", cc)] dV kV doc pm an (.ref cd) ct) ps sp := by
  refine ⟨len, fun A outer s H args us vs Q E hr e0 hb r hsp => ?_⟩
  have hl := len _ _ _ _ hsp
  have KX : K.In s.heap := e0.mod.kin.keeps fun b o e => (e0.bs b o e).1
  have lim : s.heap.NoLimit := e0.mod.nolimit.keeps fun b o e => (e0.bs b o e).1
  obtain ⟨oc, od, osl, lk⟩ := F.fn
  obtain ⟨cl, cld, csl, hcell⟩ := F.cell
  have hcb := e0.bs _ _ (e0.mod.kin _ _ hcell)
  have hCA : NdefX.CellsAt [("__class__", cc)] ["__class__"] [none] s.heap H := by
    refine ⟨rfl, fun y c z => ?_, fun x y c h1 h2 => ?_, fun i y h => ?_⟩
    · have : c = cc := by
        rw [List.lookup_cons] at z
        split at z
        · cases z; rfl
        · cases z
      subst this
      exact ⟨hcb.2, _, _, hcb.1, rfl⟩
    · have key : ∀ z : Str, List.lookup z [(("__class__" : Str), cc)] = some c → z = "__class__" := fun z hz => by
        rw [List.lookup_cons] at hz
        split at hz
        · rename_i q; exact beq_iff_eq.mp q
        · cases hz
      rw [key x h1, key y h2]
    · cases i with
      | zero =>
        simp at h
        subst h
        exact ⟨cc, by simp [List.lookup], fun v hv => by simp at hv⟩
      | succ i => simp at h
  obtain ⟨a, ws, tA, t, hmon, rfl, ha, hA, hT, hq⟩ := hbody A outer s H vs Q E hsp
  refine ks_codeAny_call_defAt (fd := fnX nm qual params (supSt p0 p1 p2 pos pos' e1 es :: rest) sc [("__class__", cc)] dV kV doc pm an (.ref cd) ct) (body := supSt p0 p1 p2 pos pos' e1 es :: rest) (binds := ps.zip us) hr.depth (KX _ _ lk) rfl lim (codeRec_of KX hcd) rfl hb S.nocell
    (fun ⟨n, _⟩ hy => S.par n (List.of_mem_zip hy).1) (fun h₁ hns kp => ?_) S.co S.gen S.kind
  have I : L2.Inv (NdefX.ncx CXt P w K mg base N (nfS nm qual params (supSt p0 p1 p2 pos pos' e1 es :: rest) sc cc cd) f A outer s H E) [] (NdefX.startF N (.ref a :: ws) [none]) H { s with heap := h₁, toks := s.toks + (ps.zip us).length } :=
    NdefX.inv_startN S hr.hd e0 hl r hCA hns kp
  cases r with
  | @cons _ u0 _ ur r1 rw' =>
    obtain rfl : u0 = Value.ref a := r1
    have hlk : (ps.zip (Value.ref a :: ur)).reverse.lookup ar.arg = some (.ref a) := by
      have ndP : ps.Nodup := by
        have q := S.nd.sublist (List.take_sublist (ps.length + (["__class__"] : List Str).length) N)
        rw [S.pre] at q
        exact (List.nodup_append.mp q).1
      exact NdefX.zip_look (i := 0) ndP (by rw [hps]; rfl) rfl
    have hla : sc.names.lookup ar.arg = some .local := S.par _ (by rw [hps]; exact List.mem_cons_self)
    have hcf : sc.names.lookup ("__class__" : Str) = some .free := S.frk _ List.mem_cons_self
    obtain ⟨pl, hc⟩ := hcall (NdefX.ncx CXt P w K mg base N (nfS nm qual params (supSt p0 p1 p2 pos pos' e1 es :: rest) sc cc cd) f A outer s H E).env rfl
    have fin : ∀ {σ' : L2.St} {H' : Hp} {v : V} {u : Value} {s' : Shared}, L2.Inv (NdefX.ncx CXt P w K mg base N (nfS nm qual params (supSt p0 p1 p2 pos pos' e1 es :: rest) sc cc cd) f A outer s H E) [] σ' H' s' → RelV v u → Q v H' → CE outer P w H s Q u s' :=
      fun {σ' H' v u s'} J rv q => ⟨v, H', J.os, J.bare, J.base, J.hok, rv, q⟩
    refine ks_wpAt_execs_cons (sup_stmt (X := NdefX.ncx CXt P w K mg base N (nfS nm qual params (supSt p0 p1 p2 pos pos' e1 es :: rest) sc cc cd) f A outer s H E) (fdt := fnX nm qual params (supSt p0 p1 p2 pos pos' e1 es :: rest) sc [("__class__", cc)] dV kV doc pm an (.ref cd) ct) F I ha rfl rfl rfl hp hsup hcf (fun Q' q => ?_) hA (hmon _ _ _ _ hq fun us H1 ⟨z1, z2, z3⟩ => ⟨z1, z2, fun s' J => ?_⟩) hc (hint _ rfl) (hsw _ rfl) (hst _) (hpl _))
    · exact wpAny_loadName_local S.kind hla hns hlk q
    · refine wpAt_of_wpAny (wpAny_mono (hT.run [] s' _ H1 _ J z3) (fun fl s2 hs => ?_) fun e s2 hs => hs)
      cases fl with
      | ret u =>
        obtain ⟨v, σ', H', J', rv, q⟩ := hs
        exact fin J' rv q
      | next =>
        obtain ⟨σ', H', J', q⟩ := hs
        exact fin (v := V.non) (u := Value.none) J' rfl q
      | brk =>
        obtain ⟨_, _, _, q⟩ := hs
        exact False.elim q
      | cont =>
        obtain ⟨_, _, _, q⟩ := hs
        exact False.elim q
end
end G

/-! ## EX2 -/
set_option Elab.async false
set_option linter.all false
set_option maxRecDepth 100000
set_option maxHeartbeats 4000000
namespace G
open PySem PySem.Spec PyProof.Rows L2 PySem.W PySem.Calls
/-! ### the own __init__ with one field, with two; such an error made -/
/-- what __init__ promises: the fields ns hold what was given -/
def spI (C : Addr) (ns : List Str) : Sp := fun vs H Q _ => ∃ (a : Addr) (ys : List V), vs = .ref a :: ys ∧ ys.length = ns.length ∧ H a = some (exo a C none) ∧
  ∀ d, H d = none → d ≠ a → Q .non (upd (upd H d (exd d (ns.zip ys).reverse)) a (exo a C (some d)))
section
variable {P : Program} {w : World} {K : Frag} {mg : Str → Option Value} {base : Heap} {CXt : CXT} {N : List Str} {nm qual sl x y fx fy : Str} {params : Arguments} {sc : Scope} {C f cc cd : Addr} {dV kV doc pm ct : Value} {an : Option Addr} {k : Nat}
  {p0 p1 p2 pos pos' q1 q2 q3 q4 q5 r1 r2 r3 r4 r5 : Pos} {ar : Arg}
theorem tcons_mon {i : Nat} {t : TA} (h : ∀ (σ : L2.St) (H0 : Hp) (Q1 Q2 : List V → Hp → Prop), t σ H0 Q1 → (∀ us H1, Q1 us H1 → Q2 us H1) → t σ H0 Q2) :
    ∀ (σ : L2.St) (H0 : Hp) (Q1 Q2 : List V → Hp → Prop), tCons (tVar i) t σ H0 Q1 → (∀ us H1, Q1 us H1 → Q2 us H1) → tCons (tVar i) t σ H0 Q2 := fun σ H0 Q1 Q2 ⟨v, e, q⟩ hq => ⟨v, e, h _ _ _ _ q fun us H1 z => hq _ _ z⟩
theorem sinit1 (F : SupF K P C f cc cd (fnX nm qual params [supSt p0 p1 p2 pos pos' (.Name x q1) [], .Assign [.Attribute (.Name sl q2) fx q3] (.Name x q4) q5] sc [("__class__", cc)] dV kV doc pm an (.ref cd) ct)) (S : NdefX.NScope N [sl, x] ["__class__"] sc) (hcd : codeIn K (.ref cd) qual = true)
    (hp : (params.posonlyargs ++ params.args).head? = some ar) (har : ar.arg = sl) (hsup : sc.names.lookup ("super" : Str) = some .globalImplicit) (hno1 : findIn K (.ref C) fx = some none)
    (d1 : (x == ("__debug__" : Str)) = false) (d2 : (x == ("__classdict__" : Str)) = false) (e1 : (sl == ("__debug__" : Str)) = false) (e2 : (sl == ("__classdict__" : Str)) = false)
    (hcall : ∀ env : Env, env.scope = sc → ∃ pl : Sem Bool, eval (.Call (.Attribute (.Call (.Name "super" p0) [] [] p1) "__init__" p2) [.Name x q1] [] pos) env = (do
      let ov ← attributeBase (.Call (.Name "super" p0) [] [] p1) "__init__" env (eval (.Call (.Name "super" p0) [] [] p1) env)
      standAt p2.atName
      let (g, first) ← holding [ov] (getMethod ov "__init__" pl)
      callWith pos g first (backTo pos (starEach [.Name x q1] env)) []))
    (hint : ∀ env : Env, env.scope = sc → interactive env = false) (hsw : ∀ env : Env, env.scope = sc → swapsWith (.Call (.Attribute (.Call (.Name "super" p0) [] [] p1) "__init__" p2) [.Name x q1] [] pos) none pos'.line env = pure false)
    (hs1 : ∀ env : Env, env.scope = sc → swapsWith (.Name x q4) (some (.Attribute (.Name sl q2) fx q3)) q5.line env = pure false) :
    FnOk P w K mg base CXt (k + 1) f (fnX nm qual params [supSt p0 p1 p2 pos pos' (.Name x q1) [], .Assign [.Attribute (.Name sl q2) fx q3] (.Name x q4) q5] sc [("__class__", cc)] dV kV doc pm an (.ref cd) ct) [sl, x] (spI C [fx]) := by
  have hN : ∀ i : Nat, i < 3 → N[i]? = (([sl, x] : List Str) ++ (["__class__"] : List Str))[i]? := fun i hi => by
    have h := S.pre
    rw [← h, List.getElem?_take_of_lt (by exact hi)]
  have hN0 := hN 0 (by decide)
  have hN1 := hN 1 (by decide)
  refine sinit_ok F S hcd hp (pr := [x]) (by rw [har]) hsup (fun vs H Q E ⟨a, ys, e, l, _⟩ => by rw [e, List.length_cons, l]; rfl) (fun A outer s H vs Q E ⟨a, ys, e, l, ha, hq⟩ => ?_) hcall hint hsw (fun env => rfl) (fun env => rfl)
  obtain ⟨y1, rfl⟩ : ∃ y1, ys = [y1] := by
    match ys, l with
    | [y1], _ => exact ⟨y1, rfl⟩
  subst e
  refine ⟨a, [y1], (tCons (tVar 1) tNil), _, (tcons_mon (t := tNil) (fun _ _ _ _ q hq => hq _ _ q)), rfl, ha, (pa_cons (pe_var (i := 1) hN1 (.inl (S.par x (by simp))) d1 d2) pa_nil), (pss_one (ps_ost (pe_var (i := 0) hN0 (.inl (S.par sl (by simp))) e1 e2) (pe_var (i := 1) hN1 (.inl (S.par x (by simp))) d1 d2) (hs1 _ rfl))), ?_⟩
  refine ⟨y1, rfl, by simp, ha, ?_⟩
  exact ⟨y1, rfl, .ref a, rfl, a, C, rfl, F.oex, hno1, .inl ⟨ha, fun dx h1 h2 => hq dx h1 h2⟩⟩
theorem sinit2 (F : SupF K P C f cc cd (fnX nm qual params [supSt p0 p1 p2 pos pos' (.Name x q1) [.Name y r1], .Assign [.Attribute (.Name sl q2) fx q3] (.Name x q4) q5, .Assign [.Attribute (.Name sl r2) fy r3] (.Name y r4) r5] sc [("__class__", cc)] dV kV doc pm an (.ref cd) ct)) (S : NdefX.NScope N [sl, x, y] ["__class__"] sc) (hcd : codeIn K (.ref cd) qual = true)
    (hp : (params.posonlyargs ++ params.args).head? = some ar) (har : ar.arg = sl) (hsup : sc.names.lookup ("super" : Str) = some .globalImplicit) (hno1 : findIn K (.ref C) fx = some none) (hno2 : findIn K (.ref C) fy = some none)
    (d1 : (x == ("__debug__" : Str)) = false) (d2 : (x == ("__classdict__" : Str)) = false) (d3 : (y == ("__debug__" : Str)) = false) (d4 : (y == ("__classdict__" : Str)) = false) (e1 : (sl == ("__debug__" : Str)) = false) (e2 : (sl == ("__classdict__" : Str)) = false)
    (hcall : ∀ env : Env, env.scope = sc → ∃ pl : Sem Bool, eval (.Call (.Attribute (.Call (.Name "super" p0) [] [] p1) "__init__" p2) [.Name x q1, .Name y r1] [] pos) env = (do
      let ov ← attributeBase (.Call (.Name "super" p0) [] [] p1) "__init__" env (eval (.Call (.Name "super" p0) [] [] p1) env)
      standAt p2.atName
      let (g, first) ← holding [ov] (getMethod ov "__init__" pl)
      callWith pos g first (backTo pos (starEach [.Name x q1, .Name y r1] env)) []))
    (hint : ∀ env : Env, env.scope = sc → interactive env = false) (hsw : ∀ env : Env, env.scope = sc → swapsWith (.Call (.Attribute (.Call (.Name "super" p0) [] [] p1) "__init__" p2) [.Name x q1, .Name y r1] [] pos) none pos'.line env = pure false)
    (hs1 : ∀ env : Env, env.scope = sc → swapsWith (.Name x q4) (some (.Attribute (.Name sl q2) fx q3)) q5.line env = pure false) (hs2 : ∀ env : Env, env.scope = sc → swapsWith (.Name y r4) (some (.Attribute (.Name sl r2) fy r3)) r5.line env = pure false) :
    FnOk P w K mg base CXt (k + 1) f (fnX nm qual params [supSt p0 p1 p2 pos pos' (.Name x q1) [.Name y r1], .Assign [.Attribute (.Name sl q2) fx q3] (.Name x q4) q5, .Assign [.Attribute (.Name sl r2) fy r3] (.Name y r4) r5] sc [("__class__", cc)] dV kV doc pm an (.ref cd) ct) [sl, x, y] (spI C [fx, fy]) := by
  have hN : ∀ i : Nat, i < 4 → N[i]? = (([sl, x, y] : List Str) ++ (["__class__"] : List Str))[i]? := fun i hi => by
    have h := S.pre
    rw [← h, List.getElem?_take_of_lt (by exact hi)]
  have hN0 := hN 0 (by decide)
  have hN1 := hN 1 (by decide)
  have hN2 := hN 2 (by decide)
  refine sinit_ok F S hcd hp (pr := [x, y]) (by rw [har]) hsup (fun vs H Q E ⟨a, ys, e, l, _⟩ => by rw [e, List.length_cons, l]; rfl) (fun A outer s H vs Q E ⟨a, ys, e, l, ha, hq⟩ => ?_) hcall hint hsw (fun env => rfl) (fun env => rfl)
  obtain ⟨y1, y2, rfl⟩ : ∃ y1 y2, ys = [y1, y2] := by
    match ys, l with
    | [y1, y2], _ => exact ⟨y1, y2, rfl⟩
  subst e
  refine ⟨a, [y1, y2], (tCons (tVar 1) (tCons (tVar 2) tNil)), _, (tcons_mon (t := (tCons (tVar 2) tNil)) (tcons_mon (t := tNil) (fun _ _ _ _ q hq => hq _ _ q))), rfl, ha, (pa_cons (pe_var (i := 1) hN1 (.inl (S.par x (by simp))) d1 d2) (pa_cons (pe_var (i := 2) hN2 (.inl (S.par y (by simp))) d3 d4) pa_nil)), (pss_cons (ps_ost (pe_var (i := 0) hN0 (.inl (S.par sl (by simp))) e1 e2) (pe_var (i := 1) hN1 (.inl (S.par x (by simp))) d1 d2) (hs1 _ rfl)) (pss_one (ps_ost (pe_var (i := 0) hN0 (.inl (S.par sl (by simp))) e1 e2) (pe_var (i := 2) hN2 (.inl (S.par y (by simp))) d3 d4) (hs2 _ rfl)))), ?_⟩
  refine ⟨y1, rfl, y2, rfl, by simp, ha, ?_⟩
  refine ⟨y1, rfl, .ref a, rfl, a, C, rfl, F.oex, hno1, .inl ⟨ha, fun dx h1 h2 => ?_⟩⟩
  refine ⟨y2, rfl, .ref a, rfl, a, C, rfl, F.oex, hno2, .inr ⟨dx, [(fx, y1)], upd_same, (upd_ne h2).trans upd_same, by simp, ?_⟩⟩
  have e3 : upd (upd (upd H dx (exd dx [(fx, y1)])) a (exo a C (some dx))) dx (exd dx [(fy, y2), (fx, y1)]) = upd (upd H dx (exd dx [(fy, y2), (fx, y1)])) a (exo a C (some dx)) := by
    funext b
    by_cases hb : b = dx
    · subst hb; rw [upd_same, upd_ne h2, upd_same]
    · rw [upd_ne hb]
      by_cases hc : b = a
      · subst hc; rw [upd_same, upd_same]
      · rw [upd_ne hc, upd_ne hc, upd_ne hb, upd_ne hb]
  rw [e3]
  exact hq dx h1 h2
end
/-! ### such an error made -/
/-- C(e, ..): a new dict holds the fields -/
def tMkX (C : Addr) (ns : List Str) (ta : TA) : L2.St → Hp → XK → Prop := fun σ H Q => ta σ H fun vs H1 => vs.length = ns.length ∧ ∀ d, H1 d = none → Q (.ref C) (some d) (upd H1 d (.xd (ns.zip vs).reverse))
theorem pmk_sx {X : Cx} {CXt : CXT} {x : Str} {C fI : Addr} {k : Nat} {fd : FuncData} {ps ns : List Str} {e : Expr} {es : List Expr} {ta : TA} {p pos : Pos} (T : OexC X.K C) (iC : findIn X.K (.ref C) "__init__" = some (some (.ref fI))) (tI : typeIn X.K (.ref fI) = some (.type "function"))
    (F1 : FnOk X.prog X.w X.K X.mg X.base CXt k fI fd ps (spI C ns)) (hr : Room (k + 1) X.A) (hb : Binds X.K fd ps []) (hx : Passes CXt X (fun _ _ _ => False)) (hg : Gl X x) (hm : X.mg x = some (.ref C)) (hns : ns.length ≤ 900) (ha : PA X (e :: es) ta)
    (hmon : ∀ (σ : L2.St) (H0 : Hp) (Q1 Q2 : List V → Hp → Prop), ta σ H0 Q1 → (∀ us H1, Q1 us H1 → Q2 us H1) → ta σ H0 Q2)
    (hdb : (x == ("__debug__" : Str)) = false) (he : starEach (e :: es) X.env = (false, eval e X.env) :: starEach es X.env) (hpl : (backTo pos (starEach es X.env)).any (·.1) = false) :
    PMk X (.Call (.Name x p) (e :: es) [] pos) (tMkX C ns ta) := fun pins s σ H Q I h =>
  pmk_oex (ds := []) (dvs := []) T iC tI F1 hr hb .nil hx hg hm ha hdb he hpl pins s σ H Q I (hmon σ H _ _ h fun vs H1 ⟨hl, hq⟩ => ⟨by omega, fun a hn => ⟨a, vs, by rw [List.append_nil], hl, upd_same, fun d hd ne => ⟨rfl, d, (ns.zip vs).reverse, upd_same, (upd_ne ne).trans upd_same, by rw [upd_ne ne] at hd; exact hd, by
    have hd' : H1 d = none := by rw [upd_ne ne] at hd; exact hd
    have e : upd (del (upd (upd (upd H1 a (exo a C none)) d (exd d (ns.zip vs).reverse)) a (exo a C (some d))) a) d (.xd (ns.zip vs).reverse) = upd H1 d (.xd (ns.zip vs).reverse) := by
      funext b
      by_cases hb : b = d
      · subst hb; rw [upd_same, upd_same]
      · rw [upd_ne hb, upd_ne hb]
        by_cases hc : b = a
        · subst hc; rw [del_same, hn]
        · rw [del_ne hc, upd_ne hc, upd_ne hb, upd_ne hc]
    rw [e]
    exact hq d hd'⟩⟩⟩)
end G

/-! ## EX3 -/
set_option Elab.async false
set_option linter.all false
set_option maxRecDepth 100000
set_option maxHeartbeats 4000000
namespace G
open PySem PySem.Spec PyProof.Rows L2 PySem.W PySem.Calls
/-! ### try .. except, clauses with and without a name, whose suites hand back -/
abbrev Cl := Value × Option Nat × (Addr → Value → Option Addr → TS)
/-- the state within the suite -/
def stI (σ : L2.St) (a : Addr) : Option Nat → L2.St
  | none => σ
  | some i => σ.set i (some (.ref a))
/-- what the clauses wish of an error of the body -/
def wG (K : Frag) (Wo : WX) (D : Ends) : List Cl → WX
  | [] => Wo
  | (c, oi, ts) :: r => fun cls d σ H => (exmOne K cls c = some true ∧ ∀ a, H a = none → ts a cls d { nx := fun _ _ => False, rt := D.rt } (stI σ a oi) H) ∨ (exmOne K cls c = some false ∧ wG K Wo D r cls d σ H)
/-- the name that a clause gives -/
def NameI (X : Cx) (on : Option Str) (oi : Option Nat) : Prop := match on, oi with
  | none, none => True
  | some n, some i => X.N[i]? = some n ∧ X.env.kindOf n = some .local
  | _, _ => False
inductive ClsOk (X : Cx) : List ExceptHandler → List Cl → Prop
  | nil : ClsOk X [] []
  | cons {x : Str} {on : Option Str} {oi : Option Nat} {c : Value} {ts : Addr → Value → Option Addr → TS} {b₀ : Stmt} {suite : List Stmt} {np pp : Pos} {hds : List ExceptHandler} {l : List Cl} (hc : Names X x c) (hn : NameI X on oi)
      (hs : ∀ (a : Addr) (oe : Obj) (cls : Value) (d : Option Addr) (pn : List (Addr × Obj)), Zc cls d oe → (∃ vs, oe.data = .fields vs) → PSs (X.suite a ((a, oe) :: pn)) (b₀ :: suite) (ts a cls d)) (r : ClsOk X hds l) :
      ClsOk X (.ExceptHandler (some (.Name x np)) on (b₀ :: suite) pp :: hds) ((c, oi, ts) :: l)
section
variable {X : Cx} {body : List Stmt} {h₀ : ExceptHandler} {hds : List ExceptHandler} {l : List Cl} {pos : Pos} {tb : WX → TS} {Wo : WX}
/-- the end of a suite that hands back -/
theorem suite_ret {pins : List (Addr × Obj)} {a : Addr} {oe : Obj} {D : Ends} {f : Flow} {s : Shared} (ok : X.Ok) (h : SP (X.suite a ((a, oe) :: (X.pn ++ pins))) [] { nx := fun _ _ => False, rt := D.rt } f s) :
    ∃ u v σ' H', f = .ret u ∧ L2.Inv (X.suite a ((a, oe) :: (X.pn ++ pins))) [] σ' H' s ∧ RelV v u ∧ D.rt v H' := by
  cases f with
  | next => obtain ⟨_, _, _, z⟩ := h; exact z.elim
  | brk => obtain ⟨_, _, _, z⟩ := h; exact z.elim
  | cont => obtain ⟨_, _, _, z⟩ := h; exact z.elim
  | ret u => obtain ⟨v, σ', H', J, r, q⟩ := h; exact ⟨u, v, σ', H', rfl, J, r, q⟩
theorem ps_try_g (hs : X.stack = X.env :: X.outer) (hf : X.env.frame = some X.env.locals) (hN : X.N.Nodup) (tk : Takes X Wo)
    (hb : ∀ (W : WX) (pn : List (Addr × Obj)) (xe : Value → Shared → Prop), Takes (X.tr pn xe) W → PassesOwn (model X.prog X.w) X.A X.env xe → PSs (X.tr pn xe) body (tb W))
    (hh : ClsOk X (h₀ :: hds) l) : PS X (.Try body (h₀ :: hds) [] [] pos) (fun D σ H => tb (wG X.K Wo D l) D σ H) := by
  refine ⟨fun pins s σ H D I h => wpAny_Try_except ?_⟩
  have ok := I.ok
  have hfr : X.A.frames = some (X.env :: X.outer) := ok.frames.trans (by rw [hs])
  have xe : Value → Shared → Prop := X.xe
  have run := hb (wG X.K Wo D l) (X.pn ++ pins) (fun e s₁ => wpAny (model X.prog X.w) X.A (noteFrame e X.env) (fun _ s₂ => wpAny (model X.prog X.w) X.A (setFlight e none) (fun _ s₃ =>
    wpAny (model X.prog X.w) X.A (handleBy e X.env (h₀ :: hds)) (SP X pins D) X.xe s₃) X.xe s₂) X.xe s₁)
  refine wpAny_mono ((run (fun u s' xx => ?_) PassesOwn.looking).run [] s σ H D (I.toTry _) h) (fun f s1 hsp => ?_) fun e s1 z => z
  case refine_2 =>
    cases f with
    | next => obtain ⟨σ', H', J, q⟩ := hsp; exact wpAny_execs_nil ⟨σ', H', J.ofTry ok, q⟩
    | brk => obtain ⟨σ', H', J, q⟩ := hsp; exact ⟨σ', H', J.ofTry ok, q⟩
    | cont => obtain ⟨σ', H', J, q⟩ := hsp; exact ⟨σ', H', J.ofTry ok, q⟩
    | ret u => obtain ⟨v, σ', H', J, r, q⟩ := hsp; exact ⟨v, σ', H', J.ofTry ok, r, q⟩
  obtain ⟨a, B, sI, pins', σ', H', cls, d, rfl, J', nb, up, sky, na, os, ag, w⟩ := xx
  have J : L2.Inv X pins σ' H' sI := J'.ofTry ok
  show wpAny (model X.prog X.w) X.A (noteFrame (.ref a) X.env) _ _ _
  have sky2 : Sky B (X.env :: X.outer) a (Zc cls d) X.env.locals s'.heap := hs ▸ sky
  refine Sky.land Zc.steady hfr hf sky2 fun h3 fl3 up3 => ?_
  have J3 : L2.Inv X pins σ' H' { s' with heap := h3 } := J.landed nb fl3.1 (up.trans up3) os ag
  obtain ⟨oe3, vs3, he3, hz3, hd3⟩ := fl3.there
  have nfr : a ∉ frs (X.env :: X.outer) := fun hm => by
    obtain ⟨_, o2, e2, hnf⟩ := fl3.2.2.1.mem hm
    rw [he3] at e2
    cases e2
    exact hnf _ hd3
  have nL : a ≠ X.env.locals := fun z => nfr (List.mem_filterMap.mpr ⟨X.env, List.mem_cons_self, by rw [hf, z]⟩)
  have nF : a ∉ X.fs := fun hm => by
    obtain ⟨e, he, q⟩ := List.mem_filterMap.mp hm
    exact nfr (List.mem_filterMap.mpr ⟨e, List.mem_cons_of_mem _ he, q⟩)
  have S3 := J3.suite he3 hd3 na nL nF
  suffices go : ∀ {hd' : List ExceptHandler} {l' : List Cl}, ClsOk X hd' l' → wG X.K Wo D l' cls d σ' H' → wpAny (model X.prog X.w) X.A (handleBy (.ref a) X.env hd') (SP X pins D) X.xe { s' with heap := h3 } from go hh w
  intro hd' l' hk
  induction hk with
  | nil =>
    intro w
    refine wpAny_handleBy_nil ?_
    obtain ⟨k1, k2, k3, oe, vs, T, oT, ts', he, hz, hd, h1, hr⟩ := id fl3
    unfold PySem.passOn
    refine wpAny_bind (wpAny_field he hd h1 ?_)
    have nT : ¬ ((Value.ref T == Value.none) = true) := by simp
    rw [if_neg nT]
    have out : wpAny (model X.prog X.w) X.A (setFlight (.ref a) X.env.frame) (fun _ s4 => wpAny (model X.prog X.w) X.A (throw (.ref a) : Sem Flow) (SP X pins D) X.xe s4) X.xe { s' with heap := h3 } := by
      rw [hf]
      refine HandSPX.setFlight_upZ fl3 fun h4 hh4 up4 => wpAny_throw (tk _ _ ⟨a, B, sI, pins, σ', H', cls, d, rfl, J, nb, (up.trans up3).trans up4, .inr (.inr (by rw [hs]; exact hh4)), na, os, ag, w⟩)
    first
      | exact wpAny_bind (wpAny_pure (wpAny_bind out))
      | exact wpAny_bind out
  | @cons x on oi c ts b₀ suite np pp hds2 l2 hc hn hsu r ih =>
    intro w
    refine wpAny_handleBy_cons (codeAny_handlers_test ?_) (by intro q; cases q)
    have LT : Looks (model X.prog X.w) h3 (typeOf (.ref a)) cls := fun A Q E s k q => wpAny_typeOf_ref (k _ _ he3) (by rw [hz3.1]; exact q)
    have test : ∀ {Q : Value → Shared → Prop} {E : Value → Shared → Prop}, Q c { s' with heap := h3 } → wpAny (model X.prog X.w) (X.A.mark (some (.ref a))) (eval (.Name x np) X.env) Q E { s' with heap := h3 } := fun {Q E} q => by
      obtain ⟨hg, hdbg, hm | ⟨hm, hv, hnn⟩⟩ := hc
      · exact ld_glob (X := X.suite a ((a, oe3) :: (X.pn ++ pins))) S3 hg hm q hdbg
      · exact ld_blt (X := X.suite a ((a, oe3) :: (X.pn ++ pins))) S3 hg hm hv q hnn hdbg
    rcases w with ⟨hb1, hyes⟩ | ⟨hb1, hno⟩
    · refine test ((exm_one (M := model X.prog X.w) J3.kIn LT hb1).here ?_)
      cases on with
      | none =>
        cases oi with
        | some i => exact hn.elim
        | none =>
          refine codeAny_handlers_suite (HandSPX.lands_againZ fl3 fun h4 fl4 up4 => ?_)
          have J4 : L2.Inv X pins σ' H' { s' with heap := h4 } := J.landed nb fl4.1 ((up.trans up3).trans up4) os ag
          obtain ⟨oe4, vs4, he4, hz4, hd4⟩ := fl4.there
          refine wpAny_mono ((hsu a oe4 cls d (X.pn ++ pins) hz4 ⟨_, hd4⟩).run [] _ _ H' _ (J4.suite he4 hd4 na nL nF) (hyes a na)) (fun f s6 q6 => ?_) (fun _ _ z => False.elim z)
          obtain ⟨u, v6, σ6, H6, rfl, S6, r6, q⟩ := suite_ret (D := D) ok q6
          exact ⟨_, _, _, S6.unsuite ok, r6, q⟩
      | some n =>
        cases oi with
        | none => exact hn.elim
        | some i =>
          obtain ⟨hi, hln⟩ := hn
          refine codeAny_handlers_suite_as (HandSPX.lands_againZ fl3 fun h4 fl4 up4 => ?_)
          have J4 : L2.Inv X pins σ' H' { s' with heap := h4 } := J.landed nb fl4.1 ((up.trans up3).trans up4) os ag
          obtain ⟨oe4, vs4, he4, hz4, hd4⟩ := fl4.there
          refine store_ok (X := X.suite a ((a, oe4) :: (X.pn ++ pins))) (v := .ref a) (J4.suite he4 hd4 na nL nF) hN hi (.inl hln) rfl (fun s5 S5 => ?_) (.inr hln)
          refine wpAny_mono ((hsu a oe4 cls d (X.pn ++ pins) hz4 ⟨_, hd4⟩).run [] s5 _ H' _ S5 (hyes a na)) (fun f s6 q6 => ?_) (fun _ _ z => False.elim z)
          obtain ⟨u, v6, σ6, H6, rfl, S6, r6, q⟩ := suite_ret (D := D) ok q6
          exact gone_ok (S6.unsuite ok) hN hi hln fun s7 J7 => ⟨_, _, _, J7, r6, q⟩
    · refine test ((exm_one (M := model X.prog X.w) J3.kIn LT hb1).here ?_)
      show wpAny _ X.A (handleBy (.ref a) X.env hds2) _ _ _
      exact ih hno
end
end G

/-! ## EX4 -/

set_option Elab.async false
set_option linter.all false
set_option maxRecDepth 100000
set_option maxHeartbeats 4000000
namespace PySem.W
open PySem PySem.Spec PyProof.Rows PySem.Calls
/-! ### isinstance(e, C) of an error with fields -/
section
variable {K : Frag} {D x : Addr} {ox : Obj} {od : Option Obj} {prog : Program} {w : World} {A : Around} {E : Value → Shared → Prop} {s : Shared}
/-- what the class says, for isinstance -/
structure XKl (K : Frag) (D : Addr) : Prop where
  ga : findIn K (.ref D) "__getattribute__" = some (some (.builtin "BaseException.__getattribute__"))
  gt : findIn K (.ref D) "__getattr__" = some none
  be : subIn K (.ref D) (.type "BaseException") = some true
  hd : hasDictIn K D = true
  cl : findIn K (.ref D) "__class__" = some (some (.builtin "object.__class__"))
  gg : specialIn K (.builtin "object.__class__") "__get__" = some (some (.builtin "getset_descriptor.__get__"))
  tk : takesIn K (.builtin "object.__class__") = some true
  ob : mroIn K D (.type "object") = some true
theorem xk_find (k : XKl K D) : findObj K D od "__class__" = some (.bind (.builtin "getset_descriptor.__get__") (.builtin "object.__class__")) := by
  obtain ⟨cd, hc, _⟩ := any_some k.hd
  unfold findObj
  rw [hc, Option.bind_some, k.cl, Option.bind_some]
  simp [k.gg, k.tk]
theorem xk_class {Q : Option Value → Shared → Prop} (k : XKl K D) (X : K.In s.heap) (I : InstAt s.heap x ox D od) (h : Q (some (.ref D)) { s with toks := s.toks + 1 }) : wpAny (model prog w) A (getAttr? (.ref x) "__class__") Q E s := by
  have hf := xk_find (od := od) k
  obtain ⟨hp, g, d, t, os⟩ := s
  have T0 := I.type (M := model prog w)
  have T1 := looks_findIn (M := model prog w) X k.ga
  have T2 := looks_findIn (M := model prog w) X k.gt
  have T3 := looks_find (M := model prog w) X I hf
  have isB : Looks (model prog w) hp (isInstance (.ref x) (.type "BaseException")) true := T0.andThen (looks_subIn X k.be)
  have n2 : (Value.builtin "BaseException.__getattribute__" == Value.builtin "object.__getattribute__") = false := by decide +kernel
  have n1 : (onTheHeap (Value.ref D) && Value.builtin "BaseException.__getattribute__" == Value.builtin "object.__getattribute__") = false := by rw [n2]; rfl
  have n0 : (false && onTheHeap (Value.builtin "BaseException.__getattribute__")) = false := rfl
  have no := Bool.false_ne_true
  unfold getAttr? getAttrBy? getAttrBy
  refine wpAny_bind (wpAny_mkText (wpAny_bind (wpAny_attempt (wpAny_holding (wpAny_bind (T0.at (wpAny_bind (T1.at ?_))))))))
  show wpAny _ _ (if (onTheHeap (Value.ref D) && Value.builtin "BaseException.__getattribute__" == Value.builtin "object.__getattribute__") = true then _ else _) _ _ _
  rw [n1, if_neg no]
  unfold getAttrByItsOwn hookBefore
  refine wpAny_bind ?_
  rw [if_pos (show onTheHeap (Value.ref D) = true from rfl)]
  refine T2.at (wpAny_bind (wpAny_attempt (wpAny_holding ?_)))
  unfold callGetattribute
  rw [n0, if_neg no]
  unfold boundAndCalled
  rw [PySem.F.excAttr_ValueError.ga.bind (.ref x)]
  refine wpAny_bind (wpAny_pure ?_)
  show wpAny _ _ (call (.builtin "BaseException.__getattribute__") [.ref x, .str "__class__" t]) _ _ _
  refine wpAny_call (codeAny_call_builtin PySem.F.excAttr_ValueError.ga.plain PySem.F.entry_bexc_ga ?_)
  refine @check_slot (model prog w) _ _ ⟨hp, g, d, t + 1, os⟩ "BaseException.__getattribute__" "BaseException" "__getattribute__" (.ref x) [.str "__class__" t] [] _ (by decide +kernel) (by decide +kernel) isB (PySem.F.args_bexc_ga (.ref x) (.str "__class__" t)) ?_
  unfold Builtin.«object.__getattribute__»
  refine wpAny_bind (wpAny_of_eq (a := ((Value.ref x : Value), [Value.str "__class__" t])) (by first | rfl | (simp only [slotArgs]; rfl)) (wpAny_bind (wpAny_pure (wpAny_bind (T0.at (wpAny_bind (T3.at ?_)))))))
  show wpAny _ _ (holding [Value.builtin "object.__class__"] (call (.builtin "getset_descriptor.__get__") [.builtin "object.__class__", .ref x, .ref D]) >>= ret) _ _ _
  refine wpAny_bind (wpAny_holding (wpAny_call (class_get (s := ⟨hp, g, d, t + 1, os⟩) (ox := ox) (od := od) X I k.ob (wpAny_pure ?_))))
  show wpAny _ _ (handedOut (.ref D)) _ _ _
  rw [handedOut_of (v := .ref D) rfl]
  first
    | exact wpAny_pure (wpAny_pure h)
    | exact wpAny_pure h
    | exact wpAny_pure (wpAny_bind (wpAny_pure (wpAny_pure h)))
theorem xk_kit (k : XKl K D) : KitX K (.ref x) (.ref D) (fun h => ∃ od, InstAt h x ox D od) where
  ty := fun _ _ _ ⟨_, I⟩ => I.type
  it := fun _ _ X _ => by
    obtain ⟨cd, hc, _⟩ := any_some k.hd
    unfold clsIn at hc
    split at hc
    · rename_i q1 q2 q3 q4 ho
      intro A' Q' E' s' kk q
      unfold isType loadHead
      exact wpAny_bind (wpAny_loadPart (kk _ _ (X _ _ ho)) (wpAny_pure q))
    · cases hc
  ne := fun h tp dd its n sl X htp => by
    obtain ⟨cd, hc, _⟩ := any_some k.hd
    refine Bool.eq_false_iff.mpr fun q => ?_
    obtain rfl : D = tp := Value.ref.inj (beq_iff_eq.mp q)
    unfold clsIn at hc
    split at hc
    · rename_i q1 q2 q3 q4 ho
      have z := (X _ _ ho).symm.trans htp
      cases z
    · cases hc
  ca := fun X ⟨od, I⟩ q => xk_class k X I q
end
end PySem.W
namespace G
open PySem PySem.Spec PyProof.Rows L2 PySem.W PySem.Calls
/-! ### an error's class: its name, its fields, the classes of clauses above it -/
abbrev ErD := Str × List Str × List Str
/-- for clauses, fields, isinstance -/
def ErF (K : Frag) (mg : Str → Option Value) (fl cs : List Str) (e : ErD) : Prop :=
  ∃ C, mg e.1 = some (.ref C) ∧ XfC K C ∧ XKl K C ∧ (∀ f ∈ fl, findIn K (.ref C) f = some none) ∧
    ∀ c ∈ cs, ∃ C2, mg c = some (.ref C2) ∧ exmOne K (.ref C) (.ref C2) = some (e.2.2.contains c) ∧ kitOne K (.ref C) (.ref C2) = some (e.2.2.contains c)
def CXN : CXT := fun _ _ _ _ _ _ => False
theorem passN {X : Cx} {E : XK} : Passes CXN X E := fun _ _ _ _ _ _ _ h => h.elim
/-- for raise -/
def RaF (P : Program) (w : World) (K : Frag) (mg : Str → Option Value) (base : Heap) (e : ErD) : Prop :=
  ∃ (C fI : Addr) (fd : FuncData) (ps : List Str), mg e.1 = some (.ref C) ∧ OexC K C ∧ findIn K (.ref C) "__init__" = some (some (.ref fI)) ∧ typeIn K (.ref fI) = some (.type "function") ∧
    FnOk P w K mg base CXN 1 fI fd ps (spI C e.2.1) ∧ Binds K fd ps [] ∧ e.2.1.length ≤ 900
end G

/-! ## GS6 -/
set_option Elab.async false
set_option linter.all false
set_option maxRecDepth 100000
set_option maxHeartbeats 4000000
namespace G
open PySem PySem.Spec PyProof.Rows L2

/-! ## the look: is the text what the term says? -/
/-- what is known of the program: names that the module leaves to the built-ins, whether gcd is math's, the defs, the constants -/
structure GI where
  fr : List Str
  gcd : Bool
  P : Prog
  gl : Str → Option D
  kw : Str → List (List Str)
  ers : List ErD
  cls : List Str
/-- all fields of errors -/
def GI.flds (g : GI) : List Str := g.ers.flatMap (·.2.1)
/-- where one stands: the names by slot, the scope, the captured names that may be stored -/
structure Cc where
  N : List Str
  sc : Scope
  fn : Str → Bool
def okN (x : Str) : Bool := !(x == ("__debug__" : Str)) && !(x == ("__classdict__" : Str))
def visB (sc : Scope) (x : Str) : Bool := match sc.names.lookup x with
  | some .local => true
  | some .cell => true
  | some .free => true
  | _ => false
def glB (sc : Scope) (x : Str) : Bool := match sc.names.lookup x with
  | some .globalImplicit => okN x
  | _ => false
def locB (k : Cc) (x : Str) : Bool := match k.sc.names.lookup x with
  | some .local => true
  | some .cell => k.fn x
  | _ => false
def slotB (k : Cc) (i : Nat) (x : Str) : Bool := decide (k.N[i]? = some x) && (visB k.sc x && okN x)
def storeB (k : Cc) (i : Nat) (x : Str) : Bool := decide (k.N[i]? = some x) && locB k x
def freeB (g : GI) (k : Cc) (x : Str) : Bool := g.fr.contains x && glB k.sc x
def cstB : D → Const → Bool
  | .non, .none => true
  | .bl b, .bool c => b == c
  | .int i, .int j => decide (i = j)
  | .str x, .str y => decide (x = y)
  | _, _ => false
def notStar : Expr → Bool
  | .Starred .. => false
  | _ => true
def plainB : Expr → Bool
  | .Call (.Name _ _) [] [] _ => false
  | _ => true
def notSlice : Expr → Bool
  | .Slice .. => false
  | _ => true
def notSet : Expr → Bool
  | .Set .. => false
  | _ => true
mutual
/-- the names that a target stores -/
def tgN : Tg → List Nat
  | .name i => [i]
  | .tup ts => tgNs ts
  | .sub _ _ => []
def tgNs : Tgs → List Nat
  | .nil => []
  | .cons t ts => tgN t ++ tgNs ts
end
/-- the block of a comprehension -/
def blkK (k : Cc) (scope : Scope) : Cc := ⟨k.N, relS scope k.sc, fun x => scope.names.lookup x == some .cell⟩
def ownB (k : Cc) (own : List Nat) : List (Str × Nat) := own.filterMap fun i => (k.N[i]?).map fun x => (x, i)
def biB (g : GI) (k : Cc) (b : Bi) (x : Str) : Bool := match b with
  | .gcd => g.gcd && (decide (x = "gcd") && glB k.sc x)
  | b => decide (x = b.nm) && freeB g k x
def tyB (g : GI) (k : Cc) : List Ty → Expr → Bool
  | [t], .Name x _ => decide (x = t.sn) && freeB g k x
  | _, _ => false
def opB (a b : Operator) : Bool := decide (a = b)
def isC (z : Str) : Ex → Bool
  | .cst (.str y) => decide (y = z)
  | _ => false
def Sm'.nm : Sm' → Str
  | .join => "join" | .startswith => "startswith" | .split => "split"
def Sm'.id : Sm' → String
  | .join => "str.join" | .startswith => "str.startswith" | .split => "str.split"
def keyB : List Str → List (Option Expr) → Bool
  | [], [] => true
  | k :: ks, some (.Constant (.str x) _ _) :: r => decide (k = x) && keyB ks r
  | _, _ => false
mutual
def mtX (g : GI) (k : Cc) : Ex → Expr → Bool
  | .cst d, e => (match e with
    | .Constant c _ _ => cstB d c
    | _ => false)
  | .var i, e => (match e with
    | .Name x _ => slotB k i x
    | _ => false)
  | .glob x, e => (match e with
    | .Name y _ => decide (x = y) && (glB k.sc y && (g.gl y).isSome)
    | _ => false)
  | .bin op a b, e => (match e with
    | .BinOp l o r _ => decide (op = o) && (mtX g k a l && mtX g k b r)
    | _ => false)
  | .neg a, e => (match e with
    | .UnaryOp .USub l _ => mtX g k a l
    | _ => false)
  | .not a, e => (match e with
    | .UnaryOp .Not l _ => mtX g k a l
    | _ => false)
  | .bool ia es, e => (match e with
    | .BoolOp op l _ => decide (op = if ia then .And else .Or) && mtB g k ia es l
    | _ => false)
  | .cmp op a b, e => (match e with
    | .Compare l [o] [r] _ => decide (op = o) && (mtX g k a l && (mtX g k b r && notSet r))
    | _ => false)
  | .chain o1 o2 a b z, e => (match e with
    | .Compare l [p1, p2] [r, q] _ => decide (o1 = p1) && (decide (o2 = p2) && (mtX g k a l && (mtX g k b r && (mtX g k z q && (notSet r && notSet q)))))
    | _ => false)
  | .ife t a b, e => (match e with
    | .IfExp c l r _ => mtT g k t c && (mtX g k a l && mtX g k b r)
    | _ => false)
  | .tup es, e => (match e with
    | .Tuple l _ _ => mtXs g k es l
    | _ => false)
  | .lst es, e => (match e with
    | .List l _ => mtXs g k es l
    | _ => false)
  | .dct ks es, e => (match e with
    | .Dict keys values _ => keyB ks keys && (decide (ks.length ≤ 15) && (decide ks.Nodup && (decide (keys.length = values.length) && mtXs g k es values)))
    | _ => false)
  | .lrng a, e => (match e with
    | .Call (.Name x _) [.Call (.Name y _) [u] [] _] [] _ => decide (x = "list") && (decide (y = "range") && (freeB g k x && (freeB g k y && (mtX g k a u && notStar u))))
    | _ => false)
  | .smeth o m a, e => (match e with
    | .Call (.Attribute l x ap) [u] [] cp => decide (x = m.nm) && (plainB l && ((ap.endLine == cp.line) && (mtX g k o l && (mtX g k a u && notStar u))))
    | _ => false)
  | .fstr es, e => (match e with
    | .JoinedStr (u :: v :: l) _ => mtFs g k es (u :: v :: l)
    | _ => false)
  | .comp elt tg it ifs own, e => (match e with
    | .ListComp el [⟨t, i, fs, 0⟩] scope _ => mtI g k it t i && (blkC k.N k.sc scope (ownB k own) && (decide ((ownB k own).map (·.2) = own) && ((tgN tg).all (own.contains ·) && (mtG g (blkK k scope) tg t && (mtF g (blkK k scope) ifs fs && (mtX g (blkK k scope) elt el && notSet i))))))
    | _ => false)
  | .call f es, e => (match e with
    | .Call (.Name x _) args [] _ => decide (f = x) && (glB k.sc x && ((g.P.lookup f).isSome && mtA g k es args))
    | _ => false)
  | .callk f n ks es, e => (match e with
    | .Call (.Name x _) [] (kw :: kws) _ => decide (f = x) && (decide (n = 0) && (glB k.sc x && ((g.P.lookup f).isSome && ((g.kw f).contains ks && mtK g k es ks (kw :: kws)))))
    | _ => false)
  | .bi b es, e => (match e with
    | .Call (.Name x _) (a :: args) [] _ => biB g k b x && mtXs g k es (a :: args)
    | _ => false)
  | .isi a tys, e => (match e with
    | .Call (.Name x _) [l, r] [] _ => decide (x = "isinstance") && (freeB g k x && (mtX g k a l && (notStar l && tyB g k tys r)))
    | _ => false)
  | .meth o m es, e => (match e with
    | .Call (.Attribute l x ap) args [] cp => decide (x = m.nm) && (plainB l && ((ap.endLine == cp.line) && (mtX g k o l && (mtXs g k es args && decide (args.length < 20)))))
    | _ => false)
  | .sub a i, e => (match e with
    | .Subscript l r _ => mtX g k a l && (mtX g k i r && notSlice r)
    | _ => false)
  | .slc a lo hi, e => (match e with
    | .Subscript l (.Slice u v none _) _ => mtX g k a l && (mtO g k lo u && mtO g k hi v)
    | _ => false)
def mtXs (g : GI) (k : Cc) : Exs → List Expr → Bool
  | .nil, es => (match es with
    | [] => true
    | _ => false)
  | .cons a as, es => (match es with
    | e :: es => mtX g k a e && (notStar e && mtXs g k as es)
    | [] => false)
/-- the parts of an f-string -/
def mtFs (g : GI) (k : Cc) : Exs → List Expr → Bool
  | .nil, es => (match es with
    | [] => true
    | _ => false)
  | .cons a as, es => (match es with
    | .FormattedValue e f none _ :: es => decide (f = -1) && (mtX g k a e && mtFs g k as es)
    | .Constant (.str z) j p :: es => isC z a && mtFs g k as es
    | _ => false)
def mtB (g : GI) (k : Cc) : Bool → Exs → List Expr → Bool
  | _, .nil, _ => false
  | ia, .cons a as, es => (match es with
    | e :: es => mtX g k a e && (match as, es with
      | .nil, [] => true
      | .nil, _ => false
      | _, [] => false
      | as, es => mtB g k ia as es)
    | [] => false)
def mtT (g : GI) (k : Cc) : Te → Expr → Bool
  | .x a, e => (match e with
    | .UnaryOp .Not _ _ => false
    | .BoolOp _ _ _ => false
    | .IfExp _ _ _ _ => false
    | .Compare l [o] [r] p => mtX g k a (.Compare l [o] [r] p)
    | .Compare l [o, o'] [r, r'] p => mtX g k a (.Compare l [o, o'] [r, r'] p)
    | .Compare _ _ _ _ => false
    | e => mtX g k a e)
  | .n t, e => (match e with
    | .UnaryOp .Not l _ => mtT g k t l
    | _ => false)
  | .b ia ts, e => (match e with
    | .BoolOp op l _ => decide (op = if ia then .And else .Or) && mtTs g k ia ts l
    | _ => false)
  | .ife t a b, e => (match e with
    | .IfExp c l r _ => mtT g k t c && (mtT g k a l && mtT g k b r)
    | _ => false)
def mtTs (g : GI) (k : Cc) : Bool → Tes → List Expr → Bool
  | _, .nil, es => (match es with
    | [] => true
    | _ => false)
  | ia, .cons t ts, es => (match es with
    | e :: es => mtT g k t e && mtTs g k ia ts es
    | [] => false)
/-- the tests of a comprehension: none, or one -/
def mtF (g : GI) (k : Cc) : Tes → List Expr → Bool
  | .nil, es => (match es with
    | [] => true
    | _ => false)
  | .cons t ts, es => (match ts, es with
    | .nil, [e] => mtT g k t e
    | _, _ => false)
def mtAg (g : GI) (k : Cc) : Ag → Expr → Bool
  | .v a, e => mtX g k a e
  | .b a, e => mtX g k a e
def mtA (g : GI) (k : Cc) : Ags → List Expr → Bool
  | .nil, es => (match es with
    | [] => true
    | _ => false)
  | .cons a as, es => (match es with
    | e :: es => mtAg g k a e && (notStar e && mtA g k as es)
    | [] => false)
/-- arguments by name -/
def mtK (g : GI) (k : Cc) : Ags → List Str → List Keyword → Bool
  | .nil, ks, es => (match ks, es with
    | [], [] => true
    | _, _ => false)
  | .cons a as, ks, es => (match ks, es with
    | x :: ks, ⟨some y, e, _⟩ :: es => decide (x = y) && (mtAg g k a e && mtK g k as ks es)
    | _, _ => false)
def mtO (g : GI) (k : Cc) : Ox → Option Expr → Bool
  | .no, e => (match e with
    | none => true
    | some _ => false)
  | .yes a, e => (match e with
    | some e => mtX g k a e
    | none => false)
/-- what is walked, for the target t -/
def mtI (g : GI) (k : Cc) : It → Expr → Expr → Bool
  | .q a, _, e => mtX g k a e && notSet e
  | .rng es, _, e => (match es, e with
    | .cons u .nil, .Call (.Name x _) [a] [] _ => decide (x = "range") && (freeB g k x && (mtX g k u a && notStar a))
    | .cons u (.cons v .nil), .Call (.Name x _) [a, b] [] _ => decide (x = "range") && (freeB g k x && (mtX g k u a && (mtX g k v b && (notStar a && notStar b))))
    | _, _ => false)
  | .enum a, t, e => (match t, e with
    | .Tuple _ _ _, .Call (.Name x _) [l] [] _ => decide (x = "enumerate") && (freeB g k x && (mtX g k a l && notStar l))
    | _, _ => false)
  | .zip a b, t, e => (match t, e with
    | .Tuple _ _ _, .Call (.Name x _) [l, r] [] _ => decide (x = "zip") && (freeB g k x && (mtX g k a l && (mtX g k b r && (notStar l && notStar r))))
    | _, _ => false)
def mtG (g : GI) (k : Cc) : Tg → Expr → Bool
  | .name i, e => (match e with
    | .Name x _ => storeB k i x
    | _ => false)
  | .tup ts, e => (match e with
    | .Tuple es _ _ => mtGs g k ts es
    | _ => false)
  | .sub o i, e => (match e with
    | .Subscript l r _ => mtX g k o l && (mtX g k i r && notSlice r)
    | _ => false)
def mtGs (g : GI) (k : Cc) : Tgs → List Expr → Bool
  | .nil, es => (match es with
    | [] => true
    | _ => false)
  | .cons t ts, es => (match es with
    | e :: es => mtG g k t e && (notStar e && mtGs g k ts es)
    | [] => false)
end

/-! ## the context -/
/-- what the caller and the callee agree upon: a state without names -/
def bare (c : Cf) : Prop := c.s.v = [] ∧ c.σ = []
def ArgR (K : PySem.W.Frag) (c : Cf) : Slot → V → Prop
  | .val d, v => DR K c.μ c.H d v
  | .ro xs, v => ∃ a us, v = .ref a ∧ DRs K c.μ c.H xs us ∧ (KLst K a us ∨ (c.ρ a ∧ Rd c.H a (.lst us)))
  | _, _ => False
def ArgRs (K : PySem.W.Frag) (c : Cf) : List Slot → List V → Prop
  | [], vs => vs = []
  | x :: xs, vs => ∃ v r, vs = v :: r ∧ ArgR K c x v ∧ ArgRs K c xs r
def OutR (K : PySem.W.Frag) (c0 c : Cf) : Slot → V → Prop
  | .val d, v => DR K c.μ c.H d v
  | .own xs, v => ∃ a us, v = .ref a ∧ c.H a = some (.lst us) ∧ DRs K c.μ c.H xs us ∧ ¬ Foot c a ∧ ¬ c.ρ a ∧ c0.H a = none
  | _, _ => False
def PostF (K : PySem.W.Frag) (c0 : Cf) (r : RF) (Qn : Slot → Cf → Prop) (Qx : Xc → Cf → Prop) : Prop := match r with
  | .ok o M => ∀ c, bare c → c.s.M = M → Stp c0 c → SR K c → Qn o c
  | .exc x M => ∀ c, bare c → c.s.M = M → Stp c0 c → SR K c → Qx x c
  | .bad => False
/-- a def's promise: it does what the term's run says -/
def spF (K : PySem.W.Frag) (mg : Str → Option Value) (g : GI) (f : Str) (fd : Fn) (n : Nat) : Sp := fun vs H Q E => ∃ (c0 : Cf) (as : List Slot), as.length = fd.ps.length ∧ bare c0 ∧ SR K c0 ∧ c0.H = H ∧ ArgRs K c0 as vs ∧
  PostF K c0 (run g.P g.gl n f as c0.s.M) (fun o c => ∀ v, OutR K c0 c o v → Q v c.H) fun x c => ∀ cls d, XR K (cnM mg) c x cls d → E cls d c.H
structure FnJ (P : Program) (w : World) (K : PySem.W.Frag) (mg : Str → Option Value) (base : Heap) (g : GI) (f : Str) (fd : Fn) (n : Nat) (a : Addr) (fdt : FuncData) : Prop where
  at_ : mg f = some (.ref a)
  keep : PySem.W.keepIn K (.ref a) = true
  ok : FnOk P w K mg base (L2.CX P w) (n + 2) a fdt fd.ps (spF K mg g f fd n)
  dfl : ∀ k, k ≤ fd.dfl.length → ∃ dvs ds, Vals dvs ds ∧ (∀ μ H, DRs K μ H (fd.dfl.drop (fd.dfl.length - k)) dvs) ∧ Binds K fdt fd.ps ds
  kw : ∀ ks, ks ∈ g.kw f → ∀ (s : Shared) (ws ys : List Value), K.In s.heap → ws.length = ks.length → pick (ks.zip ws) fd.ps = some ys → BindsTo s fdt ⟨[], ks.zip ws⟩ (fd.ps.zip ys)
abbrev FnI (X : Cx) (g : GI) (f : Str) (fd : Fn) (n : Nat) (a : Addr) (fdt : FuncData) : Prop := FnJ X.prog X.w X.K X.mg X.base g f fd n a fdt
structure Ck (X : Cx) (W : WX) (k : Cc) (g : GI) (n : Nat) : Prop where
  N : X.N = k.N
  sc : X.env.scope = k.sc
  fn : ∀ x, k.fn x = true → X.fn x = true
  calm : X.calm = true
  nd : k.N.Nodup
  room : Room (n + 2) X.A
  un : X.A.units + 65 < cLine
  tk : Takes X W
  fr : ∀ x, g.fr.contains x = true → X.mg x = none
  gcd : g.gcd = true → X.mg "gcd" = some (.builtin "math.gcd")
  gl : ∀ x d, g.gl x = some d → ∃ u v, X.mg x = some u ∧ RelV v u ∧ ∀ μ H, DR X.K μ H d v
  fns : ∀ f fd, g.P.lookup f = some fd → ∃ a fdt, FnI X g f fd n a fdt
  ers : ∀ e ∈ g.ers, ErF X.K X.mg g.flds g.cls e
  rai : ∀ e ∈ g.ers, RaF X.prog X.w X.K X.mg X.base e
def cnOf (g : GI) (n : Nat) : Cn := ⟨run g.P g.gl n, kbOf g.P, g.gl⟩
end G

/-! ## GS7 -/
set_option Elab.async false
set_option linter.all false
set_option maxRecDepth 100000
set_option maxHeartbeats 4000000
namespace G
open PySem PySem.Spec PyProof.Rows L2

section
variable {X : Cx} {W : WX} {c c1 : Cf}
theorem Post.kv {o : Option SV} {Q : VK} (sr : SR X.K c1) (st : Stp c c1) (h : Post X.K c1 (G.lif o c1.s) (fun x c' => ∀ v, SVR X.K c' x v → Fresh c.H x v → Q v c'.H) (QX X W)) : ∃ z, o = some z ∧ KV' X c1 Q z := by
  cases o with
  | none => exact h.elim
  | some z => exact ⟨z, rfl, fun c' v e st' sr' vs' rv fv => h c' e st' sr' vs' v rv (Fresh.back st fv)⟩
theorem Post.kvok {z : SV} {Q : VK} (st : Stp c c1) (h : Post X.K c1 (.ok z c1.s) (fun x c' => ∀ v, SVR X.K c' x v → Fresh c.H x v → Q v c'.H) (QX X W)) : KV' X c1 Q z :=
  fun c' v e st' sr' vs' rv fv => h c' e st' sr' vs' v rv (Fresh.back st fv)
theorem KV'.bl {Q : VK} {b : Bool} (sr : SR X.K c) (k : KV' X c Q (.val (.bl b))) : Q (.bl b) c.H := k.val sr (by simp only [DR])

/-! ### expressions -/
theorem j_bin {a b : Expr} {ma mb : S → R SV} {op : Operator} {pos : Pos} (ha : JX X W ma a) (hb : JX X W mb b) : JX X W (fun s => (ma s).bind fun x s1 => (mb s1).bind fun y s2 => lif (binD op x y s2) s2) (.BinOp a op b pos) := by
  intro c Q sr p
  refine WpE.of (pe_op (opW _) (peW a) (peW b)) ?_
  refine ha c _ sr (p.bind.imp fun x c1 st1 sr1 vs1 p1 v rv fv => ?_)
  rw [← vs1.1]
  refine hb c1 _ sr1 (p1.bind.imp fun y c2 st2 sr2 vs2 p2 u ru fu => ?_)
  obtain ⟨z, hz, k⟩ := Post.kv sr2 (st1.trans st2) p2
  exact bin_ok sr2 (rv.step st2 vs2) ru hz k
theorem j_neg {a : Expr} {ma : S → R SV} {pos : Pos} (ha : JX X W ma a) : JX X W (fun s => (ma s).bind fun x s1 => lif (negD x) s1) (.UnaryOp .USub a pos) := by
  intro c Q sr p
  refine WpE.of (pe_un un_neg (peW a)) ?_
  refine ha c _ sr (p.bind.imp fun x c1 st1 sr1 vs1 p1 v rv fv => ?_)
  obtain ⟨z, hz, k⟩ := Post.kv sr1 st1 p1
  unfold negD at hz
  split at hz
  · cases hz
    simp only [SVR, DR] at rv
    subst rv
    exact ⟨_, rfl, k.val sr1 (by simp only [DR])⟩
  · cases hz
theorem j_not {a : Expr} {ma : S → R SV} {pos : Pos} (ha : JX X W ma a) : JX X W (fun s => (ma s).bind fun x s1 => lif ((truD s1 x).map fun b => SV.val (.bl (!b))) s1) (.UnaryOp .Not a pos) := by
  intro c Q sr p
  refine WpE.of (pe_notT (peW a)) ?_
  refine ha c _ sr (p.bind.imp fun x c1 st1 sr1 vs1 p1 v rv fv => ?_)
  obtain ⟨z, hz, k⟩ := Post.kv sr1 st1 p1
  obtain ⟨b, hb, rfl⟩ := Option.map_eq_some_iff.mp hz
  exact ⟨b, tru_okD sr1 rv hb, k.bl sr1⟩
theorem j_cmp {a b : Expr} {ma mb : S → R SV} {op : CmpOp} {pos : Pos} (hu : X.A.units + 65 < cLine) (hm : behindInMarks op b = false) (ha : JX X W ma a) (hb : JX X W mb b) :
    JX X W (fun s => (ma s).bind fun x s1 => (mb s1).bind fun y s2 => lif ((cmpD op x y s2).map fun k => SV.val (.bl k)) s2) (.Compare a [op] [b] pos) := by
  intro c Q sr p
  refine WpE.of (pe_cmpR (opW _) (peW a) (peW b) hm) ?_
  refine ha c _ sr (p.bind.imp fun x c1 st1 sr1 vs1 p1 v rv fv => ?_)
  rw [← vs1.1]
  refine hb c1 _ sr1 (p1.bind.imp fun y c2 st2 sr2 vs2 p2 u ru fu => ?_)
  obtain ⟨z, hz, k⟩ := Post.kv sr2 (st1.trans st2) p2
  obtain ⟨b, hb, rfl⟩ := Option.map_eq_some_iff.mp hz
  exact cmp_ok hu sr2 (rv.step st2 vs2) ru hb (k.bl sr2)
theorem j_tcmp {a b : Expr} {ma mb : S → R SV} {op : CmpOp} {pos : Pos} (hu : X.A.units + 65 < cLine) (hm : behindInMarks op b = false) (ha : JX X W ma a) (hb : JX X W mb b) :
    JT X W (fun s => ((ma s).bind fun x s1 => (mb s1).bind fun y s2 => lif ((cmpD op x y s2).map fun k => SV.val (.bl k)) s2).bind fun x s1 => lif (truD s1 x) s1) (.Compare a [op] [b] pos) := by
  intro c Q sr p
  dsimp only at p
  rw [R.bind_assoc] at p
  refine WpT.of (pt_cmpR (opW _) (peW a) (peW b) hm) ?_
  refine ha c _ sr (p.bind.imp fun x c1 st1 sr1 vs1 p1 v rv fv => ?_)
  rw [R.bind_assoc] at p1
  rw [← vs1.1]
  refine hb c1 _ sr1 (p1.bind.imp fun y c2 st2 sr2 vs2 p2 u ru fu => ?_)
  cases hz : cmpD op x y c2.s with
  | none => rw [hz] at p2; exact p2.elim
  | some k =>
    rw [hz] at p2
    obtain ⟨k', e, q⟩ := Post.lif (o := some k) sr2 p2
    cases e
    exact cmp_ok hu sr2 (rv.step st2 vs2) ru hz ⟨k, rfl, q⟩
theorem j_chain {a b z : Expr} {ma mb mz : S → R SV} {o1 o2 : CmpOp} {pos : Pos} (hu : X.A.units + 65 < cLine) (hm : lastMarks [o1, o2] [b, z] = false) (ha : JX X W ma a) (hb : JX X W mb b) (hz : JX X W mz z) :
    JX X W (fun s => (ma s).bind fun x s1 => (mb s1).bind fun y s2 => (lif (cmpD o1 x y s2) s2).bind fun k s3 => if k then (mz s3).bind fun w s4 => lif ((cmpD o2 y w s4).map fun k => SV.val (.bl k)) s4 else .ok (.val (.bl false)) s3)
      (.Compare a [o1, o2] [b, z] pos) := by
  intro c Q sr p
  refine WpE.of (pe_chain (opW _) (opW _) (peW a) (peW b) (peW z) hm) ?_
  refine ha c _ sr (p.bind.imp fun x c1 st1 sr1 vs1 p1 v rv fv => ?_)
  rw [← vs1.1]
  refine hb c1 _ sr1 (p1.bind.imp fun y c2 st2 sr2 vs2 p2 u ru fu => ?_)
  obtain ⟨k, hk, p3⟩ := Post.lif sr2 p2.bind
  refine cmp_ok hu sr2 (rv.step st2 vs2) ru hk ⟨k, rfl, ?_⟩
  cases k with
  | false =>
    rw [if_neg Bool.false_ne_true] at p3 ⊢
    exact (Post.kvok (st1.trans st2) p3).bl sr2
  | true =>
    rw [if_pos rfl] at p3 ⊢
    rw [← vs2.1]
    refine hz c2 _ sr2 (p3.bind.imp fun w c3 st3 sr3 vs3 p4 t rt ft => ?_)
    obtain ⟨w', hw, k⟩ := Post.kv sr3 ((st1.trans st2).trans st3) p4
    obtain ⟨b, hb, rfl⟩ := Option.map_eq_some_iff.mp hw
    exact cmp_ok hu sr3 (ru.step st3 vs3) rt hb (k.bl sr3)
theorem j_tchain {a b z : Expr} {ma mb mz : S → R SV} {o1 o2 : CmpOp} {pos : Pos} (hu : X.A.units + 65 < cLine) (hm : lastMarks [o1, o2] [b, z] = false) (ha : JX X W ma a) (hb : JX X W mb b) (hz : JX X W mz z) :
    JT X W (fun s => ((ma s).bind fun x s1 => (mb s1).bind fun y s2 => (lif (cmpD o1 x y s2) s2).bind fun k s3 => if k then (mz s3).bind fun w s4 => lif ((cmpD o2 y w s4).map fun k => SV.val (.bl k)) s4 else .ok (.val (.bl false)) s3).bind fun x s1 => lif (truD s1 x) s1)
      (.Compare a [o1, o2] [b, z] pos) := by
  intro c Q sr p
  dsimp only at p
  rw [R.bind_assoc] at p
  refine WpT.of (pt_chain (opW _) (opW _) (peW a) (peW b) (peW z) hm) ?_
  refine ha c _ sr (p.bind.imp fun x c1 st1 sr1 vs1 p1 v rv fv => ?_)
  rw [R.bind_assoc] at p1
  rw [← vs1.1]
  refine hb c1 _ sr1 (p1.bind.imp fun y c2 st2 sr2 vs2 p2 u ru fu => ?_)
  rw [R.bind_assoc] at p2
  obtain ⟨k, hk, p3⟩ := Post.lif sr2 p2.bind
  refine cmp_ok hu sr2 (rv.step st2 vs2) ru hk ⟨k, rfl, ?_⟩
  cases k with
  | false =>
    rw [if_neg Bool.false_ne_true] at p3 ⊢
    obtain ⟨k', e, q⟩ := Post.lif (o := some false) sr2 p3
    cases e
    exact ⟨false, rfl, q⟩
  | true =>
    rw [if_pos rfl] at p3 ⊢
    rw [R.bind_assoc] at p3
    rw [← vs2.1]
    refine hz c2 _ sr2 (p3.bind.imp fun w c3 st3 sr3 vs3 p4 t rt ft => ?_)
    cases hw : cmpD o2 y w c3.s with
    | none => rw [hw] at p4; exact p4.elim
    | some k =>
      rw [hw] at p4
      obtain ⟨k', e, q⟩ := Post.lif (o := some k) sr3 p4
      cases e
      exact cmp_ok hu sr3 (ru.step st3 vs3) rt hw ⟨k, rfl, q⟩
theorem j_ife {t a b : Expr} {mt : S → R Bool} {ma mb : S → R SV} {pos : Pos} (ht : JT X W mt t) (ha : JX X W ma a) (hb : JX X W mb b) : JX X W (fun s => (mt s).bind fun k s1 => if k then ma s1 else mb s1) (.IfExp t a b pos) := by
  intro c Q sr p
  refine WpE.of (pe_ifExp (ptW t) (peW a) (peW b)) ?_
  refine ht c _ sr (p.bind.imp fun k c1 st1 sr1 vs1 p1 => ?_)
  rw [← vs1.1]
  cases k with
  | true =>
    rw [if_pos rfl] at p1 ⊢
    exact ha c1 _ sr1 (p1.imp fun x c2 st2 sr2 vs2 q v rv fv => q v rv (Fresh.back st1 fv))
  | false =>
    rw [if_neg Bool.false_ne_true] at p1 ⊢
    exact hb c1 _ sr1 (p1.imp fun x c2 st2 sr2 vs2 q v rv fv => q v rv (Fresh.back st1 fv))
theorem j_tup {es : List Expr} {m : S → R (List D)} {k : Nat} {pos : Pos} (h : JEs X W m es) : JX X W (fun s => (m s).bind fun xs s1 => if fits xs.length then .ok (.val (.tup xs)) s1 else .bad) (.Tuple es k pos) := by
  intro c Q sr p
  refine WpE.of (pe_tup (paW es)) ?_
  refine h c _ sr (p.bind.imp fun ds c1 st1 sr1 vs1 p1 vs r => ?_)
  split at p1
  · rename_i hl
    exact ⟨by rw [r.length]; exact fits_of hl, fun p' n => (Post.kvok st1 p1).tup sr1 r p' n⟩
  · exact p1.elim
theorem j_lst {es : List Expr} {m : S → R (List D)} {pos : Pos} (h : JEs X W m es) : JX X W (fun s => (m s).bind fun xs s1 => if fits xs.length then .ok (.new xs) s1 else .bad) (.List es pos) := by
  intro c Q sr p
  refine WpE.of (pe_lst (paW es)) ?_
  refine h c _ sr (p.bind.imp fun ds c1 st1 sr1 vs1 p1 vs r => ?_)
  split at p1
  · rename_i hl
    exact ⟨by rw [r.length]; exact fits_of hl, fun p' n => (Post.kvok st1 p1).new sr1 r p' n⟩
  · exact p1.elim
theorem j_sub {a b : Expr} {ma mb : S → R SV} {pos : Pos} (hu : X.A.units + 65 < cLine) (hs : PlainIx b) (ha : JX X W ma a) (hb : JX X W mb b) : JX X W (fun s => (ma s).bind fun x s1 => (mb s1).bind fun y s2 => lif (subD x y s2) s2) (.Subscript a b pos) := by
  intro c Q sr p
  refine WpE.of (pe_ix (ix_any (by omega)) (peW a) (peW b) hs) ?_
  refine ha c _ sr (p.bind.imp fun x c1 st1 sr1 vs1 p1 v rv fv => ?_)
  rw [← vs1.1]
  refine hb c1 _ sr1 (p1.bind.imp fun y c2 st2 sr2 vs2 p2 u ru fu => ?_)
  obtain ⟨z, hz, k⟩ := Post.kv sr2 (st1.trans st2) p2
  exact sub_ok sr2 (rv.step st2 vs2) ru hz k
/-- a slice's part -/
def JO (X : Cx) (W : WX) (m : S → R (Option Int)) (e : Option Expr) : Prop := ∃ t : TO, PO X e t ∧ ∀ c Q, SR X.K c → Post X.K c (m c.s) (fun o c' => Q o c'.H) (QX X W) → t c.σ c.H Q
theorem j_ono : JO X W (fun s => .ok none s) none := ⟨_, po_none, fun c Q sr p => p.ok sr⟩
theorem j_oyes {a : Expr} {ma : S → R SV} (ha : JX X W ma a) : JO X W (fun s => (ma s).bind optI) (some a) := by
  refine ⟨_, po_some (peW a), fun c Q sr p => ?_⟩
  refine ha c _ sr (p.bind.imp fun x c1 st1 sr1 vs1 p1 v rv fv => ?_)
  unfold optI at p1
  split at p1
  · simp only [SVR, DR] at rv
    exact ⟨_, rv, p1.ok sr1⟩
  · exact p1.elim
theorem j_slc {a : Expr} {lo hi : Option Expr} {ma : S → R SV} {ml mh : S → R (Option Int)} {pos p2 : Pos} (ha : JX X W ma a) (hl : JO X W ml lo) (hh : JO X W mh hi) :
    JX X W (fun s => (ma s).bind fun x s1 => (ml s1).bind fun l s2 => (mh s2).bind fun h s3 => lif (slcD x l h s3) s3) (.Subscript a (.Slice lo hi none p2) pos) := by
  intro c Q sr p
  obtain ⟨tl, pl, ql⟩ := hl
  obtain ⟨th, ph, qh⟩ := hh
  refine WpE.of (pe_slice sl_any (peW a) pl ph) ?_
  refine ha c _ sr (p.bind.imp fun x c1 st1 sr1 vs1 p1 v rv fv => ?_)
  rw [← vs1.1]
  refine ql c1 _ sr1 (p1.bind.imp fun l c2 st2 sr2 vs2 p2 => ?_)
  rw [← vs2.1]
  refine qh c2 _ sr2 (p2.bind.imp fun h c3 st3 sr3 vs3 p3 => ?_)
  obtain ⟨z, hz, k⟩ := Post.kv sr3 ((st1.trans st2).trans st3) p3
  exact slc_ok sr3 ((rv.step st2 vs2).step st3 vs3) hz k
/-! ### rows of expressions -/
theorem j_es_nil : JEs X W (fun s => .ok [] s) [] := fun c Q sr p => WpA.of pa_nil (p.ok sr [] (by simp only [DRs]))
theorem j_es_cons {e : Expr} {es : List Expr} {m : S → R SV} {ms : S → R (List D)} (hs : starEach (e :: es) X.env = (false, eval e X.env) :: starEach es X.env) (h : JX X W m e) (t : JEs X W ms es) :
    JEs X W (fun s => ((m s).bind toVal).bind fun d s1 => (ms s1).bind fun ds s2 => .ok (d :: ds) s2) (e :: es) := by
  intro c Q sr p
  refine WpA.of (pa_cons (peW e) (paW es) hs) ?_
  refine h.val sr p fun c1 d v st1 sr1 vs1 rd p1 => ?_
  rw [← vs1.1]
  refine t c1 _ sr1 (p1.bind.imp fun ds c2 st2 sr2 vs2 p2 us r => ?_)
  exact p2.ok sr2 _ (.cons (st2.dr rd) r)
theorem j_xs_nil : JXs X W (fun s => .ok [] s) [] := fun c Q sr p => WpA.of pa_nil (p.ok sr [] rfl trivial)
theorem j_xs_cons {e : Expr} {es : List Expr} {m : S → R SV} {ms : S → R (List SV)} (hs : starEach (e :: es) X.env = (false, eval e X.env) :: starEach es X.env) (h : JX X W m e) (t : JXs X W ms es) :
    JXs X W (fun s => (m s).bind fun d s1 => (ms s1).bind fun ds s2 => .ok (d :: ds) s2) (e :: es) := by
  intro c Q sr p
  refine WpA.of (pa_cons (peW e) (paW es) hs) ?_
  refine h c _ sr (p.bind.imp fun x c1 st1 sr1 vs1 p1 v rv fv => ?_)
  rw [← vs1.1]
  refine t c1 _ sr1 (p1.bind.imp fun xs c2 st2 sr2 vs2 p2 us r f => ?_)
  exact p2.ok sr2 _ ⟨v, us, rfl, rv.step st2 vs2, r⟩ ⟨fv, Freshs.back (K := X.K) st1 f⟩
theorem j_a_nil : JA X W (fun s => .ok [] s) [] := fun c Q sr p => WpA.of pa_nil (p.ok sr [] rfl)
theorem j_a_v {e : Expr} {es : List Expr} {m : S → R SV} {ms : S → R (List Ar)} (hs : starEach (e :: es) X.env = (false, eval e X.env) :: starEach es X.env) (h : JX X W m e) (t : JA X W ms es) :
    JA X W (fun s => (((m s).bind toVal).bind fun d s1 => .ok (Ar.val d) s1).bind fun d s1 => (ms s1).bind fun ds s2 => .ok (d :: ds) s2) (e :: es) := by
  intro c Q sr p
  dsimp only at p
  rw [R.bind_assoc] at p
  refine WpA.of (pa_cons (peW e) (paW es) hs) ?_
  refine h.val sr p fun c1 d v st1 sr1 vs1 rd p1 => ?_
  have p1 : Post X.K c1 ((ms c1.s).bind fun ds s2 => .ok (Ar.val d :: ds) s2) _ _ := p1
  rw [← vs1.1]
  refine t c1 _ sr1 (p1.bind.imp fun ds c2 st2 sr2 vs2 p2 us r => ?_)
  exact p2.ok sr2 _ ⟨v, us, rfl, st2.dr rd, r⟩
theorem j_a_b {e : Expr} {es : List Expr} {m : S → R SV} {ms : S → R (List Ar)} (hs : starEach (e :: es) X.env = (false, eval e X.env) :: starEach es X.env) (h : JX X W m e) (t : JA X W ms es) :
    JA X W (fun s => ((m s).bind fun d s1 => .ok (lend d) s1).bind fun d s1 => (ms s1).bind fun ds s2 => .ok (d :: ds) s2) (e :: es) := by
  intro c Q sr p
  dsimp only at p
  rw [R.bind_assoc] at p
  refine WpA.of (pa_cons (peW e) (paW es) hs) ?_
  refine h c _ sr (p.bind.imp fun x c1 st1 sr1 vs1 p1 v rv fv => ?_)
  have p1 : Post X.K c1 ((ms c1.s).bind fun ds s2 => .ok (lend x :: ds) s2) _ _ := p1
  rw [← vs1.1]
  refine t c1 _ sr1 (p1.bind.imp fun ds c2 st2 sr2 vs2 p2 us r => ?_)
  exact p2.ok sr2 _ ⟨v, us, rfl, by rw [lend_sv]; exact rv.step st2 vs2, r⟩
/-! ### and, or -/
/-- and, or as a value: the operands from here on -/
def JB (X : Cx) (W : WX) (m : S → R SV) (op : BoolOp) (es : List Expr) : Prop := ∀ pos, JX X W m (.BoolOp op es pos)
theorem j_b_one {e : Expr} {m : S → R SV} {op : BoolOp} (h : JX X W m e) : JB X W (fun s => (m s).bind fun x s1 => .ok x s1) op [e] := fun pos c Q sr p => by
  refine WpE.of (pe_one (peW e)) (h c Q sr ?_)
  dsimp only at p
  cases r : m c.s <;> rw [r] at p <;> exact p
theorem j_b_cons {e b : Expr} {rest : List Expr} {m ms : S → R SV} {ia : Bool} (h : JX X W m e) (t : JB X W ms (if ia then .And else .Or) (b :: rest)) :
    JB X W (fun s => (m s).bind fun x s1 => (match x with
      | .val (.bl k) => if k = ia then ms s1 else .ok (.val (.bl k)) s1
      | _ => .bad)) (if ia then .And else .Or) (e :: b :: rest) := fun pos c Q sr p => by
  cases ia with
  | true =>
    refine WpE.of (pe_and (peW e) (peW (.BoolOp .And (b :: rest) pos))) ?_
    refine h c _ sr (p.bind.imp fun x c1 st1 sr1 vs1 p1 v rv fv => ?_)
    split at p1
    · rename_i k
      simp only [SVR, DR] at rv
      refine ⟨k, rv, ?_⟩
      rw [← vs1.1]
      cases k with
      | true => exact t pos c1 _ sr1 (Post.imp (show Post X.K c1 (ms c1.s) _ _ from p1) fun x c2 st2 sr2 vs2 q v rv fv => q v rv (Fresh.back st1 fv))
      | false => exact (Post.kvok st1 (show Post X.K c1 (.ok (.val (.bl false)) c1.s) _ _ from p1)).bl sr1
    · exact p1.elim
  | false =>
    refine WpE.of (pe_or (peW e) (peW (.BoolOp .Or (b :: rest) pos))) ?_
    refine h c _ sr (p.bind.imp fun x c1 st1 sr1 vs1 p1 v rv fv => ?_)
    split at p1
    · rename_i k
      simp only [SVR, DR] at rv
      refine ⟨k, rv, ?_⟩
      rw [← vs1.1]
      cases k with
      | false => exact t pos c1 _ sr1 (Post.imp (show Post X.K c1 (ms c1.s) _ _ from p1) fun x c2 st2 sr2 vs2 q v rv fv => q v rv (Fresh.back st1 fv))
      | true => exact (Post.kvok st1 (show Post X.K c1 (.ok (.val (.bl true)) c1.s) _ _ from p1)).bl sr1
    · exact p1.elim
/-- .. as a test -/
def JTs (X : Cx) (W : WX) (m : S → R Bool) (op : BoolOp) (es : List Expr) : Prop := ∀ c Q, SR X.K c → Post X.K c (m c.s) (fun b c' => Q b c'.H) (QX X W) →
  ∀ whole pos pins s, Inv X pins c.σ c.H s → wpAny (model X.prog X.w) X.A (isTrue (.BoolOp op es pos) X.env whole) (TP X pins c.σ Q) X.xe s
theorem j_ts_nil {ia : Bool} : JTs X W (fun s => .ok ia s) (if ia then .And else .Or) [] := fun c Q sr p whole pos pins s I => by
  cases ia with
  | true => exact isTrue_and_nil ⟨c.H, I, p.ok sr⟩
  | false => exact isTrue_or_nil ⟨c.H, I, p.ok sr⟩
theorem j_ts_cons {e : Expr} {rest : List Expr} {m ms : S → R Bool} {ia : Bool} (h : JT X W m e) (t : JTs X W ms (if ia then .And else .Or) rest) :
    JTs X W (fun s => (m s).bind fun b s1 => if b = ia then ms s1 else .ok b s1) (if ia then .And else .Or) (e :: rest) := by
  intro c Q sr p whole pos pins s I
  cases ia with
  | true =>
    have key := h c (fun b H1 => if b = true then ∀ pins s, Inv X pins c.σ H1 s → wpAny (model X.prog X.w) X.A (isTrue (.BoolOp .And rest pos) X.env whole) (TP X pins c.σ Q) X.xe s else Q false H1) sr (p.bind.imp fun b c1 st1 sr1 vs1 p1 => by
      cases b with
      | true =>
        intro pins s I
        rw [← vs1.1] at I ⊢
        exact t c1 Q sr1 p1 whole pos pins s I
      | false => exact p1.ok sr1) pins s I
    refine isTrue_and (thn key fun b s1 ⟨H1, I1, q⟩ => ?_)
    cases b with
    | true => exact q pins s1 I1
    | false => exact ⟨H1, I1, q⟩
  | false =>
    have key := h c (fun b H1 => if b = true then Q true H1 else ∀ pins s, Inv X pins c.σ H1 s → wpAny (model X.prog X.w) X.A (isTrue (.BoolOp .Or rest pos) X.env whole) (TP X pins c.σ Q) X.xe s) sr (p.bind.imp fun b c1 st1 sr1 vs1 p1 => by
      cases b with
      | false =>
        intro pins s I
        rw [← vs1.1] at I ⊢
        exact t c1 Q sr1 p1 whole pos pins s I
      | true => exact p1.ok sr1) pins s I
    refine isTrue_or (thn key fun b s1 ⟨H1, I1, q⟩ => ?_)
    cases b with
    | false => exact q pins s1 I1
    | true => exact ⟨H1, I1, q⟩
theorem j_tb {m : S → R Bool} {op : BoolOp} {es : List Expr} {pos : Pos} (h : JTs X W m op es) : JT X W m (.BoolOp op es pos) := fun c Q sr p pins s I => h c Q sr p _ pos pins s I
theorem j_tife {t a b : Expr} {mt ma mb : S → R Bool} {pos : Pos} (ht : JT X W mt t) (ha : JT X W ma a) (hb : JT X W mb b) : JT X W (fun s => (mt s).bind fun k s1 => if k then ma s1 else mb s1) (.IfExp t a b pos) := by
  intro c Q sr p
  have test : WpT X t c.σ c.H (fun k H1 => if k = true then WpT X a c.σ H1 Q else WpT X b c.σ H1 Q) := ht c _ sr (p.bind.imp fun k c1 st1 sr1 vs1 p1 => by
    rw [← vs1.1]
    cases k with
    | true =>
      rw [if_pos rfl] at p1 ⊢
      exact ha c1 _ sr1 p1
    | false =>
      rw [if_neg Bool.false_ne_true] at p1 ⊢
      exact hb c1 _ sr1 p1)
  intro pins s I
  refine PyProof.Rows.isTrue_IfExp (wpAny_mono (test pins s I) (fun k s2 ⟨H1, I1, q⟩ => ?_) fun _ _ z => z)
  cases k with
  | true =>
    rw [if_pos rfl] at q ⊢
    exact q pins s2 I1
  | false =>
    rw [if_neg Bool.false_ne_true] at q ⊢
    exact q pins s2 I1
theorem j_tn {a : Expr} {m : S → R Bool} {pos : Pos} (h : JT X W m a) : JT X W (fun s => (m s).bind fun b s1 => .ok (!b) s1) (.UnaryOp .Not a pos) := fun c Q sr p => by
  refine WpT.of (pt_not (ptW a)) ?_
  exact h c _ sr (p.bind.imp fun b c1 st1 sr1 vs1 p1 => p1.ok sr1)
theorem j_tx {a : Expr} {m : S → R SV} (he : ∀ whole, isTrue a X.env whole = (do let v ← whole; standAt a.pos; holding [v] (truthy v))) (h : JX X W m a) : JT X W (fun s => (m s).bind fun x s1 => lif (truD s1 x) s1) a := fun c Q sr p => by
  refine WpT.of (pt_truth (peW a) he) ?_
  refine h c _ sr (p.bind.imp fun x c1 st1 sr1 vs1 p1 v rv fv => ?_)
  obtain ⟨b, hb, q⟩ := Post.lif sr1 p1
  exact ⟨b, tru_okD sr1 rv hb, q⟩
end
end G

/-! ## GS8 -/
set_option Elab.async false
set_option linter.all false
set_option maxRecDepth 100000
set_option maxHeartbeats 4000000
namespace G
open PySem PySem.Spec PyProof.Rows L2

theorem Post.bindB {α β : Type} {K : PySem.W.Frag} {b c : Cf} {r : R α} {f : α → S → R β} {Qn : β → Cf → Prop} {Qx : Xc → Cf → Prop} (h : Post K b (r.bind f) Qn Qx) (st : Stp b c) (vs : Vst b c) : Post K c r (fun a c' => Post K b (f a c'.s) Qn Qx) Qx := by
  cases r with
  | ok a s =>
    intro c' e st' sr vs'
    subst e
    exact h
  | exc x s => exact fun c' e st' sr => h c' e (st.trans st') sr
  | bad => exact h
theorem star_cons {e : Expr} {es : List Expr} {env : Env} (h : notStar e = true) : starEach (e :: es) env = (false, eval e env) :: starEach es env := by
  cases e <;> first | rfl | cases h
theorem plain_of {pos : Pos} {env : Env} : ∀ {es : List Expr}, es.all notStar = true → (backTo pos (starEach es env)).any (·.1) = false
  | [], _ => rfl
  | e :: es, h => by
    rw [List.all_cons, Bool.and_eq_true] at h
    rw [star_cons h.1]
    show (false || (backTo pos (starEach es env)).any (·.1)) = false
    rw [plain_of h.2]; rfl
theorem okN_of {x : Str} (h : okN x = true) : (x == ("__debug__" : Str)) = false ∧ (x == ("__classdict__" : Str)) = false := by
  unfold okN at h
  rw [Bool.and_eq_true] at h
  exact ⟨by simpa using h.1, by simpa using h.2⟩
theorem vis_of {sc : Scope} {x : Str} (h : visB sc x = true) : Vis sc x := by
  unfold visB at h
  split at h
  · rename_i e; exact .inl e
  · rename_i e; exact .inr (.inl e)
  · rename_i e; exact .inr (.inr e)
  · cases h
section
variable {X : Cx} {W : WX} {k : Cc} {g : GI} {n : Nat}
theorem Ck.slot (K : Ck X W k g n) {i : Nat} {x : Str} (h : slotB k i x = true) : X.N[i]? = some x ∧ Vis X.env.scope x ∧ (x == ("__debug__" : Str)) = false ∧ (x == ("__classdict__" : Str)) = false := by
  unfold slotB at h
  simp only [Bool.and_eq_true, decide_eq_true_eq] at h
  obtain ⟨h1, h2, h3⟩ := h
  rw [K.N, K.sc]
  exact ⟨h1, vis_of h2, okN_of h3⟩
theorem Ck.gl' (K : Ck X W k g n) {x : Str} (h : glB k.sc x = true) : Gl X x ∧ (x == ("__debug__" : Str)) = false := by
  unfold glB at h
  split at h
  · rename_i e
    exact ⟨by show X.env.scope.names.lookup x = _; rw [K.sc]; exact e, (okN_of h).1⟩
  · cases h
theorem Ck.free (K : Ck X W k g n) {x : Str} (h : freeB g k x = true) : Gl X x ∧ (x == ("__debug__" : Str)) = false ∧ X.mg x = none := by
  unfold freeB at h
  rw [Bool.and_eq_true] at h
  obtain ⟨h1, h2⟩ := K.gl' h.2
  exact ⟨h1, h2, K.fr x h.1⟩
end
section
variable {X : Cx} {W : WX} {c : Cf}
theorem j_var {i : Nat} {x : Str} {pos : Pos} (hN : X.N[i]? = some x) (hv : Vis X.env.scope x) (hd : (x == ("__debug__" : Str)) = false) (hcd : (x == ("__classdict__" : Str)) = false) : JX X W (varD i) (.Name x pos) := by
  intro c Q sr p
  refine WpE.of (pe_var hN hv hd hcd) ?_
  unfold varD at p
  split at p
  · rename_i d e
    obtain ⟨v, e1, r⟩ := sr.slot i _ e
    exact ⟨v, e1, p.ok sr v r trivial⟩
  · rename_i xs e
    obtain ⟨a, vs, e1, r⟩ := sr.slot i _ e
    exact ⟨_, e1, p.ok sr _ ⟨e1, .inl ⟨_, e⟩⟩ trivial⟩
  · rename_i xs e
    obtain ⟨a, vs, e1, r⟩ := sr.slot i _ e
    exact ⟨_, e1, p.ok sr _ ⟨e1, .inr ⟨_, e⟩⟩ trivial⟩
  · exact p.elim
theorem j_glob {cn : Cn} {x : Str} {pos : Pos} (hg : Gl X x) (hd : (x == ("__debug__" : Str)) = false) (h : ∀ d, cn.gl x = some d → ∃ u v, X.mg x = some u ∧ RelV v u ∧ ∀ μ H, DR X.K μ H d v) : JX X W (globD cn x) (.Name x pos) := by
  intro c Q sr p
  unfold globD at p
  split at p
  · rename_i d e
    obtain ⟨u, v, e1, r, z⟩ := h d e
    exact WpE.of (pe_glob hg e1 r hd) (p.ok sr v (z _ _) trivial)
  · exact p.elim
theorem cst_dr {d : D} {c : Const} (h : cstB d c = true) (j : Nat) (pos : Pos) : ∃ v, PE X (.Constant c j pos) (tC v) ∧ ∀ μ H, DR X.K μ H d v := by
  unfold cstB at h
  split at h
  · exact ⟨_, pe_non, fun _ _ => by simp only [DR]⟩
  · rw [beq_iff_eq] at h; subst h
    exact ⟨_, pe_bl, fun _ _ => by simp only [DR]⟩
  · rw [decide_eq_true_eq] at h; subst h
    exact ⟨_, pe_int, fun _ _ => by simp only [DR]⟩
  · rw [decide_eq_true_eq] at h; subst h
    exact ⟨_, pe_str, fun _ _ => by simp only [DR]⟩
  · cases h
theorem j_cst {d : D} {c : Const} {j : Nat} {pos : Pos} (h : cstB d c = true) : JX X W (fun s => .ok (.val d) s) (.Constant c j pos) := by
  intro cc Q sr p
  obtain ⟨v, h1, h2⟩ := cst_dr (X := X) h j pos
  exact WpE.of h1 (p.ok sr v (h2 _ _) trivial)
theorem Bi.boot (b : Bi) (h : b ≠ .gcd) : bootBuiltins b.nm = some b.fv ∧ b.nm ≠ "__name__" ∧ ((∃ i, b.fv = .builtin i) ∨ ∃ T, b.fv = .type T) := by
  cases b <;> first
    | exact absurd rfl h
    | exact ⟨by decide +kernel, by decide, .inl ⟨_, rfl⟩⟩
    | exact ⟨by decide +kernel, by decide, .inr ⟨_, rfl⟩⟩
/-- a built-in called -/
theorem j_bi {k : Cc} {g : GI} {n : Nat} {b : Bi} {x : Str} {p pos : Pos} {e : Expr} {es : List Expr} {m : S → R (List SV)} (K : Ck X W k g n) (hb : biB g k b x = true) (hs : (e :: es).all notStar = true) (h : JXs X W m (e :: es)) :
    JX X W (fun s => (m s).bind fun xs s1 => lif (biD b xs s1) s1) (.Call (.Name x p) (e :: es) [] pos) := by
  intro c Q sr q
  rw [List.all_cons, Bool.and_eq_true] at hs
  have key : ∀ t : TA, (t = WpA X (e :: es)) → tCB (WpC X b.fv) t c.σ c.H Q := fun t ht => by
    subst ht
    refine h c _ sr (q.bind.imp fun xs c1 st1 sr1 vs1 p1 vs rv fv => ?_)
    obtain ⟨z, hz, kk⟩ := Post.kv sr1 st1 p1
    exact bi_ok K.calm sr1 rv hz kk
  by_cases hg : b = .gcd
  · subst hg
    simp only [biB, Bool.and_eq_true, decide_eq_true_eq] at hb
    obtain ⟨h1, h2, h3⟩ := hb
    subst h2
    obtain ⟨g1, g2⟩ := K.gl' h3
    exact WpE.of (pe_callBfun (clW _) g1 (K.gcd h1) (paW _) g2 (star_cons hs.1) (plain_of hs.2)) (key _ rfl)
  · obtain ⟨b1, b2, b3⟩ := b.boot hg
    have hb' : decide (x = b.nm) = true ∧ freeB g k x = true := by
      cases b <;> first | exact absurd rfl hg | exact Bool.and_eq_true_iff.mp hb
    obtain ⟨h1, h2⟩ := hb'
    rw [decide_eq_true_eq] at h1
    subst h1
    obtain ⟨g1, g2, g3⟩ := K.free h2
    rcases b3 with ⟨i, b3⟩ | ⟨T, b3⟩
    · rw [b3] at b1 key
      exact WpE.of (pe_callB (clW _) g1 g3 b1 (paW _) b2 g2 (star_cons hs.1) (plain_of hs.2)) (key _ rfl)
    · rw [b3] at b1 key
      exact WpE.of (pe_callTy (clW _) g1 g3 b1 (paW _) b2 g2 (star_cons hs.1) (plain_of hs.2)) (key _ rfl)
theorem ty_boot (t : Ty) : bootBuiltins t.sn = some (.type t.nm) ∧ t.sn ≠ "__name__" := by
  cases t <;> exact ⟨by decide +kernel, by decide⟩
theorem boot_isi : bootBuiltins "isinstance" = some (.builtin "isinstance") := by decide +kernel
/-- isinstance(e, T) -/
theorem j_isi {k : Cc} {g : GI} {n : Nat} {t : Ty} {p pos p2 : Pos} {e : Expr} {m : S → R SV} (K : Ck X W k g n) (h1 : freeB g k "isinstance" = true) (h2 : freeB g k t.sn = true) (hs : notStar e = true) (h : JX X W m e) :
    JX X W (fun s => (m s).bind fun x s1 => lif ((isTys s1 x [t]).map fun k => SV.val (.bl k)) s1) (.Call (.Name "isinstance" p) [e, .Name t.sn p2] [] pos) := by
  intro c Q sr q
  obtain ⟨g1, g2, g3⟩ := K.free h1
  obtain ⟨t1, t2, t3⟩ := K.free h2
  obtain ⟨b1, b2⟩ := ty_boot t
  have pt : PE X (.Name t.sn p2) (tC (.ty t.nm)) := pe_bltn t1 t3 b1 rfl b2 t2
  refine WpE.of (pe_callB call_isi g1 g3 boot_isi (pa_cons (peW e) (pa_cons pt pa_nil) (star_cons hs)) (by decide) g2 (star_cons hs) rfl) ?_
  refine h c _ sr (q.bind.imp fun x c1 st1 sr1 vs1 p1 v rv fv => ?_)
  obtain ⟨z, hz, kk⟩ := Post.kv sr1 st1 p1
  obtain ⟨b, hb, rfl⟩ := Option.map_eq_some_iff.mp hz
  obtain ⟨tt, ty, e1⟩ := ty_ok sr1 rv hb
  exact ⟨v, .ty t.nm, tt, .type t.nm, b, rfl, .ty _, ty, e1.1, kk.bl sr1⟩
theorem Mt.slot (m : Mt) : PySem.Slot "list" m.nm m.id ∧ typeOf (.builtin m.id) = pure (.type "method_descriptor") := by
  cases m
  · exact ⟨PySem.F.slot_list_append, PySem.F.type_list_append⟩
  · exact ⟨PySem.F.slot_list_pop, PySem.F.type_list_pop⟩
  · exact ⟨PySem.F.slot_list_extend, PySem.F.type_list_extend⟩
  · exact ⟨PySem.F.slot_list_insert, PySem.F.type_list_insert⟩
  · exact ⟨PySem.F.slot_list_reverse, PySem.F.type_list_reverse⟩
theorem base_of {o : Expr} {nm : Str} {env : Env} (h : plainB o = true) : attributeBase o nm env (eval o env) = eval o env := by
  unfold plainB at h
  unfold attributeBase
  split at h
  · cases h
  · rename_i hne
    split
    · rename_i id p2 pos
      exact absurd rfl (hne id p2 pos)
    · rfl
theorem few_of {pos : Pos} {env : Env} {es : List Expr} (h : es.all notStar = true) (hl : es.length < 20) :
    ((backTo pos (starEach es env)).all (fun x => !x.1) && (backToKw pos (keywordEach [] env)).all (fun x => x.1.isSome)
      && decide (es.length + ([] : List Keyword).length + (if ([] : List Keyword).isEmpty then 0 else 1) < 30)) = true := by
  have h1 : (backTo pos (starEach es env)).all (fun x => !x.1) = true := by
    have z := plain_of (pos := pos) (env := env) h
    rw [List.all_eq_not_any_not]
    simpa using z
  rw [h1]
  have : es.length + ([] : List Keyword).length + (if ([] : List Keyword).isEmpty then 0 else 1) < 30 := by
    show es.length + 0 + 0 < 30
    omega
  simp only [this, decide_true, Bool.and_true, Bool.true_and]
  rfl
/-- a method of a list -/
theorem j_meth0 {m : Mt} {o : Expr} {ap cp : Pos} {mo : S → R SV} (hp : plainB o = true) (hl : (ap.endLine == cp.line) = true) (ho : JX X W mo o) :
    JX X W (fun s => (mo s).bind fun x s1 => if (lis s1 x).isSome then (R.ok [] s1).bind fun as s2 => mtD m x as s2 else .bad) (.Call (.Attribute o m.nm ap) [] [] cp) := by
  intro c Q sr q
  obtain ⟨sl, ty⟩ := m.slot
  refine WpE.of (pe_bm0 PySem.F.plainAttrs_list sl ty (mtW _) (peW o) (base_of hp) hl) ?_
  refine ho c _ sr (q.bind.imp fun x c1 st1 sr1 vs1 p1 v rv fv => ?_)
  split at p1
  · rename_i hx
    obtain ⟨xs, hx⟩ := Option.isSome_iff_exists.mp hx
    obtain ⟨a, vs, rfl, h1, h2⟩ := lis_ok sr1 rv hx
    refine ⟨.inl ⟨rfl, vs, .of h1⟩, ?_⟩
    have p1 : Post X.K c1 (mtD m x [] c1.s) _ _ := p1
    exact mtD_ok (as := []) (Stp.refl _) (Vst.refl _) sr1 rv rfl trivial (p1.imp fun z c3 st3 sr3 vs3 k w r f => k w r (Fresh.back st1 f))
  · exact p1.elim
theorem j_meth {m : Mt} {o e : Expr} {es : List Expr} {ap cp : Pos} {mo : S → R SV} {ma : S → R (List SV)} (hp : plainB o = true) (hl : (ap.endLine == cp.line) = true) (hs : (e :: es).all notStar = true) (hn : (e :: es).length < 20) (ho : JX X W mo o) (ha : JXs X W ma (e :: es)) :
    JX X W (fun s => (mo s).bind fun x s1 => if (lis s1 x).isSome then (ma s1).bind fun as s2 => mtD m x as s2 else .bad) (.Call (.Attribute o m.nm ap) (e :: es) [] cp) := by
  intro c Q sr q
  obtain ⟨sl, ty⟩ := m.slot
  rw [List.all_cons, Bool.and_eq_true] at hs
  refine WpE.of (pe_bm PySem.F.plainAttrs_list sl ty (mtW _) (peW o) (paW (e :: es)) (base_of hp) (few_of (by rw [List.all_cons, hs.1, hs.2]; rfl) hn) hl (star_cons hs.1) (plain_of hs.2)) ?_
  refine ho c _ sr (q.bind.imp fun x c1 st1 sr1 vs1 p1 v rv fv => ?_)
  split at p1
  · rename_i hx
    obtain ⟨xs, hx⟩ := Option.isSome_iff_exists.mp hx
    obtain ⟨a, vs, rfl, h1, h2⟩ := lis_ok sr1 rv hx
    refine ⟨.inl ⟨rfl, vs, .of h1⟩, ?_⟩
    rw [← vs1.1]
    refine ha c1 _ sr1 ((p1.bindB (Stp.refl _) (Vst.refl _)).imp fun as c2 st2 sr2 vs2 p2 us ru fu => ?_)
    exact mtD_ok st2 vs2 sr2 rv ru fu (p2.imp fun z c3 st3 sr3 vs3 k w r f => k w r (Fresh.back st1 f))
  · exact p1.elim
end
/-! ### calls of defs -/
section
variable {X : Cx} {W : WX} {c : Cf} {K : PySem.W.Frag}
def Cf.bare (c : Cf) : Cf := { μ := c.μ, ρ := fun b => (∃ o, c.H b = some o) ∧ b ∉ c.μ, s := ⟨[], c.s.M⟩, σ := [], H := c.H }
theorem bare_foot {b : Addr} : Foot c.bare b ↔ b ∈ c.μ := by
  constructor
  · rintro (h | ⟨i, ⟨xs, h⟩, _⟩)
    · exact h
    · simp [Cf.bare] at h
  · exact fun h => .inl h
theorem SR.bare (sr : SR K c) : SR K c.bare where
  len := rfl
  mlen := sr.mlen
  nd := sr.nd
  cell := fun m cl a h1 h2 => by
    have z := sr.cell m cl a h1 h2
    exact z
  slot := fun i x h => by simp [Cf.bare] at h
  ownd := fun i j a ⟨⟨xs, h⟩, _⟩ => by simp [Cf.bare] at h
  ownm := fun i a ⟨⟨xs, h⟩, _⟩ => by simp [Cf.bare] at h
  rho := fun b h => ⟨h.1, fun f => h.2 (bare_foot.mp f)⟩
theorem rd_lst {H : Hp} {a : Addr} {vs : List V} (h : H a = some (.lst vs)) : Rd H a (.lst vs) := .inl h
theorem arg_ok {a : Ar} {v : V} {x : Slot} (sr : SR K c) (r : SVR K c a.sv v) (h : a.slot c.s = some x) : ArgR K c.bare x v := by
  cases a with
  | val d => cases h; exact r
  | tmp xs =>
    cases h
    obtain ⟨b, vs, rfl, q, z, f1, f2⟩ := r
    exact ⟨b, vs, rfl, z, .inr ⟨⟨⟨_, q⟩, fun m => f1 (.inl m)⟩, rd_lst q⟩⟩
  | var i =>
    simp only [Ar.slot] at h
    have e1 := r.1
    split at h
    · rename_i xs q
      cases h
      obtain ⟨b, vs, e, z1, z2⟩ := sr.slot i _ q
      rw [e] at e1
      cases e1
      exact ⟨b, vs, rfl, z2, .inr ⟨⟨⟨_, z1⟩, sr.ownm i b ⟨⟨_, q⟩, e⟩⟩, rd_lst z1⟩⟩
    · rename_i xs q
      cases h
      obtain ⟨b, vs, e, z1, z2⟩ := sr.slot i _ q
      rw [e] at e1
      cases e1
      refine ⟨b, vs, rfl, z1, ?_⟩
      rcases z2 with z2 | ⟨z2, z3⟩
      · exact .inl z2
      · obtain ⟨t, nf⟩ := sr.rho b z2
        exact .inr ⟨⟨t, fun m => nf (.inl m)⟩, z3⟩
    · cases h
theorem args_ok : ∀ {as : List Ar} {vs : List V} {xs : List Slot}, SR K c → SVRs K c (as.map Ar.sv) vs → slots c.s as = some xs → ArgRs K c.bare xs vs ∧ xs.length = as.length
  | [], _, _, _, r, h => by
    simp only [slots] at h
    cases h
    exact ⟨r, rfl⟩
  | a :: as, _, _, sr, r, h => by
    simp only [slots] at h
    obtain ⟨x, e1, h⟩ := Option.bind_eq_some_iff.mp h
    obtain ⟨xs, e2, rfl⟩ := Option.map_eq_some_iff.mp h
    obtain ⟨v, r', rfl, q, z⟩ := r
    obtain ⟨h1, h2⟩ := args_ok sr z e2
    exact ⟨⟨v, r', rfl, arg_ok sr q e1, h1⟩, by rw [List.length_cons, List.length_cons, h2]⟩
theorem ArgRs.length : ∀ {xs : List Slot} {vs : List V}, ArgRs K c xs vs → vs.length = xs.length
  | [], _, h => by rw [show _ = [] from h]; rfl
  | _ :: xs, _, ⟨v, r, e, _, z⟩ => by rw [e, List.length_cons, List.length_cons, ArgRs.length z]
theorem ArgRs.append : ∀ {xs ys : List Slot} {vs us : List V}, ArgRs K c xs vs → ArgRs K c ys us → ArgRs K c (xs ++ ys) (vs ++ us)
  | [], _, _, _, h, k => by rw [show _ = [] from h]; exact k
  | _ :: xs, _, _, _, ⟨v, r, e, q, z⟩, k => by rw [e]; exact ⟨v, _, rfl, q, ArgRs.append z k⟩
theorem ArgRs.vals : ∀ {ds : List D} {vs : List V}, DRs K c.μ c.H ds vs → ArgRs K c (ds.map Slot.val) vs
  | [], _, h => by simp only [DRs] at h; exact h
  | d :: ds, _, h => by
    simp only [DRs] at h
    obtain ⟨v, r, e, q, z⟩ := h
    exact ⟨v, r, e, q, ArgRs.vals z⟩
/-- back from a callee's end -/
def Cf.back (c c' : Cf) : Cf := { μ := c'.μ, ρ := c.ρ, s := ⟨c.s.v, c'.s.M⟩, σ := c.σ, H := c'.H }
theorem back_nm {c' : Cf} (sr : SR K c) (st : Stp c.bare c') {b : Addr} {o : HO} (e : c.H b = some o) (n : b ∉ c.μ) : b ∉ c'.μ := fun m => by
  rcases st.grow b (.inl m) with f | f
  · exact n (bare_foot.mp f)
  · have f : c.H b = none := f
    rw [e] at f; cases f
theorem back_ok {c' : Cf} (sr : SR K c) (st : Stp c.bare c') (sr' : SR K c') : Stp c (c.back c') ∧ SR K (c.back c') ∧ Vst c (c.back c') := by
  have frm : ∀ b o, c.H b = some o → b ∉ c.μ → c'.H b = some o := fun b o e n => st.frame b o e fun f => n (bare_foot.mp f)
  have frl : ∀ b vs, Rd c.H b (.lst vs) → b ∉ c.μ → Rd c'.H b (.lst vs) := fun b vs e n => by
    rcases e with e | ⟨u, e⟩
    · exact .inl (frm b _ e n)
    · exact .inr ⟨u, frm b _ e n⟩
  refine ⟨⟨st.pre, rfl, fun b o e nf => frm b o e fun m => nf (.inl m), fun b f => ?_, st.trk, st.tup, fun i xs h => ⟨h, rfl⟩, fun i xs h => h⟩, ⟨sr.len, sr'.mlen, sr'.nd, fun m cl a h1 h2 => ?_, fun i x h => ?_, sr.ownd, fun i a h => ?_, fun b h => ?_⟩, Vst.refl c⟩
  · rcases f with f | f
    · rcases st.grow b (.inl f) with f | f
      · exact .inl (.inl (bare_foot.mp f))
      · exact .inr f
    · exact .inl (.inr f)
  · have z := sr'.cell m cl a h1 h2
    exact z
  · refine SlotR.mono (c := c) (c' := c.back c') st.pre st.tup (fun a vs e1 e2 e3 => ?_) (fun a vs e1 e2 => ⟨e1, ?_⟩) (sr.slot i x h)
    · obtain ⟨xs, rfl⟩ := e2
      exact frm a _ e3 (sr.ownm i a ⟨⟨xs, h⟩, e1⟩)
    · exact frl a vs e2 fun m => (sr.rho a e1).2 (.inl m)
  · obtain ⟨⟨xs, h1⟩, h2⟩ := h
    obtain ⟨b, vs, e, q, _⟩ := sr.slot i _ h1
    have h2 : c.σ[i]? = some (some (.ref a)) := h2
    rw [e] at h2
    cases h2
    exact back_nm sr st q (sr.ownm i _ ⟨⟨xs, h1⟩, e⟩)
  · obtain ⟨⟨o, e⟩, nf⟩ := sr.rho b h
    refine ⟨st.trk b o e, fun f => ?_⟩
    rcases f with f | f
    · exact back_nm sr st e (fun m => nf (.inl m)) f
    · exact nf (.inr f)
theorem argsOf_full {fd : Fn} {as vs : List Slot} (h : argsOf fd as = some vs) : argsOf fd vs = some vs ∧ vs.length = fd.ps.length ∧ ∃ k, k ≤ fd.dfl.length ∧ vs = as ++ (fd.dfl.drop (fd.dfl.length - k)).map Slot.val := by
  unfold argsOf at h
  split at h
  · rename_i hc
    cases h
    have hl : (as ++ (fd.dfl.drop (fd.dfl.length - (fd.ps.length - as.length))).map Slot.val).length = fd.ps.length := by
      rw [List.length_append, List.length_map, List.length_drop]
      omega
    refine ⟨?_, hl, _, hc.2, rfl⟩
    unfold argsOf
    rw [hl, if_pos ⟨Nat.le_refl _, by omega⟩, Nat.sub_self, Nat.sub_zero, List.drop_length, List.map_nil, List.append_nil]
  · cases h
theorem run_full {P : Prog} {gl : Str → Option D} {n : Nat} {f : Str} {fd : Fn} {as : List Slot} {M : List Cell} (hf : P.lookup f = some fd) (h : run P gl n f as M ≠ .bad) :
    ∃ vs k, argsOf fd as = some vs ∧ k ≤ fd.dfl.length ∧ vs = as ++ (fd.dfl.drop (fd.dfl.length - k)).map Slot.val ∧ vs.length = fd.ps.length ∧ run P gl n f as M = run P gl n f vs M := by
  cases n with
  | zero => exact absurd rfl h
  | succ n =>
    simp only [run, hf] at h ⊢
    unfold runFn at h ⊢
    cases e : argsOf fd as with
    | none => rw [e] at h; exact absurd rfl h
    | some vs =>
      obtain ⟨h1, h2, k, h3, h4⟩ := argsOf_full e
      exact ⟨vs, k, rfl, h3, h4, h2, by rw [h1]⟩
theorem sp_core {g : GI} {n : Nat} {f : Str} {fd : Fn} {Q : VK} {c1 : Cf} {ys : List Slot} {us : List V} (hl : ys.length = fd.ps.length) (st1 : Stp c c1) (sr1 : SR X.K c1) (vs1 : Vst c c1)
    (ra : ArgRs X.K c1.bare ys us) (p : Post X.K c1 (ofCall c1.s (run g.P g.gl n f ys c1.s.M)) (fun x c' => ∀ v, SVR X.K c' x v → Fresh c.H x v → Q v c'.H) (QX X W)) : spF X.K X.mg g f fd n us c1.H Q (WE W c.σ) := by
  refine ⟨c1.bare, ys, hl, ⟨rfl, rfl⟩, sr1.bare, rfl, ra, ?_⟩
  show PostF X.K c1.bare (run g.P g.gl n f ys c1.s.M) _ _
  generalize run g.P g.gl n f ys c1.s.M = rr at p
  cases rr with
  | bad => exact p
  | exc x M =>
    intro c' bc eM st sr' cls d xr
    subst eM
    obtain ⟨s1, s2, s3⟩ := back_ok sr1 st sr'
    have z := p (c1.back c') rfl s1 s2 cls d ?_
    · rw [← vs1.1]; exact z
    · obtain ⟨C, fs, h1, h2, h3⟩ := xr
      refine ⟨C, fs, h1, h2, ?_⟩
      rcases h3 with h3 | ⟨b, h3, h4, h5, h6, h7⟩
      · exact .inl h3
      · have h4' : (c1.back c').H b = some (.xd fs) := h4
        have nf : ¬ Foot (c1.back c') b := fun ff => by
          obtain ⟨ws, e, w⟩ := s2.foot ff
          rw [h4'] at e; cases e; exact w.elim
        exact .inr ⟨b, h3, h4', nf, h6, h7⟩
  | ok o M =>
    intro c' bc eM st sr' v ro
    subst eM
    obtain ⟨s1, s2, s3⟩ := back_ok sr1 st sr'
    cases o with
    | no => exact ro.elim
    | ro xs => exact ro.elim
    | val d => exact p (c1.back c') rfl s1 s2 s3 v ro trivial
    | own xs =>
      obtain ⟨b, us, rfl, h1, h2, h3, h4, h5⟩ := ro
      have h5 : c1.H b = none := h5
      refine p (c1.back c') rfl s1 s2 s3 (.ref b) ⟨b, us, rfl, h1, h2, fun ff => ?_, fun rr => ?_⟩ fun a' e => ?_
      · rcases ff with ff | ff
        · exact h3 (.inl ff)
        · obtain ⟨ws, e, _⟩ := sr1.foot (.inr ff)
          rw [h5] at e; cases e
      · obtain ⟨⟨o', e⟩, _⟩ := sr1.rho b rr
        rw [h5] at e; cases e
      · cases e
        exact st1.untrk h5
/-- what the callee is asked for, out of what the caller wants -/
theorem call_sp {g : GI} {n : Nat} {f : Str} {fd : Fn} {a : Addr} {fdt : FuncData} {Q : VK} {c1 : Cf} {as : List Ar} {vs : List V} (F : FnI X g f fd n a fdt) (hf : g.P.lookup f = some fd) (st1 : Stp c c1) (sr1 : SR X.K c1) (vs1 : Vst c c1)
    (r : SVRs X.K c1 (as.map Ar.sv) vs) (p : Post X.K c1 (callD (cnOf g n) f as c1.s) (fun x c' => ∀ v, SVR X.K c' x v → Fresh c.H x v → Q v c'.H) (QX X W)) :
    ∃ dvs ds, Vals dvs ds ∧ Binds X.K fdt fd.ps ds ∧ spF X.K X.mg g f fd n (vs ++ dvs) c1.H Q (WE W c.σ) := by
  unfold callD at p
  split at p
  · rename_i xs hx
    obtain ⟨ra, la⟩ := args_ok sr1 r hx
    have nb : run g.P g.gl n f xs c1.s.M ≠ .bad := fun e => by
      have p : Post X.K c1 (ofCall c1.s (run g.P g.gl n f xs c1.s.M)) _ _ := p
      rw [e] at p
      exact p
    obtain ⟨ys, j, e1, hj, e2, hl, e3⟩ := run_full hf nb
    obtain ⟨dvs, ds, hd, hD, hb⟩ := F.dfl j hj
    have p : Post X.K c1 (ofCall c1.s (run g.P g.gl n f xs c1.s.M)) _ _ := p
    rw [e3] at p
    refine ⟨dvs, ds, hd, hb, sp_core hl st1 sr1 vs1 ?_ p⟩
    rw [e2]
    exact ra.append (ArgRs.vals (c := c1.bare) (hD _ _))
  · exact p.elim
/-! ### by name -/
theorem pick_ok {K : PySem.W.Frag} {c : Cf} : ∀ {ks : List Str} {xs : List Slot} {vs : List V} {ws : List Value}, ArgRs K c xs vs → Vals vs ws → ∀ {p : Str} {x : Slot}, (ks.zip xs).lookup p = some x → ∃ v w, (ks.zip ws).lookup p = some w ∧ ArgR K c x v ∧ RelV v w
  | [], _, _, _, _, _, _, _, h => by simp at h
  | k :: ks, [], _, _, _, _, _, _, h => by simp at h
  | k :: ks, y :: xs, _, _, ⟨v, r, e, q, z⟩, rv, p, x, h => by
    subst e
    cases rv with
    | cons r1 rr =>
      rw [List.zip_cons_cons, List.lookup_cons] at h ⊢
      cases hp : p == k with
      | true =>
        rw [hp] at h
        cases h
        exact ⟨_, _, rfl, q, r1⟩
      | false =>
        rw [hp] at h
        exact pick_ok z rr h
theorem picks_ok {K : PySem.W.Frag} {c : Cf} {ks : List Str} {xs : List Slot} {vs : List V} {ws : List Value} (r : ArgRs K c xs vs) (rv : Vals vs ws) : ∀ {ps : List Str} {ys : List Slot}, pick (ks.zip xs) ps = some ys → ∃ us zs, pick (ks.zip ws) ps = some zs ∧ ArgRs K c ys us ∧ Vals us zs ∧ ys.length = ps.length
  | [], ys, h => by
    simp only [pick] at h
    cases h
    exact ⟨[], [], rfl, rfl, .nil, rfl⟩
  | p :: ps, ys, h => by
    simp only [pick] at h
    obtain ⟨x, e1, h⟩ := Option.bind_eq_some_iff.mp h
    obtain ⟨ys', e2, rfl⟩ := Option.map_eq_some_iff.mp h
    obtain ⟨v, w, e3, q1, q2⟩ := pick_ok r rv e1
    obtain ⟨us, zs, e4, q3, q4, q5⟩ := picks_ok r rv e2
    exact ⟨v :: us, w :: zs, by simp only [pick, e3, e4]; rfl, ⟨v, us, rfl, q1, q3⟩, .cons q2 q4, by rw [List.length_cons, List.length_cons, q5]⟩
def WpK (X : Cx) (kws : List Keyword) : TA := fun σ H Q => ∀ pos pins s, Inv X pins σ H s → wpAny (model X.prog X.w) X.A (evalAll ((backToKw pos (keywordEach kws X.env)).map (·.2))) (AP X pins σ Q) X.xe s
theorem pkW (kws : List Keyword) : PK X kws (WpK X kws) := ⟨fun pos pins s _ _ _ I h => h pos pins s I⟩
def JK (X : Cx) (W : WX) (m : S → R (List Ar)) (kws : List Keyword) : Prop := ∀ c Q, SR X.K c → Post X.K c (m c.s) (fun as c' => ∀ vs, SVRs X.K c' (as.map Ar.sv) vs → Q vs c'.H) (QX X W) → WpK X kws c.σ c.H Q
theorem j_k_nil : JK X W (fun s => .ok [] s) [] := fun c Q sr p pos pins s I => pk_nil.run pos pins s c.σ c.H Q I (p.ok sr [] rfl)
theorem j_k_v {nm : Option Str} {e : Expr} {kp : Pos} {kws : List Keyword} {m : S → R SV} {ms : S → R (List Ar)} (h : JX X W m e) (t : JK X W ms kws) :
    JK X W (fun s => (((m s).bind toVal).bind fun d s1 => .ok (Ar.val d) s1).bind fun d s1 => (ms s1).bind fun ds s2 => .ok (d :: ds) s2) (⟨nm, e, kp⟩ :: kws) := by
  intro c Q sr p
  dsimp only at p
  rw [R.bind_assoc] at p
  refine fun pos pins s I => (pk_cons (peW e) (pkW kws)).run pos pins s c.σ c.H Q I ?_
  refine h.val sr p fun c1 d v st1 sr1 vs1 rd p1 => ?_
  have p1 : Post X.K c1 ((ms c1.s).bind fun ds s2 => .ok (Ar.val d :: ds) s2) _ _ := p1
  rw [← vs1.1]
  refine t c1 _ sr1 (p1.bind.imp fun ds c2 st2 sr2 vs2 p2 us r => ?_)
  exact p2.ok sr2 _ ⟨v, us, rfl, st2.dr rd, r⟩
theorem j_k_b {nm : Option Str} {e : Expr} {kp : Pos} {kws : List Keyword} {m : S → R SV} {ms : S → R (List Ar)} (h : JX X W m e) (t : JK X W ms kws) :
    JK X W (fun s => ((m s).bind fun d s1 => .ok (lend d) s1).bind fun d s1 => (ms s1).bind fun ds s2 => .ok (d :: ds) s2) (⟨nm, e, kp⟩ :: kws) := by
  intro c Q sr p
  dsimp only at p
  rw [R.bind_assoc] at p
  refine fun pos pins s I => (pk_cons (peW e) (pkW kws)).run pos pins s c.σ c.H Q I ?_
  refine h c _ sr (p.bind.imp fun x c1 st1 sr1 vs1 p1 v rv fv => ?_)
  have p1 : Post X.K c1 ((ms c1.s).bind fun ds s2 => .ok (lend x :: ds) s2) _ _ := p1
  rw [← vs1.1]
  refine t c1 _ sr1 (p1.bind.imp fun ds c2 st2 sr2 vs2 p2 us r => ?_)
  exact p2.ok sr2 _ ⟨v, us, rfl, by rw [lend_sv]; exact rv.step st2 vs2, r⟩
theorem run_fnSK {CX : CXT} {k : Nat} {f : Addr} {fd : FuncData} {ps : List Str} {sp : Sp} {E : L2.St → XK} {pins : List (Addr × Obj)} {σ : L2.St} {H : Hp} {s : Shared} {Q : VK} {kw : List (Str × Value)} {us : List Value} {vs : List V} (F : FnOk X.prog X.w X.K X.mg X.base CX k f fd ps sp) (hr : Room k X.A)
    (hb : BindsTo s fd ⟨[], kw⟩ (ps.zip us)) (hx : PassesAt CX X σ (E σ)) (I : Inv X pins σ H s) (r : Vals vs us) (h : sp vs H Q (E σ)) : wpAny (model X.prog X.w) X.A (call (.ref f) [] kw) (EP X pins σ Q) X.xe s := by
  refine wpAny_call (codeAny_mono (F.run X.A X.stack s H ⟨[], kw⟩ us vs Q (E σ) hr I.env0 hb r h) fun r s' hq => ?_)
  cases r with
  | error e => exact hx pins H s e s' I hq
  | ok fl =>
    cases fl with
    | ret u => exact I.after hq
    | next => exact False.elim hq
    | brk => exact False.elim hq
    | cont => exact False.elim hq
/-- the names of the keywords, as they are written -/
def KwN : List Str → List Keyword → Prop
  | [], [] => True
  | x :: xs, ⟨nm, _, _⟩ :: ks => nm = some x ∧ KwN xs ks
  | _, _ => False
theorem kw_facts {pos : Pos} {env : Env} : ∀ {ks : List Str} {kws : List Keyword}, KwN ks kws → (backToKw pos (keywordEach kws env)).all (·.1.isSome) = true ∧ (backToKw pos (keywordEach kws env)).filterMap (·.1) = ks ∧ (backToKw pos (keywordEach kws env)).any (·.1.isNone) = false
  | [], [], _ => ⟨rfl, rfl, rfl⟩
  | x :: xs, ⟨nm, e, p⟩ :: kws, h => by
    obtain ⟨h1, h2⟩ := h
    have h1 : nm = some x := h1
    subst h1
    obtain ⟨a, b, c⟩ := kw_facts (pos := pos) (env := env) h2
    refine ⟨?_, ?_, ?_⟩
    · show (true && (backToKw pos (keywordEach kws env)).all (·.1.isSome)) = true
      rw [a]; rfl
    · show x :: (backToKw pos (keywordEach kws env)).filterMap (·.1) = _
      rw [b]
    · show (false || (backToKw pos (keywordEach kws env)).any (·.1.isNone)) = false
      rw [c]; rfl
  | [], _ :: _, h => h.elim
  | _ :: _, [], h => h.elim
theorem j_callk {k : Cc} {g : GI} {n : Nat} {f : Str} {ks : List Str} {p pos : Pos} {kws : List Keyword} {m : S → R (List Ar)} (K : Ck X W k g n) (hg : glB k.sc f = true) (hf : (g.P.lookup f).isSome = true) (hk : (g.kw f).contains ks = true) (hn : KwN ks kws) (h : JK X W m kws) :
    JX X W (fun s => (m s).bind fun as s1 => callkD (cnOf g n) f 0 ks as s1) (.Call (.Name f p) [] kws pos) := by
  intro c Q sr q
  obtain ⟨fd, hf⟩ := Option.isSome_iff_exists.mp hf
  obtain ⟨g1, g2⟩ := K.gl' hg
  obtain ⟨a, fdt, F⟩ := K.fns f fd hf
  intro pins s I
  have hA : WpK X kws c.σ c.H fun vs H1 => vs.length = ks.length ∧ ∀ ws, Vals vs ws → ∃ us zs, pick (ks.zip ws) fd.ps = some zs ∧ Vals us zs ∧ spF X.K X.mg g f fd n us H1 Q (WE W c.σ) := by
    refine h c _ sr (q.bind.imp fun as c1 st1 sr1 vs1 p1 vs r => ?_)
    have p1 : Post X.K c1 (callkD (cnOf g n) f 0 ks as c1.s) _ _ := p1
    unfold callkD at p1
    split at p1
    · rename_i ys hy
      obtain ⟨xs, hx, hy⟩ := Option.bind_eq_some_iff.mp hy
      obtain ⟨ra, la⟩ := args_ok sr1 r hx
      have hy : (if xs.length = ks.length then (g.P.lookup f).bind (fun fd => pick (ks.zip xs) fd.ps) else none) = some ys := hy
      rw [hf] at hy
      have hln : xs.length = ks.length := by
        by_cases e : xs.length = ks.length
        · exact e
        · rw [if_neg e] at hy; cases hy
      rw [if_pos hln] at hy
      have hy : pick (ks.zip xs) fd.ps = some ys := hy
      refine ⟨?_, fun ws rv => ?_⟩
      · rw [ra.length]; exact hln
      · obtain ⟨us, zs, e1, e2, e3, e4⟩ := picks_ok ra rv hy
        exact ⟨us, zs, e1, e3, sp_core e4 st1 sr1 vs1 e2 p1⟩
    · exact p1.elim
  obtain ⟨k1, k2, k3⟩ := kw_facts (pos := pos) (env := X.env) hn
  refine wpAny_Call_Name_kw (ld_glob I g1 F.at_ ?_ g2)
  refine PySem.W.callWith_KW0 (h₀ := X.base) I.ok.mod.kin F.keep k1 (thn (hA pos pins s I) fun ws s2 ⟨zs, H2, I2, rz, hl, q2⟩ => ⟨I2.kIn, ?_⟩) (by rw [k3]; rfl)
  rw [k2]
  obtain ⟨us, ys, e1, e2, e3⟩ := q2 ws rz
  exact run_fnSK F.ok K.room (F.kw ks (by simpa using hk) s2 ws ys I2.kIn (by rw [← rz.length]; exact hl) e1) (passAt K.tk c.σ) I2 e2 e3
/-- f(..) -/
theorem j_call {k : Cc} {g : GI} {n : Nat} {f : Str} {p pos : Pos} {e : Expr} {es : List Expr} {m : S → R (List Ar)} (K : Ck X W k g n) (hg : glB k.sc f = true) (hf : (g.P.lookup f).isSome = true) (hs : (e :: es).all notStar = true) (h : JA X W m (e :: es)) :
    JX X W (fun s => (m s).bind fun as s1 => callD (cnOf g n) f as s1) (.Call (.Name f p) (e :: es) [] pos) := by
  intro c Q sr q
  obtain ⟨fd, hf⟩ := Option.isSome_iff_exists.mp hf
  obtain ⟨g1, g2⟩ := K.gl' hg
  obtain ⟨a, fdt, F⟩ := K.fns f fd hf
  intro pins s I
  have hA : WpA X (e :: es) c.σ c.H fun vs H1 => ∃ dvs ds, Vals dvs ds ∧ Binds X.K fdt fd.ps ds ∧ spF X.K X.mg g f fd n (vs ++ dvs) H1 Q (WE W c.σ) :=
    h c _ sr (q.bind.imp fun as c1 st1 sr1 vs1 p1 vs r => call_sp F hf st1 sr1 vs1 r p1)
  refine wpAny_Call_Name_kw (ld_glob I g1 F.at_ ?_ g2)
  rw [List.all_cons, Bool.and_eq_true] at hs
  refine PySem.W.callWith_K (h₀ := X.base) I.ok.mod.kin F.keep (thn (hA pos pins s I) fun us s1 ⟨vs, H1, I1, r, dvs, ds, hd, hb, q⟩ => ⟨I1.kIn, ?_⟩) (star_cons hs.1) (plain_of hs.2)
  exact run_fnSD F.ok K.room hb hd (passAt K.tk c.σ) I1 r q
theorem j_call0 {k : Cc} {g : GI} {n : Nat} {f : Str} {p pos : Pos} (K : Ck X W k g n) (hg : glB k.sc f = true) (hf : (g.P.lookup f).isSome = true) :
    JX X W (fun s => (R.ok [] s).bind fun as s1 => callD (cnOf g n) f as s1) (.Call (.Name f p) [] [] pos) := by
  intro c Q sr q
  obtain ⟨fd, hf⟩ := Option.isSome_iff_exists.mp hf
  obtain ⟨g1, g2⟩ := K.gl' hg
  obtain ⟨a, fdt, F⟩ := K.fns f fd hf
  intro pins s I
  obtain ⟨dvs, ds, hd, hb, q⟩ := call_sp (as := []) (vs := []) F hf (Stp.refl c) sr (Vst.refl c) rfl q
  refine wpAny_Call_Name_kw (ld_glob I g1 F.at_ ?_ g2)
  exact PySem.W.callWith_K0 I.kIn F.keep (run_fnSD (us := []) F.ok K.room hb hd (passAt K.tk c.σ) I .nil q)
end
end G

/-! ## GS9 -/
set_option Elab.async false
set_option linter.all false
set_option maxRecDepth 100000
set_option maxHeartbeats 4000000
namespace G
open PySem PySem.Spec PyProof.Rows L2

/-! ### names that are locked -/
theorem lock_len : ∀ (v : List Slot) (l : List (Nat × List D)), (lock v l).length = v.length
  | _, [] => rfl
  | v, (i, xs) :: r => by unfold lock; rw [List.length_set, lock_len v r]
theorem unlock_len : ∀ (v : List Slot) (l : List (Nat × List D)), (unlock v l).length = v.length
  | _, [] => rfl
  | v, (i, xs) :: r => by unfold unlock; rw [List.length_set, unlock_len v r]
theorem lock_get {v : List Slot} {j : Nat} {x : Slot} : ∀ {l : List (Nat × List D)}, (lock v l)[j]? = some x → (∃ p ∈ l, p.1 = j ∧ x = .ro p.2) ∨ ((∀ p ∈ l, p.1 ≠ j) ∧ v[j]? = some x)
  | [], h => .inr ⟨fun _ h => absurd h List.not_mem_nil, h⟩
  | (i, xs) :: r, h => by
    unfold lock at h
    rcases set_get h with ⟨rfl, rfl, _⟩ | ⟨ne, h⟩
    · exact .inl ⟨(j, xs), List.mem_cons_self, rfl, rfl⟩
    · rcases lock_get h with ⟨p, h1, h2, h3⟩ | ⟨h1, h2⟩
      · exact .inl ⟨p, List.mem_cons_of_mem _ h1, h2, h3⟩
      · refine .inr ⟨fun p hp => ?_, h2⟩
        rcases List.mem_cons.mp hp with rfl | hp
        · exact fun e => ne e.symm
        · exact h1 p hp
theorem unlock_get {v : List Slot} {j : Nat} {x : Slot} : ∀ {l : List (Nat × List D)}, (unlock v l)[j]? = some x → (∃ p ∈ l, p.1 = j ∧ x = .own p.2) ∨ ((∀ p ∈ l, p.1 ≠ j) ∧ v[j]? = some x)
  | [], h => .inr ⟨fun _ h => absurd h List.not_mem_nil, h⟩
  | (i, xs) :: r, h => by
    unfold unlock at h
    rcases set_get h with ⟨rfl, rfl, _⟩ | ⟨ne, h⟩
    · exact .inl ⟨(j, xs), List.mem_cons_self, rfl, rfl⟩
    · rcases unlock_get h with ⟨p, h1, h2, h3⟩ | ⟨h1, h2⟩
      · exact .inl ⟨p, List.mem_cons_of_mem _ h1, h2, h3⟩
      · refine .inr ⟨fun p hp => ?_, h2⟩
        rcases List.mem_cons.mp hp with rfl | hp
        · exact fun e => ne e.symm
        · exact h1 p hp
theorem lock_in {v : List Slot} {p : Nat × List D} : ∀ {l : List (Nat × List D)}, p ∈ l → p.1 < v.length → ∃ q ∈ l, q.1 = p.1 ∧ (lock v l)[p.1]? = some (.ro q.2)
  | (i, xs) :: r, h, hl => by
    unfold lock
    by_cases e : i = p.1
    · subst e
      exact ⟨(_, xs), List.mem_cons_self, rfl, List.getElem?_set_self (by rw [lock_len]; exact hl)⟩
    · rcases List.mem_cons.mp h with h | h
      · exact absurd (by rw [h]) e
      · obtain ⟨q, h1, h2, h3⟩ := lock_in h hl
        exact ⟨q, List.mem_cons_of_mem _ h1, h2, by rw [List.getElem?_set_ne e]; exact h3⟩
theorem lock_out {v : List Slot} {j : Nat} : ∀ {l : List (Nat × List D)}, (∀ p ∈ l, p.1 ≠ j) → (lock v l)[j]? = v[j]?
  | [], _ => rfl
  | (i, xs) :: r, h => by
    unfold lock
    rw [List.getElem?_set_ne (h (i, xs) List.mem_cons_self)]
    exact lock_out fun p hp => h p (List.mem_cons_of_mem _ hp)
theorem unlock_out {v : List Slot} {j : Nat} : ∀ {l : List (Nat × List D)}, (∀ p ∈ l, p.1 ≠ j) → (unlock v l)[j]? = v[j]?
  | [], _ => rfl
  | (i, xs) :: r, h => by
    unfold unlock
    rw [List.getElem?_set_ne (h (i, xs) List.mem_cons_self)]
    exact unlock_out fun p hp => h p (List.mem_cons_of_mem _ hp)
theorem unlock_in {v : List Slot} {p : Nat × List D} : ∀ {l : List (Nat × List D)}, p ∈ l → p.1 < v.length → ∃ q ∈ l, q.1 = p.1 ∧ (unlock v l)[p.1]? = some (.own q.2)
  | (i, xs) :: r, h, hl => by
    unfold unlock
    by_cases e : i = p.1
    · subst e
      exact ⟨(_, xs), List.mem_cons_self, rfl, List.getElem?_set_self (by rw [unlock_len]; exact hl)⟩
    · rcases List.mem_cons.mp h with h | h
      · exact absurd (by rw [h]) e
      · obtain ⟨q, h1, h2, h3⟩ := unlock_in h hl
        exact ⟨q, List.mem_cons_of_mem _ h1, h2, by rw [List.getElem?_set_ne e]; exact h3⟩
def Cf.lock (c : Cf) (l : List (Nat × List D)) : Cf := { c with s := ⟨G.lock c.s.v l, c.s.M⟩, ρ := fun b => c.ρ b ∨ ∃ p ∈ l, OwnAt c p.1 b }
def Cf.unlock (c c2 : Cf) (l : List (Nat × List D)) : Cf := { c2 with s := ⟨G.unlock c2.s.v l, c2.s.M⟩, ρ := c.ρ }
/-- the names hold these lists -/
def LkOk (c : Cf) (l : List (Nat × List D)) : Prop := ∀ p ∈ l, c.s.v[p.1]? = some (.own p.2)
section
variable {K : PySem.W.Frag} {c c2 : Cf} {l : List (Nat × List D)}
theorem lock_own {i : Nat} {a : Addr} (h : OwnAt (c.lock l) i a) : OwnAt c i a ∧ ∀ p ∈ l, p.1 ≠ i := by
  obtain ⟨⟨xs, h1⟩, h2⟩ := h
  rcases lock_get h1 with ⟨p, _, _, e⟩ | ⟨h3, h4⟩
  · cases e
  · exact ⟨⟨⟨xs, h4⟩, h2⟩, h3⟩
theorem lock_foot {b : Addr} (h : Foot (c.lock l) b) : Foot c b := by
  rcases h with h | ⟨i, h⟩
  · exact .inl h
  · exact .inr ⟨i, (lock_own h).1⟩
theorem SR.lock (sr : SR K c) (hl : LkOk c l) : SR K (c.lock l) where
  len := by show (G.lock _ _).length = _; rw [lock_len]; exact sr.len
  mlen := sr.mlen
  nd := sr.nd
  cell := fun m cl a h1 h2 => by
    have z := sr.cell m cl a h1 h2
    exact z
  slot := fun i x h => by
    rcases lock_get h with ⟨p, hp, rfl, rfl⟩ | ⟨h1, h2⟩
    · obtain ⟨a, vs, e, q, r⟩ := sr.slot _ _ (hl p hp)
      exact ⟨a, vs, e, r, .inr ⟨.inr ⟨p, hp, ⟨_, hl p hp⟩, e⟩, rd_lst q⟩⟩
    · exact SlotR.mono (c := c) (c' := c.lock l) (List.prefix_refl _) (fun _ _ h => h) (fun a vs e1 e2 e3 => e3) (fun a vs e1 e2 => ⟨.inl e1, e2⟩) (sr.slot i x h2)
  ownd := fun i j a h1 h2 => sr.ownd i j a (lock_own h1).1 (lock_own h2).1
  ownm := fun i a h => sr.ownm i a (lock_own h).1
  rho := fun b h => by
    rcases h with h | ⟨p, hp, h⟩
    · obtain ⟨t, nf⟩ := sr.rho b h
      exact ⟨t, fun f => nf (lock_foot f)⟩
    · obtain ⟨vs, e, _⟩ := sr.foot (.inr ⟨_, h⟩)
      refine ⟨⟨_, e⟩, fun f => ?_⟩
      rcases f with f | ⟨j, f⟩
      · exact sr.ownm _ _ h f
      · obtain ⟨f1, f2⟩ := lock_own f
        exact f2 p hp (sr.ownd _ _ _ h f1)
theorem unlock_ok (sr : SR K c) (hl : LkOk c l) (st : Stp (c.lock l) c2) (sr2 : SR K c2) : Stp c (c.unlock c2 l) ∧ SR K (c.unlock c2 l) ∧ (Vst (c.lock l) c2 → Vst c (c.unlock c2 l)) := by
  have hb : ∀ p ∈ l, p.1 < c.s.v.length := fun p hp => (List.getElem?_eq_some_iff.mp (hl p hp)).1
  -- the locked names stand in the later state, too
  have h2 : ∀ p ∈ l, c2.s.v[p.1]? = some (.ro p.2) ∧ c2.σ[p.1]? = c.σ[p.1]? := fun p hp => by
    obtain ⟨q, hq, e1, e2⟩ := lock_in hp (hb p hp)
    have e3 := hl q hq
    rw [e1, hl p hp] at e3
    have e4 : p.2 = q.2 := by injection e3 with e3; injection e3
    rw [← e4] at e2
    have z := st.ron _ _ e2
    exact ⟨z, (st.ros _ _ z).2⟩
  have ow : ∀ i a, OwnAt (c.unlock c2 l) i a → (OwnAt c2 i a ∧ ∀ p ∈ l, p.1 ≠ i) ∨ ((∃ p ∈ l, p.1 = i) ∧ OwnAt c i a) := fun i a ⟨⟨xs, h1⟩, h3⟩ => by
    rcases unlock_get h1 with ⟨p, hp, rfl, _⟩ | ⟨h4, h5⟩
    · refine .inr ⟨⟨p, hp, rfl⟩, ⟨_, hl p hp⟩, ?_⟩
      rw [← (h2 p hp).2]
      exact h3
    · exact .inl ⟨⟨⟨xs, h5⟩, h3⟩, h4⟩
  have rr : ∀ i a, (∃ p ∈ l, p.1 = i) → OwnAt c i a → ¬ Foot c2 a := fun i a ⟨p, hp, e⟩ h => (sr2.rho a (by rw [st.rh]; exact .inr ⟨p, hp, by rw [e]; exact h⟩)).2
  refine ⟨⟨st.pre, rfl, fun b o e nf => st.frame b o e fun f => nf (lock_foot f), fun b f => ?_, st.trk, st.tup, fun i xs h => ?_, fun i xs h => ?_⟩, ⟨?_, sr2.mlen, sr2.nd, fun m cl a h1 h3 => ?_, fun i x h => ?_, fun i j a h1 h3 => ?_, fun i a h => ?_, fun b h => ?_⟩, fun v => ⟨v.1, fun i ⟨xs, h⟩ => ?_⟩⟩
  · have key : Foot c2 b → Foot c b ∨ c.H b = none := fun f => (st.grow b f).imp lock_foot id
    rcases f with f | ⟨i, f⟩
    · exact key (.inl f)
    · rcases ow i b f with ⟨f, _⟩ | ⟨_, f⟩
      · exact key (.inr ⟨i, f⟩)
      · exact .inl (.inr ⟨i, f⟩)
  · rcases unlock_get h with ⟨p, _, _, e⟩ | ⟨h3, h4⟩
    · cases e
    · obtain ⟨z1, z2⟩ := st.ros i xs h4
      refine ⟨?_, z2⟩
      rw [← lock_out h3]
      exact z1
  · have h3 : ∀ p ∈ l, p.1 ≠ i := fun p hp e => by
      have := hl p hp
      rw [e, h] at this
      cases this
    show (G.unlock _ _)[i]? = _
    rw [unlock_out h3]
    refine st.ron i xs ?_
    show (G.lock _ _)[i]? = _
    rw [lock_out h3]
    exact h
  · show (G.unlock _ _).length = _
    rw [unlock_len]; exact sr2.len
  · have z := sr2.cell m cl a h1 h3
    exact z
  · rcases unlock_get h with ⟨p, hp, rfl, rfl⟩ | ⟨h3, h4⟩
    · obtain ⟨a, vs, e, q, r⟩ := sr.slot _ _ (hl p hp)
      refine ⟨a, vs, ?_, st.frame a _ q ?_, st.drs (c := c.lock l) r⟩
      · show c2.σ[p.1]? = _
        rw [(h2 p hp).2]; exact e
      · exact ((sr.lock hl).rho a (.inr ⟨p, hp, ⟨_, hl p hp⟩, e⟩)).2
    · have z := sr2.slot i x h4
      cases x with
      | no => trivial
      | val d => exact z
      | own xs => exact z
      | ro xs =>
        obtain ⟨z1, z2⟩ := st.ros i xs h4
        have z1 : (G.lock c.s.v l)[i]? = some (.ro xs) := z1
        rw [lock_out h3] at z1
        have z2 : c2.σ[i]? = c.σ[i]? := z2
        obtain ⟨a, vs, e, r, q⟩ := sr.slot i _ z1
        refine ⟨a, vs, z2.trans e, st.drs (c := c.lock l) r, ?_⟩
        rcases q with q | ⟨q1, q2⟩
        · exact .inl q
        · refine .inr ⟨q1, ?_⟩
          have nf : ¬ Foot (c.lock l) a := fun f => (sr.rho a q1).2 (lock_foot f)
          rcases q2 with q2 | ⟨u, q2⟩
          · exact .inl (st.frame a _ q2 nf)
          · exact .inr ⟨u, st.frame a _ q2 nf⟩
  · rcases ow i a h1 with ⟨h1, _⟩ | ⟨m1, h1⟩ <;> rcases ow j a h3 with ⟨h3, _⟩ | ⟨m3, h3⟩
    · exact sr2.ownd i j a h1 h3
    · exact absurd (.inr ⟨i, h1⟩) (rr j a m3 h3)
    · exact absurd (.inr ⟨j, h3⟩) (rr i a m1 h1)
    · exact sr.ownd i j a h1 h3
  · rcases ow i a h with ⟨h, _⟩ | ⟨m, h⟩
    · exact sr2.ownm i a h
    · exact fun z => rr i a m h (.inl z)
  · obtain ⟨t, nf⟩ := sr2.rho b (by rw [st.rh]; exact .inl h)
    refine ⟨t, fun f => ?_⟩
    rcases f with f | ⟨i, f⟩
    · exact nf (.inl f)
    · rcases ow i b f with ⟨f, _⟩ | ⟨_, f⟩
      · exact nf (.inr ⟨i, f⟩)
      · exact (sr.rho b h).2 (.inr ⟨i, f⟩)
  · show ∃ ys, (G.unlock _ _)[i]? = _
    by_cases hi : ∃ p ∈ l, p.1 = i
    · obtain ⟨p, hp, rfl⟩ := hi
      obtain ⟨q, _, _, e⟩ := unlock_in (v := c2.s.v) hp (by
        exact (List.getElem?_eq_some_iff.mp (h2 p hp).1).1)
      exact ⟨_, e⟩
    · have h3 : ∀ p ∈ l, p.1 ≠ i := fun p hp e => hi ⟨p, hp, e⟩
      rw [unlock_out h3]
      refine v.2 i ⟨xs, ?_⟩
      show (G.lock _ _)[i]? = _
      rw [lock_out h3]; exact h
end
end G

/-! ## GS10 -/
set_option Elab.async false
set_option linter.all false
set_option maxRecDepth 100000
set_option maxHeartbeats 4000000
namespace G
open PySem PySem.Spec PyProof.Rows L2

/-! ### what is walked -/
structure Stq (c c' : Cf) : Prop where
  pre : c.μ <+: c'.μ
  rh : c'.ρ = c.ρ
  frame : ∀ b o, c.H b = some o → ¬ Foot c b → c'.H b = some o
  tup : TupK c.H c'.H
theorem Stp.stq {c c' : Cf} (h : Stp c c') : Stq c c' := ⟨h.pre, h.rh, h.frame, h.tup⟩
def ItR (K : PySem.W.Frag) (im : Itm) (c : Cf) (J : L2.It) : Prop := ∀ c2, Stq c c2 → SR K c2 → im.ok c2.s = true → ∀ i,
  (∀ d, im.xs[i]? = some d → J.go i c2.H ∧ ∀ v H', J.yld i c2.H v H' → ∃ c3 : Cf, c3.s = c2.s ∧ c3.σ = c2.σ ∧ c3.H = H' ∧ Stp c2 c3 ∧ SR K c3 ∧ DR K c3.μ c3.H d v) ∧ (im.xs.length ≤ i → J.stop i c2.H)
def JI (X : Cx) (W : WX) (m : S → R Itm) (tg it : Expr) : Prop := ∀ c R, SR X.K c → Post X.K c (m c.s) (fun im c' => ∀ J, LkOk c' im.lks → ItR X.K im (c'.lock im.lks) J → R J c'.H) (QX X W) → WpI X tg it c.σ c.H R
section
variable {K : PySem.W.Frag} {c c1 : Cf}
theorem seq_stay {x : SV} {v : V} {xs : List D} {l : List (Nat × List D)} (sr : SR K c1) (hl : LkOk c1 l) (hv : ∀ p ∈ plcV x xs c1.s, p ∈ l) (rx : SVR K c1 x v) (h : seq c1.s x = some xs) :
    ∃ a, v = .ref a ∧ (isTup x = false → ∀ c2, Stq (c1.lock l) c2 → SR K c2 → (plcC x xs).all (stays c2.s) = true → ∃ vs, SqL K c2.H a vs ∧ DRs K c2.μ c2.H xs vs) ∧
      (isTup x = true → ∀ c2, Stq (c1.lock l) c2 → SR K c2 → ∃ vs, SqT K c2.H a vs ∧ DRs K c2.μ c2.H xs vs) := by
  cases x with
  | val d =>
    cases d with
    | loc n =>
      obtain ⟨a, e, q⟩ := (show ∃ a, v = V.ref a ∧ c1.μ[n]? = some a by simpa only [SVR, DR] using rx)
      refine ⟨a, e, fun _ c2 st sr2 ok => ?_, fun z => by cases z⟩
      simp only [plcC, List.all_cons, List.all_nil, Bool.and_true, stays, decide_eq_true_eq] at ok
      obtain ⟨vs, q1, q2⟩ := sr2.cell n _ a (by
        unfold cell at ok
        split at ok
        · rename_i ys z; cases ok; exact z
        · cases ok) (pre_get st.pre q)
      exact ⟨vs, .of q1, q2⟩
    | tup ys =>
      simp only [seq] at h
      cases h
      obtain ⟨a, vs, e, q, z⟩ := (show ∃ a vs, v = V.ref a ∧ SqT K c1.H a vs ∧ DRs K c1.μ c1.H xs vs by simpa only [SVR, DR] using rx)
      refine ⟨a, e, (fun z => Bool.noConfusion z), fun _ c2 st sr2 => ⟨vs, st.tup.sqT q, DRs.mono st.pre st.tup _ _ z⟩⟩
    | _ => simp only [seq] at h; cases h
  | new ys =>
    simp only [seq] at h
    cases h
    obtain ⟨a, vs, e, q, z, f1, f2⟩ := rx
    refine ⟨a, e, fun _ c2 st sr2 _ => ⟨vs, .of (st.frame a _ q fun f => f1 (lock_foot f)), DRs.mono st.pre st.tup _ _ z⟩, fun z => by cases z⟩
  | var i =>
    simp only [seq] at h
    split at h
    · rename_i ys q
      cases h
      obtain ⟨a, vs, e, z1, z2⟩ := sr.slot i _ q
      have e1 := rx.1
      rw [e] at e1
      cases e1
      have hi : (i, xs) ∈ l := hv _ (by simp only [plcV, q]; exact List.mem_singleton.mpr rfl)
      have nf := ((sr.lock hl).rho a (.inr ⟨(i, xs), hi, ⟨_, q⟩, e⟩)).2
      exact ⟨a, rfl, fun _ c2 st sr2 _ => ⟨vs, .of (st.frame a _ z1 nf), DRs.mono st.pre st.tup _ _ z2⟩, fun z => by cases z⟩
    · rename_i ys q
      cases h
      obtain ⟨a, vs, e, z1, z2⟩ := sr.slot i _ q
      have e1 := rx.1
      rw [e] at e1
      cases e1
      refine ⟨a, rfl, fun _ c2 st sr2 _ => ⟨vs, ?_, DRs.mono st.pre st.tup _ _ z1⟩, fun z => by cases z⟩
      rcases z2 with z2 | ⟨q1, q2⟩
      · exact .inr z2
      · have nf : ¬ Foot (c1.lock l) a := fun f => (sr.rho a q1).2 (lock_foot f)
        rcases q2 with q2 | ⟨u, q2⟩
        · exact .inl (.inl (st.frame a _ q2 nf))
        · exact .inl (.inr ⟨u, st.frame a _ q2 nf⟩)
    · cases h
theorem plcV_ok {x : SV} {xs : List D} (h : seq c1.s x = some xs) : LkOk c1 (plcV x xs c1.s) := fun p hp => by
  cases x with
  | val d => cases hp
  | new ys => cases hp
  | var i =>
    simp only [plcV] at hp
    split at hp
    · rename_i ys q
      have e := List.mem_singleton.mp hp
      subst e
      simp only [seq, q] at h
      cases h
      exact q
    · cases hp
end
/-- a list, a tuple, a text -/
def iAny (K : PySem.W.Frag) (tl : TE) : TI := fun σ H R => tl σ H fun x H1 => (∃ a, x = .ref a ∧ (∃ xs, SqL K H1 a xs) ∧ R (Itl K a) H1) ∨ (∃ a, x = .ref a ∧ (∃ xs, SqT K H1 a xs) ∧ R (Itt K a) H1) ∨ ∃ z, x = .str z ∧ R (Its z) H1
section
variable {X : Cx} {W : WX} {c : Cf} {tg : Expr}
theorem pi_any {l : Expr} {tl : TE} (hl : PE X l tl) : PI X tg l (iAny X.K tl) := by
  refine ⟨fun pins s σ H R I h => ?_⟩
  refine thn (hl.run pins s σ H _ I h) fun v s1 ⟨x, H1, I1, r1, q1⟩ => ?_
  rcases q1 with ⟨a, e, ⟨xs, hq⟩, q⟩ | ⟨a, e, ⟨xs, hq⟩, q⟩ | ⟨z, e, q⟩
  · subst e
    cases r1
    obtain ⟨its, rv, p, hz⟩ := I1.list hq
    exact wpAny_pyIter_list p.isList (pi_one (tk := s1.toks) I1 _ (turn_list a _) ⟨_, Heap.get?_push_size _ rfl, rfl, rfl⟩ q)
  · subst e
    cases r1
    obtain ⟨its, rv, p, hz⟩ := I1.tuple hq
    exact wpAny_pyIter_tuple (show s1.heap.IsTuple a its.toArray from p) (pi_one (tk := s1.toks) I1 _ (turn_tuple a _) ⟨_, Heap.get?_push_size _ rfl, rfl, rfl⟩ q)
  · subst e
    obtain ⟨t, rfl⟩ := r1
    cases ha : z.cps.all (· < 128)
    · exact wpAny_pyIter_wide ha (pi_one (tk := s1.toks) I1 _ (turn_str _ z t "str_iterator" (.inr rfl)) ⟨_, Heap.get?_push_size _ rfl, rfl, rfl⟩ q)
    · exact wpAny_pyIter_ascii ha (pi_one (tk := s1.toks) I1 _ (turn_str _ z t "str_ascii_iterator" (.inl rfl)) ⟨_, Heap.get?_push_size _ rfl, rfl, rfl⟩ q)
theorem j_iq {e : Expr} {m : S → R SV} (h : JX X W m e) : JI X W (fun s => (m s).bind fun x s1 => lif (ofSeq s1 x) s1) tg e := by
  intro c R sr p
  refine WpI.of (pi_any (peW e)) ?_
  refine h c _ sr (p.bind.imp fun x c1 st1 sr1 vs1 p1 v rv fv => ?_)
  obtain ⟨im, hm, k⟩ := Post.lif sr1 p1
  unfold ofSeq at hm
  split at hm
  · rename_i z
    cases hm
    simp only [SVR, DR] at rv
    subst rv
    refine .inr (.inr ⟨z, rfl, k _ (fun _ h => by cases h) fun c2 st sr2 _ i => ⟨fun d hd => ?_, fun hi => ?_⟩⟩)
    · rw [List.getElem?_map] at hd
      obtain ⟨c', h1, rfl⟩ := Option.map_eq_some_iff.mp hd
      have h1' : z.cps[i]? = some c' := by rw [← Array.getElem?_toList]; exact h1
      refine ⟨(Array.getElem?_eq_some_iff.mp h1').1, fun v H' hy => ?_⟩
      obtain ⟨e1, c'', h2, e2⟩ := hy
      rw [h1'] at h2
      cases h2
      subst e1 e2
      exact ⟨c2, rfl, rfl, rfl, Stp.refl _, sr2, by simp only [DR]⟩
    · show z.cps.size ≤ i
      rw [List.length_map] at hi
      simpa using hi
  · obtain ⟨xs, e1, rfl⟩ := Option.map_eq_some_iff.mp hm
    have lk := plcV_ok e1
    obtain ⟨a, rfl, s1, s2⟩ := seq_stay sr1 lk (fun p h => h) rv e1
    have s0 : Stq (c1.lock (plcV x xs c1.s)) (c1.lock (plcV x xs c1.s)) := (Stp.refl _).stq
    cases ht : isTup x with
    | false =>
      have s1 := s1 ht
      have now : (∃ ys, SqL X.K c1.H a ys) := by
        obtain ⟨a', ys, ea, r, q⟩ := seq_tup (c := c1) e1 (fun ys e => by subst e; cases ht) sr1 rv
        cases ea
        exact ⟨ys, q⟩
      refine .inl ⟨a, rfl, now, k _ lk fun c2 st sr2 ok i => ?_⟩
      obtain ⟨vs, q, r⟩ := s1 c2 st sr2 ok
      refine ⟨fun d hd => ?_, fun hi => ⟨vs, q, by rw [r.length]; exact hi⟩⟩
      obtain ⟨w, hw, rw'⟩ := r.get hd
      refine ⟨⟨vs, w, q, hw⟩, fun v H' hy => ?_⟩
      obtain ⟨eH, hy⟩ := hy
      subst eH
      have := hy vs q
      rw [hw] at this
      cases this
      exact ⟨c2, rfl, rfl, rfl, Stp.refl _, sr2, rw'⟩
    | true =>
      have s2 := s2 ht
      have now : (∃ ys, SqT X.K c1.H a ys) := by
        cases x with
        | val d =>
          cases d with
          | tup ys =>
            simp only [SVR, DR] at rv
            obtain ⟨a', vs, ea, q, _⟩ := rv
            cases ea
            exact ⟨vs, q⟩
          | _ => cases ht
        | _ => cases ht
      refine .inr (.inl ⟨a, rfl, now, k _ lk fun c2 st sr2 ok i => ?_⟩)
      obtain ⟨vs, q, r⟩ := s2 c2 st sr2
      refine ⟨fun d hd => ?_, fun hi => ⟨vs, q, by rw [r.length]; exact hi⟩⟩
      obtain ⟨w, hw, rw'⟩ := r.get hd
      refine ⟨⟨vs, w, q, hw⟩, fun v H' hy => ?_⟩
      obtain ⟨eH, hy⟩ := hy
      subst eH
      have := hy vs q
      rw [hw] at this
      cases this
      exact ⟨c2, rfl, rfl, rfl, Stp.refl _, sr2, rw'⟩
theorem in62_of {i : Int} (h : in62 i = true) : -(2 ^ 62) ≤ i ∧ i < 2 ^ 62 := by
  unfold in62 at h
  rw [Bool.and_eq_true, decide_eq_true_eq, decide_eq_true_eq] at h
  exact h
theorem rngL_it {lo : Int} {n : Nat} {c1 : Cf} : ItR X.K ⟨rngL lo n, [], []⟩ (c1.lock []) (Itr lo n) := fun c2 st sr2 _ i => by
  have hl : (rngL lo n).length = n := by unfold rngL; rw [List.length_map, List.length_range]
  refine ⟨fun d hd => ?_, fun hi => by show n ≤ i; rw [hl] at hi; exact hi⟩
  have hi : i < n := by rw [← hl]; exact (List.getElem?_eq_some_iff.mp hd).1
  refine ⟨hi, fun v H' hy => ?_⟩
  obtain ⟨e1, e2⟩ := hy
  subst e1 e2
  refine ⟨c2, rfl, rfl, rfl, Stp.refl _, sr2, ?_⟩
  unfold rngL at hd
  rw [List.getElem?_map, List.getElem?_range hi] at hd
  simp only [Option.map_some, Option.some.injEq] at hd
  subst hd
  simp only [DR]
theorem j_rng1 {a : Expr} {p pos : Pos} {ma : S → R SV} (hg : Gl X "range") (hm : X.mg "range" = none) (hs : notStar a = true) (h : JX X W ma a) :
    JI X W (fun s => ((ma s).bind fun d s1 => (R.ok [] s1).bind fun ds s2 => .ok (d :: ds) s2).bind fun xs s1 => lif (rngD xs) s1) tg (.Call (.Name "range" p) [a] [] pos) := by
  intro c R sr q
  dsimp only at q
  rw [G.R.bind_assoc] at q
  refine WpI.of (pi_range1 hg hm (pa_cons (peW a) pa_nil (star_cons hs)) (star_cons hs)) ?_
  refine h c _ sr (q.bind.imp fun x c1 st1 sr1 vs1 p1 v rd fv => ?_)
  have p1 : Post X.K c1 (lif (rngD [x]) c1.s) _ _ := p1
  obtain ⟨im, hm, k⟩ := Post.lif sr1 p1
  unfold rngD at hm
  split at hm
  · rename_i e
    cases e
    simp only [SVR, DR] at rd
    subst rd
    split at hm
    · rename_i h1
      cases hm
      exact ⟨_, rfl, (in62_of h1).1, (in62_of h1).2, k _ (fun _ h => by cases h) rngL_it⟩
    · cases hm
  · rename_i e; cases e
  · rename_i e; cases e
  · cases hm
theorem j_rng2 {a b : Expr} {p pos : Pos} {ma mb : S → R SV} (hg : Gl X "range") (hm : X.mg "range" = none) (hs : notStar a = true) (hs2 : notStar b = true) (h : JX X W ma a) (h2 : JX X W mb b) :
    JI X W (fun s => ((ma s).bind fun d s1 => ((mb s1).bind fun d s1 => (R.ok [] s1).bind fun ds s2 => .ok (d :: ds) s2).bind fun ds s2 => .ok (d :: ds) s2).bind fun xs s1 => lif (rngD xs) s1) tg (.Call (.Name "range" p) [a, b] [] pos) := by
  intro c R sr q
  dsimp only at q
  rw [G.R.bind_assoc] at q
  refine WpI.of (pi_range2 hg hm (pa_cons (peW a) (pa_cons (peW b) pa_nil (star_cons hs2)) (star_cons hs)) (by rw [star_cons hs, star_cons hs2]; rfl) (star_cons hs2)) ?_
  refine h c _ sr (q.bind.imp fun x c1 st1 sr1 vs1 p1 v rd fv => ?_)
  rw [G.R.bind_assoc, G.R.bind_assoc] at p1
  rw [← vs1.1]
  refine h2 c1 _ sr1 (p1.bind.imp fun y c2 st2 sr2 vs2 p2 u rd2 fu => ?_)
  have p2 : Post X.K c2 (lif (rngD [x, y]) c2.s) _ _ := p2
  obtain ⟨im, hm, k⟩ := Post.lif sr2 p2
  unfold rngD at hm
  split at hm
  · rename_i e; cases e
  · rename_i e
    cases e
    simp only [SVR, DR] at rd rd2
    subst rd rd2
    split at hm
    · rename_i h1
      rw [Bool.and_eq_true] at h1
      cases hm
      exact ⟨_, _, rfl, ⟨(in62_of h1.1).1, (in62_of h1.1).2, (in62_of h1.2).1, (in62_of h1.2).2⟩, k _ (fun _ h => by cases h) rngL_it⟩
    · cases hm
  · rename_i e; cases e
  · cases hm
theorem zips_get : ∀ {xs ys : List D} {i : Nat} {d : D}, (zips xs ys)[i]? = some d → ∃ x y, xs[i]? = some x ∧ ys[i]? = some y ∧ d = .tup [x, y]
  | [], _, _, _, h => by simp [zips] at h
  | _ :: _, [], _, _, h => by simp [zips] at h
  | x :: xs, y :: ys, i, d, h => by
    unfold zips at h
    cases i with
    | zero => simp at h; exact ⟨x, y, rfl, rfl, h.symm⟩
    | succ i => simp at h; obtain ⟨a, b, h1, h2, h3⟩ := zips_get h; exact ⟨a, b, by simpa using h1, by simpa using h2, h3⟩
theorem zips_len : ∀ {xs ys : List D} {i : Nat}, (zips xs ys).length ≤ i → xs.length ≤ i ∨ ys.length ≤ i
  | [], _, _, _ => .inl (Nat.zero_le _)
  | _ :: _, [], _, _ => .inr (Nat.zero_le _)
  | x :: xs, y :: ys, 0, h => by simp [zips] at h
  | x :: xs, y :: ys, i + 1, h => by
    simp [zips] at h
    rcases zips_len h with h | h
    · left; simp; exact h
    · right; simp; exact h
theorem isTup_now {K : PySem.W.Frag} {c1 : Cf} {x : SV} {a : Addr} {xs : List D} (sr : SR K c1) (rv : SVR K c1 x (.ref a)) (e1 : seq c1.s x = some xs) : (isTup x = false → ∃ ys, SqL K c1.H a ys) ∧ (isTup x = true → ∃ ys, SqT K c1.H a ys) := by
  cases x with
  | val d =>
    cases d with
    | tup ys =>
      simp only [SVR, DR] at rv
      obtain ⟨a', vs, ea, q, _⟩ := rv
      cases ea
      exact ⟨(fun z => Bool.noConfusion z), fun _ => ⟨vs, q⟩⟩
    | loc n =>
      simp only [SVR, DR] at rv
      obtain ⟨a', ea, q⟩ := rv
      cases ea
      refine ⟨fun _ => ?_, fun z => Bool.noConfusion z⟩
      unfold seq cell at e1
      dsimp only at e1
      split at e1
      · rename_i ys hz
        obtain ⟨vs, z, _⟩ := sr.cell n _ a hz q
        exact ⟨vs, .of z⟩
      · cases e1
    | _ => simp only [seq] at e1; cases e1
  | new ys =>
    obtain ⟨a', vs, ea, q, _⟩ := rv
    cases ea
    exact ⟨fun _ => ⟨vs, .of q⟩, fun z => Bool.noConfusion z⟩
  | var i =>
    obtain ⟨e, k⟩ := rv
    refine ⟨fun _ => ?_, fun z => Bool.noConfusion z⟩
    rcases k with ⟨ys, k⟩ | ⟨ys, k⟩
    · obtain ⟨a', vs, e2, q, _⟩ := sr.slot i _ k
      rw [e] at e2; cases e2
      exact ⟨vs, .of q⟩
    · obtain ⟨a', vs, e2, _, q⟩ := sr.slot i _ k
      rw [e] at e2; cases e2
      exact ⟨vs, by rcases q with q | ⟨_, q⟩; exact .inr q; exact .inl q⟩
theorem lay_pair {K : PySem.W.Frag} {c2 : Cf} {T : Addr} {u v : V} {x y : D} (sr : SR K c2) (n : c2.H T = none) (h1 : DR K c2.μ c2.H x u) (h2 : DR K c2.μ c2.H y v) : ∃ c3 : Cf, c3.s = c2.s ∧ c3.σ = c2.σ ∧ c3.H = upd c2.H T (.tup [u, v]) ∧ Stp c2 c3 ∧ SR K c3 ∧ DR K c3.μ c3.H (.tup [x, y]) (.ref T) := by
  refine ⟨c2.lay T (.tup [u, v]), rfl, rfl, rfl, Stp.laid n, sr.laid n, ?_⟩
  simp only [DR]
  exact ⟨T, [u, v], rfl, .inl (.inl upd_same), (Stp.laid n).drs (.cons h1 (.one h2))⟩
theorem j_zip {elts : List Expr} {kk : Nat} {tpos p pos : Pos} {a b : Expr} {ma mb : S → R SV} (hg : Gl X "zip") (hm : X.mg "zip" = none) (hs : notStar a = true) (hs2 : notStar b = true) (ha : JX X W ma a) (hb : JX X W mb b) :
    JI X W (fun s => (ma s).bind fun x s1 => (mb s1).bind fun y s2 => lif (if isTup x = isTup y then (seq s2 x).bind fun xs => (seq s2 y).map fun ys => ⟨zips xs ys, plcC x xs ++ plcC y ys, plcV x xs s2 ++ plcV y ys s2⟩ else none) s2) (.Tuple elts kk tpos) (.Call (.Name "zip" p) [a, b] [] pos) := by
  intro c RR sr q
  refine WpI.of (RZ.pi_zipA hg hm (pa_cons (peW a) (pa_cons (peW b) pa_nil (star_cons hs2)) (star_cons hs)) (star_cons hs) (plain_of (by simp [hs2]))) ?_
  refine ha c _ sr (q.bind.imp fun x c1 st1 sr1 vs1 p1 v rd fv => ?_)
  rw [← vs1.1]
  refine hb c1 _ sr1 (p1.bind.imp fun y c2 st2 sr2 vs2 p2 u ru fu => ?_)
  have rx := rd.step st2 vs2
  obtain ⟨im, hm', k⟩ := Post.lif sr2 p2
  by_cases he : isTup x = isTup y
  case neg => rw [if_neg he] at hm'; cases hm'
  rw [if_pos he] at hm'
  obtain ⟨xs, e1, hm'⟩ := Option.bind_eq_some_iff.mp hm'
  obtain ⟨ys, e2, rfl⟩ := Option.map_eq_some_iff.mp hm'
  have lk : LkOk c2 (plcV x xs c2.s ++ plcV y ys c2.s) := fun p hp => by
    rcases List.mem_append.mp hp with hp | hp
    · exact plcV_ok e1 p hp
    · exact plcV_ok e2 p hp
  obtain ⟨a1, rfl, s1, s2⟩ := seq_stay sr2 lk (fun p h => List.mem_append_left _ h) rx e1
  obtain ⟨a2, rfl, t1, t2⟩ := seq_stay sr2 lk (fun p h => List.mem_append_right _ h) ru e2
  obtain ⟨n1, n2⟩ := isTup_now sr2 rx e1
  obtain ⟨m1, m2⟩ := isTup_now sr2 ru e2
  cases ht : isTup x with
  | false =>
    have ht2 : isTup y = false := by rw [← he]; exact ht
    obtain ⟨zs, hz⟩ := n1 ht
    obtain ⟨ws, hw⟩ := m1 ht2
    refine ⟨a1, a2, zs, ws, rfl, .inl ⟨hz, hw, k _ lk fun c3 st sr3 ok i => ?_⟩⟩
    have ok : ((plcC x xs ++ plcC y ys).all (stays c3.s)) = true := ok
    rw [List.all_append, Bool.and_eq_true] at ok
    obtain ⟨v1, q1, r1⟩ := s1 ht c3 st sr3 ok.1
    obtain ⟨v2, q2, r2⟩ := t1 ht2 c3 st sr3 ok.2
    refine ⟨fun d hd => ?_, fun hi => ⟨v1, v2, q1, q2, by rw [r1.length, r2.length]; exact zips_len hi⟩⟩
    obtain ⟨dx, dy, g1, g2, rfl⟩ := zips_get hd
    obtain ⟨wx, f1, o1⟩ := r1.get g1
    obtain ⟨wy, f2, o2⟩ := r2.get g2
    refine ⟨⟨v1, v2, wx, wy, q1, q2, f1, f2⟩, fun v H' hy => ?_⟩
    obtain ⟨T, ux, uy, rfl, nT, rfl, k1, k2⟩ := hy
    have e3 := k1 v1 q1
    have e4 := k2 v2 q2
    rw [f1] at e3; rw [f2] at e4
    cases e3; cases e4
    exact lay_pair sr3 nT o1 o2
  | true =>
    have ht2 : isTup y = true := by rw [← he]; exact ht
    obtain ⟨zs, hz⟩ := n2 ht
    obtain ⟨ws, hw⟩ := m2 ht2
    refine ⟨a1, a2, zs, ws, rfl, .inr ⟨hz, hw, k _ lk fun c3 st sr3 ok i => ?_⟩⟩
    obtain ⟨v1, q1, r1⟩ := s2 ht c3 st sr3
    obtain ⟨v2, q2, r2⟩ := t2 ht2 c3 st sr3
    refine ⟨fun d hd => ?_, fun hi => ⟨v1, v2, q1, q2, by rw [r1.length, r2.length]; exact zips_len hi⟩⟩
    obtain ⟨dx, dy, g1, g2, rfl⟩ := zips_get hd
    obtain ⟨wx, f1, o1⟩ := r1.get g1
    obtain ⟨wy, f2, o2⟩ := r2.get g2
    refine ⟨⟨v1, v2, wx, wy, q1, q2, f1, f2⟩, fun v H' hy => ?_⟩
    obtain ⟨T, ux, uy, rfl, nT, rfl, k1, k2⟩ := hy
    have e3 := k1 v1 q1
    have e4 := k2 v2 q2
    rw [f1] at e3; rw [f2] at e4
    cases e3; cases e4
    exact lay_pair sr3 nT o1 o2
end

/-! ### targets -/
/-- what a target's store does to the names -/
def Chg (l : List Nat) (c c' : Cf) : Prop := (∀ i, i ∉ l → c'.σ[i]? = c.σ[i]?) ∧ c'.σ.length = c.σ.length ∧ (∀ i, i ∉ l → (∃ xs, c.s.v[i]? = some (Slot.own xs)) → ∃ xs, c'.s.v[i]? = some (Slot.own xs))
theorem Chg.of {l : List Nat} {c c' : Cf} (h : Vst c c') : Chg l c c' := ⟨fun i _ => by rw [h.1], by rw [h.1], fun i _ => h.2 i⟩
theorem Chg.trans {l1 l2 : List Nat} {a b c : Cf} (h : Chg l1 a b) (k : Chg l2 b c) : Chg (l1 ++ l2) a c :=
  ⟨fun i n => by rw [List.mem_append, not_or] at n; exact (k.1 i n.2).trans (h.1 i n.1), k.2.1.trans h.2.1, fun i n z => by rw [List.mem_append, not_or] at n; exact k.2.2 i n.2 (h.2.2 i n.1 z)⟩
/-- a target; c₀: the base of the promise -/
def JG (X : Cx) (W : WX) (m : D → S → R Unit) (l : List Nat) (tg : Expr) : Prop := ∀ c d v (Q : L2.St → Hp → Prop), SR X.K c → DR X.K c.μ c.H d v →
  PostS X.K c (m d c.s) (fun _ c' => Chg l c c' → Q c'.σ c'.H) (QX X W) → WpG X tg v c.σ c.H Q
def JGs (X : Cx) (W : WX) (m : List D → S → R Unit) (l : List Nat) (tgs : List Expr) : Prop := ∃ t : TGs, PGs X tgs t ∧ ∀ c ds vs (Q : L2.St → Hp → Prop), SR X.K c → DRs X.K c.μ c.H ds vs →
  PostS X.K c (m ds c.s) (fun _ c' => Chg l c c' → Q c'.σ c'.H) (QX X W) → t vs c.σ c.H Q
section
variable {X : Cx} {W : WX} {c : Cf}
theorem set_ne {α : Type} {l : List α} {i j : Nat} {x : α} (h : j ≠ i) : (l.set i x)[j]? = l[j]? := List.getElem?_set_ne (Ne.symm h)
/-- a name is stored: a value -/
theorem setName_ok {K : PySem.W.Frag} {i : Nat} {x : Slot} {v : V} {Qn : Unit → Cf → Prop} {Qx : Xc → Cf → Prop} (sr : SR K c) (hx : (∃ d, x = .val d ∧ DR K c.μ c.H d v) ∨ ∃ xs a vs, x = .own xs ∧ v = .ref a ∧ c.H a = some (.lst vs) ∧ DRs K c.μ c.H xs vs ∧ ¬ Foot c a ∧ ¬ c.ρ a)
    (b : Cf) (sb : Stp b c) (hb : ∀ xs a, x = .own xs → v = .ref a → b.H a = none) (h : PostS K b (setName i x c.s) Qn Qx) : ∃ c' : Cf, c'.σ = c.σ.set i (some v) ∧ c'.H = c.H ∧ c'.s = ⟨c.s.v.set i x, c.s.M⟩ ∧ Stp b c' ∧ SR K c' ∧ Chg [i] c c' ∧ Qn () c' := by
  unfold setName at h
  split at h
  · exact h.elim
  · rename_i y hnr hy
    have hil : i < c.s.v.length := (List.getElem?_eq_some_iff.mp hy).1
    have hiσ : i < c.σ.length := by rw [← sr.len]; exact hil
    have ow : ∀ j a, OwnAt ({ c with s := ⟨c.s.v.set i x, c.s.M⟩, σ := c.σ.set i (some v) } : Cf) j a → (j ≠ i ∧ OwnAt c j a) ∨ (j = i ∧ ∃ xs, x = .own xs ∧ v = .ref a) := fun j a ⟨⟨xs, h1⟩, h2⟩ => by
      have h2 : (c.σ.set i (some v))[j]? = _ := h2
      rcases set_get h1 with ⟨rfl, e, _⟩ | ⟨ne, h1⟩
      · rw [List.getElem?_set_self hiσ] at h2
        cases h2
        exact .inr ⟨rfl, xs, e.symm, rfl⟩
      · rw [set_ne ne] at h2
        exact .inl ⟨ne, ⟨xs, h1⟩, h2⟩
    have nf : ∀ a, (∃ xs, x = .own xs ∧ v = .ref a) → ¬ Foot c a ∧ ¬ c.ρ a ∧ b.H a = none := fun a ⟨xs, e, ev⟩ => by
      rcases hx with ⟨d, e2, _⟩ | ⟨ys, a', vs, e2, ev2, _, _, f1, f2⟩
      · rw [e] at e2; cases e2
      · rw [ev] at ev2
        cases ev2
        exact ⟨f1, f2, hb _ _ e ev⟩
    have st : Stp b ({ c with s := ⟨c.s.v.set i x, c.s.M⟩, σ := c.σ.set i (some v) } : Cf) := by
      refine ⟨sb.pre, sb.rh, sb.frame, fun q f => ?_, sb.trk, sb.tup, fun j xs h => ?_, fun j xs h => ?_⟩
      · rcases f with f | ⟨j, f⟩
        · exact sb.grow q (.inl f)
        · rcases ow j q f with ⟨_, f⟩ | ⟨_, f⟩
          · exact sb.grow q (.inr ⟨j, f⟩)
          · exact .inr (nf q f).2.2
      · rcases set_get h with ⟨rfl, e, _⟩ | ⟨ne, h⟩
        · rcases hx with ⟨d, e2, _⟩ | ⟨ys, a', vs, e2, _⟩ <;> (rw [e2] at e; cases e)
        · obtain ⟨z1, z2⟩ := sb.ros j xs h
          exact ⟨z1, by show (c.σ.set i _)[j]? = _; rw [set_ne ne]; exact z2⟩
      · have z := sb.ron j xs h
        have ne : j ≠ i := by
          rintro rfl
          rw [hy] at z
          cases z
          exact hnr _ rfl
        show (c.s.v.set i x)[j]? = _
        rw [set_ne ne]; exact z
    have sr' : SR K ({ c with s := ⟨c.s.v.set i x, c.s.M⟩, σ := c.σ.set i (some v) } : Cf) := by
      refine ⟨?_, sr.mlen, sr.nd, fun m cl a h1 h2 => ?_, fun j y h => ?_, fun j k a h1 h2 => ?_, fun j a h => ?_, fun q h => ?_⟩
      · show (c.s.v.set i x).length = (c.σ.set i _).length
        rw [List.length_set, List.length_set]; exact sr.len
      · have z := sr.cell m cl a h1 h2
        exact z
      · rcases set_get h with ⟨rfl, rfl, _⟩ | ⟨ne, h⟩
        · have e : (c.σ.set j (some v))[j]? = some (some v) := List.getElem?_set_self hiσ
          rcases hx with ⟨d, rfl, r⟩ | ⟨ys, a', vs, rfl, rfl, q, r, _⟩
          · exact ⟨v, e, r⟩
          · exact ⟨a', vs, e, q, r⟩
        · have e : (c.σ.set i (some v))[j]? = c.σ[j]? := set_ne ne
          have z := sr.slot j y h
          show SlotR K _ ((c.σ.set i (some v))[j]?) y
          rw [e]
          cases y with
          | no => trivial
          | val d => exact z
          | own xs => exact z
          | ro xs => exact z
      · rcases ow j a h1 with ⟨_, h1⟩ | ⟨e1, h1⟩ <;> rcases ow k a h2 with ⟨_, h2⟩ | ⟨e2, h2⟩
        · exact sr.ownd j k a h1 h2
        · exact absurd (.inr ⟨j, h1⟩) (nf a h2).1
        · exact absurd (.inr ⟨k, h2⟩) (nf a h1).1
        · rw [e1, e2]
      · rcases ow j a h with ⟨_, h⟩ | ⟨_, h⟩
        · exact sr.ownm j a h
        · exact fun m => (nf a h).1 (.inl m)
      · obtain ⟨t, n⟩ := sr.rho q h
        refine ⟨t, fun f => ?_⟩
        rcases f with f | ⟨j, f⟩
        · exact n (.inl f)
        · rcases ow j q f with ⟨_, f⟩ | ⟨_, f⟩
          · exact n (.inr ⟨j, f⟩)
          · exact (nf q f).2.1 h
    refine ⟨({ c with s := ⟨c.s.v.set i x, c.s.M⟩, σ := c.σ.set i (some v) } : Cf), rfl, rfl, rfl, st, sr', ⟨fun j n => ?_, ?_, fun j n z => ?_⟩, h _ rfl st sr'⟩
    · have : j ≠ i := fun e => n (by rw [e]; exact List.mem_singleton.mpr rfl)
      exact set_ne this
    · exact List.length_set
    · have : j ≠ i := fun e => n (by rw [e]; exact List.mem_singleton.mpr rfl)
      obtain ⟨xs, z⟩ := z
      exact ⟨xs, (set_ne this).trans z⟩
  · exact h.elim
theorem j_gname {i : Nat} {x : Str} {pos : Pos} (hN : X.N.Nodup) (hi : X.N[i]? = some x) (hx : Loc X.env.scope x) (hf : X.fn x = true ∨ X.env.scope.names.lookup x = some .local) : JG X W (fun d s => setName i (.val d) s) [i] (.Name x pos) := by
  intro c d v Q sr r p
  refine WpG.of (pg_name hN hi hx hf) ?_
  obtain ⟨c', e1, e2, _, st, sr', ch, q⟩ := setName_ok (v := v) sr (.inl ⟨d, rfl, r⟩) c (Stp.refl c) (fun _ _ e => by cases e) p
  have q := q ch
  rw [e1, e2] at q
  exact q
theorem j_gsnil : JGs X W (fun ds s => match ds with
    | [] => .ok () s
    | _ => .bad) [] [] := by
  refine ⟨gNil, pgs_nil, fun c ds vs Q sr r p => ?_⟩
  cases ds with
  | nil =>
    simp only [DRs] at r
    exact ⟨r, p.ok sr (Chg.of (Vst.refl c))⟩
  | cons d ds => exact p.elim
theorem j_gscons {e : Expr} {es : List Expr} {m : D → S → R Unit} {ms : List D → S → R Unit} {l1 l2 : List Nat} (hs : (assignEach (e :: es) X.env).map (·.2) = assign e X.env :: (assignEach es X.env).map (·.2)) (h : JG X W m l1 e) (t : JGs X W ms l2 es) :
    JGs X W (fun ds s => match ds with
      | d :: ds => (m d s).bind fun _ s1 => ms ds s1
      | [] => .bad) (l1 ++ l2) (e :: es) := by
  obtain ⟨u, pu, hu⟩ := t
  refine ⟨gCons (WpG X e) u, pgs_cons (pgW e) pu hs, fun c ds vs Q sr r p => ?_⟩
  cases ds with
  | nil => exact p.elim
  | cons d ds =>
    simp only [DRs] at r
    obtain ⟨v, r', rfl, rd, rs⟩ := r
    refine ⟨v, r', rfl, ?_⟩
    have p : PostS X.K c ((m d c.s).bind fun _ s1 => ms ds s1) _ _ := p
    refine h c d v _ sr rd ?_
    cases z : m d c.s with
    | bad => rw [z] at p; exact p
    | exc x s => rw [z] at p; exact p
    | ok a s =>
      rw [z] at p
      intro c1 e1 st1 sr1 ch1
      subst e1
      refine hu c1 ds r' Q sr1 (st1.drs rs) ?_
      refine PostS.imp (PostS.later st1 (show PostS X.K c (ms ds c1.s) _ _ from p)) fun _ c2 st2 sr2 q ch2 => q (ch1.trans ch2)
theorem j_gtup {es : List Expr} {k n : Nat} {pos : Pos} {ms : List D → S → R Unit} {l : List Nat} (hc : X.calm = true) (hst : (assignEach es X.env).findIdx? (·.1) = none) (hn : (assignEach es X.env).length = n) (h : JGs X W ms l es) :
    JG X W (fun d s => match d with
      | .tup xs => if xs.length = n then ms xs s else .bad
      | .loc m => (match cell s.M m with
        | some xs => if xs.length = n then ms xs s else .bad
        | none => .bad)
      | _ => .bad) l (.Tuple es k pos) := by
  obtain ⟨u, pu, hu⟩ := h
  intro c d v Q sr r p
  cases d with
  | loc m =>
    refine WpG.of (pg_lst hc pu hn hst) ?_
    simp only [DR] at r
    obtain ⟨a, rfl, e⟩ := r
    have p : PostS X.K c (match cell c.s.M m with
        | some xs => if xs.length = n then ms xs c.s else .bad
        | none => .bad) _ _ := p
    split at p
    · rename_i xs hx
      obtain ⟨vs, q, rs⟩ := cell_at sr e hx
      by_cases hl : xs.length = n
      · rw [if_pos hl] at p
        exact ⟨a, vs, rfl, .of q, by rw [rs.length]; exact hl, hu c xs vs Q sr rs p⟩
      · rw [if_neg hl] at p; exact p.elim
    · exact p.elim
  | tup xs =>
    refine WpG.of (pg_tup hc pu hn hst) ?_
    simp only [DR] at r
    obtain ⟨a, vs, rfl, q, rs⟩ := r
    have p : PostS X.K c (if xs.length = n then ms xs c.s else .bad) _ _ := p
    by_cases hl : xs.length = n
    · rw [if_pos hl] at p
      exact ⟨a, vs, rfl, q, by rw [rs.length]; exact hl, hu c xs vs Q sr rs p⟩
    · rw [if_neg hl] at p; exact p.elim
  | _ => exact p.elim
end
end G

/-! ## GE10 -/
set_option Elab.async false
set_option linter.all false
set_option maxRecDepth 100000
set_option maxHeartbeats 4000000
namespace G
open PySem PySem.Spec PyProof.Rows L2

/-! ### enumerate of a tuple -/
section
variable {prog : Program} {w : World} {A : Around} {E : Value → Shared → Prop} {s : Shared}
theorem enumT_end {e it t : Addr} {i : Nat} {c : Int} {items : Array Value} {old : Value} {Q : Option Value → Shared → Prop} (hh : A.handled = none) (he : IsEnum s.heap e it c old) (hit : s.heap.IsTupleIter it t i) (ha : s.heap.IsTuple t items) (hx : items[i]? = none)
    (hQ : ∀ h', Heap.ExtBut it s.heap h' → Q none { s with heap := h' }) : wpAny (model prog w) A (pyNext (.ref e)) Q E s := by
  have hT : s.TypeIs (.ref e) "enumerate" := ⟨_, he, rfl⟩
  unfold pyNext
  refine wpAny_bind (wpAny_attempt (wpAny_callSpecial?_slot (name := Str.ofString "__next__") hT F.slot_enumerate_next
    (wpAny_call_entry F.slot_enumerate_next hT F.entry_enumerate_next ?_ (F.args_enumerate_next_1 _))))
  show wpAny _ _ (field (.ref e) 2 >>= _) _ _ _
  refine wpAny_bind (wpAny_field he rfl (x := .ref it) rfl ?_)
  refine wpAny_bind (wpAny_nextOf_tuple_end hh hit ha hx fun h' x he' hx' => ?_)
  obtain ⟨o, ho, hc⟩ := hx'
  refine wpAny_bind (wpAny_isInstance (T := "StopIteration") (b := true) ⟨o, ho, hc⟩ isSubtype_stop ?_)
  exact wpAny_pure (hQ _ he')
set_option maxHeartbeats 1000000 in
theorem meets_enumerate_new1 {v : Value} {o : Obj} {H : Heap → Prop} (B : Begins v o H) :
    Meets (Builtin.«enumerate.__new__» ⟨[.type "enumerate", v], []⟩) (fun _ R s => H s.heap ∧
      R (.ok (.ret (.ref (s.heap.push o).objs.size))) { s with heap := (s.heap.push o).push { cls := .type "enumerate", data := .fields #[.none, .bool false, .ref s.heap.objs.size, rawInt 0, .none, .none] } }) :=
  .of_wp fun prog w A R s h => by
    obtain ⟨hp, g, d, tk, os⟩ := s; obtain ⟨h1, h⟩ := h
    have hsub := sub_enumerate
    have q1 : ∀ {A' : Around} {E : Value → Shared → Prop} {Q : Value → Shared → Prop}, Q (.ref hp.objs.size) ⟨hp.push o, g, d, tk, os⟩ → wpAny (model prog w) A' (pyIter v) Q E ⟨hp, g, d, tk, os⟩ :=
      fun q => B.iter prog w _ _ ⟨hp, g, d, tk, os⟩ _ h1 q
    wp_walk using q1
    refine wpAny_stack_any fun st => wpAny_pure ?_
    split
    · rename_i c _ _ _ _ _
      cases (c == Value.type "enumerate")
      · wp_walk using q1
        exact ⟨_, rfl, h⟩
      · wp_walk using q1
        exact ⟨_, rfl, h⟩
    · wp_walk using q1
      exact ⟨_, rfl, h⟩
theorem call_enumerate_tuple {t : Addr} {items : Array Value} {Q : Value → Shared → Prop} (hL : s.heap.IsTuple t items)
    (h : ∀ h', IsEnum h' (s.heap.objs.size + 1) s.heap.objs.size 0 .none → h'.IsTupleIter s.heap.objs.size t 0 → h'.objs.size = s.heap.objs.size + 2 →
      (∀ b o, s.heap.get? b = some o → h'.get? b = some o) → Q (.ref (s.heap.objs.size + 1)) { s with heap := h' }) :
    wpAny (model prog w) A (call (.type "enumerate") [.ref t]) Q E s := by
  refine callType_new F.called_enumerate (by decide) (F.typeCall_enumerate_1 _) (F.newCall_enumerate_1 _) (fun obj => F.args_object_init_2 obj _) F.entry_enumerate_new
    (meets_enumerate_new1 (begins_tuple t items)) ⟨hL, ?_⟩
  have hz : (s.heap.push { cls := .type "tuple_iterator", data := .fields #[.ref t, .int 0 0] }).objs.size = s.heap.objs.size + 1 := Heap.size_push ..
  show _ ∧ _
  rw [hz]
  have he : IsEnum ((s.heap.push { cls := .type "tuple_iterator", data := .fields #[.ref t, .int 0 0] }).push
      { cls := .type "enumerate", data := .fields #[.none, .bool false, .ref s.heap.objs.size, rawInt 0, .none, .none] }) (s.heap.objs.size + 1) s.heap.objs.size 0 .none := by
    have := Heap.get?_push_size (s.heap.push { cls := .type "tuple_iterator", data := .fields #[.ref t, .int 0 0] })
      (o := { cls := .type "enumerate", data := .fields #[.none, .bool false, .ref s.heap.objs.size, rawInt 0, .none, .none] }) rfl
    rw [hz] at this; exact this
  refine ⟨⟨_, he, rfl⟩, h _ he ⟨_, Heap.get?_push_of_some _ (Heap.get?_push_size _ rfl), rfl, rfl⟩ (by rw [Heap.size_push, hz]) fun b o x => Heap.get?_push_of_some _ (Heap.get?_push_of_some _ x)⟩
end
/-- the tuple at a, each item in a new pair -/
def IteT (K : PySem.W.Frag) (a : Addr) : L2.It :=
  ⟨fun i H => ∃ (xs : List V) (x : V), SqT K H a xs ∧ xs[i]? = some x, fun i H v H' => ∃ T x, v = .ref T ∧ H T = none ∧ H' = upd H T (.tup [.int (i : Nat), x]) ∧ ∀ xs, SqT K H a xs → xs[i]? = some x, fun i H => ∃ xs : List V, SqT K H a xs ∧ xs.length ≤ i⟩
theorem turn_enumT {P : Program} {w : World} {K : PySem.W.Frag} {elts : List Expr} {kk : Nat} {tpos : Pos} (a e it : Addr) :
    Turn P w K (.Tuple elts kk tpos) (IteT K a) [e, it] e (fun i h => (∃ old, IsEnum h e it ((i : Nat) : Int) old) ∧ h.IsTupleIter it a i ∧ e ≠ it ∧ a ≠ it ∧ a ≠ e) where
  mem := by simp
  obj := fun i h st b hb => by
    obtain ⟨⟨old, he⟩, ⟨o, ho, hc, hd⟩, _⟩ := st
    have e' : b = e ∨ b = it := by simpa using hb
    rcases e' with z | z
    · rw [z]; exact ⟨_, he, fun v q => nomatch q⟩
    · rw [z]; exact ⟨o, ho, fun v q => by rw [hd] at q; cases q⟩
  keep := fun i h h' st k => let ⟨⟨old, he⟩, hi, hne⟩ := st; ⟨⟨old, k e (by simp) _ he⟩, hi.at fun o q => k it (by simp) o q, hne⟩
  item := by
    intro X hP hw hK hc i pins s σ H E I hf st hg
    subst hP hw hK
    obtain ⟨⟨old, he⟩, hit, hne, hai, hae⟩ := st
    obtain ⟨xs, x, hq, hx⟩ := hg
    obtain ⟨its, rv, p, hz⟩ := I.tuple hq
    obtain ⟨u, hu, ru⟩ := rv.get hx
    have hel : e < s.heap.objs.size := Heap.lt_size he
    have hil : it < s.heap.objs.size := by obtain ⟨_, q, _⟩ := hit; exact Heap.lt_size q
    have hu' : its.toArray[i]? = some u := by simpa using hu
    have hilt : i < its.toArray.size := (Array.getElem?_eq_some_iff.mp hu').1
    have hne' : e ∉ [it, a] := by
      intro z
      rcases List.mem_cons.mp z with z | z
      · exact hne z
      · exact hae (List.mem_singleton.mp z).symm
    refine wpAny_pyNext_enum_itemD (Draws.tuple (A := X.A.in1) (show X.A.in1.handled = none from I.ok.hd hc) it a hai its.toArray) he ⟨hit, show s.heap.IsTuple a its.toArray from p⟩ hilt hne hne' fun u' h' tk hP ho hit' hT hsz hk => ?_
    have eu : u' = u := Option.some.inj (hP.symm.trans hu')
    subst eu
    refine ⟨_, rfl, wpAny_letOwnedTupleGo_enum (s := { s with heap := h', toks := tk + 1 }) ho fun h'' he' sb => ?_⟩
    have hT2 : h''.get? s.heap.objs.size = some { cls := .type "tuple", data := .seq #[.int i tk, u'] } := (sb.2 _ (Nat.ne_of_gt hel)).trans hT
    have new : ObjOk X.prog X.w (upd H s.heap.objs.size (.tup [.int (i : Nat), x])) h'' s.heap.objs.size (.tup [.int (i : Nat), x]) :=
      ⟨by show 2 ≤ sizeLine; decide, [.int i tk, u'], .cons ⟨_, rfl⟩ (.cons ru .nil), ⟨_, hT2, rfl, _, rfl⟩⟩
    have I1 : Inv X pins σ (upd H s.heap.objs.size (.tup [.int (i : Nat), x])) { s with heap := h'', toks := tk + 1 } :=
      I.turnedNew (ch := [e, it]) (fun b ob hb q => (sb.2 b (fun z => hb (by simp [z]))).trans (hk b ob (fun z => hb (by simp [z])) (fun z => hb (by simp [z])) q)) hf (Nat.le_refl _) new
    refine ⟨.ref s.heap.objs.size, _, I1, rfl, ⟨_, x, rfl, I.hok.fresh (Nat.le_refl _), rfl, fun ys hy => by rw [I.tuple_inj hy hq]; exact hx⟩, ⟨⟨u', ?_⟩, hit'.1.at fun o q => (sb.2 it (Ne.symm hne)).trans q, hne, hai, hae⟩, fun b hb => ?_⟩
    · have e1 : ((i + 1 : Nat) : Int) = (i : Int) + 1 := by omega
      rw [e1]; exact he'
    · have hb' : b < s.heap.objs.size := by
        have e' : b = e ∨ b = it := by simpa using hb
        rcases e' with z | z
        · rw [z]; exact hel
        · rw [z]; exact hil
      rw [upd_ne (Nat.ne_of_lt hb')]
      exact (hf b hb).1
  done := by
    intro X hP hw hK hc i pins s σ H E I hf st hg
    subst hP hw hK
    obtain ⟨⟨old, he⟩, hit, hne, hai, hae⟩ := st
    obtain ⟨xs, hq, hx⟩ := hg
    obtain ⟨its, rv, p, hz⟩ := I.tuple hq
    obtain ⟨f0, f1, f2, f3, f4, f5⟩ := hf it (by simp)
    have hl := rv.length
    exact enumT_end (I.ok.hd hc) he hit (show s.heap.IsTuple a its.toArray from p) (by simp; omega) fun h' eb => ⟨rfl, I.turned (t' := s.toks) (fun b o hb q => eb b o hb q) f0 f1 f3 f4 f5⟩
  self := fun A i s Q E st h => let ⟨⟨_, he⟩, _⟩ := st; wpAny_pyIter_enum he h
def iEnumA (K : PySem.W.Frag) (ta : TA) : TI := fun σ H R => ta σ H fun vs H1 => ∃ a xs, vs = [.ref a] ∧ ((SqL K H1 a xs ∧ R (Ite K a) H1) ∨ (SqT K H1 a xs ∧ R (IteT K a) H1))
theorem pi_enumA {X : Cx} {e : Expr} {ta : TA} {p pos tpos : Pos} {elts : List Expr} {kk : Nat} (hg : Gl X "enumerate") (hm : X.mg "enumerate" = none) (ha : PA X [e] ta) (hs : starEach [e] X.env = [(false, eval e X.env)] := by rfl) :
    PI X (.Tuple elts kk tpos) (.Call (.Name "enumerate" p) [e] [] pos) (iEnumA X.K ta) := by
  refine ⟨fun pins s σ H R I h => ?_⟩
  refine Call_ (ld_blt I hg hm boot_enumerate (PyProof.Rows.callWith_type1 (thn (ha.run pos pins s σ H _ I h) fun us s1 ⟨vs, H1, I1, r1, q1⟩ => ?_) hs rfl))
  obtain ⟨a, xs, ex, q1⟩ := q1
  subst ex
  cases r1 with
  | cons r rr =>
    cases rr
    cases r
    have fresh : ∀ b ∈ [s1.heap.objs.size + 1, s1.heap.objs.size], FpOk X pins H1 b := fun b hb => by
      have e' : b = s1.heap.objs.size + 1 ∨ b = s1.heap.objs.size := by simpa using hb
      have hle : s1.heap.objs.size ≤ b := by
        rcases e' with z | z
        · rw [z]; exact Nat.le_add_right _ _
        · rw [z]; exact Nat.le_refl _
      exact I1.fpOk hle (I1.hok.fresh hle)
    rcases q1 with ⟨hq, q⟩ | ⟨hq, q⟩
    · obtain ⟨its, rv, p', hz⟩ := I1.list hq
      refine call_enumerate_list p'.isList fun h' he hit hsz hk => wpAny_pyIter_enum he ?_
      have I2 : Inv X pins σ H1 { s1 with heap := h' } := I1.kept (t' := s1.toks) hk
      exact ⟨s1.heap.objs.size + 1, [s1.heap.objs.size + 1, s1.heap.objs.size], _, _, H1, rfl, I2, turn_enum a (s1.heap.objs.size + 1) s1.heap.objs.size, ⟨⟨.none, he⟩, hit, Nat.succ_ne_self _⟩, fresh, q⟩
    · obtain ⟨its, rv, p', hz⟩ := I1.tuple hq
      have hp : s1.heap.IsTuple a its.toArray := p'
      obtain ⟨o1, ho1, _⟩ := id hp
      have hal : a < s1.heap.objs.size := Heap.lt_size ho1
      refine call_enumerate_tuple hp fun h' he hit hsz hk => wpAny_pyIter_enum he ?_
      have I2 : Inv X pins σ H1 { s1 with heap := h' } := I1.kept (t' := s1.toks) hk
      exact ⟨s1.heap.objs.size + 1, [s1.heap.objs.size + 1, s1.heap.objs.size], _, _, H1, rfl, I2, turn_enumT a (s1.heap.objs.size + 1) s1.heap.objs.size, ⟨⟨.none, he⟩, hit, Nat.succ_ne_self _, Nat.ne_of_lt hal, Nat.ne_of_lt (Nat.lt_succ_of_lt hal)⟩, fresh, q⟩
theorem pairs_get : ∀ {xs : List D} {k : Int} {i : Nat} {d : D}, (pairs k xs)[i]? = some d → ∃ x, xs[i]? = some x ∧ d = .tup [.int (k + (i : Int)), x]
  | [], _, _, _, h => by simp [pairs] at h
  | x :: xs, k, i, d, h => by
    unfold pairs at h
    cases i with
    | zero => simp at h; exact ⟨x, rfl, by rw [← h]; simp⟩
    | succ i =>
      simp at h
      obtain ⟨a, h1, h2⟩ := pairs_get h
      refine ⟨a, by simpa using h1, ?_⟩
      rw [h2]
      congr 2
      have : k + 1 + (i : Int) = k + ((i + 1 : Nat) : Int) := by omega
      rw [this]
theorem pairs_len : ∀ (xs : List D) (k : Int), (pairs k xs).length = xs.length
  | [], k => rfl
  | x :: xs, k => by unfold pairs; rw [List.length_cons, List.length_cons, pairs_len xs (k + 1)]
section
variable {X : Cx} {W : WX}
theorem lay_num {K : PySem.W.Frag} {c2 : Cf} {T : Addr} {v : V} {y : D} {k : Int} (sr : SR K c2) (n : c2.H T = none) (h2 : DR K c2.μ c2.H y v) : ∃ c3 : Cf, c3.s = c2.s ∧ c3.σ = c2.σ ∧ c3.H = upd c2.H T (.tup [.int k, v]) ∧ Stp c2 c3 ∧ SR K c3 ∧ DR K c3.μ c3.H (.tup [.int k, y]) (.ref T) :=
  lay_pair sr n (by simp only [DR]) h2
theorem j_enum {elts : List Expr} {kk : Nat} {tpos p pos : Pos} {a : Expr} {ma : S → R SV} (hg : Gl X "enumerate") (hm : X.mg "enumerate" = none) (hs : notStar a = true) (ha : JX X W ma a) :
    JI X W (fun s => (ma s).bind fun x s1 => lif ((seq s1 x).map fun xs => ⟨pairs 0 xs, plcC x xs, plcV x xs s1⟩) s1) (.Tuple elts kk tpos) (.Call (.Name "enumerate" p) [a] [] pos) := by
  intro c RR sr q
  refine WpI.of (pi_enumA hg hm (pa_cons (peW a) pa_nil (star_cons hs)) (star_cons hs)) ?_
  refine ha c _ sr (q.bind.imp fun x c1 st1 sr1 vs1 p1 v rd fv => ?_)
  obtain ⟨im, hm', k⟩ := Post.lif sr1 p1
  obtain ⟨xs, e1, rfl⟩ := Option.map_eq_some_iff.mp hm'
  have lk := plcV_ok e1
  obtain ⟨a1, rfl, s1, s2⟩ := seq_stay sr1 lk (fun p h => h) rd e1
  obtain ⟨n1, n2⟩ := isTup_now sr1 rd e1
  cases ht : isTup x with
  | false =>
    obtain ⟨zs, hz⟩ := n1 ht
    refine ⟨a1, zs, rfl, .inl ⟨hz, k _ lk fun c3 st sr3 ok i => ?_⟩⟩
    obtain ⟨v1, q1, r1⟩ := s1 ht c3 st sr3 ok
    refine ⟨fun d hd => ?_, fun hi => ⟨v1, q1, by rw [r1.length]; rw [pairs_len] at hi; exact hi⟩⟩
    obtain ⟨dx, g1, rfl⟩ := pairs_get hd
    obtain ⟨wx, f1, o1⟩ := r1.get g1
    refine ⟨⟨v1, wx, q1, f1⟩, fun v H' hy => ?_⟩
    obtain ⟨T, ux, rfl, nT, rfl, k1⟩ := hy
    have e3 := k1 v1 q1
    rw [f1] at e3
    cases e3
    rw [Int.zero_add]
    exact lay_num sr3 nT o1
  | true =>
    obtain ⟨zs, hz⟩ := n2 ht
    refine ⟨a1, zs, rfl, .inr ⟨hz, k _ lk fun c3 st sr3 ok i => ?_⟩⟩
    obtain ⟨v1, q1, r1⟩ := s2 ht c3 st sr3
    refine ⟨fun d hd => ?_, fun hi => ⟨v1, q1, by rw [r1.length]; rw [pairs_len] at hi; exact hi⟩⟩
    obtain ⟨dx, g1, rfl⟩ := pairs_get hd
    obtain ⟨wx, f1, o1⟩ := r1.get g1
    refine ⟨⟨v1, wx, q1, f1⟩, fun v H' hy => ?_⟩
    obtain ⟨T, ux, rfl, nT, rfl, k1⟩ := hy
    have e3 := k1 v1 q1
    rw [f1] at e3
    cases e3
    rw [Int.zero_add]
    exact lay_num sr3 nT o1
end
end G

/-! ## GS11 -/
set_option Elab.async false
set_option linter.all false
set_option maxRecDepth 100000
set_option maxHeartbeats 4000000
namespace G
open PySem PySem.Spec PyProof.Rows L2

/-! ### names that are forgotten for a while -/
theorem wipes_len : ∀ (v : List Slot) (l : List Nat), (wipes v l).length = v.length
  | _, [] => rfl
  | v, i :: r => by unfold wipes; rw [List.length_set, wipes_len v r]
theorem wipes_get {v : List Slot} {j : Nat} {x : Slot} : ∀ {l : List Nat}, (wipes v l)[j]? = some x → (j ∈ l ∧ x = .no) ∨ (j ∉ l ∧ v[j]? = some x)
  | [], h => .inr ⟨List.not_mem_nil, h⟩
  | i :: r, h => by
    unfold wipes at h
    rcases set_get h with ⟨rfl, rfl, _⟩ | ⟨ne, h⟩
    · exact .inl ⟨List.mem_cons_self, rfl⟩
    · rcases wipes_get h with ⟨h1, h2⟩ | ⟨h1, h2⟩
      · exact .inl ⟨List.mem_cons_of_mem _ h1, h2⟩
      · exact .inr ⟨fun m => (List.mem_cons.mp m).elim ne h1, h2⟩
theorem wipes_out {v : List Slot} {j : Nat} : ∀ {l : List Nat}, j ∉ l → (wipes v l)[j]? = v[j]?
  | [], _ => rfl
  | i :: r, h => by
    unfold wipes
    rw [List.getElem?_set_ne (fun e => h (by rw [e]; exact List.mem_cons_self))]
    exact wipes_out fun m => h (List.mem_cons_of_mem _ m)
theorem restor_len (v w : List Slot) : ∀ l : List Nat, (restor v w l).length = w.length
  | [] => rfl
  | i :: r => by unfold restor; rw [List.length_set, restor_len v w r]
theorem restor_get {v w : List Slot} {j : Nat} {x : Slot} : ∀ {l : List Nat}, (restor v w l)[j]? = some x → (j ∈ l ∧ x = v.getD j .no) ∨ (j ∉ l ∧ w[j]? = some x)
  | [], h => .inr ⟨List.not_mem_nil, h⟩
  | i :: r, h => by
    unfold restor at h
    rcases set_get h with ⟨rfl, rfl, _⟩ | ⟨ne, h⟩
    · exact .inl ⟨List.mem_cons_self, rfl⟩
    · rcases restor_get h with ⟨h1, h2⟩ | ⟨h1, h2⟩
      · exact .inl ⟨List.mem_cons_of_mem _ h1, h2⟩
      · exact .inr ⟨fun m => (List.mem_cons.mp m).elim ne h1, h2⟩
theorem restor_in {v w : List Slot} {j : Nat} : ∀ {l : List Nat}, j ∈ l → j < w.length → (restor v w l)[j]? = some (v.getD j .no)
  | i :: r, h, hj => by
    unfold restor
    by_cases e : i = j
    · subst e; exact List.getElem?_set_self (by rw [restor_len]; exact hj)
    · rw [List.getElem?_set_ne e]
      exact restor_in ((List.mem_cons.mp h).elim (fun z => absurd z.symm e) id) hj
theorem restor_out {v w : List Slot} {j : Nat} : ∀ {l : List Nat}, j ∉ l → (restor v w l)[j]? = w[j]?
  | [], _ => rfl
  | i :: r, h => by
    unfold restor
    rw [List.getElem?_set_ne (fun e => h (by rw [e]; exact List.mem_cons_self))]
    exact restor_out fun m => h (List.mem_cons_of_mem _ m)
theorem wipe_in {σ : L2.St} {j : Nat} : ∀ {l : List Nat}, j ∈ l → j < σ.length → (wipe σ l)[j]? = some none
  | i :: r, h, hj => by
    unfold wipe
    by_cases e : i = j
    · subst e; exact List.getElem?_set_self (by rw [wipe_length]; exact hj)
    · rw [List.getElem?_set_ne e]
      exact wipe_in ((List.mem_cons.mp h).elim (fun z => absurd z.symm e) id) hj
theorem wipe_ext {σ τ : L2.St} {l : List Nat} (h1 : σ.length = τ.length) (h2 : ∀ i, i ∉ l → σ[i]? = τ[i]?) : wipe σ l = wipe τ l := by
  refine List.ext_getElem? fun i => ?_
  by_cases m : i ∈ l
  · by_cases hi : i < σ.length
    · rw [wipe_in m hi, wipe_in m (by rw [← h1]; exact hi)]
    · rw [List.getElem?_eq_none (by rw [wipe_length]; omega), List.getElem?_eq_none (by rw [wipe_length]; omega)]
  · rw [wipe_out m, wipe_out m, h2 i m]
def Cf.wipe (c : Cf) (l : List Nat) : Cf := { c with s := ⟨wipes c.s.v l, c.s.M⟩, σ := L2.wipe c.σ l }
def Cf.restor (c c6 : Cf) (l : List Nat) : Cf := { c6 with s := ⟨G.restor c.s.v c6.s.v l, c6.s.M⟩, σ := c.σ }
section
variable {K : PySem.W.Frag} {c c6 : Cf} {l : List Nat}
theorem wipe_own {i : Nat} {a : Addr} (h : OwnAt (c.wipe l) i a) : OwnAt c i a ∧ i ∉ l := by
  obtain ⟨⟨xs, h1⟩, h2⟩ := h
  rcases wipes_get h1 with ⟨_, e⟩ | ⟨h3, h4⟩
  · cases e
  · have h2 : (L2.wipe c.σ l)[i]? = _ := h2
    rw [wipe_out h3] at h2
    exact ⟨⟨⟨xs, h4⟩, h2⟩, h3⟩
theorem wipe_foot {b : Addr} (h : Foot (c.wipe l) b) : Foot c b := by
  rcases h with h | ⟨i, h⟩
  · exact .inl h
  · exact .inr ⟨i, (wipe_own h).1⟩
theorem SR.wipe (sr : SR K c) : SR K (c.wipe l) where
  len := by
    show (wipes _ _).length = (L2.wipe _ _).length
    rw [wipes_len, wipe_length]; exact sr.len
  mlen := sr.mlen
  nd := sr.nd
  cell := fun m cl a h1 h2 => by
    have z := sr.cell m cl a h1 h2
    exact z
  slot := fun i x h => by
    rcases wipes_get h with ⟨_, rfl⟩ | ⟨h1, h2⟩
    · trivial
    · have z := sr.slot i x h2
      show SlotR K _ ((L2.wipe c.σ l)[i]?) x
      rw [wipe_out h1]
      cases x with
      | no => trivial
      | val d => exact z
      | own xs => exact z
      | ro xs => exact z
  ownd := fun i j a h1 h2 => sr.ownd i j a (wipe_own h1).1 (wipe_own h2).1
  ownm := fun i a h => sr.ownm i a (wipe_own h).1
  rho := fun b h => by
    obtain ⟨t, nf⟩ := sr.rho b h
    exact ⟨t, fun f => nf (wipe_foot f)⟩
/-- what was wiped at the base may be wiped again -/
theorem Stp.wipe {b : Cf} (st : Stp (b.wipe l) c) (hσ : L2.wipe c.σ l = L2.wipe b.σ l) : Stp (b.wipe l) (c.wipe l) where
  pre := st.pre
  rh := st.rh
  frame := st.frame
  grow := fun q f => st.grow q (wipe_foot f)
  trk := st.trk
  tup := st.tup
  ros := fun i xs h => by
    rcases wipes_get h with ⟨_, e⟩ | ⟨h1, h2⟩
    · cases e
    · obtain ⟨z1, z2⟩ := st.ros i xs h2
      refine ⟨z1, ?_⟩
      show (L2.wipe c.σ l)[i]? = _
      rw [hσ]; rfl
  ron := fun i xs h => by
    have hi : i ∉ l := fun m => by
      rcases wipes_get h with ⟨_, e⟩ | ⟨h1, _⟩
      · cases e
      · exact h1 m
    show (wipes _ _)[i]? = _
    rw [wipes_out hi]
    exact st.ron i xs h
theorem Stp.wstq (st : Stp (c.wipe l) c6) : Stq c c6 := ⟨st.pre, st.rh, fun b o e nf => st.frame b o e fun f => nf (wipe_foot f), st.tup⟩
theorem rest_ok (sr : SR K c) (st : Stp (c.wipe l) c6) (sr6 : SR K c6) (v6 : Vst (c.wipe l) c6) : Stp c (c.restor c6 l) ∧ SR K (c.restor c6 l) ∧ Vst c (c.restor c6 l) ∧ ∀ b, Foot (c.restor c6 l) b → Foot c6 b ∨ Foot c b := by
  have hσ : c6.σ = L2.wipe c.σ l := v6.1
  have hlen : c6.s.v.length = c.s.v.length := by
    rw [sr6.len, hσ, wipe_length, ← sr.len]
  have gd : ∀ (j : Nat) x, x = c.s.v.getD j .no → x ≠ .no → c.s.v[j]? = some x := fun j x e ne => by
    rw [List.getD_eq_getElem?_getD] at e
    cases z : c.s.v[j]? with
    | none => rw [z] at e; exact absurd e ne
    | some y => rw [z] at e; rw [e]; rfl
  have ow : ∀ i a, OwnAt (c.restor c6 l) i a → (i ∈ l ∧ OwnAt c i a) ∨ (i ∉ l ∧ OwnAt c6 i a) := fun i a ⟨⟨xs, h1⟩, h2⟩ => by
    have h2 : c.σ[i]? = _ := h2
    rcases restor_get h1 with ⟨m, e⟩ | ⟨m, h3⟩
    · exact .inl ⟨m, ⟨xs, gd i _ e (by intro z; cases z)⟩, h2⟩
    · refine .inr ⟨m, ⟨xs, h3⟩, ?_⟩
      rw [hσ, wipe_out m]; exact h2
  have nf6 : ∀ i a, i ∈ l → OwnAt c i a → ¬ Foot c6 a := fun i a m h f => by
    have nw : ¬ Foot (c.wipe l) a := fun f => by
      rcases f with f | ⟨j, f⟩
      · exact sr.ownm i a h f
      · obtain ⟨f1, f2⟩ := wipe_own f
        exact f2 (by rw [sr.ownd j i a f1 h]; exact m)
    rcases st.grow a f with f | f
    · exact nw f
    · obtain ⟨vs, e, _⟩ := sr.foot (.inr ⟨i, h⟩)
      have f : c.H a = none := f
      rw [e] at f; cases f
  have ft : ∀ b, Foot (c.restor c6 l) b → Foot c6 b ∨ Foot c b := fun b f => by
    rcases f with f | ⟨i, f⟩
    · exact .inl (.inl f)
    · rcases ow i b f with ⟨_, f⟩ | ⟨_, f⟩
      · exact .inr (.inr ⟨i, f⟩)
      · exact .inl (.inr ⟨i, f⟩)
  have fr : ∀ b o, c.H b = some o → ¬ Foot c b → c6.H b = some o := fun b o e nf => st.frame b o e fun f => nf (wipe_foot f)
  refine ⟨⟨st.pre, st.rh, fr, fun b f => ?_, st.trk, st.tup, fun i xs h => ?_, fun i xs h => ?_⟩, ⟨?_, sr6.mlen, sr6.nd, fun m cl a h1 h3 => ?_, fun i x h => ?_, fun i j a h1 h3 => ?_, fun i a h => ?_, fun b h => ?_⟩, ⟨rfl, fun i ⟨xs, h⟩ => ?_⟩, ft⟩
  · rcases ft b f with f | f
    · exact (st.grow b f).imp wipe_foot id
    · exact .inl f
  · refine ⟨?_, rfl⟩
    rcases restor_get h with ⟨m, e⟩ | ⟨m, h3⟩
    · exact gd i _ e (by intro z; cases z)
    · have z := (st.ros i xs h3).1
      have z : (wipes c.s.v l)[i]? = _ := z
      rw [wipes_out m] at z
      exact z
  · have hi : i < c6.s.v.length := by rw [hlen]; exact (List.getElem?_eq_some_iff.mp h).1
    show (G.restor _ _ _)[i]? = _
    by_cases m : i ∈ l
    · rw [restor_in m hi, List.getD_eq_getElem?_getD, h]; rfl
    · rw [restor_out m]
      refine st.ron i xs ?_
      show (wipes c.s.v l)[i]? = _
      rw [wipes_out m]; exact h
  · show (G.restor _ _ _).length = c.σ.length
    rw [restor_len, hlen]; exact sr.len
  · have z := sr6.cell m cl a h1 h3
    exact z
  · rcases restor_get h with ⟨m, e⟩ | ⟨m, h3⟩
    · by_cases ne : x = .no
      · subst ne; trivial
      · have h0 := gd i x e ne
        refine SlotR.mono (c := c) (c' := c.restor c6 l) st.pre st.tup (fun a vs e1 e2 e3 => ?_) (fun a vs e1 e2 => ⟨?_, ?_⟩) (sr.slot i x h0)
        · obtain ⟨xs, rfl⟩ := e2
          refine st.frame a _ e3 fun f => ?_
          rcases f with f | ⟨j, f⟩
          · exact sr.ownm i a ⟨⟨xs, h0⟩, e1⟩ f
          · obtain ⟨f1, f2⟩ := wipe_own f
            exact f2 (by rw [sr.ownd j i a f1 ⟨⟨xs, h0⟩, e1⟩]; exact m)
        · show c6.ρ a
          rw [st.rh]; exact e1
        · have nf := (sr.rho a e1).2
          rcases e2 with e2 | ⟨u, e2⟩
          · exact .inl (fr a _ e2 nf)
          · exact .inr ⟨u, fr a _ e2 nf⟩
    · have z := sr6.slot i x h3
      show SlotR K _ (c.σ[i]?) x
      rw [hσ, wipe_out m] at z
      cases x with
      | no => trivial
      | val d => exact z
      | own xs => exact z
      | ro xs => exact z
  · rcases ow i a h1 with ⟨m1, h1⟩ | ⟨m1, h1⟩ <;> rcases ow j a h3 with ⟨m3, h3⟩ | ⟨m3, h3⟩
    · exact sr.ownd i j a h1 h3
    · exact absurd (.inr ⟨j, h3⟩) (nf6 i a m1 h1)
    · exact absurd (.inr ⟨i, h1⟩) (nf6 j a m3 h3)
    · exact sr6.ownd i j a h1 h3
  · rcases ow i a h with ⟨m, h⟩ | ⟨_, h⟩
    · exact fun z => nf6 i a m h (.inl z)
    · exact sr6.ownm i a h
  · obtain ⟨t, nf⟩ := sr6.rho b h
    refine ⟨t, fun f => ?_⟩
    rcases ft b f with f | f
    · exact nf f
    · have h : c6.ρ b := h
      rw [st.rh] at h
      exact (sr.rho b h).2 f
  · show ∃ ys, (G.restor _ _ _)[i]? = _
    by_cases m : i ∈ l
    · rw [restor_in m (by rw [hlen]; exact (List.getElem?_eq_some_iff.mp h).1), List.getD_eq_getElem?_getD, h]
      exact ⟨xs, rfl⟩
    · rw [restor_out m]
      refine v6.2 i ⟨xs, ?_⟩
      show (wipes c.s.v l)[i]? = _
      rw [wipes_out m]; exact h
/-- a thing that nobody owns is written -/
theorem SR.wro {D : Addr} {o u : HO} (sr : SR K c) (e : c.H D = some u) (w : Wr u) (nf : ¬ Foot c D) (nr : ¬ c.ρ D) : SR K ({ c with H := upd c.H D o } : Cf) := by
  have tk : TupK c.H (upd c.H D o) := tupK_upd e w
  refine ⟨sr.len, sr.mlen, sr.nd, fun m cl a h1 h2 => ?_, fun i x h => ?_, sr.ownd, sr.ownm, fun b h => ?_⟩
  · have z := sr.cell m cl a h1 h2
    have ne : a ≠ D := by rintro rfl; exact nf (.inl (List.mem_of_getElem? h2))
    exact z.mono (List.prefix_refl _) tk fun o e => by show upd c.H D _ a = _; rw [upd_ne ne]; exact e
  · refine SlotR.mono (c := c) (c' := { c with H := upd c.H D o }) (List.prefix_refl _) tk (fun a ws e1 e2 e3 => ?_) (fun a ws e1 e2 => ⟨e1, ?_⟩) (sr.slot i x h)
    · obtain ⟨xs, rfl⟩ := e2
      have ne : a ≠ D := by rintro rfl; exact nf (.inr ⟨i, ⟨xs, h⟩, e1⟩)
      show upd c.H D _ a = _
      rw [upd_ne ne]; exact e3
    · have ne : a ≠ D := by rintro rfl; exact nr e1
      rcases e2 with e2 | ⟨u, e2⟩
      · exact .inl (by show upd c.H D _ a = _; rw [upd_ne ne]; exact e2)
      · exact .inr ⟨u, by show upd c.H D _ a = _; rw [upd_ne ne]; exact e2⟩
  · obtain ⟨⟨o, e2⟩, n2⟩ := sr.rho b h
    have ne : b ≠ D := by rintro rfl; exact nr h
    exact ⟨⟨o, by show upd c.H D _ b = _; rw [upd_ne ne]; exact e2⟩, n2⟩
/-- a list that nobody owns is written -/
def Cf.wr (c : Cf) (D : Addr) (vs : List V) : Cf := { c with H := upd c.H D (.lst vs) }
theorem SR.wr {D : Addr} {vs us : List V} (sr : SR K c) (e : c.H D = some (.lst us)) (nf : ¬ Foot c D) (nr : ¬ c.ρ D) : SR K (c.wr D vs) := by
  have tk : TupK c.H (upd c.H D (.lst vs)) := tupK_upd e trivial
  refine ⟨sr.len, sr.mlen, sr.nd, fun m cl a h1 h2 => ?_, fun i x h => ?_, sr.ownd, sr.ownm, fun b h => ?_⟩
  · have z := sr.cell m cl a h1 h2
    have ne : a ≠ D := by rintro rfl; exact nf (.inl (List.mem_of_getElem? h2))
    exact z.mono (List.prefix_refl _) tk fun o e => by show upd c.H D _ a = _; rw [upd_ne ne]; exact e
  · refine SlotR.mono (c := c) (c' := c.wr D vs) (List.prefix_refl _) tk (fun a ws e1 e2 e3 => ?_) (fun a ws e1 e2 => ⟨e1, ?_⟩) (sr.slot i x h)
    · obtain ⟨xs, rfl⟩ := e2
      have ne : a ≠ D := by rintro rfl; exact nf (.inr ⟨i, ⟨xs, h⟩, e1⟩)
      show upd c.H D _ a = _
      rw [upd_ne ne]; exact e3
    · have ne : a ≠ D := by rintro rfl; exact nr e1
      rcases e2 with e2 | ⟨u, e2⟩
      · exact .inl (by show upd c.H D _ a = _; rw [upd_ne ne]; exact e2)
      · exact .inr ⟨u, by show upd c.H D _ a = _; rw [upd_ne ne]; exact e2⟩
  · obtain ⟨⟨o, e2⟩, n2⟩ := sr.rho b h
    have ne : b ≠ D := by rintro rfl; exact nr h
    exact ⟨⟨o, by show upd c.H D _ b = _; rw [upd_ne ne]; exact e2⟩, n2⟩
theorem Stp.wr {b : Cf} {D : Addr} {vs us : List V} (st : Stp b c) (e : c.H D = some (.lst us)) (n : b.H D = none) : Stp b (c.wr D vs) where
  pre := st.pre
  rh := st.rh
  frame := fun q o h nf => by
    have ne : q ≠ D := ne_of_none h n
    show upd c.H D _ q = _
    rw [upd_ne ne]; exact st.frame q o h nf
  grow := st.grow
  trk := fun q o h => by
    have ne : q ≠ D := ne_of_none h n
    obtain ⟨o', h'⟩ := st.trk q o h
    exact ⟨o', by show upd c.H D _ q = _; rw [upd_ne ne]; exact h'⟩
  tup := fun q ws h => tupK_upd e trivial q ws (st.tup q ws h)
  ros := st.ros
  ron := st.ron
end
end G

/-! ## GS12 -/
set_option Elab.async false
set_option linter.all false
set_option maxRecDepth 100000
set_option maxHeartbeats 4000000
namespace G
open PySem PySem.Spec PyProof.Rows L2

def WF0 : WX := fun _ _ _ _ => False
def WpF (X : Cx) (ifs : List Expr) : TT := fun σ H Q => ∀ pins s, Inv X pins σ H s →
  wpAny (model X.prog X.w) X.A (forIn ifs true fun c r => if r = true then do let ok ← isTrue c X.env (eval c X.env); pure (ForInStep.yield ok) else pure (ForInStep.yield r)) (TP X pins σ Q) X.xe s
theorem pfW (X : Cx) (ifs : List Expr) : PTs X ifs (WpF X ifs) := ⟨fun pins s σ H Q I h => h pins s I⟩
def JF (X : Cx) (W : WX) (m : S → R Bool) (ifs : List Expr) : Prop := ∀ c Q, SR X.K c → Post X.K c (m c.s) (fun b c' => Q b c'.H) (QX X W) → WpF X ifs c.σ c.H Q
section
variable {X : Cx} {W : WX}
theorem j_fnil : JF X W (fun s => .ok true s) [] := fun c Q sr p pins s I => (pts_nil (X := X)).run pins s c.σ c.H Q I (p.ok sr)
theorem j_fone {t : Expr} {m : S → R Bool} (h : JT X W m t) : JF X W (fun s => (m s).bind fun b s1 => if b = true then .ok true s1 else .ok b s1) [t] := fun c Q sr p pins s I => by
  refine (pts_one (ptW t)).run pins s c.σ c.H Q I (h c Q sr (p.bind.imp fun b c1 st1 sr1 vs1 p1 => ?_))
  cases b with
  | true => exact p1.ok sr1
  | false => exact p1.ok sr1
end
theorem R.bind_ok {α β : Type} {r : R α} {f : α → S → R β} {b : β} {s : S} (h : r.bind f = .ok b s) : ∃ a s1, r = .ok a s1 ∧ f a s1 = .ok b s := by
  cases r with
  | ok a s1 => exact ⟨a, s1, rfl, h⟩
  | exc x s1 => cases h
  | bad => cases h
theorem post_ok {α : Type} {K : PySem.W.Frag} {c : Cf} {a : α} {s : S} {Qn : α → Cf → Prop} {Qx : Xc → Cf → Prop} {r : R α} (e : r = .ok a s) (h : ∀ c', c'.s = s → Stp c c' → SR K c' → Vst c c' → Qn a c') : Post K c r Qn Qx := by
  subst e; exact h
theorem postS_ok {α : Type} {K : PySem.W.Frag} {c : Cf} {a : α} {s : S} {Qn : α → Cf → Prop} {Qx : Xc → Cf → Prop} {r : R α} (e : r = .ok a s) (h : ∀ c', c'.s = s → Stp c c' → SR K c' → Qn a c') : PostS K c r Qn Qx := by
  subst e; exact h
/-- the invariant ahead of a turn -/
structure TI' (K : PySem.W.Frag) (m : Itm) (own : List Nat) (turn : D → S → R (Option D)) (cL : Cf) (DD : Addr) (ys : List D) (s6 : S) (i mm : Nat) (H : Hp) : Prop where
  ex : ∃ (ci : Cf) (dn rest : List D) (acc : List V), ci.H = H ∧ Stp (cL.wipe own) ci ∧ SR K ci ∧ Vst (cL.wipe own) ci ∧ ci.H DD = some (.lst acc) ∧ ¬ Foot ci DD ∧ ¬ ci.ρ DD ∧ DRs K ci.μ ci.H dn acc ∧
    compL m.ok (fun x s => (turn x s).bind fun o s' => .ok o (wiped own s')) (m.xs.drop i) ci.s = .ok rest s6 ∧ dn ++ rest = ys
  le : i ≤ m.xs.length
  me : mm = m.xs.length - i
section
variable {X : Cx} {W : WX} {k : Cc} {g : GI} {n : Nat}
theorem wiped_step {K : PySem.W.Frag} {own l : List Nat} {cL ci c3 c4 c7 : Cf} (hl : ∀ i ∈ l, i ∈ own) (vi : Vst (cL.wipe own) ci) (e3 : c3.σ = ci.σ) (e3s : c3.s = ci.s) (ch : Chg l c3 c4) (v7 : Vst c4 c7) : L2.wipe c7.σ own = L2.wipe cL.σ own ∧ Vst (cL.wipe own) (c7.wipe own) := by
  have h0 : ci.σ = L2.wipe cL.σ own := vi.1
  have hh : L2.wipe c7.σ own = L2.wipe cL.σ own := by
    rw [v7.1]
    refine wipe_ext ?_ fun i n => ?_
    · rw [ch.2.1, e3, h0, wipe_length]
    · rw [ch.1 i fun m => n (hl i m), e3, h0, wipe_out n]
  refine ⟨hh, hh, fun i ⟨xs, h⟩ => ?_⟩
  have n : i ∉ own := fun m => by
    rcases wipes_get h with ⟨_, e⟩ | ⟨q, _⟩
    · cases e
    · exact q m
  have z := vi.2 i ⟨xs, h⟩
  rw [← e3s] at z
  obtain ⟨ys, z⟩ := v7.2 i (ch.2.2 i (fun m => n (hl i m)) z)
  exact ⟨ys, by show (wipes _ _)[i]? = _; rw [wipes_out n]; exact z⟩
theorem j_comp {elt tg iter : Expr} {ifs : List Expr} {scope : Scope} {ow : List (Str × Nat)} {own l : List Nat} {pos : Pos} {mi : S → R Itm} {mg : D → S → R Unit} {mf : S → R Bool} {me : S → R SV} (hc : X.calm = true) (hN : X.N.Nodup)
    (hi : JI X W mi tg iter) (ok : BlkOk X.N X.env.scope scope ow) (hown : ow.map (·.2) = own) (hl : ∀ i ∈ l, i ∈ own)
    (hg : ∀ (s : Shared) (H : Hp) (C : Addr) (cl : List (Str × Addr)) (fp : List Addr), JG (X.blk s H scope (compEnvC scope cl C X.env) fp) WF0 mg l tg)
    (hf : ∀ (s : Shared) (H : Hp) (C : Addr) (cl : List (Str × Addr)) (fp : List Addr), JF (X.blk s H scope (compEnvC scope cl C X.env) fp) WF0 mf ifs)
    (he : ∀ (s : Shared) (H : Hp) (C : Addr) (cl : List (Str × Addr)) (fp : List Addr), JX (X.blk s H scope (compEnvC scope cl C X.env) fp) WF0 me elt)
    (hs : ∀ x, foldedSetIterable iter X.env x = pure x) :
    ∃ t : TE, PE X (.ListComp elt [⟨tg, iter, ifs, 0⟩] scope pos) t ∧ (∀ c Q, SR X.K c → Post X.K c ((mi c.s).bind fun m s1 => compD m own (turnC mg mf me) s1) (fun x c' => ∀ v, SVR X.K c' x v → Fresh c.H x v → Q v c'.H) (QX X W) → t c.σ c.H Q) ∧
      ∀ (i : Nat) (y : Str) (py spos : Pos), X.N[i]? = some y → X.env.scope.names.lookup y = some .local → swapsWith (.ListComp elt [⟨tg, iter, ifs, 0⟩] scope pos) (some (.Name y py)) spos.line X.env = pure true →
        PS X (.Assign [.Name y py] (.ListComp elt [⟨tg, iter, ifs, 0⟩] scope pos) spos) (tAsg t (gName i)) := by
  have pg : ∀ (s : Shared) (H : Hp) (C : Addr) (cl : List (Str × Addr)) (fp : List Addr), PG (X.blk s H scope (compEnvC scope cl C X.env) fp) tg (fun v σ H Q => ∀ s' H' C' cl' fp', WpG (X.blk s' H' scope (compEnvC scope cl' C' X.env) fp') tg v σ H Q) := fun s H C cl fp =>
    ⟨fun pins s' σ H' v u Q I r h => h s H C cl fp pins s' u I r⟩
  have pf : ∀ (s : Shared) (H : Hp) (C : Addr) (cl : List (Str × Addr)) (fp : List Addr), PTs (X.blk s H scope (compEnvC scope cl C X.env) fp) ifs (fun σ H Q => ∀ s' H' C' cl' fp', WpF (X.blk s' H' scope (compEnvC scope cl' C' X.env) fp') ifs σ H Q) := fun s H C cl fp =>
    ⟨fun pins s' σ H' Q I h => h s H C cl fp pins s' I⟩
  have pe : ∀ (s : Shared) (H : Hp) (C : Addr) (cl : List (Str × Addr)) (fp : List Addr), PE (X.blk s H scope (compEnvC scope cl C X.env) fp) elt (fun σ H Q => ∀ s' H' C' cl' fp', WpE (X.blk s' H' scope (compEnvC scope cl' C' X.env) fp') elt σ H Q) := fun s H C cl fp =>
    ⟨fun pins s' σ H' Q I h => h s H C cl fp pins s' I⟩
  refine ⟨_, pe_lc hc hN (piW tg iter) ok pg pf pe hs, fun c Q sr p => ?_, fun i y py spos h1 h2 h3 => ps_setLc hc hN h1 h2 h3 (piW tg iter) ok pg pf pe hs⟩
  show WpI X tg iter c.σ c.H _
  refine hi c _ sr (p.bind.imp fun m c1 st1 sr1 vs1 p1 J lk it DD hD => ?_)
  rw [hown]
  -- the run of the loop
  unfold compD at p1
  have s0 : (wiped own ⟨lock c1.s.v m.lks, c1.s.M⟩) = ((c1.lock m.lks).wipe own).s := rfl
  rw [s0] at p1
  cases hcl : compL m.ok (fun x s => (turnC mg mf me x s).bind fun o s' => .ok o (wiped own s')) m.xs ((c1.lock m.lks).wipe own).s with
  | bad => rw [hcl] at p1; exact p1.elim
  | exc x s => rw [hcl] at p1; exact p1.elim
  | ok ys s6 =>
  rw [hcl] at p1
  by_cases hfit : fits ys.length = true
  case neg =>
    have p1 : Post X.K c1 (noX (if fits ys.length then R.ok (SV.new ys) ⟨unlock (restor (lock c1.s.v m.lks) s6.v own) m.lks, s6.M⟩ else .bad)) _ _ := p1
    rw [if_neg hfit] at p1
    exact p1.elim
  have p1 : Post X.K c1 (noX (if fits ys.length then R.ok (SV.new ys) ⟨unlock (restor (lock c1.s.v m.lks) s6.v own) m.lks, s6.M⟩ else .bad)) _ _ := p1
  rw [if_pos hfit] at p1
  have p1 : Post X.K c1 (R.ok (SV.new ys) ⟨unlock (restor (lock c1.s.v m.lks) s6.v own) m.lks, s6.M⟩) _ _ := p1
  have srL := sr1.lock lk
  have srW : SR X.K ((c1.lock m.lks).wipe own) := srL.wipe
  have hDW : ((c1.lock m.lks).wipe own).H DD = none := hD
  refine ⟨TI' X.K m own (turnC mg mf me) (c1.lock m.lks) DD ys s6, ⟨_, ⟨((c1.lock m.lks).wipe own).lay DD (.lst []), [], ys, [], rfl, Stp.laid hDW, srW.laid hDW, Vst.refl _, upd_same, (srW.fresh hDW).1, (srW.fresh hDW).2, .nil, by rw [List.drop_zero]; exact hcl, rfl⟩, Nat.zero_le _, rfl⟩, ?_⟩
  rintro i mm H ⟨⟨ci, dn, rest, acc, rfl, st, sri, vi, hA, nf, nr, dr, hrun, hys⟩, hle, hmm⟩
  have stq : Stq (c1.lock m.lks) ci := st.wstq
  by_cases hend : i = m.xs.length
  · -- the end
    left
    have e0 : m.xs.drop i = [] := by rw [hend, List.drop_length]
    rw [e0] at hrun
    unfold compL at hrun
    by_cases hok : m.ok ci.s = true
    case neg => rw [if_neg hok] at hrun; cases hrun
    rw [if_pos hok] at hrun
    cases hrun
    refine ⟨(it ci stq sri hok i).2 (by omega), ?_⟩
    rw [List.append_nil] at hys
    subst hys
    obtain ⟨r1, r2, r3, r4⟩ := rest_ok srL st sri vi
    obtain ⟨u1, u2, u3⟩ := unlock_ok sr1 lk r1 r2
    refine p1 (c1.unlock ((c1.lock m.lks).restor ci own) m.lks) rfl u1 u2 (u3 r3) (.ref DD) ⟨DD, acc, rfl, hA, dr, fun f => ?_, fun r => ?_⟩ fun a e => ?_
    · -- whose list is it?
      have nt : ¬ Foot c1 DD := fun f => by
        obtain ⟨vs, e, _⟩ := sr1.foot f
        rw [hD] at e; cases e
      have n2 : ¬ Foot ((c1.lock m.lks).restor ci own) DD := fun f => (r4 DD f).elim nf fun f => nt (lock_foot f)
      rcases f with f | ⟨j, ⟨xs, f1⟩, f2⟩
      · exact n2 (.inl f)
      · rcases unlock_get f1 with ⟨q, hq, rfl, _⟩ | ⟨_, f3⟩
        · exact nt (.inr ⟨q.1, ⟨_, lk q hq⟩, f2⟩)
        · exact n2 (.inr ⟨j, ⟨xs, f3⟩, f2⟩)
    · obtain ⟨⟨o, e⟩, _⟩ := sr1.rho DD r
      rw [hD] at e; cases e
    · cases e
      exact st1.untrk hD
  · -- a turn
    right
    have hlt : i < m.xs.length := by omega
    have e0 : m.xs.drop i = m.xs[i] :: m.xs.drop (i + 1) := List.drop_eq_getElem_cons hlt
    have ex : m.xs[i]? = some m.xs[i] := List.getElem?_eq_getElem hlt
    rw [e0] at hrun
    unfold compL at hrun
    by_cases hok : m.ok ci.s = true
    case neg => rw [if_neg hok] at hrun; cases hrun
    rw [if_pos hok] at hrun
    obtain ⟨o, sA, hA1, hrun⟩ := R.bind_ok hrun
    obtain ⟨rest', sB, hB1, hrun⟩ := R.bind_ok hrun
    cases hrun
    obtain ⟨o', sC, hC1, hrun⟩ := R.bind_ok hA1
    cases hrun
    obtain ⟨hgo, hy⟩ := (it ci stq sri hok i).1 _ ex
    have nxt : ∀ (c3 c4 c7 : Cf) (vv : List V) (H' : Hp), c3.σ = ci.σ → c3.s = ci.s → Stp ci c3 → Chg l c3 c4 → Stp c3 c4 → Stp c4 c7 → Vst c4 c7 → SR X.K c7 → c7.s = sC → DRs X.K c7.μ c7.H o.toList vv → H' = upd c7.H DD (.lst (acc ++ vv)) →
        ∃ m', m' < mm ∧ TI' X.K m own (turnC mg mf me) (c1.lock m.lks) DD ys s6 (i + 1) m' H' := fun c3 c4 c7 vv H' e1 e2 q1 ch q2 q3 q4 sr7 e7 rv eH => by
      subst eH e7
      obtain ⟨w1, w2⟩ := wiped_step (K := X.K) hl vi e1 e2 ch q4
      have s7 : Stp ci c7 := (q1.trans q2).trans q3
      obtain ⟨a1, a2, a3⟩ := s7.new hA nf nr
      have sw : Stp ((c1.lock m.lks).wipe own) c7 := st.trans s7
      have sw2 := sw.wipe w1
      refine ⟨mm - 1, by omega, ⟨(c7.wipe own).wr DD (acc ++ vv), dn ++ o.toList, rest', acc ++ vv, rfl, sw2.wr a1 hDW, sr7.wipe.wr a1 (fun f => a2 (wipe_foot f)) a3, w2, upd_same, fun f => a2 (wipe_foot f), a3, ?_, hB1, by rw [List.append_assoc]; exact hys⟩, by omega, by omega⟩
      exact DRs.mono (List.prefix_refl _) (tupK_upd a1 trivial) _ _ ((s7.drs dr).append rv)
    refine ⟨hgo, fun H' => ∃ m', m' < mm ∧ TI' X.K m own (turnC mg mf me) (c1.lock m.lks) DD ys s6 (i + 1) m' H', fun H' h => h, fun v H' hyl s' H0 C' cl' fp' => ?_⟩
    obtain ⟨c3, e1, e2, e3, st3, sr3, dr3⟩ := hy v H' hyl
    subst e3
    have hσ : L2.wipe c.σ own = c3.σ := by rw [e2, vi.1, ← vs1.1]; rfl
    rw [hσ]
    obtain ⟨_, sa, hg1, hrun⟩ := R.bind_ok hC1
    obtain ⟨kk, sb, hf1, hrun⟩ := R.bind_ok hrun
    rw [← e1] at hg1
    refine hg s' H0 C' cl' fp' c3 m.xs[i] v _ sr3 dr3 (postS_ok hg1 fun c4 e4 st4 sr4 ch4 => ?_)
    refine ⟨?_, fun s' H0 C' cl' fp' => ?_⟩
    · obtain ⟨w1, _⟩ := wiped_step (K := X.K) hl vi e2 e1 ch4 (Vst.refl c4)
      rw [w1, ← hσ, vs1.1.symm]
      rfl
    · subst e4
      refine hf s' H0 C' cl' fp' c4 _ sr4 (post_ok hf1 fun c5 e5 st5 sr5 vs5 => ?_)
      subst e5
      cases kk with
      | false =>
        rw [if_neg Bool.false_ne_true] at hrun ⊢
        cases hrun
        refine nxt c3 c4 c5 [] c5.H e2 e1 st3 ch4 st4 st5 vs5 sr5 rfl .nil ?_
        have s7 : Stp ci c5 := (st3.trans st4).trans st5
        obtain ⟨a1, _⟩ := s7.new hA nf nr
        rw [List.append_nil]
        funext q
        by_cases hq : q = DD
        · subst hq; rw [upd_same]; exact a1
        · rw [upd_ne hq]
      | true =>
        rw [if_pos rfl] at hrun ⊢
        intro s' H0 C' cl' fp'
        obtain ⟨d, sd, hv1, hrun⟩ := R.bind_ok hrun
        cases hrun
        obtain ⟨sv, sc, he1, hv1⟩ := R.bind_ok hv1
        rw [← vs5.1]
        refine he s' H0 C' cl' fp' c5 _ sr5 (post_ok he1 fun c6 e6 st6 sr6 vs6 w rw' fw => ?_)
        subst e6
        obtain ⟨c7, d', eH, t1, t2, t3, t4, t5⟩ := toVal_ok (f := fun d s => R.ok d s) (Qn := fun d' c' => d' = d ∧ c'.s = sC) (Qx := fun _ _ => True) st6 vs6 sr6 rw' fw (by rw [hv1]; exact fun c' e _ _ _ => ⟨rfl, e⟩)
        obtain ⟨rfl, e7⟩ := t5.ok t2
        have s7 : Stp ci c7 := ((st3.trans st4).trans st5).trans t1
        obtain ⟨a1, _⟩ := s7.new hA nf nr
        rw [← eH]
        refine ⟨acc, a1, ?_, nxt c3 c4 c7 [w] _ e2 e1 st3 ch4 st4 (st5.trans t1) (vs5.trans t3) t2 e7 (.one t4) rfl⟩
        rw [dr.length]
        have := fits_of hfit
        rw [← hys] at this
        simp only [List.length_append, Option.toList, List.length_cons, List.length_nil] at this
        omega
end
end G

/-! ## GS13 -/
set_option Elab.async false
set_option linter.all false
set_option maxRecDepth 100000
set_option maxHeartbeats 4000000
namespace G
open PySem PySem.Spec PyProof.Rows L2

section
variable {X : Cx} {W : WX} {k : Cc} {g : GI} {n : Nat}
theorem PostS.lif {α : Type} {K : PySem.W.Frag} {c : Cf} {o : Option α} {Qn : α → Cf → Prop} {Qx : Xc → Cf → Prop} (sr : SR K c) (h : PostS K c (G.lif o c.s) Qn Qx) : ∃ a, o = some a ∧ Qn a c := by
  cases o with
  | none => exact h.elim
  | some a => exact ⟨a, rfl, h c rfl (Stp.refl c) sr⟩
theorem PSet.or {r r' : TSet} (h : PSet X r) (h' : PSet X r') : PSet X fun o i v H Q => r o i v H Q ∨ r' o i v H Q := by
  intro pins s σ H o i v ov iv u Q I ro ri rv q
  rcases q with q | q
  · exact h pins s σ H o i v ov iv u Q I ro ri rv q
  · exact h' pins s σ H o i v ov iv u Q I ro ri rv q
theorem j_gsub {o i : Expr} {pos : Pos} {mo mi : S → R SV} (hu : X.A.units + 65 < cLine) (hs : notSlice i = true) (ho : JX X W mo o) (hi : JX X W mi i) :
    JG X W (fun d s => (mo s).bind fun x s1 => (mi s1).bind fun y s2 => (lif (setD x y d s2) s2).bind fun s' _ => .ok () s') [] (.Subscript o i pos) := by
  intro c d v Q sr r p
  refine WpG.of (pg_sub (peW o) (peW i) (PSet.or set_list (set_dict (by omega))) (by intro v; cases i <;> first | rfl | cases hs)) ?_
  refine ho c _ sr (p.bindE.imp fun x c1 st1 sr1 vs1 p1 ov rv fv => ?_)
  rw [← vs1.1]
  refine hi c1 _ sr1 (p1.bindE.imp fun y c2 st2 sr2 vs2 p2 iv ri fi => ?_)
  have p2 : PostS X.K c2 ((lif (setD x y d c2.s) c2.s).bind fun s' _ => .ok () s') _ _ := p2
  cases hz : setD x y d c2.s with
  | none => rw [hz] at p2; exact p2.elim
  | some s' =>
    rw [hz] at p2
    have p3 : ∀ c', c'.s = s' → Stp c2 c' → SR X.K c' → Chg [] c c' → Q c'.σ c'.H := p2
    unfold setD at hz
    split at hz
    · obtain ⟨xs, e1, hz⟩ := Option.bind_eq_some_iff.mp hz
      obtain ⟨j, e2, hz⟩ := Option.bind_eq_some_iff.mp hz
      simp only [SVR, DR] at ri
      subst ri
      have rx := rv.step st2 vs2
      obtain ⟨a, vs, rfl, q, rr⟩ := lis_ok sr2 rx e1
      obtain ⟨a', ws', ea, q', r', st, sr', vst⟩ := put_ok sr2 rx e1 hz (rr.set j ((st1.trans st2).dr r))
      cases ea
      rw [q] at q'
      cases q'
      refine .inl ⟨a, vs, _, j, rfl, rfl, q, by rw [rr.length]; exact e2, ?_⟩
      have z := p3 { c2 with s := s', H := upd c2.H a (.lst (vs.set j v)) } rfl st sr' (Chg.of ((vs1.trans vs2).trans vst))
      have z : Q c2.σ (upd c2.H a (.lst (vs.set j v))) := z
      rw [(vs1.trans vs2).1] at z
      rw [vs1.1]
      exact z
    · rename_i kk
      split at hz
      · rename_i nn
        obtain ⟨kvs, e1, hz⟩ := Option.bind_eq_some_iff.mp hz
        split at hz
        case isFalse => cases hz
        rename_i hl
        cases hz
        simp only [SVR, DR] at ri
        subst ri
        have rx := rv.step st2 vs2
        obtain ⟨m, a, ps, em, e3, rfl, q1, q2, q3⟩ := dct_at sr2 rx e1
        cases em
        obtain ⟨st, sr', vst⟩ := putc_ok (o' := .dK (putK ps (Sum.inr kk) v)) (cl := .dct (putS kvs kk d)) sr2 e3 q1 trivial fun tk => ⟨_, upd_same, PRs.mono (List.prefix_refl _) tk _ _ (PRs.put ((st1.trans st2).dr r) q3 q2), (putS_keys q3).1⟩
        refine .inr ⟨a, upd c2.H a (.dK (putK ps (Sum.inr kk) v)), rfl, DPut.k (k := Sum.inr kk) q1 (by rw [q2.length]; exact lt_of_blt hl), ?_⟩
        have z := p3 _ rfl st sr' (Chg.of ((vs1.trans vs2).trans vst))
        have z : Q c2.σ (upd c2.H a (.dK (putK ps (Sum.inr kk) v))) := z
        rw [(vs1.trans vs2).1] at z
        rw [vs1.1]
        exact z
      · cases hz
    · cases hz
/-! ### dicts written out -/
def JPs (X : Cx) (W : WX) (m : S → R (List D)) (ks : List Str) (pos : Pos) (keys : List (Option Expr)) (values : List Expr) : Prop := ∃ trs, PPs X pos keys values trs ∧
  ∀ c (Q : List (V × V) → Hp → Prop), SR X.K c → Post X.K c (m c.s) (fun ds c' => ∀ vs, DRs X.K c'.μ c'.H ds vs → Q ((ks.map V.str).zip vs) c'.H) (QX X W) → tPairs trs c.σ c.H Q
theorem j_ps_nil {pos : Pos} : JPs X W (fun s => .ok [] s) [] pos [] [] := ⟨[], pps_nil, fun c Q sr p => p.ok sr [] (by simp only [DRs])⟩
theorem j_ps_cons {pos p2 : Pos} {x : Str} {j : Nat} {e : Expr} {ks : List Str} {keys : List (Option Expr)} {values : List Expr} {m : S → R SV} {ms : S → R (List D)} (h : JX X W m e) (t : JPs X W ms ks pos keys values) :
    JPs X W (fun s => ((m s).bind toVal).bind fun d s1 => (ms s1).bind fun ds s2 => .ok (d :: ds) s2) (x :: ks) pos (some (.Constant (.str x) j p2) :: keys) (e :: values) := by
  obtain ⟨trs, hp, ht⟩ := t
  refine ⟨(tC (.str x), WpE X e) :: trs, pps_cons pe_str (peW e) hp, fun c Q sr p => ?_⟩
  show WpE X e c.σ c.H _
  refine h.val sr p fun c1 d v st1 sr1 vs1 rd p1 => ?_
  rw [← vs1.1]
  refine ht c1 _ sr1 (p1.bind.imp fun ds c2 st2 sr2 vs2 p2 us r => ?_)
  exact p2.ok sr2 (v :: us) (.cons (st2.dr rd) r)
theorem merge_zip : ∀ {ks : List Str} {vs : List V} {acc : List (Key × V)}, ks.Nodup → (∀ k ∈ ks, (Sum.inr k : Key) ∉ acc.map (·.1)) → mergeK acc ((ks.map Sum.inr).zip vs) = acc ++ (ks.map Sum.inr).zip vs
  | [], _, acc, _, _ => by simp [mergeK]
  | k :: ks, [], acc, _, _ => by simp [mergeK]
  | k :: ks, v :: vs, acc, nd, h => by
    rw [List.nodup_cons] at nd
    have h1 : putK acc (Sum.inr k) v = acc ++ [(Sum.inr k, v)] := by
      unfold putK
      rw [if_neg]
      intro e
      obtain ⟨y, hy, e⟩ := List.any_eq_true.mp e
      exact h k List.mem_cons_self (List.mem_map.mpr ⟨y, hy, of_decide_eq_true e⟩)
    show mergeK (putK acc (Sum.inr k) v) ((ks.map Sum.inr).zip vs) = _
    rw [h1, merge_zip nd.2, List.append_assoc]
    · rfl
    · intro k' hk' hm
      rw [List.map_append, List.mem_append] at hm
      rcases hm with hm | hm
      · exact h k' (List.mem_cons_of_mem _ hk') hm
      · have : k' = k := by simpa using hm
        subst this
        exact nd.1 hk'
theorem zip_kV : ∀ {ks : List Str} {vs : List V}, (ks.map V.str).zip vs = (((ks.map Sum.inr).zip vs : List (Key × V))).map fun kv => (kV kv.1, kv.2)
  | [], _ => rfl
  | _ :: _, [] => rfl
  | k :: ks, v :: vs => by
    rw [List.map_cons, List.zip_cons_cons, zip_kV (ks := ks) (vs := vs), List.map_cons, List.zip_cons_cons, List.map_cons]; rfl
theorem j_dct {ks : List Str} (h15 : ks.length ≤ 15 ∧ ks.Nodup) {pos : Pos} {key : Option Expr} {keys : List (Option Expr)} {values : List Expr} {m : S → R (List D)} (hall : (key :: keys).all (·.isSome) = true) (hl : (key :: keys).length = values.length) (hk : ks.length = (key :: keys).length) (h : JPs X W m ks pos (key :: keys) values) :
    JX X W (fun s => (m s).bind fun ds s1 => if ds.length = ks.length then .ok (.val (.loc s1.M.length)) ⟨s1.v, s1.M ++ [.dct (ks.zip ds)]⟩ else .bad) (.Dict (key :: keys) values pos) := by
  intro c Q sr p
  obtain ⟨trs, hp, ht⟩ := h
  refine WpE.of (pe_disp hp hall hl (by simp) (by rw [← hk]; exact h15.1)) ?_
  intro pp n
  refine ht (c.lay pp (.dK [])) _ (sr.laid n) ((p.bindB (Stp.laid n) (Vst.refl _)).imp fun ds c1 st1 sr1 vs1 p1 vs r => ?_)
  split at p1
  case isFalse => exact p1.elim
  rename_i hc
  obtain ⟨g1, g2⟩ := sr.fresh n
  have e0 : c1.H pp = some (.dK []) := st1.frame pp _ upd_same g1
  have nf : ¬ Foot c1 pp := fun f => by
    rcases st1.grow pp f with f | f
    · exact g1 f
    · have f : upd c.H pp (.dK []) pp = none := f
      rw [upd_same] at f; cases f
  have nr : ¬ c1.ρ pp := by rw [st1.rh]; exact g2
  refine ⟨e0, (ks.map Sum.inr).zip vs, zip_kV, ?_, ?_⟩
  · rw [List.length_zip, List.length_map]; omega
  rw [merge_zip h15.2 (fun _ _ => List.not_mem_nil), List.nil_append]
  have sr2 := sr1.wro (o := .dK ((ks.map Sum.inr).zip vs)) e0 trivial nf nr
  have tk := tupK_upd (o := .dK ((ks.map Sum.inr).zip vs)) e0 trivial
  have st2 : Stp c ({ c1 with H := upd c1.H pp (.dK ((ks.map Sum.inr).zip vs)) } : Cf) := by
    refine ⟨st1.pre, st1.rh, fun b o e nfb => ?_, fun b f => ?_, fun b o e => ?_, fun b ws e => tk b ws (st1.tup b ws (tupK_lay n b ws e)), st1.ros, st1.ron⟩
    · have ne : b ≠ pp := ne_of_none e n
      show upd c1.H pp _ b = _
      rw [upd_ne ne]
      exact st1.frame b o (by show upd c.H pp _ b = _; rw [upd_ne ne]; exact e) nfb
    · refine (st1.grow b f).imp id fun z => ?_
      have z : upd c.H pp (.dK []) b = none := z
      by_cases ne : b = pp
      · subst ne; exact n
      · rw [upd_ne ne] at z; exact z
    · have ne : b ≠ pp := ne_of_none e n
      obtain ⟨o', h'⟩ := st1.trk b o (by show upd c.H pp _ b = _; rw [upd_ne ne]; exact e)
      exact ⟨o', by show upd c1.H pp _ b = _; rw [upd_ne ne]; exact h'⟩
  have nd : ((ks.zip ds).map (·.1)).Nodup := by
    have : (ks.zip ds).map (·.1) = ks := by rw [List.map_fst_zip]; omega
    rw [this]; exact h15.2
  obtain ⟨s1, s2, s3, s4⟩ := cell_new (c₀ := c) (a := pp) (cl := .dct (ks.zip ds)) st2 vs1 sr2 ⟨_, upd_same, PRs.mono (List.prefix_refl _) tk _ _ (PRs.zip r), nd⟩ nf nr n
  exact p1 _ rfl s1 s2 s3 (.ref pp) s4 trivial
theorem j_dct0 {pos : Pos} : JX X W (fun s => (R.ok [] s).bind fun (ds : List D) s1 => if ds.length = ([] : List Str).length then .ok (.val (.loc s1.M.length)) ⟨s1.v, s1.M ++ [.dct (([] : List Str).zip ds)]⟩ else .bad) (.Dict [] [] pos) := by
  intro c Q sr p
  refine WpE.of pe_dnewK fun pp n => ?_
  obtain ⟨g1, g2⟩ := sr.fresh n
  obtain ⟨s1, s2, s3, s4⟩ := cell_new (c₀ := c) (c := c.lay pp (.dK [])) (a := pp) (cl := .dct []) (Stp.laid n) (Vst.refl _) (sr.laid n) ⟨[], upd_same, rfl, List.nodup_nil⟩ g1 g2 n
  exact p _ rfl s1 s2 s3 (.ref pp) s4 trivial
theorem rng_drs {K : PySem.W.Frag} {μ : List Addr} {H : Hp} (j : Int) : DRs K μ H (rngL 0 j.toNat) (rgV 0 j) := by
  unfold rngL rgV
  rw [Int.sub_zero]
  induction List.range j.toNat with
  | nil => exact .nil
  | cons a r ih => exact .cons (by simp only [DR]) ih
theorem j_lrng {a : Expr} {p p2 pos pos2 : Pos} {m : S → R SV} (hc : X.calm = true) (hg : Gl X "list") (hm : X.mg "list" = none) (hg2 : Gl X "range") (hm2 : X.mg "range" = none) (hs : notStar a = true) (h : JX X W m a) :
    JX X W (fun s => (m s).bind fun x s1 => lif (lrngD x) s1) (.Call (.Name "list" p) [.Call (.Name "range" p2) [a] [] pos2] [] pos) := by
  intro c Q sr q
  refine WpE.of (pe_listRg hc hg hm (prg_1 hg2 hm2 (peW a) (star_cons hs)) (by rfl)) ?_
  show WpE X a c.σ c.H _
  refine h c _ sr (q.bind.imp fun x c1 st1 sr1 vs1 p1 v rv fv => ?_)
  obtain ⟨z, hz, k⟩ := Post.kv sr1 st1 p1
  unfold lrngD at hz
  split at hz
  · split at hz
    · rename_i hj
      simp only [Bool.and_eq_true, decide_eq_true_eq] at hj
      cases hz
      simp only [SVR, DR] at rv
      subst rv
      exact ⟨_, rfl, ⟨by decide, by decide, hj.1, by omega, by omega⟩, fun qq nq => k.new sr1 (rng_drs _) qq nq⟩
    · cases hz
  · cases hz
/-! ### methods of texts -/
theorem Sm'.slot (m : Sm') : PySem.Slot "str" m.nm m.id ∧ typeOf (.builtin m.id) = pure (.type "method_descriptor") := by
  cases m
  · exact ⟨PySem.F.slot_str_join, PySem.F.type_str_join⟩
  · exact ⟨PySem.F.slot_str_startswith, PySem.F.type_str_startswith⟩
  · exact ⟨PySem.F.slot_str_split, PySem.F.type_str_split⟩
theorem asStrs_dr {K : PySem.W.Frag} {μ : List Addr} {H : Hp} : ∀ {xs : List D} {ns : List Str} {vs : List V}, asStrs xs = some ns → DRs K μ H xs vs → vs = ns.map V.str
  | [], _, _, h, r => by simp only [asStrs] at h; cases h; simp only [DRs] at r; exact r
  | x :: xs, ns, vs, h, r => by
    cases x <;> simp only [asStrs] at h <;> try cases h
    obtain ⟨ms, e, rfl⟩ := Option.map_eq_some_iff.mp h
    simp only [DRs, DR] at r
    obtain ⟨v, r', rfl, rfl, z⟩ := r
    rw [List.map_cons, asStrs_dr e z]
theorem strs_drs {K : PySem.W.Frag} (μ : List Addr) (H : Hp) : ∀ ns : List Str, DRs K μ H (ns.map D.str) (ns.map V.str)
  | [] => .nil
  | x :: xs => .cons (by simp only [DR]) (strs_drs μ H xs)
theorem smD_ok {c : Cf} {m : Sm'} {a : Str} {y z : SV} {u : V} {Q : VK} (sr : SR X.K c) (ry : SVR X.K c y u) (h : smD m a y c.s = some z) (k : KV' X c Q z) : WpM X m.id (.str a) [u] c.H Q := by
  unfold smD at h
  split at h
  · obtain ⟨ds, e1, h⟩ := Option.bind_eq_some_iff.mp h
    obtain ⟨ys, e2, h⟩ := Option.bind_eq_some_iff.mp h
    split at h
    · rename_i hl
      cases h
      obtain ⟨p, vs, rfl, r, q⟩ := seq_ok sr ry e1
      have ev := asStrs_dr e2 r
      subst ev
      exact WpM.of mt_join ⟨a, p, ys, rfl, rfl, q, le_of_ble hl, k.val sr (by simp only [DR])⟩
    · cases h
  · cases h
    simp only [SVR, DR] at ry
    subst ry
    exact WpM.of mt_startswith ⟨a, _, rfl, rfl, k.val sr (by simp only [DR])⟩
  · split at h
    · rename_i hl
      rw [Bool.and_eq_true] at hl
      cases h
      simp only [SVR, DR] at ry
      subst ry
      exact WpM.of mt_split ⟨a, _, rfl, rfl, by have := hl.1; simpa [bne] using this, le_of_ble hl.2, fun p n => k.new sr (strs_drs _ _ _) p n⟩
    · cases h
  · cases h
theorem j_smeth {m : Sm'} {o e : Expr} {ap cp : Pos} {mo me : S → R SV} (hp : plainB o = true) (hl : (ap.endLine == cp.line) = true) (hs : notStar e = true) (ho : JX X W mo o) (he : JX X W me e) :
    JX X W (fun s => (mo s).bind fun x s1 => (match x with
      | .val (.str a) => (me s1).bind fun y s2 => lif (smD m a y s2) s2
      | _ => .bad)) (.Call (.Attribute o m.nm ap) [e] [] cp) := by
  intro c Q sr q
  obtain ⟨sl, ty⟩ := m.slot
  refine WpE.of (pe_bm PySem.F.plainAttrs_str sl ty (mtW _) (peW o) (pa_cons (peW e) pa_nil (star_cons hs)) (base_of hp) (few_of (by rw [List.all_cons, hs]; rfl) (by show 1 < 20; decide)) hl (star_cons hs) rfl) ?_
  refine ho c _ sr (q.bind.imp fun x c1 st1 sr1 vs1 p1 v rv fv => ?_)
  split at p1
  · rename_i a
    simp only [SVR, DR] at rv
    subst rv
    refine ⟨rfl, ?_⟩
    rw [← vs1.1]
    refine he c1 _ sr1 (p1.bind.imp fun y c2 st2 sr2 vs2 p2 u ru fu => ?_)
    obtain ⟨z, hz, kk⟩ := Post.kv sr2 (st1.trans st2) p2
    exact smD_ok sr2 ru hz kk
  · exact p1.elim
/-! ### f-strings -/
def JFs (X : Cx) (W : WX) (m : Str → S → R Str) (es : List Expr) : Prop := ∃ ts, PJ X es ts ∧ ∀ c acc (Q : Str → Hp → Prop), SR X.K c → Post X.K c (m acc c.s) (fun out c' => Q out c'.H) (QX X W) → tJs ts acc c.σ c.H Q
theorem j_fs_nil : JFs X W (fun acc s => .ok acc s) [] := ⟨[], .nil, fun c acc Q sr p => p.ok sr⟩
theorem j_fs_val {e : Expr} {es : List Expr} {p : Pos} {m : S → R SV} {ms : Str → S → R Str} (h : JX X W m e) (t : JFs X W ms es) :
    JFs X W (fun acc s => (m s).bind fun x s1 => (lif (fmtD x) s1).bind fun y s2 => if fits (acc ++ y).length then ms (acc ++ y) s2 else .bad) (.FormattedValue e (-1) none p :: es) := by
  obtain ⟨ts, hp, ht⟩ := t
  refine ⟨tFmt (WpE X e) :: ts, .cons (pe_fmt (peW e)) hp, fun c acc Q sr q => ?_⟩
  show WpE X e c.σ c.H _
  refine h c _ sr (q.bind.imp fun x c1 st1 sr1 vs1 p1 v rv fv => ?_)
  obtain ⟨y, hy, p2⟩ := Post.lif sr1 p1.bind
  split at p2
  case isFalse => exact p2.elim
  rename_i hl
  have fin : ∃ z : Str, V.str y = .str z ∧ (acc ++ z).length ≤ sizeLine ∧ tJs ts (acc ++ z) c.σ c1.H Q := by
    refine ⟨y, rfl, fits_of hl, ?_⟩
    rw [← vs1.1]
    exact ht c1 (acc ++ y) Q sr1 p2
  unfold fmtD at hy
  split at hy
  · split at hy
    · rename_i hz
      cases hy
      simp only [SVR, DR] at rv
      exact .inl ⟨_, rv, fits_of hz, fin⟩
    · cases hy
  · split at hy
    · rename_i hz
      cases hy
      simp only [SVR, DR] at rv
      exact .inr ⟨_, rv, lt_of_blt hz, fin⟩
    · cases hy
  · cases hy
theorem j_fs_cst {z : Str} {j : Nat} {p : Pos} {es : List Expr} {ms : Str → S → R Str} (t : JFs X W ms es) :
    JFs X W (fun acc s => (R.ok (SV.val (.str z)) s).bind fun x s1 => (lif (fmtD x) s1).bind fun y s2 => if fits (acc ++ y).length then ms (acc ++ y) s2 else .bad) (.Constant (.str z) j p :: es) := by
  obtain ⟨ts, hp, ht⟩ := t
  refine ⟨tC (.str z) :: ts, .cons pe_str hp, fun c acc Q sr q => ?_⟩
  have q : Post X.K c ((lif (fmtD (.val (.str z))) c.s).bind fun y s2 => if fits (acc ++ y).length then ms (acc ++ y) s2 else .bad) _ _ := q
  obtain ⟨y, hy, p2⟩ := Post.lif sr q.bind
  have e : y = z := by
    have hy : (if fits z.length then some z else none) = some y := hy
    split at hy
    · cases hy; rfl
    · cases hy
  subst e
  split at p2
  case isFalse => exact p2.elim
  rename_i hl
  exact ⟨_, rfl, fits_of hl, ht c _ Q sr p2⟩
theorem j_fstr {u v : Expr} {es : List Expr} {pos : Pos} {m : Str → S → R Str} (h : JFs X W m (u :: v :: es)) : JX X W (fun s => (m Str.empty s).bind fun z s1 => .ok (.val (.str z)) s1) (.JoinedStr (u :: v :: es) pos) := by
  intro c Q sr q
  obtain ⟨ts, hp, ht⟩ := h
  refine WpE.of (pe_joined hp) ?_
  refine ht c Str.empty _ sr (q.bind.imp fun z c1 st1 sr1 vs1 p1 => ?_)
  exact (Post.kvok st1 p1).val sr1 (by simp only [DR])
theorem Ck.blk (K : Ck X W k g n) {scope : Scope} (s : Shared) (H : Hp) (C : Addr) (cl : List (Str × Addr)) (fp : List Addr) : Ck (X.blk s H scope (compEnvC scope cl C X.env) fp) WF0 (blkK k scope) g n where
  N := K.N
  sc := by
    show relabel scope X.env = relS scope k.sc
    rw [← K.sc]; rfl
  fn := fun x h => h
  calm := K.calm
  nd := K.nd
  room := K.room
  un := K.un
  tk := fun u s' ⟨a, B, sI, pins, σ, H, cls, d, e, I, nb, up, sky, na, os, ag, w⟩ => w.elim
  fr := K.fr
  gcd := K.gcd
  gl := K.gl
  fns := fun f fd h => by
    obtain ⟨a, fdt, F⟩ := K.fns f fd h
    exact ⟨a, fdt, F.at_, F.keep, F.ok, F.dfl, F.kw⟩
  ers := K.ers
  rai := K.rai
theorem Ck.store (K : Ck X W k g n) {i : Nat} {x : Str} (h : storeB k i x = true) : X.N[i]? = some x ∧ Loc X.env.scope x ∧ (X.fn x = true ∨ X.env.scope.names.lookup x = some .local) := by
  unfold storeB locB at h
  rw [Bool.and_eq_true, decide_eq_true_eq] at h
  rw [K.N, K.sc]
  refine ⟨h.1, ?_⟩
  have h2 := h.2
  split at h2
  · rename_i e; exact ⟨.inl e, .inr e⟩
  · rename_i e; exact ⟨.inr e, .inl (K.fn x h2)⟩
  · cases h2
theorem notSet_marks {op : CmpOp} {e : Expr} (h : notSet e = true) : behindInMarks op e = false := by
  cases e <;> first | rfl | cases h
theorem notSet_fold {e : Expr} {env : Env} (h : notSet e = true) : ∀ x, foldedSetIterable e env x = pure x := by
  intro x
  cases e <;> first | rfl | cases h
theorem notSlice_ix {e : Expr} (h : notSlice e = true) : PlainIx e := by
  intro o i
  cases e <;> first | rfl | cases h
theorem assign_cons {e : Expr} {es : List Expr} {env : Env} (h : notStar e = true) : (assignEach (e :: es) env).map (·.2) = assign e env :: (assignEach es env).map (·.2) := by
  cases e <;> first | rfl | cases h
theorem assign_len {env : Env} : ∀ {es : List Expr}, es.all notStar = true → (assignEach es env).length = es.length ∧ (assignEach es env).findIdx? (·.1) = none
  | [], _ => ⟨rfl, rfl⟩
  | e :: es, h => by
    rw [List.all_cons, Bool.and_eq_true] at h
    obtain ⟨i1, i2⟩ := assign_len (env := env) h.2
    have : ∃ m, assignEach (e :: es) env = (false, m) :: assignEach es env := by
      cases e <;> first | exact ⟨_, rfl⟩ | cases h.1
    obtain ⟨m, hm⟩ := this
    rw [hm]
    refine ⟨by rw [List.length_cons, List.length_cons, i1], ?_⟩
    rw [List.findIdx?_cons, if_neg (by simp), i2]; rfl
end

theorem mtXs_star {g : GI} {k : Cc} : ∀ {a : Exs} {es : List Expr}, mtXs g k a es = true → es.all notStar = true
  | .nil, es, h => by
    simp only [mtXs] at h
    split at h
    · rfl
    · cases h
  | .cons a as, es, h => by
    simp only [mtXs] at h
    split at h
    · simp only [Bool.and_eq_true] at h
      rw [List.all_cons, h.2.1, mtXs_star h.2.2]; rfl
    · cases h
theorem mtA_star {g : GI} {k : Cc} : ∀ {a : Ags} {es : List Expr}, mtA g k a es = true → es.all notStar = true
  | .nil, es, h => by
    simp only [mtA] at h
    split at h
    · rfl
    · cases h
  | .cons a as, es, h => by
    simp only [mtA] at h
    split at h
    · simp only [Bool.and_eq_true] at h
      rw [List.all_cons, h.2.1, mtA_star h.2.2]; rfl
    · cases h
theorem mtGs_star {g : GI} {k : Cc} : ∀ {a : Tgs} {es : List Expr}, mtGs g k a es = true → es.all notStar = true
  | .nil, es, h => by
    simp only [mtGs] at h
    split at h
    · rfl
    · cases h
  | .cons a as, es, h => by
    simp only [mtGs] at h
    split at h
    · simp only [Bool.and_eq_true] at h
      rw [List.all_cons, h.2.1, mtGs_star h.2.2]; rfl
    · cases h
theorem mtGs_len {g : GI} {k : Cc} : ∀ {a : Tgs} {es : List Expr}, mtGs g k a es = true → es.length = a.len
  | .nil, es, h => by
    simp only [mtGs] at h
    split at h
    · rfl
    · cases h
  | .cons a as, es, h => by
    simp only [mtGs] at h
    split at h
    · simp only [Bool.and_eq_true] at h
      rw [List.length_cons, mtGs_len h.2.2]; rfl
    · cases h
theorem j_nope {X : Cx} {W : WX} {e : Expr} {m : S → R SV} (h : ∀ s, m s = .bad) : JX X W m e := fun c Q sr p => by
  rw [h] at p; exact p.elim
end G

/-! ## GS14 -/
set_option Elab.async false
set_option linter.all false
set_option maxRecDepth 100000
set_option maxHeartbeats 4000000
namespace G
open PySem PySem.Spec PyProof.Rows L2

/-! ### the whole: what the look lets through does what the term says -/
theorem xsB_ne {g : GI} {k : Cc} {ia : Bool} {l : List Expr} (h : mtB g k ia .nil l = true) : False := by
  simp only [mtB] at h
  cases h
theorem mtB_one {g : GI} {k : Cc} {ia : Bool} {a : Ex} {es : List Expr} (h : mtB g k ia (.cons a .nil) es = true) : ∃ e, es = [e] ∧ mtX g k a e = true := by
  rw [mtB.eq_def] at h
  dsimp only at h
  cases es with
  | nil => cases h
  | cons e r =>
    dsimp only at h
    rw [Bool.and_eq_true] at h
    cases r with
    | nil => exact ⟨e, rfl, h.1⟩
    | cons b r => cases h.2
theorem mtB_cons {g : GI} {k : Cc} {ia : Bool} {a a2 : Ex} {as : Exs} {es : List Expr} (h : mtB g k ia (.cons a (.cons a2 as)) es = true) : ∃ e b r, es = e :: b :: r ∧ mtX g k a e = true ∧ mtB g k ia (.cons a2 as) (b :: r) = true := by
  rw [mtB.eq_def] at h
  dsimp only at h
  cases es with
  | nil => cases h
  | cons e r =>
    dsimp only at h
    rw [Bool.and_eq_true] at h
    cases r with
    | nil => cases h.2
    | cons b r => exact ⟨e, b, r, rfl, h.1, h.2⟩
theorem mtI_rng1 {g : GI} {k : Cc} {u : Ex} {t e : Expr} (h : mtI g k (.rng (.cons u .nil)) t e = true) : ∃ p pos a, e = .Call (.Name "range" p) [a] [] pos ∧ freeB g k "range" = true ∧ mtX g k u a = true ∧ notStar a = true := by
  rw [mtI.eq_def] at h
  dsimp only at h
  split at h
  · cases ‹Exs.cons _ _ = Exs.cons _ _›
    simp only [Bool.and_eq_true, decide_eq_true_eq] at h
    obtain ⟨rfl, h2, h3, h4⟩ := h
    exact ⟨_, _, _, rfl, h2, h3, h4⟩
  · cases ‹Exs.cons _ _ = Exs.cons _ _›
  · cases h
theorem mtI_rng2 {g : GI} {k : Cc} {u v : Ex} {t e : Expr} (h : mtI g k (.rng (.cons u (.cons v .nil))) t e = true) : ∃ p pos a b, e = .Call (.Name "range" p) [a, b] [] pos ∧ freeB g k "range" = true ∧ mtX g k u a = true ∧ mtX g k v b = true ∧ notStar a = true ∧ notStar b = true := by
  rw [mtI.eq_def] at h
  dsimp only at h
  split at h
  · cases ‹Exs.cons _ _ = Exs.cons _ _›
  · cases ‹Exs.cons _ _ = Exs.cons _ _›
    simp only [Bool.and_eq_true, decide_eq_true_eq] at h
    obtain ⟨rfl, h2, h3, h4, h5, h6⟩ := h
    exact ⟨_, _, _, _, rfl, h2, h3, h4, h5, h6⟩
  · cases h
theorem mtI_rng0 {g : GI} {k : Cc} {t e : Expr} (h : mtI g k (.rng .nil) t e = true) : False := by
  rw [mtI.eq_def] at h
  dsimp only at h
  cases h
theorem mtI_rng3 {g : GI} {k : Cc} {u v w : Ex} {ws : Exs} {t e : Expr} (h : mtI g k (.rng (.cons u (.cons v (.cons w ws)))) t e = true) : False := by
  rw [mtI.eq_def] at h
  dsimp only at h
  cases h
theorem mtK_names {g : GI} {k : Cc} : ∀ {a : Ags} {ks : List Str} {es : List Keyword}, mtK g k a ks es = true → KwN ks es
  | .nil, ks, es, h => by
    rw [mtK.eq_def] at h
    dsimp only at h
    split at h
    · trivial
    · cases h
  | .cons a as, ks, es, h => by
    rw [mtK.eq_def] at h
    dsimp only at h
    split at h
    · simp only [Bool.and_eq_true, decide_eq_true_eq] at h
      exact ⟨by rw [h.1], mtK_names h.2.2⟩
    · cases h
theorem isC_ok {z : Str} {a : Ex} (h : isC z a = true) : ∃ y : Unit, a = .cst (.str z) := by
  unfold isC at h
  split at h
  · exact ⟨(), by rw [of_decide_eq_true h]⟩
  · cases h
theorem keyB_facts : ∀ {ks : List Str} {keys : List (Option Expr)}, keyB ks keys = true → keys.all (·.isSome) = true ∧ ks.length = keys.length
  | [], [], _ => ⟨rfl, rfl⟩
  | [], _ :: _, h => by simp [keyB] at h
  | _ :: _, [], h => by simp [keyB] at h
  | k :: ks, key :: keys, h => by
    unfold keyB at h
    split at h
    · rename_i e; cases e
    · rename_i e1 e2
      cases e1; cases e2
      rw [Bool.and_eq_true] at h
      obtain ⟨h1, h2⟩ := keyB_facts h.2
      exact ⟨by rw [List.all_cons, h1]; rfl, by rw [List.length_cons, List.length_cons, h2]⟩
    · cases h
theorem keyB_cons {ks : List Str} {key : Option Expr} {keys : List (Option Expr)} (h : keyB ks (key :: keys) = true) : ∃ x ks' j p, ks = x :: ks' ∧ key = some (.Constant (.str x) j p) ∧ keyB ks' keys = true := by
  cases ks with
  | nil => simp [keyB] at h
  | cons k ks =>
    unfold keyB at h
    split at h
    · rename_i e; cases e
    · rename_i e1 e2
      cases e1; cases e2
      rw [Bool.and_eq_true, decide_eq_true_eq] at h
      exact ⟨_, _, _, _, rfl, by rw [h.1], h.2⟩
    · cases h
mutual
theorem sX {g : GI} {n : Nat} : ∀ (a : Ex) {X : Cx} {W : WX} {k : Cc} (K : Ck X W k g n) (e : Expr), mtX g k a e = true → JX X W (evX (cnOf g n) a) e
  | .cst d, X, W, k, K, e, h => by
    simp only [mtX] at h
    split at h
    · intro c Q sr p; rw [evX] at p; exact j_cst h c Q sr p
    · cases h
  | .var i, X, W, k, K, e, h => by
    simp only [mtX] at h
    split at h
    · obtain ⟨h1, h2, h3, h4⟩ := K.slot h
      intro c Q sr p; rw [evX] at p; exact j_var h1 h2 h3 h4 c Q sr p
    · cases h
  | .glob x, X, W, k, K, e, h => by
    simp only [mtX] at h
    split at h
    · simp only [Bool.and_eq_true, decide_eq_true_eq] at h
      obtain ⟨rfl, h2, h3⟩ := h
      obtain ⟨g1, g2⟩ := K.gl' h2
      intro c Q sr p; rw [evX] at p; exact j_glob (cn := cnOf g n) g1 g2 (fun d hd => K.gl _ d hd) c Q sr p
    · cases h
  | .bin op a b, X, W, k, K, e, h => by
    simp only [mtX] at h
    split at h
    · simp only [Bool.and_eq_true, decide_eq_true_eq] at h
      obtain ⟨rfl, h2, h3⟩ := h
      intro c Q sr p; rw [evX] at p; exact j_bin (sX a K _ h2) (sX b K _ h3) c Q sr p
    · cases h
  | .neg a, X, W, k, K, e, h => by
    simp only [mtX] at h
    split at h
    · intro c Q sr p; rw [evX] at p; exact j_neg (sX a K _ h) c Q sr p
    · cases h
  | .not a, X, W, k, K, e, h => by
    simp only [mtX] at h
    split at h
    · intro c Q sr p; rw [evX] at p; exact j_not (sX a K _ h) c Q sr p
    · cases h
  | .bool ia es, X, W, k, K, e, h => by
    simp only [mtX] at h
    split at h
    · simp only [Bool.and_eq_true, decide_eq_true_eq] at h
      obtain ⟨rfl, h2⟩ := h
      intro c Q sr p; rw [evX] at p; exact sB es K ia _ h2 _ c Q sr p
    · cases h
  | .cmp op a b, X, W, k, K, e, h => by
    simp only [mtX] at h
    split at h
    · simp only [Bool.and_eq_true, decide_eq_true_eq] at h
      obtain ⟨rfl, h2, h3, h4⟩ := h
      intro c Q sr p; rw [evX] at p; exact j_cmp K.un (notSet_marks h4) (sX a K _ h2) (sX b K _ h3) c Q sr p
    · cases h
  | .chain o1 o2 a b z, X, W, k, K, e, h => by
    simp only [mtX] at h
    split at h
    · simp only [Bool.and_eq_true, decide_eq_true_eq] at h
      obtain ⟨rfl, rfl, h2, h3, h4, h5, h6⟩ := h
      intro c Q sr p; rw [evX] at p; exact j_chain K.un (notSet_marks h6) (sX a K _ h2) (sX b K _ h3) (sX z K _ h4) c Q sr p
    · cases h
  | .ife t a b, X, W, k, K, e, h => by
    simp only [mtX] at h
    split at h
    · simp only [Bool.and_eq_true] at h
      intro c Q sr p; rw [evX] at p; exact j_ife (sT t K _ h.1) (sX a K _ h.2.1) (sX b K _ h.2.2) c Q sr p
    · cases h
  | .tup es, X, W, k, K, e, h => by
    simp only [mtX] at h
    split at h
    · intro c Q sr p; rw [evX] at p; exact j_tup (sEs es K _ h) c Q sr p
    · cases h
  | .lst es, X, W, k, K, e, h => by
    simp only [mtX] at h
    split at h
    · intro c Q sr p; rw [evX] at p; exact j_lst (sEs es K _ h) c Q sr p
    · cases h
  | .dct ks es, X, W, k, K, e, h => by
    simp only [mtX] at h
    split at h
    · rename_i keys values pos
      simp only [Bool.and_eq_true, decide_eq_true_eq] at h
      obtain ⟨h1, h2, h3, h4, h5⟩ := h
      obtain ⟨k1, k2⟩ := keyB_facts h1
      have ps := sPs es K ks keys values pos h1 h4 h5
      intro c Q sr p; rw [evX] at p
      cases keys with
      | nil =>
        have e1 : ks = [] := List.eq_nil_of_length_eq_zero k2
        have e2 : values = [] := List.eq_nil_of_length_eq_zero h4.symm
        subst e1 e2
        cases es with
        | nil => rw [evEs] at p; exact j_dct0 c Q sr p
        | cons a as => simp only [mtXs] at h5; cases h5
      | cons key keys => exact j_dct ⟨h2, h3⟩ k1 h4 k2 ps c Q sr p
    · cases h
  | .lrng a, X, W, k, K, e, h => by
    simp only [mtX] at h
    split at h
    · simp only [Bool.and_eq_true, decide_eq_true_eq] at h
      obtain ⟨rfl, rfl, h2, h3, h4, h5⟩ := h
      obtain ⟨g1, g2, g3⟩ := K.free h2
      obtain ⟨g4, g5, g6⟩ := K.free h3
      intro c Q sr p; rw [evX] at p; exact j_lrng K.calm g1 g3 g4 g6 h5 (sX a K _ h4) c Q sr p
    · cases h
  | .smeth o m a, X, W, k, K, e, h => by
    simp only [mtX] at h
    split at h
    · simp only [Bool.and_eq_true, decide_eq_true_eq] at h
      obtain ⟨rfl, h2, h3, h4, h5, h6⟩ := h
      intro c Q sr p; rw [evX] at p; exact j_smeth h2 h3 h6 (sX o K _ h4) (sX a K _ h5) c Q sr p
    · cases h
  | .fstr es, X, W, k, K, e, h => by
    simp only [mtX] at h
    split at h
    · intro c Q sr p; rw [evX] at p; exact j_fstr (sFs es K _ h) c Q sr p
    · cases h
  | .comp elt tg it ifs own, X, W, k, K, e, h => by
    simp only [mtX] at h
    split at h
    · simp only [Bool.and_eq_true, decide_eq_true_eq] at h
      obtain ⟨h1, h2, h3, h4, h5, h6, h7, h8⟩ := h
      have ok := blkOk_by h2
      rw [← K.N, ← K.sc] at ok
      obtain ⟨t, pt, ht, _⟩ := j_comp (own := own) (l := tgN tg) K.calm (by rw [K.N]; exact K.nd) (sI it K _ _ h1) ok h3 (fun i hi => by
          have := List.all_eq_true.mp h4 i hi
          simpa using this)
        (fun s H C cl fp => sG tg (K.blk s H C cl fp) _ h5) (fun s H C cl fp => sF ifs (K.blk s H C cl fp) _ h6) (fun s H C cl fp => sX elt (K.blk s H C cl fp) _ h7) (notSet_fold h8)
      intro c Q sr p; rw [evX] at p; exact WpE.of pt (ht c Q sr p)
    · cases h
  | .call f es, X, W, k, K, e, h => by
    simp only [mtX] at h
    split at h
    · simp only [Bool.and_eq_true, decide_eq_true_eq] at h
      obtain ⟨rfl, h2, h3, h4⟩ := h
      rename_i args _
      intro c Q sr p; rw [evX] at p
      cases args with
      | nil =>
        cases es with
        | nil => rw [evA] at p; exact j_call0 K h2 h3 c Q sr p
        | cons a as => simp only [mtA] at h4; cases h4
      | cons e1 es1 => exact j_call K h2 h3 (mtA_star h4) (sA es K _ h4) c Q sr p
    · cases h
  | .callk f m ks es, X, W, k, K, e, h => by
    rw [mtX.eq_def] at h
    dsimp only at h
    split at h
    · simp only [Bool.and_eq_true, decide_eq_true_eq] at h
      obtain ⟨rfl, rfl, h2, h3, h4, h5⟩ := h
      intro c Q sr p; rw [evX] at p
      exact j_callk K h2 h3 h4 (mtK_names h5) (sK es K _ _ h5) c Q sr p
    · cases h
  | .bi b es, X, W, k, K, e, h => by
    simp only [mtX] at h
    split at h
    · simp only [Bool.and_eq_true] at h
      intro c Q sr p; rw [evX] at p; exact j_bi K h.1 (mtXs_star h.2) (sXs es K _ h.2) c Q sr p
    · cases h
  | .isi a tys, X, W, k, K, e, h => by
    simp only [mtX] at h
    split at h
    · simp only [Bool.and_eq_true, decide_eq_true_eq] at h
      obtain ⟨rfl, h2, h3, h4, h5⟩ := h
      unfold tyB at h5
      split at h5
      · simp only [Bool.and_eq_true, decide_eq_true_eq] at h5
        obtain ⟨rfl, h5⟩ := h5
        intro c Q sr p; rw [evX] at p; exact j_isi K h2 h5 h4 (sX a K _ h3) c Q sr p
      · cases h5
    · cases h
  | .meth o m es, X, W, k, K, e, h => by
    simp only [mtX] at h
    split at h
    · simp only [Bool.and_eq_true, decide_eq_true_eq] at h
      obtain ⟨rfl, h2, h3, h4, h5, h6⟩ := h
      rename_i args _
      intro c Q sr p; rw [evX] at p
      cases args with
      | nil =>
        cases es with
        | nil => simp only [evXs] at p; exact j_meth0 h2 h3 (sX o K _ h4) c Q sr p
        | cons a as => simp only [mtXs] at h5; cases h5
      | cons e1 es1 => exact j_meth h2 h3 (mtXs_star h5) h6 (sX o K _ h4) (sXs es K _ h5) c Q sr p
    · cases h
  | .sub a i, X, W, k, K, e, h => by
    simp only [mtX] at h
    split at h
    · simp only [Bool.and_eq_true] at h
      intro c Q sr p; rw [evX] at p; exact j_sub K.un (notSlice_ix h.2.2) (sX a K _ h.1) (sX i K _ h.2.1) c Q sr p
    · cases h
  | .slc a lo hi, X, W, k, K, e, h => by
    simp only [mtX] at h
    split at h
    · simp only [Bool.and_eq_true] at h
      intro c Q sr p; rw [evX] at p; exact j_slc (sX a K _ h.1) (sO lo K _ h.2.1) (sO hi K _ h.2.2) c Q sr p
    · cases h
theorem sXs {g : GI} {n : Nat} : ∀ (a : Exs) {X : Cx} {W : WX} {k : Cc} (K : Ck X W k g n) (es : List Expr), mtXs g k a es = true → JXs X W (evXs (cnOf g n) a) es
  | .nil, X, W, k, K, es, h => by
    simp only [mtXs] at h
    split at h
    · intro c Q sr p; rw [evXs] at p; exact j_xs_nil c Q sr p
    · cases h
  | .cons a as, X, W, k, K, es, h => by
    simp only [mtXs] at h
    split at h
    · simp only [Bool.and_eq_true] at h
      intro c Q sr p; rw [evXs] at p; exact j_xs_cons (star_cons h.2.1) (sX a K _ h.1) (sXs as K _ h.2.2) c Q sr p
    · cases h
theorem sEs {g : GI} {n : Nat} : ∀ (a : Exs) {X : Cx} {W : WX} {k : Cc} (K : Ck X W k g n) (es : List Expr), mtXs g k a es = true → JEs X W (evEs (cnOf g n) a) es
  | .nil, X, W, k, K, es, h => by
    simp only [mtXs] at h
    split at h
    · intro c Q sr p; rw [evEs] at p; exact j_es_nil c Q sr p
    · cases h
  | .cons a as, X, W, k, K, es, h => by
    simp only [mtXs] at h
    split at h
    · simp only [Bool.and_eq_true] at h
      intro c Q sr p; rw [evEs] at p; exact j_es_cons (star_cons h.2.1) (sX a K _ h.1) (sEs as K _ h.2.2) c Q sr p
    · cases h
theorem sFs {g : GI} {n : Nat} : ∀ (a : Exs) {X : Cx} {W : WX} {k : Cc} (K : Ck X W k g n) (es : List Expr), mtFs g k a es = true → JFs X W (evF (cnOf g n) a) es
  | .nil, X, W, k, K, es, h => by
    rw [mtFs.eq_def] at h
    dsimp only at h
    split at h
    · obtain ⟨t, h1, h2⟩ := j_fs_nil (X := X) (W := W)
      exact ⟨t, h1, fun c acc Q sr p => h2 c acc Q sr (by rw [evF] at p; exact p)⟩
    · cases h
  | .cons a as, X, W, k, K, es, h => by
    rw [mtFs.eq_def] at h
    dsimp only at h
    split at h
    · simp only [Bool.and_eq_true, decide_eq_true_eq] at h
      obtain ⟨rfl, h2, h3⟩ := h
      obtain ⟨t, h1, h2⟩ := j_fs_val (sX a K _ h2) (sFs as K _ h3)
      exact ⟨t, h1, fun c acc Q sr p => h2 c acc Q sr (by rw [evF] at p; exact p)⟩
    · rw [Bool.and_eq_true] at h
      obtain ⟨y, rfl⟩ := isC_ok h.1
      obtain ⟨t, h1, h2⟩ := j_fs_cst (sFs as K _ h.2)
      exact ⟨t, h1, fun c acc Q sr p => h2 c acc Q sr (by rw [evF, evX] at p; exact p)⟩
    · cases h
theorem sPs {g : GI} {n : Nat} : ∀ (a : Exs) {X : Cx} {W : WX} {k : Cc} (K : Ck X W k g n) (ks : List Str) (keys : List (Option Expr)) (es : List Expr) (pos : Pos), keyB ks keys = true → keys.length = es.length → mtXs g k a es = true → JPs X W (evEs (cnOf g n) a) ks pos keys es
  | .nil, X, W, k, K, ks, keys, es, pos, hk, hl, h => by
    simp only [mtXs] at h
    split at h
    · obtain rfl : keys = [] := List.eq_nil_of_length_eq_zero hl
      obtain rfl : ks = [] := List.eq_nil_of_length_eq_zero (keyB_facts hk).2
      obtain ⟨t, h1, h2⟩ := j_ps_nil (X := X) (W := W) (pos := pos)
      exact ⟨t, h1, fun c Q sr p => h2 c Q sr (by rw [evEs] at p; exact p)⟩
    · cases h
  | .cons a as, X, W, k, K, ks, keys, es, pos, hk, hl, h => by
    simp only [mtXs] at h
    split at h
    · simp only [Bool.and_eq_true] at h
      cases keys with
      | nil => cases hl
      | cons key keys =>
        obtain ⟨x, ks', j, p2, rfl, rfl, hk'⟩ := keyB_cons hk
        obtain ⟨t, h1, h2⟩ := j_ps_cons (x := x) (j := j) (p2 := p2) (sX a K _ h.1) (sPs as K ks' keys _ pos hk' (Nat.succ.inj hl) h.2.2)
        exact ⟨t, h1, fun c Q sr p => h2 c Q sr (by rw [evEs] at p; exact p)⟩
    · cases h
theorem sB {g : GI} {n : Nat} : ∀ (a : Exs) {X : Cx} {W : WX} {k : Cc} (K : Ck X W k g n) (ia : Bool) (es : List Expr), mtB g k ia a es = true → JB X W (evB (cnOf g n) ia a) (if ia then .And else .Or) es
  | .nil, X, W, k, K, ia, es, h => (xsB_ne h).elim
  | .cons a .nil, X, W, k, K, ia, es, h => by
    obtain ⟨e, rfl, h1⟩ := mtB_one h
    intro pos c Q sr p; rw [evB] at p; exact j_b_one (sX a K _ h1) pos c Q sr p
  | .cons a (.cons a2 as), X, W, k, K, ia, es, h => by
    obtain ⟨e, b, r, rfl, h1, h2⟩ := mtB_cons h
    intro pos c Q sr p; rw [evB] at p
    exact j_b_cons (sX a K _ h1) (sB (.cons a2 as) K ia _ h2) pos c Q sr p
theorem sT {g : GI} {n : Nat} : ∀ (a : Te) {X : Cx} {W : WX} {k : Cc} (K : Ck X W k g n) (e : Expr), mtT g k a e = true → JT X W (evT (cnOf g n) a) e
  | .x a, X, W, k, K, e, h => by
    simp only [mtT] at h
    split at h
    · cases h
    · cases h
    · cases h
    · rename_i l o r p0
      cases a with
      | cmp op a b =>
        simp only [mtX] at h
        simp only [Bool.and_eq_true, decide_eq_true_eq] at h
        obtain ⟨rfl, h2, h3, h4⟩ := h
        intro c Q sr p; rw [evT, evX] at p; exact j_tcmp K.un (notSet_marks h4) (sX a K _ h2) (sX b K _ h3) c Q sr p
      | _ => simp only [mtX] at h; cases h
    · rename_i l o o' r r' p0
      cases a with
      | chain o1 o2 a b z =>
        simp only [mtX] at h
        simp only [Bool.and_eq_true, decide_eq_true_eq] at h
        obtain ⟨rfl, rfl, h2, h3, h4, h5, h6⟩ := h
        intro c Q sr p; rw [evT, evX] at p; exact j_tchain K.un (notSet_marks h6) (sX a K _ h2) (sX b K _ h3) (sX z K _ h4) c Q sr p
      | _ => simp only [mtX] at h; cases h
    · cases h
    · rename_i hn1 hn2 hn3 hn4 hn5 hn6
      have he : ∀ whole, isTrue e X.env whole = (do let v ← whole; standAt e.pos; holding [v] (truthy v)) := fun whole => by
        cases e <;> first
          | rfl
          | (rename_i op _ _; cases op <;> first | rfl | exact absurd rfl (hn1 _ _))
          | exact absurd rfl (hn2 _ _ _)
          | exact absurd rfl (hn3 _ _ _ _)
          | exact absurd rfl (hn6 _ _ _ _)
      intro c Q sr p; rw [evT] at p; exact j_tx he (sX a K _ h) c Q sr p
  | .n t, X, W, k, K, e, h => by
    simp only [mtT] at h
    split at h
    · intro c Q sr p; rw [evT] at p; exact j_tn (sT t K _ h) c Q sr p
    · cases h
  | .ife t a b, X, W, k, K, e, h => by
    simp only [mtT] at h
    split at h
    · simp only [Bool.and_eq_true] at h
      intro c Q sr p; rw [evT] at p; exact j_tife (sT t K _ h.1) (sT a K _ h.2.1) (sT b K _ h.2.2) c Q sr p
    · cases h
  | .b ia ts, X, W, k, K, e, h => by
    simp only [mtT] at h
    split at h
    · simp only [Bool.and_eq_true, decide_eq_true_eq] at h
      obtain ⟨rfl, h2⟩ := h
      intro c Q sr p; rw [evT] at p; exact j_tb (sTs ts K ia _ h2) c Q sr p
    · cases h
theorem sTs {g : GI} {n : Nat} : ∀ (a : Tes) {X : Cx} {W : WX} {k : Cc} (K : Ck X W k g n) (ia : Bool) (es : List Expr), mtTs g k ia a es = true → JTs X W (evTB (cnOf g n) ia a) (if ia then .And else .Or) es
  | .nil, X, W, k, K, ia, es, h => by
    simp only [mtTs] at h
    split at h
    · intro c Q sr p; rw [evTB] at p; exact j_ts_nil c Q sr p
    · cases h
  | .cons a as, X, W, k, K, ia, es, h => by
    simp only [mtTs] at h
    split at h
    · rw [Bool.and_eq_true] at h
      intro c Q sr p; rw [evTB] at p; exact j_ts_cons (sT a K _ h.1) (sTs as K ia _ h.2) c Q sr p
    · cases h
theorem sF {g : GI} {n : Nat} : ∀ (a : Tes) {X : Cx} {W : WX} {k : Cc} (K : Ck X W k g n) (es : List Expr), mtF g k a es = true → JF X W (evTB (cnOf g n) true a) es
  | .nil, X, W, k, K, es, h => by
    simp only [mtF] at h
    split at h
    · intro c Q sr p; rw [evTB] at p; exact j_fnil c Q sr p
    · cases h
  | .cons a as, X, W, k, K, es, h => by
    simp only [mtF] at h
    split at h
    · intro c Q sr p; simp only [evTB] at p; exact j_fone (sT a K _ h) c Q sr p
    · cases h
theorem sA {g : GI} {n : Nat} : ∀ (a : Ags) {X : Cx} {W : WX} {k : Cc} (K : Ck X W k g n) (es : List Expr), mtA g k a es = true → JA X W (evA (cnOf g n) a) es
  | .nil, X, W, k, K, es, h => by
    simp only [mtA] at h
    split at h
    · intro c Q sr p; rw [evA] at p; exact j_a_nil c Q sr p
    · cases h
  | .cons (.v a) as, X, W, k, K, es, h => by
    simp only [mtA] at h
    split at h
    · simp only [Bool.and_eq_true, mtAg] at h
      intro c Q sr p; rw [evA] at p; simp only [evAg] at p; exact j_a_v (star_cons h.2.1) (sX a K _ h.1) (sA as K _ h.2.2) c Q sr p
    · cases h
  | .cons (.b a) as, X, W, k, K, es, h => by
    simp only [mtA] at h
    split at h
    · simp only [Bool.and_eq_true, mtAg] at h
      intro c Q sr p; rw [evA] at p; simp only [evAg] at p; exact j_a_b (star_cons h.2.1) (sX a K _ h.1) (sA as K _ h.2.2) c Q sr p
    · cases h
theorem sK {g : GI} {n : Nat} : ∀ (a : Ags) {X : Cx} {W : WX} {k : Cc} (K : Ck X W k g n) (ks : List Str) (es : List Keyword), mtK g k a ks es = true → JK X W (evA (cnOf g n) a) es
  | .nil, X, W, k, K, ks, es, h => by
    rw [mtK.eq_def] at h
    dsimp only at h
    split at h
    · intro c Q sr p; rw [evA] at p; exact j_k_nil c Q sr p
    · cases h
  | .cons (.v a) as, X, W, k, K, ks, es, h => by
    rw [mtK.eq_def] at h
    dsimp only at h
    split at h
    · simp only [Bool.and_eq_true, mtAg] at h
      intro c Q sr p; rw [evA] at p; simp only [evAg] at p; exact j_k_v (sX a K _ h.2.1) (sK as K _ _ h.2.2) c Q sr p
    · cases h
  | .cons (.b a) as, X, W, k, K, ks, es, h => by
    rw [mtK.eq_def] at h
    dsimp only at h
    split at h
    · simp only [Bool.and_eq_true, mtAg] at h
      intro c Q sr p; rw [evA] at p; simp only [evAg] at p; exact j_k_b (sX a K _ h.2.1) (sK as K _ _ h.2.2) c Q sr p
    · cases h
theorem sO {g : GI} {n : Nat} : ∀ (a : Ox) {X : Cx} {W : WX} {k : Cc} (K : Ck X W k g n) (e : Option Expr), mtO g k a e = true → JO X W (evO (cnOf g n) a) e
  | .no, X, W, k, K, e, h => by
    simp only [mtO] at h
    split at h
    · obtain ⟨t, h1, h2⟩ := j_ono (X := X) (W := W)
      refine ⟨t, h1, fun c Q sr p => ?_⟩
      rw [evO] at p
      exact h2 c Q sr p
    · cases h
  | .yes a, X, W, k, K, e, h => by
    simp only [mtO] at h
    split at h
    · obtain ⟨t, h1, h2⟩ := j_oyes (sX a K _ h)
      refine ⟨t, h1, fun c Q sr p => ?_⟩
      rw [evO] at p
      exact h2 c Q sr p
    · cases h
theorem sI {g : GI} {n : Nat} : ∀ (a : It) {X : Cx} {W : WX} {k : Cc} (K : Ck X W k g n) (t e : Expr), mtI g k a t e = true → JI X W (evI (cnOf g n) a) t e
  | .q a, X, W, k, K, t, e, h => by
    simp only [mtI] at h
    rw [Bool.and_eq_true] at h
    intro c Q sr p; rw [evI] at p; exact j_iq (sX a K _ h.1) c Q sr p
  | .rng (.cons u .nil), X, W, k, K, t, e, h => by
    obtain ⟨p, pos, a, rfl, h2, h3, h4⟩ := mtI_rng1 h
    obtain ⟨g1, g2, g3⟩ := K.free h2
    intro c Q sr p; simp only [evI, evXs] at p
    exact j_rng1 g1 g3 h4 (sX u K _ h3) c Q sr p
  | .rng (.cons u (.cons v .nil)), X, W, k, K, t, e, h => by
    obtain ⟨p, pos, a, b, rfl, h2, h3, h4, h5, h6⟩ := mtI_rng2 h
    obtain ⟨g1, g2, g3⟩ := K.free h2
    intro c Q sr p; simp only [evI, evXs] at p
    exact j_rng2 g1 g3 h5 h6 (sX u K _ h3) (sX v K _ h4) c Q sr p
  | .rng .nil, X, W, k, K, t, e, h => (mtI_rng0 h).elim
  | .rng (.cons u (.cons v (.cons w ws))), X, W, k, K, t, e, h => (mtI_rng3 h).elim
  | .enum a, X, W, k, K, t, e, h => by
    rw [mtI.eq_def] at h
    dsimp only at h
    split at h
    · simp only [Bool.and_eq_true, decide_eq_true_eq] at h
      obtain ⟨rfl, h2, h3, h4⟩ := h
      obtain ⟨g1, g2, g3⟩ := K.free h2
      intro c Q sr p; rw [evI] at p
      exact j_enum g1 g3 h4 (sX a K _ h3) c Q sr p
    · cases h
  | .zip a b, X, W, k, K, t, e, h => by
    rw [mtI.eq_def] at h
    dsimp only at h
    split at h
    · simp only [Bool.and_eq_true, decide_eq_true_eq] at h
      obtain ⟨rfl, h2, h3, h4, h5, h6⟩ := h
      obtain ⟨g1, g2, g3⟩ := K.free h2
      intro c Q sr p; rw [evI] at p
      exact j_zip g1 g3 h5 h6 (sX a K _ h3) (sX b K _ h4) c Q sr p
    · cases h
theorem sG {g : GI} {n : Nat} : ∀ (a : Tg) {X : Cx} {W : WX} {k : Cc} (K : Ck X W k g n) (e : Expr), mtG g k a e = true → JG X W (evG (cnOf g n) a) (tgN a) e
  | .name i, X, W, k, K, e, h => by
    simp only [mtG] at h
    split at h
    · obtain ⟨h1, h2, h3⟩ := K.store h
      intro c d v Q sr r p; rw [evG] at p; rw [tgN] at p; exact j_gname (by rw [K.N]; exact K.nd) h1 h2 h3 c d v Q sr r p
    · cases h
  | .tup ts, X, W, k, K, e, h => by
    simp only [mtG] at h
    split at h
    · rename_i es kk pos
      obtain ⟨l1, l2⟩ := assign_len (env := X.env) (mtGs_star h)
      intro c d v Q sr r p; rw [tgN] at p
      have p' : PostS X.K c ((fun d s => match d with
        | .tup xs => if xs.length = ts.len then evGs (cnOf g n) ts xs s else .bad
        | .loc m => (match cell s.M m with
          | some xs => if xs.length = ts.len then evGs (cnOf g n) ts xs s else .bad
          | none => .bad)
        | _ => .bad) d c.s) (fun _ c' => Chg (tgNs ts) c c' → Q c'.σ c'.H) (QX X W) := by
        rw [evG.eq_def] at p
        cases d <;> exact p
      exact j_gtup K.calm l2 (l1.trans (mtGs_len h)) (sGs ts K _ h) c d v Q sr r p'
    · cases h
  | .sub o i, X, W, k, K, e, h => by
    simp only [mtG] at h
    split at h
    · simp only [Bool.and_eq_true] at h
      intro c d v Q sr r p; rw [evG] at p; rw [tgN] at p; exact j_gsub K.un h.2.2 (sX o K _ h.1) (sX i K _ h.2.1) c d v Q sr r p
    · cases h
theorem sGs {g : GI} {n : Nat} : ∀ (a : Tgs) {X : Cx} {W : WX} {k : Cc} (K : Ck X W k g n) (es : List Expr), mtGs g k a es = true → JGs X W (evGs (cnOf g n) a) (tgNs a) es
  | .nil, X, W, k, K, es, h => by
    simp only [mtGs] at h
    split at h
    · obtain ⟨t, h1, h2⟩ := j_gsnil (X := X) (W := W)
      refine ⟨t, h1, fun c ds vs Q sr r p => h2 c ds vs Q sr r ?_⟩
      rw [evGs.eq_def, tgNs] at p
      cases ds <;> exact p
    · cases h
  | .cons a as, X, W, k, K, es, h => by
    simp only [mtGs] at h
    split at h
    · simp only [Bool.and_eq_true] at h
      obtain ⟨t, h1, h2⟩ := j_gscons (assign_cons (env := X.env) h.2.1) (sG a K _ h.1) (sGs as K _ h.2.2)
      refine ⟨t, h1, fun c ds vs Q sr r p => h2 c ds vs Q sr r ?_⟩
      rw [evGs.eq_def, tgNs] at p
      cases ds <;> exact p
    · cases h
end
end G

/-! ## GS15 -/
set_option Elab.async false
set_option linter.all false
set_option maxRecDepth 100000
set_option maxHeartbeats 4000000
namespace G
open PySem PySem.Spec PyProof.Rows L2

/-! ### statements -/
def NoOwn (c : Cf) : Prop := ∀ (i : Nat) (xs : List D), c.s.v[i]? ≠ some (Slot.own xs)
def RetR (K : PySem.W.Frag) (b c : Cf) : Slot → V → Prop
  | .val d, v => DR K c.μ c.H d v
  | .own xs, v => ∃ a us, v = .ref a ∧ c.H a = some (.lst us) ∧ DRs K c.μ c.H xs us ∧ a ∉ c.μ ∧ b.H a = none
  | _, _ => False
def EndR (K : PySem.W.Frag) (b : Cf) (D : Ends) (f : Fl) (c : Cf) : Prop := match f with
  | .nx => D.nx c.σ c.H
  | .bk => D.bk c.σ c.H
  | .ct => D.ct c.σ c.H
  | .rt o => ∀ v, RetR K b c o v → D.rt v c.H
structure Bse (c c' : Cf) : Prop where
  pre : c.μ <+: c'.μ
  grow : ∀ b, Foot c' b → Foot c b ∨ c.H b = none
  trk : ∀ b o, c.H b = some o → ∃ o', c'.H b = some o'
theorem Bse.refl (c : Cf) : Bse c c := ⟨List.prefix_refl _, fun _ h => .inl h, fun _ o h => ⟨o, h⟩⟩
theorem Bse.untrk {c c' : Cf} (h : Bse c c') {b : Addr} (e : c'.H b = none) : c.H b = none := by
  cases q : c.H b with
  | none => rfl
  | some o =>
    obtain ⟨o', e'⟩ := h.trk b o q
    rw [e] at e'; cases e'
theorem Bse.trans {a b c : Cf} (h : Bse a b) (k : Stp b c) : Bse a c := ⟨h.pre.trans k.pre, fun x z => by
  rcases k.grow x z with z | z
  · exact h.grow x z
  · exact .inr (h.untrk z), fun x o e => by
  obtain ⟨o', e'⟩ := h.trk x o e
  exact k.trk x o' e'⟩
/-- a statement; b: where the def began -/
def JS (X : Cx) (W : WX) (m : S → R Fl) (st : Stmt) : Prop := ∀ b c D, NoOwn b → Bse b c → SR X.K c → PostS X.K c (m c.s) (EndR X.K b D) (QX X W) → WpS X st D c.σ c.H
def JSs (X : Cx) (W : WX) (m : S → R Fl) (st : List Stmt) : Prop := ∀ b c D, NoOwn b → Bse b c → SR X.K c → PostS X.K c (m c.s) (EndR X.K b D) (QX X W) → WpSs X st D c.σ c.H
theorem PostS.okc {α : Type} {K : PySem.W.Frag} {a : α} {s : S} {Qn : α → Cf → Prop} {Qx : Xc → Cf → Prop} {c c' : Cf} (h : PostS K c (.ok a s) Qn Qx) (e : c'.s = s) (st : Stp c c') (sr : SR K c') : Qn a c' := h c' e st sr
section
variable {X : Cx} {W : WX}
theorem own_new {K : PySem.W.Frag} {b c : Cf} (hb : NoOwn b) (st : Bse b c) (sr : SR K c) {i : Nat} {a : Addr} (h : OwnAt c i a) : a ∉ c.μ ∧ b.H a = none := by
  refine ⟨sr.ownm i a h, ?_⟩
  rcases st.grow a (.inr ⟨i, h⟩) with f | f
  · rcases f with f | ⟨j, ⟨xs, f⟩, _⟩
    · exfalso
      obtain ⟨r, hr⟩ := st.pre
      exact sr.ownm i a h (by rw [← hr]; exact List.mem_append_left _ f)
    · exact absurd f (hb j xs)
  · exact f
theorem j_nil : JSs X W (fun s => .ok .nx s) [] := fun b c D hb st sr p => WpSs.of pss_nil (p.ok sr)
theorem j_cons {st : Stmt} {rest : List Stmt} {m ms : S → R Fl} (h : JS X W m st) (t : JSs X W ms rest) :
    JSs X W (fun s => (m s).bind fun f s1 => match f with
      | .nx => ms s1
      | f => .ok f s1) (st :: rest) := by
  intro b c D hb stb sr p
  refine WpSs.of (pss_cons (psW st) (pssW rest)) ?_
  refine h b c _ hb stb sr ?_
  have p : PostS X.K c ((m c.s).bind fun f s1 => match f with
      | .nx => ms s1
      | f => .ok f s1) (EndR X.K b D) (QX X W) := p
  cases z : m c.s with
  | bad => rw [z] at p; exact p.elim
  | exc x s => rw [z] at p; exact p
  | ok f s =>
    rw [z] at p
    intro c1 e1 st1 sr1
    subst e1
    cases f with
    | nx => exact t b c1 D hb (stb.trans st1) sr1 (PostS.later st1 (show PostS X.K c (ms c1.s) _ _ from p))
    | bk => exact (PostS.okc (Qn := EndR X.K b D) (Qx := QX X W) (show PostS X.K c (R.ok Fl.bk c1.s) (EndR X.K b D) (QX X W) from p) rfl st1 sr1 : EndR X.K b D _ c1)
    | ct => exact (PostS.okc (Qn := EndR X.K b D) (Qx := QX X W) (show PostS X.K c (R.ok Fl.ct c1.s) (EndR X.K b D) (QX X W) from p) rfl st1 sr1 : EndR X.K b D _ c1)
    | rt o => exact (PostS.okc (Qn := EndR X.K b D) (Qx := QX X W) (show PostS X.K c (R.ok (Fl.rt o) c1.s) (EndR X.K b D) (QX X W) from p) rfl st1 sr1 : EndR X.K b D _ c1)
theorem j_pass {pos : Pos} : JS X W (fun s => .ok .nx s) (.Pass pos) := fun b c D hb st sr p => WpS.of ps_pass (p.ok sr)
theorem j_doc {x : Str} {j : Nat} {p1 p2 : Pos} : JS X W (fun s => .ok .nx s) (.Expr (.Constant (.str x) j p1) p2) := fun b c D hb st sr p => WpS.of ps_doc (p.ok sr)
theorem j_brk {pos : Pos} : JS X W (fun s => .ok .bk s) (.Break pos) := fun b c D hb st sr p => WpS.of ps_break (p.ok sr)
theorem j_cnt {pos : Pos} : JS X W (fun s => .ok .ct s) (.Continue pos) := fun b c D hb st sr p => WpS.of ps_continue (p.ok sr)
theorem j_retN {pos : Pos} : JS X W (fun s => .ok (.rt (.val .non)) s) (.Return none pos) := fun b c D hb st sr p => WpS.of ps_retN (p.ok sr .non (by simp only [RetR, DR]))
theorem j_ret {e : Expr} {m : S → R SV} {pos : Pos} (h : JX X W m e) : JS X W (fun s => (m s).bind fun x s1 => retD s1 x) (.Return (some e) pos) := by
  intro b c D hb stb sr p
  refine WpS.of (ps_ret (peW e)) ?_
  refine h c _ sr (p.bindE.imp fun x c1 st1 sr1 vs1 p1 v rv fv => ?_)
  cases x with
  | val d => exact PostS.ok (a := Fl.rt (.val d)) sr1 p1 v rv
  | new xs =>
    obtain ⟨a, us, rfl, h1, h2, h3, h4⟩ := rv
    exact PostS.ok (a := Fl.rt (.own xs)) sr1 p1 (.ref a) ⟨a, us, rfl, h1, h2, fun m => h3 (.inl m), stb.untrk (fv a rfl)⟩
  | var i =>
    unfold retD at p1
    split at p1
    · rename_i xs e1; cases e1
    · rename_i d e1; cases e1
    · rename_i j e1
      cases e1
      split at p1
      · rename_i ys q
        obtain ⟨a, us, e2, h1, h2⟩ := sr1.slot i _ q
        have e3 := rv.1
        rw [e2] at e3
        cases e3
        obtain ⟨n1, n2⟩ := own_new hb (stb.trans st1) sr1 ⟨⟨_, q⟩, e2⟩
        exact PostS.ok (a := Fl.rt (.own ys)) sr1 p1 (.ref a) ⟨a, us, rfl, h1, h2, n1, n2⟩
      · exact p1.elim
def notComp : Expr → Bool
  | .ListComp .. => false
  | .SetComp .. => false
  | .DictComp .. => false
  | _ => true
theorem noSwap {e : Expr} {t : Option Expr} {l : Nat} {env : Env} (h : notComp e = true) : swapsWith e t l env = pure false := by
  cases e <;> first | rfl | cases h
theorem j_ex {e : Expr} {m : S → R SV} {pos : Pos} (hn : notComp e = true) (h : JX X W m e) : JS X W (fun s => (m s).bind fun _ s1 => .ok .nx s1) (.Expr e pos) := by
  intro b c D hb stb sr p
  refine WpS.of (ps_expr (peW e) (noSwap hn)) ?_
  refine h c _ sr (p.bindE.imp fun x c1 st1 sr1 vs1 p1 v rv fv => ?_)
  rw [← vs1.1]
  exact PostS.ok (a := Fl.nx) sr1 p1
/-- target = value -/
theorem PostS.bindEB {α β : Type} {K : PySem.W.Frag} {b c : Cf} {r : R α} {f : α → S → R β} {Qn : β → Cf → Prop} {Qx : Xc → Cf → Prop} (h : PostS K b (r.bind f) Qn Qx) (st : Stp b c) : Post K c r (fun a c' => PostS K b (f a c'.s) Qn Qx) Qx := by
  cases r with
  | ok a s =>
    intro c' e st' sr' vs'
    subst e
    exact h
  | exc x s => exact fun c' e st' sr => h c' e (st.trans st') sr
  | bad => exact h
/-- a value, made proper; c₀: where its making began -/
theorem valS {α : Type} {K : PySem.W.Frag} {c₀ c : Cf} {x : SV} {v : V} {f : D → S → R α} {Qn : α → Cf → Prop} {Qx : Xc → Cf → Prop} (st : Stp c₀ c) (vst : Vst c₀ c) (sr : SR K c) (rx : SVR K c x v) (fr : Fresh c₀.H x v)
    (h : PostS K c₀ ((toVal x c.s).bind f) Qn Qx) : ∃ c' d, c'.H = c.H ∧ Stp c₀ c' ∧ SR K c' ∧ Vst c₀ c' ∧ DR K c'.μ c'.H d v ∧ PostS K c' (f d c'.s) Qn Qx := by
  cases x with
  | val d => exact ⟨c, d, rfl, st, sr, vst, rx, h.later st⟩
  | new xs =>
    obtain ⟨a, vs, rfl, q, r, nf, nr⟩ := rx
    obtain ⟨s1, s2, s3, s4⟩ := cell_new (cl := .lst xs) st vst sr ⟨vs, q, r⟩ nf nr (fr a rfl)
    exact ⟨{ c with μ := c.μ ++ [a], s := ⟨c.s.v, c.s.M ++ [.lst xs]⟩ }, _, rfl, s1, s2, s3, s4, PostS.later s1 h⟩
  | var i => exact h.elim
theorem chgS {α : Type} {K : PySem.W.Frag} {c : Cf} {l : List Nat} {r : R α} {Qn : α → Cf → Prop} {Qx : Xc → Cf → Prop} (h : PostS K c r Qn Qx) : PostS K c r (fun a c' => Chg l c c' → Qn a c') Qx := h.imp fun a c' _ _ q _ => q
/-- assignment, the parts already there as rules -/
theorem j_asg0 {st : Stmt} {e : Expr} {tg : Expr} {te : TE} {gt : TG} {m : S → R SV} {mg : D → S → R Unit} {l : List Nat} (hp : PS X st (tAsg te gt)) (he : ∀ c Q, SR X.K c → Post X.K c (m c.s) (fun x c' => ∀ v, SVR X.K c' x v → Fresh c.H x v → Q v c'.H) (QX X W) → te c.σ c.H Q)
    (hg : ∀ c d v (Q : L2.St → Hp → Prop), SR X.K c → DR X.K c.μ c.H d v → PostS X.K c (mg d c.s) (fun _ c' => Chg l c c' → Q c'.σ c'.H) (QX X W) → gt v c.σ c.H Q) :
    JS X W (fun s => ((m s).bind toVal).bind fun d s1 => (mg d s1).bind fun _ s2 => .ok .nx s2) st := by
  intro b c D hb stb sr p
  refine WpS.of hp ?_
  show te c.σ c.H _
  have p : PostS X.K c (((m c.s).bind toVal).bind fun d s1 => (mg d s1).bind fun _ s2 => .ok .nx s2) (EndR X.K b D) (QX X W) := p
  rw [R.bind_assoc] at p
  refine he c _ sr ((p.bindEB (Stp.refl c)).imp fun x c1 st1 sr1 vs1 p1 v rv fv => ?_)
  obtain ⟨c2, d, eH, s1, s2, s3, s4, p2⟩ := valS st1 vs1 sr1 rv fv p1
  rw [← eH, ← s3.1]
  exact hg c2 d v _ s2 s4 (p2.bind.imp fun _ c3 st3 sr3 q _ => PostS.ok (a := Fl.nx) sr3 q)
/-- name = a list that is the name's own -/
theorem j_own0 {st : Stmt} {te : TE} {m : S → R SV} {i : Nat} (hp : PS X st (tAsg te (gName i))) (he : ∀ c Q, SR X.K c → Post X.K c (m c.s) (fun x c' => ∀ v, SVR X.K c' x v → Fresh c.H x v → Q v c'.H) (QX X W) → te c.σ c.H Q) :
    JS X W (fun s => (m s).bind fun x s1 => match x with
      | .new xs => (setName i (.own xs) s1).bind fun _ s2 => .ok .nx s2
      | _ => .bad) st := by
  intro b c D hb stb sr p
  refine WpS.of hp ?_
  show te c.σ c.H _
  refine he c _ sr ((PostS.bindEB p (Stp.refl c)).imp fun x c1 st1 sr1 vs1 p1 v rv fv => ?_)
  cases x with
  | new xs =>
    have p1 : PostS X.K c ((setName i (.own xs) c1.s).bind fun _ s2 => .ok .nx s2) (EndR X.K b D) (QX X W) := p1
    obtain ⟨a, vs, rfl, q, r, nf, nr⟩ := rv
    have p2 : PostS X.K c (setName i (.own xs) c1.s) (fun _ c' => EndR X.K b D .nx c') (QX X W) := p1.bind.imp fun _ c3 st3 sr3 q => PostS.ok (a := Fl.nx) sr3 q
    obtain ⟨c', e1, e2, _, st', sr', ch, q2⟩ := setName_ok (v := .ref a) sr1 (.inr ⟨xs, a, vs, rfl, rfl, q, r, nf, nr⟩) c st1 (fun ys a' e e' => by cases e'; exact fv a rfl) p2
    show D.nx (c.σ.set i (some (.ref a))) c1.H
    rw [← vs1.1, ← e1, ← e2]
    exact q2
  | val d => exact p1.elim
  | var j => exact p1.elim
/-- what swappedStores says, without the machine -/
def swS (kf : Str → Option NameKind) (t e : Expr) : Option (Option (List Str)) := match t, e with
  | .Tuple ts _ _, .Tuple vs _ _ =>
    if !(ts.length == 2 || ts.length == 3) || vs.length != ts.length then some none
    else if vs.any fun | .Starred .. => true | _ => false then some none
    else
      let line := (ts.head?.map (·.pos.line)).getD 0
      let names := ts.filterMap fun
        | .Name id pos => if kf id == some .local && pos.line == line then some id else none
        | _ => none
      if names.length != ts.length || names.eraseDups.length != names.length then some none
      else if vs.all (foldedForSure 8) then some none
      else if vs.all (constantsAlone 8) then none
      else some (some names)
  | .List _ _, .Tuple _ _ _ => none
  | _, _ => some none
theorem swS_ok {t e : Expr} {env : Env} {r : Option (List Str)} (hk : env.scope.kind = .function) (h : swS env.kindOf t e = some r) : swappedStores [t] e env = pure r := by
  have hb : env.blockKind = .function := by unfold Env.blockKind; rw [hk]; rfl
  unfold swS at h
  split at h
  · rename_i ts kt pt vs kv pv
    unfold swappedStores
    dsimp only
    rw [hb]
    have e0 : (ScopeKind.function != ScopeKind.function) = false := rfl
    rw [e0, Bool.or_false]
    by_cases h1 : (!(ts.length == 2 || ts.length == 3) || vs.length != ts.length) = true
    · rw [if_pos h1] at h ⊢; cases h; rfl
    · rw [if_neg h1] at h ⊢
      split at h
      · rename_i h2
        cases h
        exact if_pos h2
      · rename_i h2
        refine (if_neg h2).trans ?_
        dsimp only at h ⊢
        split at h
        · rename_i h3
          cases h
          exact if_pos h3
        · rename_i h3
          refine (if_neg h3).trans ?_
          split at h
          · rename_i h4
            cases h
            exact if_pos h4
          · rename_i h4
            refine (if_neg h4).trans ?_
            split at h
            · cases h
            · rename_i h5
              cases h
              exact if_neg h5
  · cases h
  · rename_i hn1 hn2
    cases h
    unfold swappedStores
    split
    · rename_i q heq
      split at heq
      · rename_i h1 h2 
        exfalso
        injections
        subst_vars
        exact hn1 _ _ _ _ _ _ rfl rfl
      · exfalso
        injections
        subst_vars
        exact hn2 _ _ _ _ _ rfl rfl
      · cases heq
    · rfl
end
end G

/-! ## GS16 -/
set_option Elab.async false
set_option linter.all false
set_option maxRecDepth 100000
set_option maxHeartbeats 4000000
namespace G
open PySem PySem.Spec PyProof.Rows L2

section
variable {X : Cx} {W : WX}
/-- one value of a row of values -/
theorem stepV {α : Type} {m : S → R SV} {e : Expr} {f : D → S → R α} {Qn : α → Cf → Prop} {Q : VK} {c : Cf} (h : JX X W m e) (sr : SR X.K c) (p : PostS X.K c (((m c.s).bind toVal).bind f) Qn (QX X W))
    (q : ∀ c' d v, Stp c c' → SR X.K c' → Vst c c' → DR X.K c'.μ c'.H d v → PostS X.K c' (f d c'.s) Qn (QX X W) → Q v c'.H) : WpE X e c.σ c.H Q := by
  rw [R.bind_assoc] at p
  refine h c _ sr ((p.bindEB (Stp.refl c)).imp fun x c1 st1 sr1 vs1 p1 v rv fv => ?_)
  obtain ⟨c2, d, eH, s1, s2, s3, s4, p2⟩ := valS st1 vs1 sr1 rv fv p1
  rw [← eH]
  exact q c2 d v s1 s2 s3 s4 p2
theorem stepN {α : Type} {K : PySem.W.Frag} {i : Nat} {d : D} {v : V} {f : S → R α} {Qn : α → Cf → Prop} {Qx : Xc → Cf → Prop} {c : Cf} (sr : SR K c) (r : DR K c.μ c.H d v) (p : PostS K c ((setName i (.val d) c.s).bind fun _ s => f s) Qn Qx) :
    ∃ c' : Cf, c'.σ = c.σ.set i (some v) ∧ c'.H = c.H ∧ Stp c c' ∧ SR K c' ∧ PostS K c' (f c'.s) Qn Qx := by
  have p2 : PostS K c (setName i (.val d) c.s) (fun _ c' => PostS K c' (f c'.s) Qn Qx) Qx := p.bind
  obtain ⟨c', e1, e2, _, st, sr', ch, q⟩ := setName_ok (v := v) sr (.inl ⟨d, rfl, r⟩) c (Stp.refl c) (fun _ _ e => by cases e) p2
  exact ⟨c', e1, e2, st, sr', q⟩
theorem j_par2 {i j : Nat} {x y : Str} {a b : Expr} {px py pt pos pt2 : Pos} {kt k2 : Nat} {ma mb : S → R SV} (hc : X.calm = true) (hN : X.N.Nodup) (hi : X.N[i]? = some x) (hj : X.N[j]? = some y) (hij : i ≠ j)
    (hx : X.env.scope.names.lookup x = some .local) (hy : X.env.scope.names.lookup y = some .local) (sa : notStar a = true) (sb : notStar b = true)
    (hw : swappedStores [.Tuple [.Name x px, .Name y py] kt pt] (.Tuple [a, b] k2 pt2) X.env = pure (some [x, y])) (ha : JX X W ma a) (hb : JX X W mb b) :
    JS X W (fun s => ((ma s).bind toVal).bind fun x s1 => ((mb s1).bind toVal).bind fun y s2 => (setName i (.val x) s2).bind fun _ s3 => (setName j (.val y) s3).bind fun _ s4 => .ok .nx s4)
      (.Assign [.Tuple [.Name x px, .Name y py] kt pt] (.Tuple [a, b] k2 pt2) pos) := by
  intro bb c D hb' stb sr p
  refine WpS.of (ps_par hc hN hi hj hij hx hy (pa_cons (peW a) (pa_cons (peW b) pa_nil (star_cons sb)) (star_cons sa)) hw) ?_
  refine stepV ha sr p fun c1 d1 v1 st1 sr1 vs1 r1 p1 => ?_
  rw [← vs1.1]
  refine stepV hb sr1 p1 fun c2 d2 v2 st2 sr2 vs2 r2 p2 => ?_
  refine ⟨v1, v2, rfl, ?_⟩
  obtain ⟨c3, e3, h3, st3, sr3, p3⟩ := stepN (i := i) (f := fun s3 => (setName j (.val d2) s3).bind fun _ s4 => R.ok Fl.nx s4) sr2 (st2.dr r1) p2
  obtain ⟨c4, e4, h4, st4, sr4, p4⟩ := stepN (i := j) (f := fun s4 => R.ok Fl.nx s4) sr3 (st3.dr r2) p3
  have z := PostS.ok (a := Fl.nx) sr4 p4
  have z : D.nx c4.σ c4.H := z
  rw [e4, e3, h4, h3, vs2.1] at z
  exact z
theorem j_par3 {i j l : Nat} {x y z : Str} {a b e : Expr} {px py pz pt pos pt2 : Pos} {kt k2 : Nat} {ma mb me : S → R SV} (hc : X.calm = true) (hN : X.N.Nodup) (hi : X.N[i]? = some x) (hj : X.N[j]? = some y) (hl : X.N[l]? = some z) (hij : i ≠ j) (hil : i ≠ l) (hjl : j ≠ l)
    (hx : X.env.scope.names.lookup x = some .local) (hy : X.env.scope.names.lookup y = some .local) (hz : X.env.scope.names.lookup z = some .local) (sa : notStar a = true) (sb : notStar b = true) (se : notStar e = true)
    (hw : swappedStores [.Tuple [.Name x px, .Name y py, .Name z pz] kt pt] (.Tuple [a, b, e] k2 pt2) X.env = pure (some [x, y, z])) (ha : JX X W ma a) (hb : JX X W mb b) (he : JX X W me e) :
    JS X W (fun s => ((ma s).bind toVal).bind fun x s1 => ((mb s1).bind toVal).bind fun y s2 => ((me s2).bind toVal).bind fun z s3 => (setName i (.val x) s3).bind fun _ s4 => (setName j (.val y) s4).bind fun _ s5 => (setName l (.val z) s5).bind fun _ s6 => .ok .nx s6)
      (.Assign [.Tuple [.Name x px, .Name y py, .Name z pz] kt pt] (.Tuple [a, b, e] k2 pt2) pos) := by
  intro bb c D hb' stb sr p
  refine WpS.of (ps_par3 hc hN hi hj hl hij hil hjl hx hy hz (pa_cons (peW a) (pa_cons (peW b) (pa_cons (peW e) pa_nil (star_cons se)) (star_cons sb)) (star_cons sa)) hw) ?_
  refine stepV ha sr p fun c1 d1 v1 st1 sr1 vs1 r1 p1 => ?_
  rw [← vs1.1]
  refine stepV hb sr1 p1 fun c2 d2 v2 st2 sr2 vs2 r2 p2 => ?_
  rw [← vs2.1]
  refine stepV he sr2 p2 fun c3 d3 v3 st3 sr3 vs3 r3 p3 => ?_
  refine ⟨v1, v2, v3, rfl, ?_⟩
  obtain ⟨c4, e4, h4, st4, sr4, p4⟩ := stepN (i := i) (f := fun s4 => (setName j (.val d2) s4).bind fun _ s5 => (setName l (.val d3) s5).bind fun _ s6 => R.ok Fl.nx s6) sr3 ((st2.trans st3).dr r1) p3
  obtain ⟨c5, e5, h5, st5, sr5, p5⟩ := stepN (i := j) (f := fun s5 => (setName l (.val d3) s5).bind fun _ s6 => R.ok Fl.nx s6) sr4 ((st3.trans st4).dr r2) p4
  obtain ⟨c6, e6, h6, st6, sr6, p6⟩ := stepN (i := l) (f := fun s6 => R.ok Fl.nx s6) sr5 ((st4.trans st5).dr r3) p5
  have z := PostS.ok (a := Fl.nx) sr6 p6
  have z : D.nx c6.σ c6.H := z
  rw [e6, e5, e4, h6, h5, h4, vs3.1] at z
  exact z
theorem j_if {t : Expr} {a b : List Stmt} {mt : S → R Bool} {ma mb : S → R Fl} {pos : Pos} (ht : JT X W mt t) (ha : JSs X W ma a) (hb : JSs X W mb b) : JS X W (fun s => (mt s).bind fun k s1 => if k then ma s1 else mb s1) (.If t a b pos) := by
  intro bb c D hbb stb sr p
  refine WpS.of (ps_if (ptW t) (pssW a) (pssW b)) ?_
  refine ht c _ sr (p.bindE.imp fun k c1 st1 sr1 vs1 p1 => ?_)
  rw [← vs1.1]
  cases k with
  | true => exact ha bb c1 D hbb (stb.trans st1) sr1 p1
  | false => exact hb bb c1 D hbb (stb.trans st1) sr1 p1
theorem j_whl {t : Expr} {body : List Stmt} {mt : S → R Bool} {mb : S → R Fl} {n : Nat} {pos : Pos} (hp : PassesOwn (model X.prog X.w) X.A X.env X.xe) (ht : JT X W mt t) (hb : JSs X W mb body) : JS X W (fun s => whlL mt mb n s) (.While t body [] pos) := by
  intro bb c D hbb stb sr p
  refine WpS.of (ps_while hp (ptW t) (pssW body)) ?_
  refine ⟨fun m σ H => ∃ ci : Cf, ci.σ = σ ∧ ci.H = H ∧ Bse bb ci ∧ SR X.K ci ∧ PostS X.K ci (whlL mt mb m ci.s) (EndR X.K bb D) (QX X W), ⟨n, c, rfl, rfl, stb, sr, p⟩, ?_⟩
  rintro m σ H ⟨ci, rfl, rfl, sti, sri, pi⟩
  cases m with
  | zero => exact pi.elim
  | succ m =>
    rw [whlL] at pi
    refine ht ci _ sri (pi.bindE.imp fun k c1 st1 sr1 vs1 p1 => ?_)
    rw [← vs1.1]
    cases k with
    | false => exact (PostS.ok (a := Fl.nx) (Qn := EndR X.K bb D) (Qx := QX X W) sr1 p1)
    | true =>
      rw [if_pos rfl]
      refine ⟨fun σ' H' => ∃ c' : Cf, c'.σ = σ' ∧ c'.H = H' ∧ Bse bb c' ∧ SR X.K c' ∧ PostS X.K c' (whlL mt mb m c'.s) (EndR X.K bb D) (QX X W), fun σ' H' z => ⟨m, Nat.lt_succ_self m, z⟩, ?_⟩
      refine hb bb c1 _ hbb (sti.trans st1) sr1 ?_
      have p1 : PostS X.K c1 ((mb c1.s).bind fun f s2 => (match f with
        | .nx => whlL mt mb m s2
        | .ct => whlL mt mb m s2
        | .bk => .ok .nx s2
        | .rt o => .ok (.rt o) s2)) (EndR X.K bb D) (QX X W) := p1
      refine p1.bind.imp fun f c2 st2 sr2 p2 => ?_
      cases f with
      | nx => exact ⟨c2, rfl, rfl, (sti.trans st1).trans st2, sr2, p2⟩
      | ct => exact ⟨c2, rfl, rfl, (sti.trans st1).trans st2, sr2, p2⟩
      | bk => exact (PostS.ok (a := Fl.nx) (Qn := EndR X.K bb D) (Qx := QX X W) sr2 p2)
      | rt o => exact (PostS.ok (a := Fl.rt o) (Qn := EndR X.K bb D) (Qx := QX X W) sr2 p2)
theorem unl_post {c1 bb : Cf} {lks : List (Nat × List D)} {r : R Fl} {D : Ends} (sr : SR X.K c1) (hl : LkOk c1 lks) (p : PostS X.K c1 (unl lks r) (EndR X.K bb D) (QX X W)) : PostS X.K (c1.lock lks) r (EndR X.K bb D) (QX X W) := by
  cases r with
  | bad => exact p
  | ok f s =>
    intro c' e st sr'
    subst e
    obtain ⟨u1, u2, _⟩ := unlock_ok sr hl st sr'
    have z := p (c1.unlock c' lks) rfl u1 u2
    cases f with
    | nx => exact z
    | bk => exact z
    | ct => exact z
    | rt o =>
      intro v rv
      refine z v ?_
      cases o with
      | val d => exact rv
      | own xs => exact rv
      | no => exact rv
      | ro xs => exact rv
  | exc x s =>
    intro c' e st sr' cls d xr
    subst e
    obtain ⟨u1, u2, _⟩ := unlock_ok sr hl st sr'
    refine p (c1.unlock c' lks) rfl u1 u2 cls d ?_
    obtain ⟨C, fs, h1, h2, h3⟩ := xr
    refine ⟨C, fs, h1, h2, ?_⟩
    rcases h3 with h3 | ⟨a, h3, h4, h5, h6, h7⟩
    · exact .inl h3
    · have h4' : (c1.unlock c' lks).H a = some (.xd fs) := h4
      have nf : ¬ Foot (c1.unlock c' lks) a := fun ff => by
        obtain ⟨ws, e, w⟩ := u2.foot ff
        rw [h4'] at e; cases e; exact w.elim
      exact .inr ⟨a, h3, h4', nf, h6, h7⟩
theorem j_for {tg it : Expr} {body : List Stmt} {mi : S → R Itm} {mg : D → S → R Unit} {mb : S → R Fl} {l : List Nat} {pos : Pos} (hc : X.calm = true) (hp : PassesOwn (model X.prog X.w) X.A X.env X.xe) (hs : ∀ x, foldedSetIterable it X.env x = pure x)
    (hi : JI X W mi tg it) (hg : JG X W mg l tg) (hb : JSs X W mb body) :
    JS X W (fun s => (mi s).bind fun m s1 => unl m.lks (forL m.ok (fun x s2 => (mg x s2).bind fun _ s3 => mb s3) m.xs ⟨lock s1.v m.lks, s1.M⟩)) (.For tg it body [] pos) := by
  intro bb c D hbb stb sr p
  refine WpS.of (ps_for hp hc (piW tg it) (pgW tg) (pssW body) hs) ?_
  refine hi c _ sr (p.bindE.imp fun im c1 st1 sr1 vs1 p1 J lk itr => ?_)
  have pL := unl_post (X := X) sr1 lk p1
  have srL := sr1.lock lk
  have stL : Bse bb (c1.lock im.lks) := by
    have z := stb.trans st1
    exact ⟨z.pre, fun b f => z.grow b (lock_foot f), z.trk⟩
  refine ⟨fun i m σ H => m = im.xs.length - i ∧ i ≤ im.xs.length ∧ ∃ ci : Cf, ci.σ = σ ∧ ci.H = H ∧ Stp (c1.lock im.lks) ci ∧ SR X.K ci ∧ PostS X.K ci (forL im.ok (fun x s2 => (mg x s2).bind fun _ s3 => mb s3) (im.xs.drop i) ci.s) (EndR X.K bb D) (QX X W),
    ⟨_, rfl, Nat.zero_le _, c1.lock im.lks, vs1.1, rfl, Stp.refl _, srL, by rw [List.drop_zero]; exact pL⟩, ?_⟩
  rintro i m σ H ⟨hm, hle, ci, rfl, rfl, sti, sri, pi⟩
  by_cases hend : i = im.xs.length
  · left
    have e0 : im.xs.drop i = [] := by rw [hend, List.drop_length]
    rw [e0, forL] at pi
    by_cases hok : im.ok ci.s = true
    · rw [if_pos hok] at pi
      exact ⟨(itr ci sti.stq sri hok i).2 (by omega), PostS.ok (a := Fl.nx) sri pi⟩
    · rw [if_neg hok] at pi; exact pi.elim
  · right
    have hlt : i < im.xs.length := by omega
    have e0 : im.xs.drop i = im.xs[i] :: im.xs.drop (i + 1) := List.drop_eq_getElem_cons hlt
    rw [e0, forL] at pi
    by_cases hok : im.ok ci.s = true
    case neg => rw [if_neg hok] at pi; exact pi.elim
    rw [if_pos hok] at pi
    obtain ⟨hgo, hy⟩ := (itr ci sti.stq sri hok i).1 _ (List.getElem?_eq_getElem hlt)
    refine ⟨hgo, fun σ' H' => (∃ m', m' < m ∧ (m' = im.xs.length - (i + 1) ∧ i + 1 ≤ im.xs.length ∧ ∃ ci : Cf, ci.σ = σ' ∧ ci.H = H' ∧ Stp (c1.lock im.lks) ci ∧ SR X.K ci ∧ PostS X.K ci (forL im.ok (fun x s2 => (mg x s2).bind fun _ s3 => mb s3) (im.xs.drop (i + 1)) ci.s) (EndR X.K bb D) (QX X W))), fun _ _ z => z, fun v H' hyl => ?_⟩
    obtain ⟨c3, e1, e2, e3, st3, sr3, dr3⟩ := hy v H' hyl
    subst e3
    rw [← e2]
    have pi : PostS X.K ci (((mg im.xs[i] ci.s).bind fun _ s3 => mb s3).bind fun f s1 => (match f with
      | .nx => forL im.ok (fun x s2 => (mg x s2).bind fun _ s3 => mb s3) (im.xs.drop (i + 1)) s1
      | .ct => forL im.ok (fun x s2 => (mg x s2).bind fun _ s3 => mb s3) (im.xs.drop (i + 1)) s1
      | .bk => .ok .nx s1
      | .rt o => .ok (.rt o) s1)) (EndR X.K bb D) (QX X W) := pi
    rw [R.bind_assoc] at pi
    have p3 := PostS.later st3 pi
    rw [← e1] at p3
    refine hg c3 im.xs[i] v _ sr3 dr3 (p3.bind.imp fun _ c4 st4 sr4 p4 _ => ?_)
    have s4 : Stp (c1.lock im.lks) c4 := (sti.trans st3).trans st4
    refine hb bb c4 _ hbb (stL.trans s4) sr4 (p4.bind.imp fun f c5 st5 sr5 p5 => ?_)
    cases f with
    | nx => exact ⟨_, by omega, rfl, by omega, c5, rfl, rfl, s4.trans st5, sr5, p5⟩
    | ct => exact ⟨_, by omega, rfl, by omega, c5, rfl, rfl, s4.trans st5, sr5, p5⟩
    | bk => exact (PostS.ok (a := Fl.nx) (Qn := EndR X.K bb D) (Qx := QX X W) sr5 p5)
    | rt o => exact (PostS.ok (a := Fl.rt o) (Qn := EndR X.K bb D) (Qx := QX X W) sr5 p5)
end
end G

/-! ## EX5 -/
set_option Elab.async false
set_option linter.all false
set_option maxRecDepth 100000
set_option maxHeartbeats 4000000
namespace G
open PySem PySem.Spec PyProof.Rows L2

/-! ### what an except clause hands back: the look -/
def nmB (k : Cc) (i : Nat) (n : Str) : Bool := decide (k.N[i]? = some n) && (decide (k.sc.names.lookup n = some .local) && okN n)
/-- the classes of errors below c are told rightly -/
def erB (g : GI) (c : Str) (subs : List Str) : Bool := g.cls.contains c && g.ers.all fun e => subs.contains e.1 == e.2.2.contains c
mutual
def mtHx (g : GI) (k : Cc) (oi : Option Nat) : Hx → Expr → Bool
  | .cst d, e => (match e with
    | .Constant c _ _ => cstB d c
    | _ => false)
  | .att f, e => (match oi, e with
    | some i, .Attribute (.Name n _) h _ => decide (f = h) && (nmB k i n && g.flds.contains f)
    | _, _ => false)
  | .tup es, e => (match e with
    | .Tuple l _ _ => mtHxs g k oi es l
    | _ => false)
  | .ifi c subs a b, e => (match oi, e with
    | some i, .IfExp (.Call (.Name f _) [.Name n _, .Name z _] [] _) l r _ => decide (f = "isinstance") && (glB k.sc f && (g.fr.contains f && (nmB k i n && (decide (z = c) && (glB k.sc z && (erB g c subs && (mtHx g k oi a l && mtHx g k oi b r)))))))
    | _, _ => false)
def mtHxs (g : GI) (k : Cc) (oi : Option Nat) : Hxs → List Expr → Bool
  | .nil, es => (match es with
    | [] => true
    | _ => false)
  | .cons a as, es => (match es with
    | e :: es => mtHx g k oi a e && (notStar e && mtHxs g k oi as es)
    | [] => false)
end
/-! ### the error that a suite holds -/
structure Hld (K : PySem.W.Frag) (x : Xc) (a : Addr) (d : Option Addr) (oi : Option Nat) (c : Cf) : Prop where
  slot : ∀ i, oi = some i → c.σ[i]? = some (some (.ref a))
  fs : ∃ dd fs, d = some dd ∧ c.H dd = some (.xd fs) ∧ ¬ Foot c dd ∧ fs.map (·.1) = x.fs.map (·.1) ∧ DRs K c.μ c.H (x.fs.map (·.2)) (fs.map (·.2))
theorem Hld.step {K : PySem.W.Frag} {x : Xc} {a : Addr} {d : Option Addr} {oi : Option Nat} {c c' : Cf} (h : Hld K x a d oi c) (st : Stp c c') (vs : Vst c c') : Hld K x a d oi c' := by
  refine ⟨fun i e => by rw [vs.1]; exact h.slot i e, ?_⟩
  obtain ⟨dd, fs, h1, h2, h3, h4, h5⟩ := h.fs
  refine ⟨dd, fs, h1, st.frame _ _ h2 h3, fun f => ?_, h4, st.drs h5⟩
  rcases st.grow _ f with f | f
  · exact h3 f
  · rw [h2] at f; cases f
theorem look_dr {K : PySem.W.Frag} {μ : List Addr} {H : Hp} {f : Str} {d : D} : ∀ {xs : List (Str × D)} {fs : List (Str × V)}, fs.map (·.1) = xs.map (·.1) → DRs K μ H (xs.map (·.2)) (fs.map (·.2)) → xs.lookup f = some d → ∃ v, fs.lookup f = some v ∧ DR K μ H d v
  | [], _, _, _, h => by cases h
  | (n, e) :: xs, [], h, _, _ => by simp at h
  | (n, e) :: xs, (m, v) :: fs, h, r, l => by
    simp only [List.map_cons, List.cons.injEq] at h
    obtain ⟨rfl, h⟩ := h
    simp only [List.map_cons, DRs] at r
    obtain ⟨v', r', er, r1, r2⟩ := r
    cases er
    rw [List.lookup_cons] at l ⊢
    split at l
    · cases l
      exact ⟨v, rfl, r1⟩
    · exact look_dr h r2 l
section
variable {X : Cx} {g : GI} {k : Cc} {a : Addr} {oe : Obj} {pn : List (Addr × Obj)} {x : Xc} {d : Option Addr} {oi : Option Nat} {C : Addr} {e0 : ErD}
/-- what the suite's context gives -/
structure SuF (X : Cx) (g : GI) (k : Cc) (oe : Obj) (x : Xc) (d : Option Addr) (C : Addr) (e0 : ErD) : Prop where
  N : X.N = k.N
  sc : X.env.scope = k.sc
  un : X.A.units + 65 < cLine
  fr : ∀ x, g.fr.contains x = true → X.mg x = none
  mem : e0 ∈ g.ers
  cls : x.cls = e0.1
  mg : X.mg e0.1 = some (.ref C)
  er : ErF X.K X.mg g.flds g.cls e0
  hz : Zc (.ref C) d oe
  hf : ∃ vs, oe.data = .fields vs
theorem SuF.nm (S : SuF X g k oe x d C e0) {i : Nat} {n : Str} (h : nmB k i n = true) : X.N[i]? = some n ∧ Vis X.env.scope n ∧ (n == ("__debug__" : Str)) = false ∧ (n == ("__classdict__" : Str)) = false := by
  unfold nmB okN at h
  simp only [Bool.and_eq_true, decide_eq_true_eq, Bool.not_eq_true'] at h
  rw [S.N, S.sc]
  exact ⟨h.1, .inl h.2.1, h.2.2.1, h.2.2.2⟩
theorem SuF.facts (S : SuF X g k oe x d C e0) : XfC X.K C ∧ PySem.W.XKl X.K C ∧ (∀ f ∈ g.flds, PySem.W.findIn X.K (.ref C) f = some none) ∧
    ∀ c ∈ g.cls, ∃ C2, X.mg c = some (.ref C2) ∧ PySem.W.exmOne X.K (.ref C) (.ref C2) = some (e0.2.2.contains c) ∧ PySem.W.kitOne X.K (.ref C) (.ref C2) = some (e0.2.2.contains c) := by
  obtain ⟨C', h1, h2⟩ := S.er
  rw [S.mg] at h1
  cases h1
  exact h2
/-- e.f -/
theorem h_att (S : SuF X g k oe x d C e0) {i : Nat} {n f : Str} {p p' : Pos} (hn : nmB k i n = true) (hf : g.flds.contains f = true) {c : Cf} {Q : VK} {v : D} (H : Hld X.K x a d (some i) c) (hv : x.fs.lookup f = some v)
    (q : ∀ u, DR X.K c.μ c.H v u → Q u c.H) : WpE (X.suite a ((a, oe) :: pn)) (.Attribute (.Name n p) f p') c.σ c.H Q := by
  obtain ⟨n1, n2, n3, n4⟩ := S.nm hn
  obtain ⟨f1, _, f3, _⟩ := S.facts
  have hno := f3 f (by simpa using hf)
  refine WpE.of (pe_xf (T := f1) hno S.hz S.hf (pe_var (X := X.suite a ((a, oe) :: pn)) n1 n2 n3 n4)) ?_
  obtain ⟨dd, fs, h1, h2, h3, h4, h5⟩ := H.fs
  obtain ⟨u, hu, ru⟩ := look_dr h4 h5 hv
  exact ⟨_, H.slot i rfl, rfl, rfl, dd, fs, u, h1, h2, hu, q u ru⟩
/-- isinstance(e, C) -/
def rIsX (K : PySem.W.Frag) (C a : Addr) (d : Option Addr) : List V → Hp → VK → Prop := fun xs H Q => ∃ (z : V) (C2 : Addr) (b : Bool) (dd : Addr) (fs : List (Str × V)), xs = [.ref a, z] ∧ (∀ u, RelV z u → u = .ref C2) ∧ PySem.W.kitOne K (.ref C) (.ref C2) = some b ∧ d = some dd ∧ H dd = some (.xd fs) ∧ Q (.bl b) H
theorem call_isX (k0 : PySem.W.XKl X.K C) (hz : Zc (.ref C) d oe) (hf : ∃ vs, oe.data = .fields vs) : CallR (X.suite a ((a, oe) :: pn)) (.builtin "isinstance") (rIsX X.K C a d) := by
  intro pins s σ H xs us Q I r h
  obtain ⟨z, C2, b, dd, fs, rfl, hC, e, rfl, hd, q⟩ := h
  match r with
  | .cons rx (.cons rt .nil) =>
    cases rx
    obtain rfl := hC _ rt
    obtain ⟨ha, _⟩ := I.pin (a, oe) (List.mem_append_left _ List.mem_cons_self)
    obtain ⟨vs, hv⟩ := hf
    have ok : ObjOk X.prog X.w H s.heap dd (.xd fs) := I.hok dd _ hd
    obtain ⟨mA, hns, _⟩ := ok
    obtain ⟨od, ho, _⟩ := lookIn_ns hns
    have J : PySem.W.InstAt s.heap a oe C (some od) := ⟨ha, hz.1, by unfold PySem.W.notCls; rw [hv] <;> rfl, by rw [hz.2]; exact ho⟩
    exact PySem.W.kia_one (PySem.W.xk_kit k0) I.kIn ⟨_, J⟩ e (fun z => nomatch z) fun tk => ⟨.bl b, H, I.kept (t' := tk) fun _ _ z => z, rfl, q⟩
theorem SuF.gl (S : SuF X g k oe x d C e0) {y : Str} (h : glB k.sc y = true) : Gl (X.suite a ((a, oe) :: pn)) y ∧ (y == ("__debug__" : Str)) = false := by
  unfold glB at h
  split at h
  · rename_i q
    unfold okN at h
    simp only [Bool.and_eq_true, Bool.not_eq_true'] at h
    exact ⟨by show X.env.kindOf y = _; show X.env.scope.names.lookup y = _; rw [S.sc]; exact q, h.1⟩
  · cases h
mutual
theorem hx_ok (S : SuF X g k oe x d C e0) : ∀ (h : Hx) (e : Expr), mtHx g k oi h e = true → ∀ (c : Cf) (Q : VK) (v : D), SR X.K c → Hld X.K x a d oi c → evHx x h = some v → KV' (X.suite a ((a, oe) :: pn)) c Q (.val v) → WpE (X.suite a ((a, oe) :: pn)) e c.σ c.H Q
  | .cst z, e, h, c, Q, v, sr, H, hv, kv => by
    rw [mtHx.eq_def] at h
    dsimp only at h
    split at h
    · rw [evHx] at hv
      cases hv
      exact j_cst (X := X.suite a ((a, oe) :: pn)) (W := fun _ _ _ _ => False) h c Q sr fun c' e1 st1 sr1 vs1 u ru fu => kv c' u e1 st1 sr1 vs1 ru fu
    · cases h
  | .att f, e, h, c, Q, v, sr, H, hv, kv => by
    rw [mtHx.eq_def] at h
    dsimp only at h
    split at h
    · simp only [Bool.and_eq_true, decide_eq_true_eq] at h
      obtain ⟨rfl, h2, h3⟩ := h
      rw [evHx] at hv
      exact h_att S h2 h3 H hv fun u r => KV'.val (X := X.suite a ((a, oe) :: pn)) sr kv r
    · cases h
  | .tup es, e, h, c, Q, v, sr, H, hv, kv => by
    rw [mtHx.eq_def] at h
    dsimp only at h
    split at h
    · rename_i l kk p
      rw [evHx] at hv
      obtain ⟨ds, h1, h2⟩ := Option.bind_eq_some_iff.mp hv
      split at h2
      · rename_i hl
        cases h2
        refine WpE.of (pe_tup (paW l)) ?_
        refine hxs_ok S es l h c _ ds sr H h1 fun c1 vs e1 st1 sr1 vs1 r => ⟨by rw [r.length]; exact fits_of hl, fun p' n => ?_⟩
        exact KV'.tup (X := X.suite a ((a, oe) :: pn)) sr1 (fun c2 u e2 st2 sr2 vs2 ru fu => kv c2 u (e2.trans e1) (st1.trans st2) sr2 (vs1.trans vs2) ru trivial) r p' n
      · cases h2
    · cases h
  | .ifi cn subs ha hb, e, h, c, Q, v, sr, H, hv, kv => by
    have ra := fun (e' : Expr) h' => hx_ok S ha e' h' c Q v sr H
    have rb := fun (e' : Expr) h' => hx_ok S hb e' h' c Q v sr H
    rw [mtHx.eq_def] at h
    dsimp only at h
    split at h
    · rename_i i f p1 n p2 z p3 p4 l r p5
      simp only [Bool.and_eq_true, decide_eq_true_eq] at h
      obtain ⟨ef, g1, g2, g3, ez, g4, g5, g6, g7⟩ := h
      subst ef ez
      obtain ⟨n1, n2, n3, n4⟩ := S.nm g3
      obtain ⟨f1, f2, f3, f4⟩ := S.facts
      unfold erB at g5
      rw [Bool.and_eq_true] at g5
      obtain ⟨C2, m2, _, q2⟩ := f4 z (by simpa using g5.1)
      have q3 : subs.contains x.cls = e0.2.2.contains z := by
        have := List.all_eq_true.mp g5.2 e0 S.mem
        rw [S.cls]
        exact beq_iff_eq.mp this
      obtain ⟨d1, d2⟩ := S.gl (a := a) (pn := pn) g1
      obtain ⟨d3, d4⟩ := S.gl (a := a) (pn := pn) g4
      have call := pe_callB (X := X.suite a ((a, oe) :: pn)) (p := p1) (pos := p4) (call_isX f2 S.hz S.hf) d1 (S.fr _ g2) boot_isi (pa_cons (pe_var (X := X.suite a ((a, oe) :: pn)) (pos := p2) n1 n2 n3 n4) (pa_cons (pe_glob (X := X.suite a ((a, oe) :: pn)) (v := V.ref C2) (u := Value.ref C2) (pos := p3) d3 m2 rfl d4) pa_nil))
      refine WpE.of (pe_ifExp (pt_val call) (peW l) (peW r)) ?_
      obtain ⟨dd, fs, h1, h2, h3, h5, h6⟩ := H.fs
      refine ⟨.ref a, H.slot i rfl, ?_⟩
      refine ⟨.ref C2, C2, _, dd, fs, rfl, fun u ru => ru, q2, h1, h2, e0.2.2.contains z, rfl, ?_⟩
      rw [evHx, q3] at hv
      split at hv
      · rename_i w
        rw [if_pos w]
        exact ra l g6 hv kv
      · rename_i w
        rw [if_neg w]
        exact rb r g7 hv kv
    · cases h
theorem hxs_ok (S : SuF X g k oe x d C e0) : ∀ (h : Hxs) (es : List Expr), mtHxs g k oi h es = true → ∀ (c : Cf) (Q : List V → Hp → Prop) (ds : List D), SR X.K c → Hld X.K x a d oi c → evHxs x h = some ds →
    (∀ c' vs, c'.s = c.s → Stp c c' → SR X.K c' → Vst c c' → DRs X.K c'.μ c'.H ds vs → Q vs c'.H) → WpA (X.suite a ((a, oe) :: pn)) es c.σ c.H Q
  | .nil, es, h, c, Q, ds, sr, H, hv, q => by
    rw [mtHxs.eq_def] at h
    dsimp only at h
    split at h
    · rw [evHxs] at hv
      cases hv
      exact WpA.of pa_nil (q c [] rfl (Stp.refl c) sr (Vst.refl c) .nil)
    · cases h
  | .cons z zs, es, h, c, Q, ds, sr, H, hv, q => by
    rw [mtHxs.eq_def] at h
    dsimp only at h
    split at h
    · rename_i e es
      simp only [Bool.and_eq_true] at h
      rw [evHxs] at hv
      obtain ⟨d1, h1, hv⟩ := Option.bind_eq_some_iff.mp hv
      obtain ⟨d2, h2, hv⟩ := Option.map_eq_some_iff.mp hv
      subst hv
      refine WpA.of (pa_cons (peW e) (paW es) (star_cons h.2.1)) ?_
      refine hx_ok S z e h.1 c _ d1 sr H h1 fun c1 v e1 st1 sr1 vs1 rv fv => ?_
      have := hxs_ok S zs es h.2.2 c1 (fun vs H' => Q (v :: vs) H') d2 sr1 (H.step st1 vs1) h2 fun c2 us e2 st2 sr2 vs2 r => q c2 (v :: us) (e2.trans e1) (st1.trans st2) sr2 (vs1.trans vs2) (.cons (st2.dr rv) r)
      rw [vs1.1] at this
      exact this
    · cases h
end
end
end G

/-! ## EX6 -/
set_option Elab.async false
set_option linter.all false
set_option maxRecDepth 100000
set_option maxHeartbeats 4000000
namespace G
open PySem PySem.Spec PyProof.Rows L2

/-! ### clauses: the look -/
def mtHb (g : GI) (k : Cc) (oi : Option Nat) : Hb → List Stmt → Bool
  | .ret h, ss => (match ss with
    | [.Return (some e) _] => mtHx g k oi h e
    | _ => false)
  | .ifr _ _ _ _, _ => false
def nmI (k : Cc) : Option Nat → Option Str → Bool
  | none, none => true
  | some i, some n => nmB k i n
  | _, _ => false
def mtHs (g : GI) (k : Cc) : List Hc → List ExceptHandler → Bool
  | [], hs => (match hs with
    | [] => true
    | _ => false)
  | h :: r, hs => (match hs with
    | .ExceptHandler (some (.Name x _)) on (b :: ss) _ :: q => decide (x = h.cls) && (glB k.sc x && (erB g h.cls h.subs && (nmI k h.name on && (mtHb g k h.name h.suite (b :: ss) && mtHs g k r q))))
    | _ => false)
/-! ### another value in a slot that bears nothing -/
structure Sg (c c' : Cf) : Prop where
  μ : c'.μ = c.μ
  ρ : c'.ρ = c.ρ
  s : c'.s = c.s
  H : c'.H = c.H
  len : c'.σ.length = c.σ.length
  at_ : ∀ j : Nat, c.s.v[j]? = some Slot.no ∨ c'.σ[j]? = c.σ[j]?
theorem Sg.symm {c c' : Cf} (h : Sg c c') : Sg c' c := ⟨h.μ.symm, h.ρ.symm, h.s.symm, h.H.symm, h.len.symm, fun j => by
  rw [h.s]
  exact (h.at_ j).imp id Eq.symm⟩
theorem Sg.own {c c' : Cf} (h : Sg c c') {i : Nat} {a : Addr} (o : OwnAt c' i a) : OwnAt c i a := by
  obtain ⟨⟨xs, e⟩, q⟩ := o
  rw [h.s] at e
  refine ⟨⟨xs, e⟩, ?_⟩
  rcases h.at_ i with z | z
  · rw [z] at e; cases e
  · rw [← z]; exact q
theorem Sg.foot {c c' : Cf} (h : Sg c c') {b : Addr} (f : Foot c' b) : Foot c b := by
  rcases f with f | ⟨i, f⟩
  · exact .inl (by rw [← h.μ]; exact f)
  · exact .inr ⟨i, h.own f⟩
theorem Sg.sr {K : PySem.W.Frag} {c c' : Cf} (h : Sg c c') (sr : SR K c) : SR K c' where
  len := by rw [h.s, h.len]; exact sr.len
  mlen := by rw [h.s, h.μ]; exact sr.mlen
  nd := by rw [h.μ]; exact sr.nd
  cell := fun n cl a e1 e2 => by
    rw [h.s] at e1
    rw [h.μ] at e2
    have := sr.cell n cl a e1 e2
    rw [h.μ, h.H]
    exact this
  slot := fun i x e => by
    rw [h.s] at e
    have q := sr.slot i x e
    rcases h.at_ i with z | z
    · rw [z] at e; cases e; trivial
    · rw [z]
      cases x with
      | no => trivial
      | val d => obtain ⟨v, e1, r⟩ := q; exact ⟨v, e1, by rw [h.μ, h.H]; exact r⟩
      | own xs => obtain ⟨a, vs, e1, e2, r⟩ := q; exact ⟨a, vs, e1, by rw [h.H]; exact e2, by rw [h.μ, h.H]; exact r⟩
      | ro xs =>
        obtain ⟨a, vs, e1, r, q⟩ := q
        exact ⟨a, vs, e1, by rw [h.μ, h.H]; exact r, by rw [h.ρ, h.H]; exact q⟩
  ownd := fun i j a h1 h2 => sr.ownd i j a (h.own h1) (h.own h2)
  ownm := fun i a h1 => by rw [h.μ]; exact sr.ownm i a (h.own h1)
  rho := fun b q => by
    rw [h.ρ] at q
    obtain ⟨e, nf⟩ := sr.rho b q
    exact ⟨by rw [h.H]; exact e, fun f => nf (h.foot f)⟩
/-- a step with another value there -/
theorem Sg.stp {c c1 c2 c3 : Cf} (h : Sg c c1) (st : Stp c1 c2) (h2 : Sg c2 c3) : Stp c c3 where
  pre := by rw [h2.μ, ← h.μ]; exact st.pre
  rh := by rw [h2.ρ, ← h.ρ]; exact st.rh
  frame := fun b o e nf => by
    rw [h2.H]
    exact st.frame b o (by rw [h.H]; exact e) fun f => nf (h.foot f)
  grow := fun b f => by
    rcases st.grow b (h2.foot f) with z | z
    · exact .inl (h.foot z)
    · exact .inr (by rw [← h.H]; exact z)
  trk := fun b o e => by
    rw [h2.H]
    exact st.trk b o (by rw [h.H]; exact e)
  tup := fun a vs r => by
    rw [h2.H]
    exact st.tup a vs (by rw [h.H]; exact r)
  ros := fun i xs e => by
    rw [h2.s] at e
    obtain ⟨e1, e2⟩ := st.ros i xs e
    rw [h.s] at e1
    refine ⟨e1, ?_⟩
    rcases h2.at_ i with z | z
    · rw [e] at z; cases z
    · rcases h.at_ i with y | y
      · rw [e1] at y; cases y
      · rw [z, e2, y]
  ron := fun i xs e => by
    rw [h2.s]
    exact st.ron i xs (by rw [h.s]; exact e)
theorem sg_set {c : Cf} {i : Nat} {v : Option V} (h : c.s.v[i]? = some Slot.no) : Sg c { c with σ := c.σ.set i v } := by
  refine ⟨rfl, rfl, rfl, rfl, by simp, fun j => ?_⟩
  by_cases e : i = j
  · subst e; exact .inl h
  · exact .inr (List.getElem?_set_ne e)
theorem sg_refl (c : Cf) : Sg c c := ⟨rfl, rfl, rfl, rfl, rfl, fun _ => .inr rfl⟩
section
variable {X : Cx} {W : WX} {g : GI} {k : Cc} {n : Nat}
/-- the suite -/
theorem hb_ok {a : Addr} {oe : Obj} {pn : List (Addr × Obj)} {x : Xc} {d : Option Addr} {oi : Option Nat} {C : Addr} {e0 : ErD} (S : SuF X g k oe x d C e0) {h : Hb} {ss : List Stmt} (hm : mtHb g k oi h ss = true) {c : Cf} {R : V → Hp → Prop} {v : D} (sr : SR X.K c) (H : Hld X.K x a d oi c)
    (hv : evHb x h = some v) (q : ∀ c' u, c'.s = c.s → Stp c c' → SR X.K c' → Vst c c' → DR X.K c'.μ c'.H v u → R u c'.H) : WpSs (X.suite a ((a, oe) :: pn)) ss { nx := fun _ _ => False, rt := R } c.σ c.H := by
  cases h with
  | ret h =>
    rw [mtHb.eq_def] at hm
    dsimp only at hm
    split at hm
    · refine WpSs.of (pss_one (ps_ret (peW _))) ?_
      exact hx_ok S h _ hm c R v sr H hv fun c' u e st sr' vs ru fu => q c' u e st sr' vs ru
    · cases hm
  | ifr a b c d => unfold mtHb at hm; cases hm
/-- the clauses -/
def clH (mg : Str → Option Value) (hs : List (Hc × List Stmt)) (X : Cx) : List Cl := hs.map fun p => ((mg p.1.cls).getD .none, p.1.name, fun a cls d D σ H => ∀ oe pn, Zc cls d oe → (∃ vs, oe.data = .fields vs) → WpSs (X.suite a ((a, oe) :: pn)) p.2 D σ H)
theorem hs_cls (N : X.N = k.N) (sc : X.env.scope = k.sc) (hmg : ∀ c ∈ g.cls, ∃ C2, X.mg c = some (.ref C2)) : ∀ (hs : List Hc) (es : List ExceptHandler), mtHs g k hs es = true →
    ∃ bs : List (List Stmt), bs.length = hs.length ∧ ClsOk X es (clH X.mg (hs.zip bs) X) ∧ ∀ p ∈ hs.zip bs, erB g p.1.cls p.1.subs = true ∧ mtHb g k p.1.name p.1.suite p.2 = true
  | [], es, h => by
    rw [mtHs.eq_def] at h
    dsimp only at h
    split at h
    · exact ⟨[], rfl, .nil, fun p hp => absurd hp List.not_mem_nil⟩
    · cases h
  | h :: r, es, hm => by
    have ih := fun q hq => hs_cls N sc hmg r q hq
    rw [mtHs.eq_def] at hm
    dsimp only at hm
    split at hm
    · rename_i x np on b ss pp q
      simp only [Bool.and_eq_true, decide_eq_true_eq] at hm
      obtain ⟨e1, e2, e3, e4, e5, e6⟩ := hm
      obtain ⟨bs, l1, l2, l3⟩ := ih q e6
      refine ⟨(b :: ss) :: bs, by simp [l1], ?_, fun p hp => ?_⟩
      · have hc : g.cls.contains h.cls = true := by unfold erB at e3; rw [Bool.and_eq_true] at e3; exact e3.1
        obtain ⟨C2, m2⟩ := hmg h.cls (by simpa using hc)
        subst e1
        have hgl : Gl X h.cls ∧ (h.cls == ("__debug__" : Str)) = false := by
          unfold glB at e2
          split at e2
          · rename_i w
            unfold okN at e2
            simp only [Bool.and_eq_true, Bool.not_eq_true'] at e2
            exact ⟨by show X.env.scope.names.lookup h.cls = _; rw [sc]; exact w, e2.1⟩
          · cases e2
        refine ClsOk.cons ⟨hgl.1, hgl.2, .inl (by rw [m2]; rfl)⟩ ?_ (fun a oe cls d pn hz hf => ⟨fun pins s σ H D I q => q oe pn hz hf pins s I⟩) l2
        unfold nmI at e4
        split at e4
        · rename_i heq
          rw [heq]
          trivial
        · rename_i i n heq
          unfold nmB at e4
          simp only [Bool.and_eq_true, decide_eq_true_eq] at e4
          rw [heq]
          refine ⟨by rw [N]; exact e4.1, ?_⟩
          show X.env.scope.names.lookup n = _
          rw [sc]; exact e4.2.1
        · cases e4
      · rcases List.mem_cons.mp hp with rfl | hp
        · exact ⟨e3, e5⟩
        · exact l3 p hp
    · cases hm
end
end G

/-! ## EX7 -/
set_option Elab.async false
set_option linter.all false
set_option maxRecDepth 100000
set_option maxHeartbeats 4000000
namespace G
open PySem PySem.Spec PyProof.Rows L2
section
variable {X : Cx} {W : WX} {g : GI} {k : Cc} {n : Nat}
/-! ### the clauses do what the term says -/
theorem hs_ok (K : Ck X W k g n) {x : Xc} {e0 : ErD} {C : Addr} {d : Option Addr} (mem : e0 ∈ g.ers) (hx : x.cls = e0.1) (mg : X.mg e0.1 = some (.ref C)) {b : Cf} {D : Ends} : ∀ (hs : List Hc) (bs : List (List Stmt)), bs.length = hs.length →
    (∀ p ∈ hs.zip bs, erB g p.1.cls p.1.subs = true ∧ mtHb g k p.1.name p.1.suite p.2 = true) → ∀ (c : Cf), SR X.K c → XR X.K (cnX X) c x (.ref C) d → x.fs ≠ [] → PostS X.K c (evHs x hs c.s) (EndR X.K b D) (QX X W) →
    wG X.K W D (clH X.mg (hs.zip bs) X) (.ref C) d c.σ c.H
  | [], _, _, _, c, sr, xr, ne, p => by
    rw [evHs] at p
    exact p c rfl (Stp.refl c) sr _ _ xr
  | h :: r, [], hl, _, _, _, _, _, _ => by cases hl
  | h :: r, ss :: bs, hl, hp, c, sr, xr, ne, p => by
    obtain ⟨h1, h2⟩ := hp (h, ss) List.mem_cons_self
    have ih := hs_ok (b := b) (D := D) K mem hx mg r bs (by simpa using hl) (fun q hq => hp q (List.mem_cons_of_mem _ hq)) c sr xr ne
    have er := K.ers e0 mem
    obtain ⟨C', m0, f1, f2, f3, f4⟩ := id er
    rw [mg] at m0
    cases m0
    have h1' := h1
    unfold erB at h1'
    rw [Bool.and_eq_true] at h1'
    obtain ⟨C2, m2, q1, q2⟩ := f4 h.cls (by simpa using h1'.1)
    have q3 : h.subs.contains x.cls = e0.2.2.contains h.cls := by
      have := List.all_eq_true.mp h1'.2 e0 mem
      rw [hx]
      exact beq_iff_eq.mp this
    have hv : (X.mg h.cls).getD .none = .ref C2 := by rw [m2]; rfl
    rw [evHs] at p
    rw [← q3] at q1
    show wG X.K W D (((X.mg h.cls).getD .none, h.name, _) :: _) _ _ _ _
    rw [hv]
    cases hc : h.subs.contains x.cls with
    | false =>
      rw [hc] at p q1
      rw [if_neg Bool.false_ne_true] at p
      exact .inr ⟨q1, ih p⟩
    | true =>
      rw [hc] at p q1
      rw [if_pos rfl] at p
      refine .inl ⟨q1, fun a ha oe pn hz hf => ?_⟩
      split at p
      · rename_i hfree
        split at p
        · rename_i v hev
          have S : SuF X g k oe x d C e0 := ⟨K.N, K.sc, K.un, K.fr, mem, hx, mg, er, hz, hf⟩
          have sg : Sg c { c with σ := stI c.σ a h.name } := by
            unfold freeS at hfree
            split at hfree
            · rename_i e; rw [e]; exact sg_refl c
            · rename_i i e
              rw [e]
              split at hfree
              · rename_i e2; exact sg_set e2
              · cases hfree
          have ilt : ∀ i, h.name = some i → i < c.σ.length := fun i e => by
            unfold freeS at hfree
            rw [e] at hfree
            dsimp only at hfree
            split at hfree
            · rename_i e2
              rw [← sr.len]
              exact (List.getElem?_eq_some_iff.mp e2).1
            · cases hfree
          have hld : Hld X.K x a d h.name { c with σ := stI c.σ a h.name } := by
            refine ⟨fun i e => ?_, ?_⟩
            · show (stI c.σ a h.name)[i]? = _
              rw [e]
              exact List.getElem?_set_self (ilt i e)
            · obtain ⟨C3, fs, _, _, z⟩ := xr
              rcases z with z | ⟨dd, z1, z2, z3, z4, z5⟩
              · exact absurd z ne
              · exact ⟨dd, fs, z1, z2, fun f => z3 (sg.foot f), z4, z5⟩
          refine hb_ok S h2 (c := { c with σ := stI c.σ a h.name }) (R := D.rt) (sg.sr sr) hld hev fun c' u e st sr' vs ru => ?_
          have sg3 : Sg c' { c' with σ := c.σ } := by
            refine ⟨rfl, rfl, rfl, rfl, ?_, fun j => ?_⟩
            · show c.σ.length = c'.σ.length
              rw [vs.1]
              exact sg.len.symm
            · rw [e]
              rcases sg.at_ j with z | z
              · exact .inl z
              · refine .inr ?_
                show c.σ[j]? = c'.σ[j]?
                rw [vs.1]
                exact z.symm
          exact p { c' with σ := c.σ } e (sg.stp st sg3) (sg3.sr sr') u ru
        · exact p.elim
      · exact p.elim
theorem wpa_mono {es : List Expr} (σ : L2.St) (H : Hp) (Q1 Q2 : List V → Hp → Prop) (h : WpA X es σ H Q1) (q : ∀ us H1, Q1 us H1 → Q2 us H1) : WpA X es σ H Q2 := fun pos pins s I =>
  wpAny_mono (h pos pins s I) (fun us s' ⟨vs, H1, I1, r, z⟩ => ⟨vs, H1, I1, r, q _ _ z⟩) fun _ _ z => z
/-- raise C(e, ..) -/
theorem j_rai (K : Ck X W k g n) {e0 : ErD} {e : Expr} {es : List Expr} {p pos pos2 : Pos} {m : S → R (List D)} (mem : e0 ∈ g.ers) (hg : glB k.sc e0.1 = true) (hs : (e :: es).all notStar = true) (h : JEs X W m (e :: es)) (hne : e0.2.1 ≠ []) :
    JS X W (fun s => (m s).bind fun ds s1 => if ds.length = e0.2.1.length then .exc ⟨e0.1, (e0.2.1.zip ds).reverse⟩ s1 else .bad) (.Raise (some (.Call (.Name e0.1 p) (e :: es) [] pos)) none pos2) := by
  intro b c D hb stb sr pp
  obtain ⟨C, fI, fd, ps, mg, T, iC, tI, F1, hbn, hl⟩ := K.rai e0 mem
  obtain ⟨g1, g2⟩ := K.gl' hg
  rw [List.all_cons, Bool.and_eq_true] at hs
  refine WpS.of (ps_raise K.calm K.tk (pmk_sx T iC tI F1 (K.room.mono (by omega)) hbn passN g1 mg hl (paW (e :: es)) wpa_mono g2 (star_cons hs.1) (plain_of hs.2))) ?_
  refine h c _ sr (pp.bindE.imp fun ds c1 st1 sr1 vs1 p1 vs r => ?_)
  split at p1
  · rename_i hlen
    refine ⟨by rw [r.length]; exact hlen, fun dd hd => ?_⟩
    have q := p1 (c1.lay dd (.xd (e0.2.1.zip vs).reverse)) rfl (Stp.laid hd) (sr1.laid hd) (.ref C) (some dd)
    rw [← vs1.1]
    have hvl : vs.length = e0.2.1.length := r.length.trans hlen
    have z1 : (e0.2.1.zip vs).map (·.1) = e0.2.1 := List.map_fst_zip (by omega)
    have z2 : (e0.2.1.zip ds).map (·.1) = e0.2.1 := List.map_fst_zip (by omega)
    have z3 : (e0.2.1.zip vs).map (·.2) = vs := List.map_snd_zip (by omega)
    have z4 : (e0.2.1.zip ds).map (·.2) = ds := List.map_snd_zip (by omega)
    refine q ⟨C, (e0.2.1.zip vs).reverse, by show cnM X.mg e0.1 = _; unfold cnM; rw [mg], rfl, .inr ⟨dd, rfl, upd_same, fun f => (sr1.fresh hd).1 f, ?_, ?_⟩⟩
    · rw [List.map_reverse, List.map_reverse, z1, z2]
    · rw [List.map_reverse, List.map_reverse, z3, z4]
      exact ((Stp.laid hd).drs r).reverse
  · exact p1.elim
/-- try: .. except .. -/
theorem j_try (K : Ck X W k g n) (stk : X.stack = X.env :: X.outer) (frm : X.env.frame = some X.env.locals) {hs : List Hc} {es : List ExceptHandler} {kn : List Str} {body : List Stmt} {pos : Pos} {m : S → R Fl} (hh : mtHs g k hs es = true) (hk : kn.all (fun y => g.ers.any fun e => decide (e.1 = y)) = true) (hne : es ≠ [])
    (h : ∀ (W' : WX) (pn : List (Addr × Obj)) (xe : Value → Shared → Prop), Takes (X.tr pn xe) W' → PassesOwn (model X.prog X.w) X.A X.env xe → JSs (X.tr pn xe) W' m body)
    (hmg : ∀ c ∈ g.cls, ∃ C2, X.mg c = some (.ref C2)) :
    JS X W (fun s => match m s with
      | .exc x s1 => if kn.contains x.cls && !x.fs.isEmpty then evHs x hs s1 else .bad
      | r => r) (.Try body es [] [] pos) := by
  intro b c D hb stb sr p
  obtain ⟨bs, hl, hc, hp⟩ := hs_cls K.N K.sc hmg hs es hh
  cases es with
  | nil => exact absurd rfl hne
  | cons h0 hds =>
    refine WpS.of (ps_try_g stk frm (by rw [K.N]; exact K.nd) K.tk (tb := fun W' D σ H => ∀ pn xe, Takes (X.tr pn xe) W' → PassesOwn (model X.prog X.w) X.A X.env xe → WpSs (X.tr pn xe) body D σ H)
      (fun W' pn xe tk po => ⟨fun pins s σ H D I q => q pn xe tk po pins s I⟩) hc) ?_
    intro pn xe tk po
    refine h _ pn xe tk po b c D hb stb sr ?_
    dsimp only at p
    cases z : m c.s with
    | bad => rw [z] at p; exact p.elim
    | ok f s1 => rw [z] at p; exact p
    | exc x s1 =>
      rw [z] at p
      have p : PostS X.K c (if (kn.contains x.cls && !x.fs.isEmpty) = true then evHs x hs s1 else .bad) (EndR X.K b D) (QX X W) := p
      split at p
      · rename_i hkx
        rw [Bool.and_eq_true] at hkx
        intro c' e st sr' cls d xr
        subst e
        have hm := List.all_eq_true.mp hk x.cls (by simpa using hkx.1)
        obtain ⟨e0, mem, q0⟩ := List.any_eq_true.mp hm
        have q0 : e0.1 = x.cls := of_decide_eq_true q0
        obtain ⟨C, fs, cn, rfl, z⟩ := id xr
        have mg : X.mg e0.1 = some (.ref C) := by
          rw [q0]
          have cn : cnM X.mg x.cls = some C := cn
          unfold cnM at cn
          split at cn
          · rename_i w; cases cn; exact w
          · cases cn
        have ne : x.fs ≠ [] := by
          intro w
          rw [w] at hkx
          exact absurd hkx.2 (by simp)
        exact hs_ok K mem q0.symm mg hs bs hl hp c' sr' xr ne (PostS.later st p)
      · exact p.elim
end
end G

/-! ## GS17 -/
set_option Elab.async false
set_option linter.all false
set_option maxRecDepth 100000
set_option maxHeartbeats 4000000
namespace G
open PySem PySem.Spec PyProof.Rows L2

/-! ### the look at statements -/
def locN (k : Cc) (x : Str) : Bool := k.sc.names.lookup x == some .local
def kfn (k : Cc) : Str → Option NameKind := fun x => k.sc.names.lookup x
def fnB (k : Cc) : Bool := match k.sc.kind with
  | .function => true
  | _ => false
/-- name = [.. for ..] on one line, the name a local -/
def swapB (k : Cc) (y : Str) (py : Pos) (v : Expr) : Bool := match v with
  | .ListComp _ [⟨_, _, _, 0⟩] scope pos => (py.line == pos.line) && !(scope.names.any fun (n, k) => n == y && (k == .local || k == .cell))
  | _ => false
def plainT (k : Cc) (t v : Expr) : Bool := fnB k && (notStar t && (notComp v && decide (swS (kfn k) t v = some none)))
/-- an error's class with these fields -/
def erK (g : GI) (c : Str) (ns : List Str) : Bool := !ns.isEmpty && g.ers.any fun e => decide (e.1 = c) && decide (e.2.1 = ns)
mutual
def mtS (g : GI) (k : Cc) : Stm → Stmt → Bool
  | .ex e, st => (match st with
    | .Expr v _ => notComp v && mtX g k e v
    | _ => false)
  | .asg t e, st => (match st with
    | .Assign [tg] v _ => (plainT k tg v && (mtG g k t tg && mtX g k e v)) || (match t, tg with
      | .name i, .Name y py => fnB k && (decide (k.N[i]? = some y) && (locN k y && (swapB k y py v && mtX g k e v)))
      | _, _ => false)
    | _ => false)
  | .own i e, st => (match st with
    | .Assign [.Name y py] v _ => (plainT k (.Name y py) v && (storeB k i y && mtX g k e v)) || (fnB k && (decide (k.N[i]? = some y) && (locN k y && (swapB k y py v && mtX g k e v))))
    | _ => false)
  | .par2 i j a b, st => (match st with
    | .Assign [.Tuple [.Name x px, .Name y py] kt pt] (.Tuple [l, r] k2 p2) _ => fnB k && (decide (k.N[i]? = some x) && (decide (k.N[j]? = some y) && (decide (i ≠ j) && (locN k x && (locN k y && (notStar l && (notStar r && (mtX g k a l && (mtX g k b r &&
        decide (swS (kfn k) (.Tuple [.Name x px, .Name y py] kt pt) (.Tuple [l, r] k2 p2) = some (some [x, y])))))))))))
    | _ => false)
  | .par3 i j h a b e, st => (match st with
    | .Assign [.Tuple [.Name x px, .Name y py, .Name z pz] kt pt] (.Tuple [l, r, q] k2 p2) _ => fnB k && (decide (k.N[i]? = some x) && (decide (k.N[j]? = some y) && (decide (k.N[h]? = some z) && (decide (i ≠ j) && (decide (i ≠ h) && (decide (j ≠ h) &&
        (locN k x && (locN k y && (locN k z && (notStar l && (notStar r && (notStar q && (mtX g k a l && (mtX g k b r && (mtX g k e q &&
        decide (swS (kfn k) (.Tuple [.Name x px, .Name y py, .Name z pz] kt pt) (.Tuple [l, r, q] k2 p2) = some (some [x, y, z])))))))))))))))))
    | _ => false)
  | .aug _ _ _, _ => false
  | .ret e, st => (match st with
    | .Return (some v) _ => mtX g k e v
    | _ => false)
  | .retN, st => (match st with
    | .Return none _ => true
    | _ => false)
  | .ite t a b, st => (match st with
    | .If c p q _ => mtT g k t c && (mtSs g k a p && mtSs g k b q)
    | _ => false)
  | .whl t b, st => (match st with
    | .While c p [] _ => mtT g k t c && mtSs g k b p
    | _ => false)
  | .fors t it b, st => (match st with
    | .For tg i p [] _ => mtG g k t tg && (mtI g k it tg i && (mtSs g k b p && notSet i))
    | _ => false)
  | .pass, st => (match st with
    | .Pass _ => true
    | .Expr (.Constant (.str _) _ _) _ => true
    | _ => false)
  | .brk, st => (match st with
    | .Break _ => true
    | _ => false)
  | .cnt, st => (match st with
    | .Continue _ => true
    | _ => false)
  | .rai c ns es, st => (match st with
    | .Raise (some (.Call (.Name f _) (e :: l) [] _)) none _ => decide (f = c) && (glB k.sc f && (erK g c ns && (mtXs g k es (e :: l) && (e :: l).all notStar)))
    | _ => false)
  | .trx b kn hs, st => (match st with
    | .Try p (h :: q) [] [] _ => mtSs g k b p && (mtHs g k hs (h :: q) && kn.all (fun y => g.ers.any fun e => decide (e.1 = y)))
    | _ => false)
def mtSs (g : GI) (k : Cc) : Stms → List Stmt → Bool
  | .nil, ss => (match ss with
    | [] => true
    | _ => false)
  | .cons a as, ss => (match ss with
    | s :: ss => mtS g k a s && mtSs g k as ss
    | [] => false)
end
structure CkS (X : Cx) (W : WX) (k : Cc) (g : GI) (n : Nat) : Prop extends Ck X W k g n where
  po : PassesOwn (model X.prog X.w) X.A X.env X.xe
  stk : X.stack = X.env :: X.outer
  frm : X.env.frame = some X.env.locals
  cmg : ∀ c ∈ g.cls, ∃ C2, X.mg c = some (.ref C2)
section
variable {X : Cx} {W : WX} {k : Cc} {g : GI} {n : Nat}
theorem CkS.fnk (K : CkS X W k g n) (h : fnB k = true) : X.env.scope.kind = .function := by
  rw [K.sc]
  unfold fnB at h
  split at h
  · assumption
  · cases h
theorem CkS.sws (K : CkS X W k g n) {t e : Expr} {r : Option (List Str)} (hf : fnB k = true) (h : swS (kfn k) t e = some r) : swappedStores [t] e X.env = pure r := by
  refine swS_ok (K.fnk hf) ?_
  have : X.env.kindOf = kfn k := by
    funext x
    show X.env.scope.names.lookup x = _
    rw [K.sc]; rfl
  rw [this]; exact h
theorem CkS.loc (K : CkS X W k g n) {x : Str} (h : locN k x = true) : X.env.scope.names.lookup x = some .local := by
  rw [K.sc]
  exact beq_iff_eq.mp h
theorem plain_asg (K : CkS X W k g n) {tg v : Expr} {pos : Pos} {te : TE} {gt : TG} (h : plainT k tg v = true) (he : PE X v te) (hg : PG X tg gt) : PS X (.Assign [tg] v pos) (tAsg te gt) := by
  unfold plainT at h
  simp only [Bool.and_eq_true, decide_eq_true_eq] at h
  obtain ⟨h1, h2, h3, h4⟩ := h
  exact ps_asg he hg (noSwap h3) (K.sws h1 h4) (assign_cons h2)
/-- the name of a comprehension -/
theorem swap_asg (K : CkS X W k g n) {i : Nat} {y : Str} {py pos : Pos} {v : Expr} {e : Ex} (hf : fnB k = true) (hN : k.N[i]? = some y) (hl : locN k y = true) (hs : swapB k y py v = true) (he : mtX g k e v = true) :
    ∃ te : TE, PS X (.Assign [.Name y py] v pos) (tAsg te (gName i)) ∧ ∀ c Q, SR X.K c → Post X.K c (evX (cnOf g n) e c.s) (fun x c' => ∀ v, SVR X.K c' x v → Fresh c.H x v → Q v c'.H) (QX X W) → te c.σ c.H Q := by
  unfold swapB at hs
  split at hs
  · rename_i elt t it fs scope vp
    rw [Bool.and_eq_true] at hs
    cases e with
    | comp elt' tg' it' ifs' own' =>
      rw [mtX] at he
      simp only [Bool.and_eq_true, decide_eq_true_eq] at he
      obtain ⟨h1, h2, h3, h4, h5, h6, h7, h8⟩ := he
      have ok := blkOk_by h2
      rw [← K.N, ← K.sc] at ok
      obtain ⟨te, pt, ht, hst⟩ := j_comp (pos := vp) (own := own') (l := tgN tg') K.calm (by rw [K.N]; exact K.nd) (sI it' K.toCk _ _ h1) ok h3 (fun i hi => by
          have := List.all_eq_true.mp h4 i hi
          simpa using this)
        (fun s H C cl fp => sG tg' (K.toCk.blk s H C cl fp) _ h5) (fun s H C cl fp => sF ifs' (K.toCk.blk s H C cl fp) _ h6) (fun s H C cl fp => sX elt' (K.toCk.blk s H C cl fp) _ h7) (notSet_fold h8)
      refine ⟨te, hst i y py pos (by rw [K.N]; exact hN) (K.loc hl) (sw_true (K.fnk hf) (K.loc hl) hs.1 ?_), fun c Q sr p => ?_⟩
      · have := hs.2
        simpa using this
      · rw [evX] at p
        exact ht c Q sr p
    | _ => simp only [mtX] at he; cases he
  · cases hs
end
theorem sS_asg {g : GI} {k : Cc} {t : Tg} {e : Ex} {st : Stmt} (h : mtS g k (.asg t e) st = true) : (∃ tg v pos, st = .Assign [tg] v pos ∧ plainT k tg v = true ∧ mtG g k t tg = true ∧ mtX g k e v = true) ∨
    ∃ i y py v pos, st = .Assign [.Name y py] v pos ∧ t = .name i ∧ fnB k = true ∧ k.N[i]? = some y ∧ locN k y = true ∧ swapB k y py v = true ∧ mtX g k e v = true := by
  rw [mtS.eq_def] at h
  dsimp only at h
  split at h
  · rw [Bool.or_eq_true] at h
    rcases h with h | h
    · simp only [Bool.and_eq_true] at h
      exact .inl ⟨_, _, _, rfl, h.1, h.2.1, h.2.2⟩
    · split at h
      · simp only [Bool.and_eq_true, decide_eq_true_eq] at h
        obtain ⟨h1, h2, h3, h4, h5⟩ := h
        exact .inr ⟨_, _, _, _, _, rfl, rfl, h1, h2, h3, h4, h5⟩
      · cases h
  · cases h
theorem sS_own {g : GI} {k : Cc} {i : Nat} {e : Ex} {st : Stmt} (h : mtS g k (.own i e) st = true) : ∃ y py v pos, st = .Assign [.Name y py] v pos ∧ mtX g k e v = true ∧ ((plainT k (.Name y py) v = true ∧ storeB k i y = true) ∨ (fnB k = true ∧ k.N[i]? = some y ∧ locN k y = true ∧ swapB k y py v = true)) := by
  rw [mtS.eq_def] at h
  dsimp only at h
  split at h
  · rw [Bool.or_eq_true] at h
    rcases h with h | h
    · simp only [Bool.and_eq_true] at h
      exact ⟨_, _, _, _, rfl, h.2.2, .inl ⟨h.1, h.2.1⟩⟩
    · simp only [Bool.and_eq_true, decide_eq_true_eq] at h
      obtain ⟨h1, h2, h3, h4, h5⟩ := h
      exact ⟨_, _, _, _, rfl, h5, .inr ⟨h1, h2, h3, h4⟩⟩
  · cases h
mutual
theorem sS {g : GI} {n : Nat} : ∀ (a : Stm) {X : Cx} {W : WX} {k : Cc} (K : CkS X W k g n) (st : Stmt), mtS g k a st = true → JS X W (evS (cnOf g n) a) st
  | .ex e, X, W, k, K, st, h => by
    rw [mtS.eq_def] at h
    dsimp only at h
    split at h
    · rw [Bool.and_eq_true] at h
      intro b c D hb stb sr p; rw [evS] at p; exact j_ex h.1 (sX e K.toCk _ h.2) b c D hb stb sr p
    · cases h
  | .asg t e, X, W, k, K, st, h => by
    rcases sS_asg h with ⟨tg, v, pos, rfl, h1, h2, h3⟩ | ⟨i, y, py, v, pos, rfl, rfl, h1, h2, h3, h4, h5⟩
    · intro b c D hb stb sr p; rw [evS] at p
      exact j_asg0 (tg := tg) (e := v) (l := tgN t) (plain_asg K h1 (peW v) (pgW tg)) (sX e K.toCk _ h3) (fun c d v Q sr r q => sG t K.toCk _ h2 c d v Q sr r q) b c D hb stb sr p
    · obtain ⟨te, h6, h7⟩ := swap_asg (W := W) (n := n) (pos := pos) K h1 h2 h3 h4 h5
      intro b c D hb stb sr p; rw [evS] at p
      refine j_asg0 (tg := .Name y py) (e := v) (l := [i]) (mg := fun d s => setName i (.val d) s) h6 h7 (fun c d v Q sr r q => ?_) b c D hb stb sr (by simp only [evG] at p; exact p)
      obtain ⟨c', e1, e2, _, st, sr', ch, q⟩ := setName_ok (v := v) sr (.inl ⟨d, rfl, r⟩) c (Stp.refl c) (fun _ _ e => by cases e) q
      have q := q ch
      rw [e1, e2] at q
      exact q
  | .own i e, X, W, k, K, st, h => by
    obtain ⟨y, py, v, pos, rfl, h1, h2⟩ := sS_own h
    intro b c D hb stb sr p; rw [evS] at p
    rcases h2 with ⟨h2, h3⟩ | ⟨h2, h3, h4, h5⟩
    · obtain ⟨s1, s2, s3⟩ := K.toCk.store h3
      exact j_own0 (plain_asg K h2 (peW v) (pg_name (by rw [K.N]; exact K.nd) s1 s2 s3)) (sX e K.toCk _ h1) b c D hb stb sr p
    · obtain ⟨te, h6, h7⟩ := swap_asg (W := W) (n := n) (pos := pos) K h2 h3 h4 h5 h1
      exact j_own0 h6 h7 b c D hb stb sr p
  | .par2 i j a b, X, W, k, K, st, h => by
    rw [mtS.eq_def] at h
    dsimp only at h
    split at h
    · simp only [Bool.and_eq_true, decide_eq_true_eq] at h
      obtain ⟨h1, h2, h3, h4, h5, h6, h7, h8, h9, h10, h11⟩ := h
      intro bb c D hb stb sr p; rw [evS] at p
      exact j_par2 K.calm (by rw [K.N]; exact K.nd) (by rw [K.N]; exact h2) (by rw [K.N]; exact h3) h4 (K.loc h5) (K.loc h6) h7 h8 (K.sws h1 h11) (sX a K.toCk _ h9) (sX b K.toCk _ h10) bb c D hb stb sr p
    · cases h
  | .par3 i j l a b e, X, W, k, K, st, h => by
    rw [mtS.eq_def] at h
    dsimp only at h
    split at h
    · simp only [Bool.and_eq_true, decide_eq_true_eq] at h
      obtain ⟨h1, h2, h3, h4, h5, h6, h7, h8, h9, h10, h11, h12, h13, h14, h15, h16, h17⟩ := h
      intro bb c D hb stb sr p; rw [evS] at p
      exact j_par3 K.calm (by rw [K.N]; exact K.nd) (by rw [K.N]; exact h2) (by rw [K.N]; exact h3) (by rw [K.N]; exact h4) h5 h6 h7 (K.loc h8) (K.loc h9) (K.loc h10) h11 h12 h13 (K.sws h1 h17) (sX a K.toCk _ h14) (sX b K.toCk _ h15) (sX e K.toCk _ h16) bb c D hb stb sr p
    · cases h
  | .aug i op e, X, W, k, K, st, h => by
    rw [mtS.eq_def] at h
    cases h
  | .ret e, X, W, k, K, st, h => by
    rw [mtS.eq_def] at h
    dsimp only at h
    split at h
    · intro b c D hb stb sr p; rw [evS] at p; exact j_ret (sX e K.toCk _ h) b c D hb stb sr p
    · cases h
  | .retN, X, W, k, K, st, h => by
    rw [mtS.eq_def] at h
    dsimp only at h
    split at h
    · intro b c D hb stb sr p; rw [evS] at p; exact j_retN b c D hb stb sr p
    · cases h
  | .ite t a b, X, W, k, K, st, h => by
    rw [mtS.eq_def] at h
    dsimp only at h
    split at h
    · simp only [Bool.and_eq_true] at h
      intro bb c D hb stb sr p; rw [evS] at p; exact j_if (sT t K.toCk _ h.1) (sSs a K _ h.2.1) (sSs b K _ h.2.2) bb c D hb stb sr p
    · cases h
  | .whl t b, X, W, k, K, st, h => by
    rw [mtS.eq_def] at h
    dsimp only at h
    split at h
    · simp only [Bool.and_eq_true] at h
      intro bb c D hb stb sr p; rw [evS] at p; generalize WF = w at p; exact j_whl (n := w) K.po (sT t K.toCk _ h.1) (sSs b K _ h.2) bb c D hb stb sr p
    · cases h
  | .fors t it b, X, W, k, K, st, h => by
    rw [mtS.eq_def] at h
    dsimp only at h
    split at h
    · simp only [Bool.and_eq_true] at h
      obtain ⟨h1, h2, h3, h4⟩ := h
      intro bb c D hb stb sr p; rw [evS] at p; exact j_for K.calm K.po (notSet_fold h4) (sI it K.toCk _ _ h2) (sG t K.toCk _ h1) (sSs b K _ h3) bb c D hb stb sr p
    · cases h
  | .pass, X, W, k, K, st, h => by
    rw [mtS.eq_def] at h
    dsimp only at h
    split at h
    · intro b c D hb stb sr p; rw [evS] at p; exact j_pass b c D hb stb sr p
    · intro b c D hb stb sr p; rw [evS] at p; exact j_doc b c D hb stb sr p
    · cases h
  | .brk, X, W, k, K, st, h => by
    rw [mtS.eq_def] at h
    dsimp only at h
    split at h
    · intro b c D hb stb sr p; rw [evS] at p; exact j_brk b c D hb stb sr p
    · cases h
  | .cnt, X, W, k, K, st, h => by
    rw [mtS.eq_def] at h
    dsimp only at h
    split at h
    · intro b c D hb stb sr p; rw [evS] at p; exact j_cnt b c D hb stb sr p
    · cases h
  | .rai c ns es, X, W, k, K, st, h => by
    rw [mtS.eq_def] at h
    dsimp only at h
    split at h
    · simp only [Bool.and_eq_true, decide_eq_true_eq] at h
      obtain ⟨h1, h2, h3, h4, h5⟩ := h
      unfold erK at h3
      rw [Bool.and_eq_true] at h3
      obtain ⟨e0, mem, q⟩ := List.any_eq_true.mp h3.2
      simp only [Bool.and_eq_true, decide_eq_true_eq] at q
      obtain ⟨q1, q2⟩ := q
      have je := sEs (n := n) es K.toCk _ h4
      subst h1 q2
      rw [← q1] at h2 ⊢
      have ne : e0.2.1 ≠ [] := by
        intro w
        rw [w] at h3
        exact absurd h3.1 (by simp)
      intro b c D hb stb sr p; rw [evS] at p; exact j_rai K.toCk mem h2 h5 je ne b c D hb stb sr p
    · cases h
  | .trx bd kn hs, X, W, k, K, st, h => by
    have ih := fun (W' : WX) (pn : List (Addr × Obj)) (xe : Value → Shared → Prop) (tk : Takes (X.tr pn xe) W') (po : PassesOwn (model X.prog X.w) X.A X.env xe) (ss : List Stmt) (hm : mtSs g k bd ss = true) =>
      sSs bd (X := X.tr pn xe) (W := W') (k := k) (n := n) { N := K.N, sc := K.sc, fn := K.fn, calm := K.calm, nd := K.nd, room := K.room, un := K.un, tk := tk, fr := K.fr, gcd := K.gcd, gl := K.gl, fns := K.fns, ers := K.ers, rai := K.rai, po := po, stk := K.stk, frm := K.frm, cmg := K.cmg } ss hm
    rw [mtS.eq_def] at h
    dsimp only at h
    split at h
    · simp only [Bool.and_eq_true] at h
      obtain ⟨h1, h2, h3⟩ := h
      intro b c D hb stb sr p; rw [evS] at p
      exact j_try K.toCk K.stk K.frm h2 h3 (by simp) (fun W' pn xe tk po => ih W' pn xe tk po _ h1) K.cmg b c D hb stb sr p
    · cases h
theorem sSs {g : GI} {n : Nat} : ∀ (a : Stms) {X : Cx} {W : WX} {k : Cc} (K : CkS X W k g n) (st : List Stmt), mtSs g k a st = true → JSs X W (evSs (cnOf g n) a) st
  | .nil, X, W, k, K, st, h => by
    rw [mtSs.eq_def] at h
    dsimp only at h
    split at h
    · intro b c D hb stb sr p; rw [evSs] at p; exact j_nil b c D hb stb sr p
    · cases h
  | .cons a as, X, W, k, K, st, h => by
    rw [mtSs.eq_def] at h
    dsimp only at h
    split at h
    · rw [Bool.and_eq_true] at h
      intro b c D hb stb sr p; rw [evSs] at p; exact j_cons (sS a K _ h.1) (sSs as K _ h.2) b c D hb stb sr p
    · cases h
end
end G

/-! ## GS18 -/
set_option Elab.async false
set_option linter.all false
set_option maxRecDepth 100000
set_option maxHeartbeats 4000000
namespace G
open PySem PySem.Spec PyProof.Rows L2

/-! ### defs -/
/-- what the module's names are -/
structure GH (P : Program) (w : World) (K : PySem.W.Frag) (mg : Str → Option Value) (base : Heap) (g : GI) : Prop where
  fr : ∀ x, g.fr.contains x = true → mg x = none
  gcd : g.gcd = true → mg "gcd" = some (.builtin "math.gcd")
  gl : ∀ x d, g.gl x = some d → ∃ u v, mg x = some u ∧ RelV v u ∧ ∀ μ H, DR K μ H d v
  ers : ∀ e ∈ g.ers, ErF K mg g.flds g.cls e
  rai : ∀ e ∈ g.ers, RaF P w K mg base e
  cmg : ∀ c ∈ g.cls, ∃ C2, mg c = some (.ref C2)
/-- a def as it stands: its text is the term -/
structure FnK (K : PySem.W.Frag) (mg : Str → Option Value) (g : GI) (f : Str) (fd : Fn) (a : Addr) (fdt : FuncData) : Prop where
  ex : ∃ (qual : Str) (params : Arguments) (body : List Stmt) (scope : Scope) (dvs : List V) (kws : List (Str × V)), FunD K f qual params body scope dvs kws a fdt ∧ mg f = some (.ref a) ∧
    FnScope fd.N fd.ps scope ∧ mtSs g ⟨fd.N, scope, fun _ => true⟩ fd.body body = true
  dfl : ∀ k, k ≤ fd.dfl.length → ∃ dvs ds, Vals dvs ds ∧ (∀ μ H, DRs K μ H (fd.dfl.drop (fd.dfl.length - k)) dvs) ∧ Binds K fdt fd.ps ds
  kw : ∀ ks, ks ∈ g.kw f → ∀ (s : Shared) (ws ys : List Value), K.In s.heap → ws.length = ks.length → pick (ks.zip ws) fd.ps = some ys → BindsTo s fdt ⟨[], ks.zip ws⟩ (fd.ps.zip ys)
section
variable {P : Program} {w : World} {K : PySem.W.Frag} {mg : Str → Option Value} {base : Heap} {g : GI}
/-- the configuration at a def's entry -/
def entry (N : List Str) (c0 : Cf) (as : List Slot) (vs : List V) (m : Nat) : Cf := { μ := c0.μ, ρ := c0.ρ, s := ⟨as ++ List.replicate m .no, c0.s.M⟩, σ := start N vs, H := c0.H }
theorem args_get {c : Cf} : ∀ {as : List Slot} {vs : List V} {i : Nat} {x : Slot}, ArgRs K c as vs → as[i]? = some x → ∃ v, vs[i]? = some v ∧ ArgR K c x v
  | [], _, _, _, _, e => by simp at e
  | y :: ys, _, i, x, ⟨v, r, e1, q, z⟩, e => by
    subst e1
    cases i with
    | zero => simp at e; subst e; exact ⟨v, rfl, q⟩
    | succ i => simp at e; obtain ⟨u, h1, h2⟩ := args_get z e; exact ⟨u, by simpa using h1, h2⟩
theorem entry_slot {N : List Str} {c0 : Cf} {as : List Slot} {vs : List V} {m : Nat} (r : ArgRs K c0 as vs) {i : Nat} {x : Slot} (h : (entry N c0 as vs m).s.v[i]? = some x) :
    x = .no ∨ ∃ v, (entry N c0 as vs m).σ[i]? = some (some v) ∧ ArgR K c0 x v := by
  have h : (as ++ List.replicate m Slot.no)[i]? = some x := h
  by_cases hi : i < as.length
  · rw [List.getElem?_append_left hi] at h
    obtain ⟨v, h1, h2⟩ := args_get r h
    refine .inr ⟨v, ?_, h2⟩
    show (start N vs)[i]? = _
    unfold L2.start
    rw [List.getElem?_append_left (by rw [List.length_map, r.length]; exact hi), List.getElem?_map, h1]; rfl
  · rw [List.getElem?_append_right (by omega)] at h
    have := List.mem_of_getElem? h
    rw [List.mem_replicate] at this
    exact .inl this.2
theorem entry_noown {N : List Str} {c0 : Cf} {as : List Slot} {vs : List V} {m : Nat} (r : ArgRs K c0 as vs) : NoOwn (entry N c0 as vs m) := fun i xs h => by
  rcases entry_slot r h with h | ⟨v, _, h⟩
  · cases h
  · exact h
theorem entry_foot {N : List Str} {c0 : Cf} {as : List Slot} {vs : List V} {m : Nat} (r : ArgRs K c0 as vs) {b : Addr} (h : Foot (entry N c0 as vs m) b) : b ∈ c0.μ := by
  rcases h with h | ⟨i, ⟨xs, h⟩, _⟩
  · exact h
  · exact absurd h (entry_noown r i xs)
theorem entry_sr {N ps : List Str} {c0 : Cf} {as : List Slot} {vs : List V} (sr : SR K c0) (r : ArgRs K c0 as vs) (hl : as.length = ps.length) : SR K (entry N c0 as vs (N.length - ps.length)) where
  len := by
    show (as ++ List.replicate _ Slot.no).length = (start N vs).length
    unfold L2.start
    rw [List.length_append, List.length_append, List.length_replicate, List.length_replicate, List.length_map, r.length, hl]
  mlen := sr.mlen
  nd := sr.nd
  cell := fun m cl a h1 h2 => by
    have z := sr.cell m cl a h1 h2
    exact z
  slot := fun i x h => by
    rcases entry_slot r h with rfl | ⟨v, e, h⟩
    · trivial
    · cases x with
      | no => trivial
      | val d => exact ⟨v, e, h⟩
      | own xs => exact h.elim
      | ro xs =>
        obtain ⟨a, us, rfl, h1, h2⟩ := h
        exact ⟨a, us, e, h1, h2⟩
  ownd := fun i j a ⟨⟨xs, h⟩, _⟩ => absurd h (entry_noown r i xs)
  ownm := fun i a ⟨⟨xs, h⟩, _⟩ => absurd h (entry_noown r i xs)
  rho := fun b h => by
    obtain ⟨t, nf⟩ := sr.rho b h
    exact ⟨t, fun f => nf (.inl (entry_foot r f))⟩
/-- the end of a def, the names forgotten -/
def Cf.out (c : Cf) : Cf := { μ := c.μ, ρ := c.ρ, s := ⟨[], c.s.M⟩, σ := [], H := c.H }
theorem out_foot {c : Cf} {b : Addr} (h : Foot c.out b) : b ∈ c.μ := by
  rcases h with h | ⟨i, ⟨xs, h⟩, _⟩
  · exact h
  · simp [Cf.out] at h
theorem SR.out {c : Cf} (sr : SR K c) : SR K c.out where
  len := rfl
  mlen := sr.mlen
  nd := sr.nd
  cell := fun m cl a h1 h2 => by
    have z := sr.cell m cl a h1 h2
    exact z
  slot := fun i x h => by simp [Cf.out] at h
  ownd := fun i j a ⟨⟨xs, h⟩, _⟩ => by simp [Cf.out] at h
  ownm := fun i a ⟨⟨xs, h⟩, _⟩ => by simp [Cf.out] at h
  rho := fun b h => by
    obtain ⟨t, nf⟩ := sr.rho b h
    exact ⟨t, fun f => nf (.inl (out_foot f))⟩
theorem out_stp {N : List Str} {c0 c' : Cf} {as : List Slot} {vs : List V} {m : Nat} (r : ArgRs K c0 as vs) (hb : bare c0) (st : Stp (entry N c0 as vs m) c') : Stp c0 c'.out where
  pre := st.pre
  rh := st.rh
  frame := fun b o e nf => st.frame b o e fun f => nf (.inl (entry_foot r f))
  grow := fun b f => (st.grow b (.inl (out_foot f))).imp (fun f => .inl (entry_foot r f)) id
  trk := st.trk
  tup := st.tup
  ros := fun i xs h => by simp [Cf.out] at h
  ron := fun i xs h => by rw [hb.1] at h; simp at h
theorem spF_len {f : Str} {fd : Fn} {n : Nat} : ∀ vs H Q E, spF K mg g f fd n vs H Q E → vs.length = fd.ps.length := fun vs H Q E ⟨c0, as, hl, _, _, _, r, _⟩ => by rw [r.length]; exact hl
/-- one def, the others below -/
theorem fn_step (gh : GH P w K mg base g) {n : Nat} (ih : ∀ f fd, g.P.lookup f = some fd → ∃ a fdt, FnJ P w K mg base g f fd n a fdt) {f : Str} {fd : Fn} {a : Addr} {fdt : FuncData} (hf : g.P.lookup f = some fd) (hk : FnK K mg g f fd a fdt) : FnJ P w K mg base g f fd (n + 1) a fdt := by
    obtain ⟨qual, params, body, scope, dvs, kws, F, hm, S, hb⟩ := hk.ex
    refine ⟨hm, F.kp, F.ok S spF_len fun cdv A outer s H vs Q E hr ⟨c0, as, hl, bc, sr0, eH, ra, p⟩ => ⟨_, pssW _, ?_⟩, hk.dfl, hk.kw⟩
    subst eH
    have K' : CkS (cxOf (L2.CX P w) P w K mg base fd.N qual scope a cdv A outer s c0.H E) (fun cls d _ H => E cls d H) ⟨fd.N, scope, fun _ => true⟩ g n :=
      { N := rfl, sc := rfl, fn := fun _ _ => rfl, calm := rfl, nd := S.nd, room := hr, un := by have := hr.un; show (A.deeper _).units + 65 < cLine; omega,
        tk := takes_of rfl rfl rfl rfl, fr := gh.fr, gcd := gh.gcd, gl := gh.gl, fns := ih, ers := gh.ers, rai := gh.rai, stk := rfl, frm := rfl, cmg := gh.cmg, po := passes_of rfl }
    have srE := entry_sr (N := fd.N) sr0 ra hl
    refine sSs fd.body K' body hb (entry fd.N c0 as vs (fd.N.length - fd.ps.length)) (entry fd.N c0 as vs (fd.N.length - fd.ps.length)) _ (entry_noown ra) (Bse.refl _) srE ?_
    -- the run
    have hr1 : run g.P g.gl (n + 1) f as c0.s.M = ofBody (evSs (cnOf g n) fd.body (entry fd.N c0 as vs (fd.N.length - fd.ps.length)).s) := by
      simp only [run, hf]
      unfold runFn argsOf
      rw [hl, if_pos ⟨Nat.le_refl _, by omega⟩, Nat.sub_self, Nat.sub_zero, List.drop_length, List.map_nil, List.append_nil]
      rfl
    rw [hr1] at p
    cases z : evSs (cnOf g n) fd.body (entry fd.N c0 as vs (fd.N.length - fd.ps.length)).s with
    | bad => rw [z] at p; exact p
    | exc x s' =>
      rw [z] at p
      intro c' e st sr' cls d xr
      subst e
      refine p c'.out ⟨rfl, rfl⟩ rfl (out_stp ra bc st) sr'.out cls d ?_
      obtain ⟨C, fs, h1, h2, h3⟩ := xr
      refine ⟨C, fs, h1, h2, ?_⟩
      rcases h3 with h3 | ⟨b, h3, h4, h5, h6, h7⟩
      · exact .inl h3
      · exact .inr ⟨b, h3, h4, fun f => h5 (.inl (out_foot f)), h6, h7⟩
    | ok fl s' =>
      rw [z] at p
      intro c' e st sr'
      subst e
      cases fl with
      | nx =>
        have p : PostF K c0 (.ok (.val .non) c'.s.M) _ _ := p
        exact p c'.out ⟨rfl, rfl⟩ rfl (out_stp ra bc st) sr'.out .non (by simp only [OutR, DR])
      | bk => exact p.elim
      | ct => exact p.elim
      | rt o =>
        intro v rv
        have p : PostF K c0 (.ok o c'.s.M) _ _ := p
        refine p c'.out ⟨rfl, rfl⟩ rfl (out_stp ra bc st) sr'.out v ?_
        cases o with
        | no => exact rv
        | ro xs => exact rv
        | val d => exact rv
        | own xs =>
          obtain ⟨b, us, rfl, h1, h2, h3, h4⟩ := rv
          refine ⟨b, us, rfl, h1, h2, fun f => h3 (out_foot f), fun r => ?_, h4⟩
          have r : c'.ρ b := r
          rw [st.rh] at r
          obtain ⟨⟨o', e⟩, _⟩ := srE.rho b r
          have h4 : c0.H b = none := h4
          have e : c0.H b = some o' := e
          rw [h4] at e; cases e
/-- THE DEFS keep their promises -/
theorem fn_all (gh : GH P w K mg base g) (hk : ∀ f fd, g.P.lookup f = some fd → ∃ a fdt, FnK K mg g f fd a fdt) : ∀ n f fd, g.P.lookup f = some fd → ∃ a fdt, FnJ P w K mg base g f fd n a fdt := by
  intro n
  induction n with
  | zero =>
    intro f fd hf
    obtain ⟨a, fdt, h⟩ := hk f fd hf
    obtain ⟨qual, params, body, scope, dvs, kws, F, hm, S, hb⟩ := h.ex
    exact ⟨a, fdt, hm, F.kp, ⟨spF_len, fun A outer s H args us vs Q E hr e0 hb r ⟨c0, as, _, _, _, _, _, p⟩ => p.elim⟩, h.dfl, h.kw⟩
  | succ n ih =>
    intro f fd hf
    obtain ⟨a, fdt, h⟩ := hk f fd hf
    exact ⟨a, fdt, fn_step gh ih hf h⟩
theorem ints_dr (μ : List Addr) (H : Hp) : ∀ ns : List Int, DRs K μ H (ns.map D.int) (ns.map V.int)
  | [] => .nil
  | x :: xs => .cons (by simp only [DR]) (ints_dr μ H xs)
/-- the law's end: the run over the script tells True -/
theorem law_sp {f : Str} {fd : Fn} {n : Nat} {H : Hp} {a : Addr} {ns : List Int} {M : List Cell} (hp : fd.ps.length = 1) (hS : SqL K H a (ns.map V.int)) (h : run g.P g.gl n f [.ro (ns.map D.int)] [] = .ok (.val (.bl true)) M) :
    spF K mg g f fd n [.ref a] H (fun v _ => v = .bl true) fun _ _ _ => False := by
  refine ⟨{ μ := [], ρ := fun b => b = a ∧ Rd H a (.lst (ns.map V.int)), s := ⟨[], []⟩, σ := [], H := H }, [.ro (ns.map D.int)], by rw [hp]; rfl, ⟨rfl, rfl⟩, ?_, rfl, ⟨.ref a, [], rfl, ?_, rfl⟩, ?_⟩
  · refine ⟨rfl, rfl, .nil, fun m cl b h1 _ => by simp at h1, fun i x h => by simp at h, fun i j b ⟨⟨xs, h⟩, _⟩ => by simp at h, fun i b ⟨⟨xs, h⟩, _⟩ => by simp at h, fun b h => ?_⟩
    obtain ⟨rfl, h⟩ := h
    refine ⟨?_, fun f => ?_⟩
    · rcases h with h | ⟨o, h⟩
      · exact ⟨_, h⟩
      · exact ⟨_, h⟩
    · rcases f with f | ⟨i, ⟨xs, f⟩, _⟩
      · simp at f
      · simp at f
  · refine ⟨a, ns.map V.int, rfl, ints_dr _ _ ns, ?_⟩
    rcases hS with h | h
    · exact .inr ⟨⟨rfl, h⟩, h⟩
    · exact .inl h
  · show PostF K _ (run g.P g.gl n f [.ro (ns.map D.int)] []) _ _
    rw [h]
    intro c _ _ _ _ v r
    simp only [OutR, DR] at r
    exact r
/-- names and their things, one by one -/
theorem lookups {α : Type} {Pr : Str → α → Prop} : ∀ {l : List (Str × α)}, (∀ p ∈ l, Pr p.1 p.2) → ∀ f fd, l.lookup f = some fd → Pr f fd := fun h f fd e => h (f, fd) (PySem.mem_of_lookup e)
/-- no default is taken -/
theorem dfl_none {fdt : FuncData} {fd : Fn} (hd : fd.dfl = []) (b : Binds K fdt fd.ps []) : ∀ k, k ≤ fd.dfl.length → ∃ dvs ds, Vals dvs ds ∧ (∀ μ H, DRs K μ H (fd.dfl.drop (fd.dfl.length - k)) dvs) ∧ Binds K fdt fd.ps ds := fun k hk => by
  rw [hd] at hk ⊢
  exact ⟨[], [], .nil, fun μ H => by rw [List.drop_nil]; exact .nil, b⟩
/-- one default -/
theorem dfl_one {fdt : FuncData} {fd : Fn} {d : D} {v : V} (hd : fd.dfl = [d]) (hv : ∀ μ H, DR K μ H d v) (b0 : ∃ ds, Vals [] ds ∧ Binds K fdt fd.ps ds) (b1 : ∃ ds, Vals [v] ds ∧ Binds K fdt fd.ps ds) :
    ∀ k, k ≤ fd.dfl.length → ∃ dvs ds, Vals dvs ds ∧ (∀ μ H, DRs K μ H (fd.dfl.drop (fd.dfl.length - k)) dvs) ∧ Binds K fdt fd.ps ds := fun k hk => by
  rw [hd] at hk ⊢
  match k, hk with
  | 0, _ =>
    obtain ⟨ds, h1, h2⟩ := b0
    exact ⟨[], ds, h1, fun μ H => .nil, h2⟩
  | 1, _ =>
    obtain ⟨ds, h1, h2⟩ := b1
    exact ⟨[v], ds, h1, fun μ H => .one (hv μ H), h2⟩
end
/-! ### the hook: what stands behind the top -/
mutual
/-- the value is the data, in the written part -/
def dB (K : PySem.W.Frag) : D → Value → Bool
  | .non, u => (match u with
    | .none => true
    | _ => false)
  | .bl b, u => (match u with
    | .bool c => b == c
    | _ => false)
  | .int i, u => (match u with
    | .int j _ => decide (i = j)
    | _ => false)
  | .str x, u => (match u with
    | .str y _ => decide (x = y)
    | _ => false)
  | .tup xs, u => (match u with
    | .ref a => (match K.lookup a with
      | some ⟨.type t, _, .seq its _, _⟩ => decide (t = "tuple") && (Nat.ble its.size sizeLine && dBs K xs its.toList)
      | _ => false)
    | _ => false)
  | .loc _, _ => false
def dBs (K : PySem.W.Frag) : List D → List Value → Bool
  | [], us => (match us with
    | [] => true
    | _ => false)
  | x :: xs, us => (match us with
    | u :: us => dB K x u && dBs K xs us
    | [] => false)
end
mutual
theorem dB_ok {K : PySem.W.Frag} : ∀ (d : D) (u : Value), dB K d u = true → ∃ v, RelV v u ∧ ∀ μ H, DR K μ H d v
  | .non, u, h => by
    rw [dB.eq_def] at h
    dsimp only at h
    split at h
    · exact ⟨.non, rfl, fun _ _ => by simp only [DR]⟩
    · cases h
  | .bl b, u, h => by
    rw [dB.eq_def] at h
    dsimp only at h
    split at h
    · rw [beq_iff_eq] at h; subst h; exact ⟨.bl _, rfl, fun _ _ => by simp only [DR]⟩
    · cases h
  | .int i, u, h => by
    rw [dB.eq_def] at h
    dsimp only at h
    split at h
    · rw [decide_eq_true_eq] at h; subst h; exact ⟨.int _, ⟨_, rfl⟩, fun _ _ => by simp only [DR]⟩
    · cases h
  | .str x, u, h => by
    rw [dB.eq_def] at h
    dsimp only at h
    split at h
    · rw [decide_eq_true_eq] at h; subst h; exact ⟨.str _, ⟨_, rfl⟩, fun _ _ => by simp only [DR]⟩
    · cases h
  | .tup xs, u, h => by
    rw [dB.eq_def] at h
    dsimp only at h
    split at h
    · rename_i a
      split at h
      · rename_i t dd its n sl hk
        simp only [Bool.and_eq_true, decide_eq_true_eq] at h
        obtain ⟨rfl, h2, h3⟩ := h
        obtain ⟨vs, rv, hd⟩ := dBs_ok xs _ h3
        refine ⟨.ref a, rfl, fun μ H => ?_⟩
        simp only [DR]
        exact ⟨a, vs, rfl, .inr ⟨_, its, n, hk, rfl, rfl, le_of_ble h2, rv⟩, hd μ H⟩
      · cases h
    · cases h
  | .loc k, u, h => by
    rw [dB.eq_def] at h
    cases h
theorem dBs_ok {K : PySem.W.Frag} : ∀ (ds : List D) (us : List Value), dBs K ds us = true → ∃ vs, Vals vs us ∧ ∀ μ H, DRs K μ H ds vs
  | [], us, h => by
    rw [dBs.eq_def] at h
    dsimp only at h
    split at h
    · exact ⟨[], .nil, fun _ _ => .nil⟩
    · cases h
  | d :: ds, us, h => by
    rw [dBs.eq_def] at h
    dsimp only at h
    split at h
    · rw [Bool.and_eq_true] at h
      obtain ⟨v, r1, h1⟩ := dB_ok d _ h.1
      obtain ⟨vs, r2, h2⟩ := dBs_ok ds _ h.2
      exact ⟨v :: vs, .cons r1 r2, fun μ H => .cons (h1 μ H) (h2 μ H)⟩
    · cases h
end
def gcdF (K : PySem.W.Frag) : Bool := He.eqO (PySem.W.nsIn K mainGlobals "gcd") (some (some (.builtin "math.gcd")))
/-- a constant of the module -/
def gvB (K : PySem.W.Frag) (p : Str × D) : Bool := match PySem.W.nsIn K mainGlobals p.1 with
  | some (some u) => dB K p.2 u
  | _ => false
def factG (K : PySem.W.Frag) (wg : Bool) (cs : List (Str × D)) : Bool := (!wg || gcdF K) && cs.all (gvB K)
def obsG (wg : Bool) (cs : List (Str × D)) (n : Nat) (fa : List He.Fa) (fn : List He.DefD) (g : Addr → Option Obj) : Bool × He.AlD := (factG (He.frG g (He.asD g n)) wg cs, He.obsDG n fa fn g)
def hookG (wg : Bool) (cs : List (Str × D)) (n : Nat) (fa : List He.Fa) (fn : List He.DefD) : PySem.W.Hook where
  α := Bool × He.AlD
  obs := fun s => obsG wg cs n fa fn s.heap.get?
  val := fun _ => (true, He.valD fn)
  says := fun _ h => ∃ K : PySem.W.Frag, K.In h ∧ He.SaysD fa fn K ∧ factG K wg cs = true
  of := fun _ s e => ⟨He.frG s.heap.get? (He.asD s.heap.get? n), He.frG_in, congrArg (fun z : Bool × He.AlD => z.2) e, congrArg (fun z : Bool × He.AlD => z.1) e⟩
  keeps := fun _ _ _ ⟨K, hK, c⟩ k => ⟨K, PySem.W.Frag.In.keeps hK k, c⟩
theorem obsG_eq {wg : Bool} {cs : List (Str × D)} {n : Nat} {fa : List He.Fa} {fn : List He.DefD} {g : Addr → Option Obj} {s : Shared} (h : ∀ a, g a = s.heap.get? a) : obsG wg cs n fa fn g = (hookG wg cs n fa fn).obs s := by
  have e : g = s.heap.get? := funext h
  rw [e] <;> rfl
theorem gl_ok {K : PySem.W.Frag} {h : Heap} {mg : Str → Option Value} {wg : Bool} {cs : List (Str × D)} (X : K.In h) (G : h.Ns mainGlobals mg) (c : factG K wg cs = true) (x : Str) (d : D) (hx : cs.lookup x = some d) : ∃ u v, mg x = some u ∧ RelV v u ∧ ∀ μ H, DR K μ H d v := by
  unfold factG at c
  rw [Bool.and_eq_true] at c
  have z := List.all_eq_true.mp c.2 (x, d) (PySem.mem_of_lookup hx)
  unfold gvB at z
  split at z
  · rename_i u e
    obtain ⟨v, r, hd⟩ := dB_ok d u z
    exact ⟨u, v, PySem.W.mg_of X G e, r, hd⟩
  · cases z
theorem gcd_ok {K : PySem.W.Frag} {h : Heap} {mg : Str → Option Value} (X : K.In h) (G : h.Ns mainGlobals mg) {cs : List (Str × D)} (c : factG K true cs = true) : mg "gcd" = some (.builtin "math.gcd") := PySem.W.mg_of X G (He.eqO_ok (by unfold factG at c; rw [Bool.and_eq_true] at c; have z := c.1; rw [Bool.or_eq_true] at z; exact z.resolve_left (by decide)))
end G
namespace L2
open PySem PySem.Spec PyProof.Rows
theorem walk_ofG {l : PySem.W.OpenLaw} {n k : Nat} {q : Program} {loose : List Str} {XP : (Str → Option Value) → Heap → Prop} {YP : World → Heap → Prop} {d : DefRec} {CX : World → CXT} {x : Str}
    (hn : l.most = some n) (hn2 : n ≤ sizeLine) (hdf : d.params.defaults = []) (hr : Room k callerA)
    (F : ∀ (w : World) (mg : Str → Option Value) (fa : Addr) (h : Heap), YP w h → h.Ns mainGlobals mg → mg d.name = some (.ref fa) →
      ∃ (K : PySem.W.Frag) (fd : FuncData) (sp : Sp), K.In h ∧ (∀ (s : Shared) (u : Value), BindsTo s fd ⟨[u], []⟩ [(x, u)]) ∧
        (∀ (H : Hp) (a : Addr) (ns : List Int), ns.length ≤ n → (∀ z ∈ ns, Builtin.Int.intBits z ≤ 1048576) → Only H → SqL K H a (ns.map V.int) → sp [.ref a] H (fun v _ => v = .bl true) fun _ _ _ => False) ∧
        ∀ base : Heap, K.In base → base.Ns mainGlobals mg → FnOk l.prog w K mg base (CX w) k fa fd [x] sp)
    (hCX : ∀ (w : World) (H : Hp) (s : Shared) (e : Value) (s' : Shared), CX w [] H s (fun _ _ _ => False) e s' → False) :
    PySem.W.WalkO q loose XP YP l.row.toRowW d [] (fun f vs => PySem.call f vs) := by
  refine Att.attach_callB hn hdf fun w s₀ s₁ mg mb fa o pm cd doc a vs ns G Y ho hd hcd hmg hobj hints hlen hbits hg => ?_
  obtain ⟨K, fd, sp, KX, hb, hsp, hF⟩ := F w mg fa _ Y G.T.g hmg
  exact law_call KX G.T.g G.T.b G.T.builtins G.T.nolimit hg hobj hints (Nat.le_trans hlen hn2) hr hF hb (fun H hO hS => hsp H a ns hlen hbits hO hS) fun H e s' => hCX w H s₁ e s'
theorem cx_no (P : Program) (w : World) (H : Hp) (s : Shared) (e : Value) (s' : Shared) : L2.CX P w [] H s (fun _ _ _ => False) e s' → False := fun ⟨_, _, _, _, _, _, _, _, _, _, _, _, z⟩ => z
end L2

/-! ## GS19 -/
set_option Elab.async false
set_option linter.all false
set_option maxRecDepth 100000
set_option maxHeartbeats 4000000
namespace G
open PySem PySem.Spec PyProof.Rows L2 PySem.W

/-! ### the classes of errors, as the top left them: the look -/
/-- a method of a class -/
def clsM (s : Stmt) (j : Nat) : Stmt := match s with
  | .ClassDef _ _ _ b _ _ _ _ _ _ _ => b.getD j (.Pass ⟨0, 0, 0, 0⟩)
  | _ => .Pass ⟨0, 0, 0, 0⟩
/-- an __init__: whose, its text -/
structure IniD where
  cls : Str
  qual : Str
  params : Arguments
  body : List Stmt
  scope : Scope
abbrev IniW : Type := Option (Str × Str × Arguments × FuncBody × Scope × Addr × List Str × Addr)
def iniW (K : Frag) (d : IniD) : IniW := match K.lookup (He.ma K (He.ga K d.cls) "__init__") with
  | some ⟨_, _, .func fd, _⟩ => some (fd.name, fd.qualname, fd.params, fd.body, fd.scope, fd.globals, fd.closure.map (·.1), fd.builtins)
  | _ => none
def IniD.val (d : IniD) : IniW := some ("__init__", d.qual, d.params, .stmts d.body, d.scope, mainGlobals, ["__class__"], builtinsNs)
def oexB (K : Frag) (C : Addr) : Bool := match K.lookup C with
  | some ⟨.type "type", _, .cls cd, sl⟩ => (match cd.mro, sl.toList with
    | .ref C' :: bm, [_, _, _, _, some (.builtin n), _] => (C' == C) && ((n == "ValueError.__new__") && (!cd.hasDel && (cd.hasDict && PySem.HandSPX.refsVE bm)))
    | _, _ => false)
  | _ => false
def cellB (K : Frag) (cc C : Addr) : Bool := match K.lookup cc with
  | some ⟨_, _, .cell (some (.ref D)), _⟩ => D == C
  | _ => false
def codeB (K : Frag) (cd : Addr) (file : Str) : Bool := match K.lookup cd with
  | some ⟨_, _, .fields vs, _⟩ => (match (vs[2]? : Option Value) with
    | some (.str f _) => file == f
    | _ => false)
  | _ => false
def iniB (K : Frag) (f C : Addr) (qual file : Str) : Bool := match K.lookup f with
  | some ⟨_, _, .func fd, _⟩ => (match fd.code, fd.closure, fd.defaults with
    | .ref cd, [(_, cc)], .none => codeIn K fd.code qual && (cellB K cc C && codeB K cd file)
    | _, _, _ => false)
  | _ => false
def xklB (K : Frag) (C : Addr) : Bool := decide (findIn K (.ref C) "__class__" = some (some (.builtin "object.__class__"))) && (decide (specialIn K (.builtin "object.__class__") "__get__" = some (some (.builtin "getset_descriptor.__get__"))) &&
  (decide (takesIn K (.builtin "object.__class__") = some true) && decide (mroIn K C (.type "object") = some true)))
/-- the class x, whose errors are raised -/
def raiB (K : Frag) (file : Str) (fl cs : List Str) (e : ErD) : Bool :=
  let C := He.ga K e.1
  let f := He.ma K C "__init__"
  decide (nsIn K mainGlobals e.1 = some (some (.ref C))) && (oexB K C && (xfB K C && (xklB K C && (fl.all (fun y => decide (findIn K (.ref C) y = some none)) && (cs.all (fun c => decide (exmOne K (.ref C) (.ref (He.ga K c)) = some (e.2.2.contains c)) && decide (kitOne K (.ref C) (.ref (He.ga K c)) = some (e.2.2.contains c))) &&
  (decide (findIn K (.ref C) "__setattr__" = some (some (.builtin "object.__setattr__"))) && (decide (typeIn K (.ref C) = some (.type "type")) && (keepIn K (.ref C) && (decide (findIn K (.ref C) "__init__" = some (some (.ref f))) && (decide (typeIn K (.ref f) = some (.type "function")) &&
  (iniB K f C (e.1 ++ ".__init__") file && ((clsIn K C).isSome && (decide (mroIn K C (.ref C) = some true) && (decide (nsIn K mainGlobals "super" = some none) && (decide (nsIn K cStatics "thirdparty.any" = some none) &&
  (decide (ks_superIn K C C "__init__" = some (some (.builtin "ValueError.__init__"))) && decide (subIn K (.ref C) (.type "ValueError") = some true)))))))))))))))))
def clsB (K : Frag) (cs : List Str) : Bool := cs.all fun c => decide (nsIn K mainGlobals c = some (some (.ref (He.ga K c))))
def errB (K : Frag) (file : Str) (fl cs : List Str) (es : List ErD) : Bool := clsB K cs && es.all (raiB K file fl cs)
/-! ### what it gives -/
theorem oexB_ok {K : Frag} {C : Addr} (h : oexB K C = true) : ∃ nm q N bs bm sn sub ab col dd k0 k1 k2 k3 k5, K.lookup C = some (excClassObj nm q C N bs bm true sn sub ab col dd k0 k1 k2 k3 k5 "ValueError.__new__") ∧ PySem.HandSPX.refsVE bm = true := by
  unfold oexB at h
  split at h
  · rename_i dd cd sl ho
    split at h
    · rename_i C' bm k0 k1 k2 k3 n k5 hm hs
      simp only [Bool.and_eq_true, beq_iff_eq, Bool.not_eq_true'] at h
      obtain ⟨e1, e2, e3, e4, e5⟩ := h
      obtain ⟨nm, bs, mro, ns, qn, hd, sn, sub, ab, col, del⟩ := cd
      dsimp only at hm e3 e4
      subst e1 e2 e3 e4 hm
      obtain ⟨l⟩ := sl
      have hs : l = _ := hs
      subst hs
      exact ⟨nm, qn, ns, bs, bm, sn, sub, ab, col, dd, k0, k1, k2, k3, k5, ho, e5⟩
    · cases h
  · cases h
theorem erF_ok {K : Frag} {h : Heap} {mg : Str → Option Value} (X : K.In h) (G : h.Ns mainGlobals mg) {file : Str} {fl cs : List Str} {e : ErD} (hc : clsB K cs = true) (hr : raiB K file fl cs e = true) : ErF K mg fl cs e := by
  unfold raiB at hr
  simp only [Bool.and_eq_true, decide_eq_true_eq, List.all_eq_true] at hr
  obtain ⟨a1, a2, a3, a4, a5, a6, a7, a8, a9, a10, a11, a12, a13, a14, a15, a16, a17, a18⟩ := hr
  have xf := xfB_ok a3
  unfold xklB at a4
  simp only [Bool.and_eq_true, decide_eq_true_eq] at a4
  refine ⟨He.ga K e.1, mg_of X G a1, xf, ⟨xf.ga, xf.gg, xf.exC, xf.hdC, a4.1, a4.2.1, a4.2.2.1, a4.2.2.2⟩, a5, fun c hcm => ⟨He.ga K c, ?_, (a6 c hcm).1, (a6 c hcm).2⟩⟩
  unfold clsB at hc
  exact mg_of X G (of_decide_eq_true (List.all_eq_true.mp hc c hcm))
theorem cls_mg {K : Frag} {h : Heap} {mg : Str → Option Value} (X : K.In h) (G : h.Ns mainGlobals mg) {cs : List Str} (hc : clsB K cs = true) : ∀ c ∈ cs, ∃ C2, mg c = some (.ref C2) := fun c hcm => by
  unfold clsB at hc
  exact ⟨_, mg_of X G (of_decide_eq_true (List.all_eq_true.mp hc c hcm))⟩
/-- .. for raise: the class, its __init__ -/
theorem supF_ok {K : Frag} {h : Heap} {mg : Str → Option Value} (X : K.In h) (G : h.Ns mainGlobals mg) {P : Program} {fl cs : List Str} {e : ErD} {d : IniD} {bd : List Stmt} (hr : raiB K P.main.file fl cs e = true) (hd : d.cls = e.1) (hq : d.qual = e.1 ++ ".__init__") (hbd : d.body = bd) (hw : iniW K d = d.val) (top : (P.main.scope.names.lookup ("super" : Str)).isSome = false) :
    ∃ (C f cc cd : Addr) (kV doc pm ct : Value) (an : Option Addr), mg e.1 = some (.ref C) ∧ OexC K C ∧ findIn K (.ref C) "__init__" = some (some (.ref f)) ∧ typeIn K (.ref f) = some (.type "function") ∧ codeIn K (.ref cd) d.qual = true ∧ (∀ y ∈ fl, findIn K (.ref C) y = some none) ∧
      SupF K P C f cc cd (fnX "__init__" d.qual d.params bd d.scope [("__class__", cc)] .none kV doc pm an (.ref cd) ct) := by
  unfold raiB at hr
  simp only [Bool.and_eq_true, decide_eq_true_eq, List.all_eq_true] at hr
  obtain ⟨a1, a2, a3, a4, a5, a6, a7, a8, a9, a10, a11, a12, a13, a14, a15, a16, a17, a18⟩ := hr
  have xf := xfB_ok a3
  have T : OexC K (He.ga K e.1) := ⟨oexB_ok a2, a7, xf.exC, a8, a9⟩
  unfold iniB at a12
  unfold iniW at hw
  rw [hd] at hw
  split at a12
  · rename_i oc od fd osl ho
    rw [ho] at hw
    dsimp only at hw
    split at a12
    · rename_i cd nn cc h1 h2 h3
      simp only [Bool.and_eq_true] at a12
      obtain ⟨b1, b2, b3⟩ := a12
      obtain ⟨nm, qn, pa, bo, scp, gls, clo, dfs, kwd, doc, pm, an, code, clt, blt⟩ := fd
      dsimp only at h1 h2 h3 hw b1
      subst h1 h2 h3
      unfold IniD.val at hw
      simp only [Option.some.injEq, Prod.mk.injEq] at hw
      obtain ⟨w1, w2, w3, w4, w5, w6, w7, w8⟩ := hw
      have w7 : nn = "__class__" := by simpa using w7
      rw [hbd] at w4
      subst w1 w2 w3 w4 w5 w6 w7 w8
      have cell : ∃ cl cld csl, K.lookup cc = some ⟨cl, cld, .cell (some (.ref (He.ga K e.1))), csl⟩ := by
        unfold cellB at b2
        split at b2
        · rename_i q1 q2 D q3 ho2
          rw [beq_iff_eq] at b2
          subst b2
          exact ⟨_, _, _, ho2⟩
        · cases b2
      have code : ∃ ccl cdd vs ccs file tf, K.lookup cd = some ⟨ccl, cdd, .fields vs, ccs⟩ ∧ vs[2]? = some (.str file tf) ∧ ((P.main.file : Str) == file) = true := by
        unfold codeB at b3
        split at b3
        · rename_i q1 q2 vs q3 ho2
          split at b3
          · rename_i ff tf hv
            exact ⟨_, _, _, _, _, _, ho2, hv, b3⟩
          · cases b3
        · cases b3
      refine ⟨He.ga K e.1, He.ma K (He.ga K e.1) "__init__", cc, cd, kwd, doc, pm, clt, an, mg_of X G a1, T, a10, a11, by rw [hq]; exact b1, a5, ?_⟩
      exact ⟨T, ⟨_, _, _, ho⟩, cell, code, Option.isSome_iff_exists.mp a13, a14, a15, top, a16, a17, a18⟩
    · cases a12
  · cases a12
/-! ### the hook with the classes of errors -/
abbrev AlE : Type := Bool × (He.AlD × List IniW)
def asX (g : Addr → Option Obj) (n : Nat) : List Addr := cStatics :: He.asD g n
def obsE (wg : Bool) (cs : List (Str × D)) (n : Nat) (fa : List He.Fa) (fn : List He.DefD) (bx : Frag → Bool) (ini : List IniD) (g : Addr → Option Obj) : AlE := (factG (He.frG g (asX g n)) wg cs && bx (He.frG g (asX g n)), (He.obsD fa fn (He.frG g (asX g n)), ini.map (iniW (He.frG g (asX g n)))))
def hookE (wg : Bool) (cs : List (Str × D)) (n : Nat) (fa : List He.Fa) (fn : List He.DefD) (bx : Frag → Bool) (ini : List IniD) : Hook where
  α := AlE
  obs := fun s => obsE wg cs n fa fn bx ini s.heap.get?
  val := fun _ => (true, (He.valD fn, ini.map IniD.val))
  says := fun _ h => ∃ K : Frag, K.In h ∧ He.SaysD fa fn K ∧ factG K wg cs = true ∧ bx K = true ∧ ini.map (iniW K) = ini.map IniD.val
  of := fun _ s e => by
    have e1 := congrArg (fun z : AlE => z.1) e
    have e2 := congrArg (fun z : AlE => z.2.1) e
    have e3 := congrArg (fun z : AlE => z.2.2) e
    have e1 : (factG (He.frG s.heap.get? (asX s.heap.get? n)) wg cs && bx (He.frG s.heap.get? (asX s.heap.get? n))) = true := e1
    rw [Bool.and_eq_true] at e1
    exact ⟨He.frG s.heap.get? (asX s.heap.get? n), He.frG_in, e2, e1.1, e1.2, e3⟩
  keeps := fun _ _ _ ⟨K, hK, c⟩ k => ⟨K, Frag.In.keeps hK k, c⟩
theorem obsE_eq {wg : Bool} {cs : List (Str × D)} {n : Nat} {fa : List He.Fa} {fn : List He.DefD} {bx : Frag → Bool} {ini : List IniD} {g : Addr → Option Obj} {s : Shared} (h : ∀ a, g a = s.heap.get? a) : obsE wg cs n fa fn bx ini g = (hookE wg cs n fa fn bx ini).obs s := by
  have e : g = s.heap.get? := funext h
  rw [e] <;> rfl
theorem ini_at {K : Frag} {ini : List IniD} (h : ini.map (iniW K) = ini.map IniD.val) (i : Nat) {d : IniD} (hd : ini[i]? = some d) : iniW K d = d.val := by
  have e : (ini.map (iniW K))[i]? = (ini.map IniD.val)[i]? := by rw [h]
  rw [List.getElem?_map, List.getElem?_map, hd] at e
  exact Option.some.inj e
end G

/-! ## HD05 -/
set_option Elab.async false
set_option linter.all false
set_option maxRecDepth 100000
set_option maxHeartbeats 0
namespace G
open PySem
abbrev f_is_integer_0 : Stm := .ret (.bool true (.cons (.isi (.var 0) [.int]) (.cons (.not (.isi (.var 0) [.bool])) .nil)))
def bf_is_integer : Stms := .cons f_is_integer_0 .nil
def f_is_integer : Fn := ⟨[Str.ofString "thing"], [Str.ofString "thing"], [], bf_is_integer⟩
abbrev f_tuple_of_0 : Stm := .ret (.bool true (.cons (.isi (.var 0) [.tuple]) (.cons (.cmp .Eq (.bi .len (.cons (.var 0) .nil)) (.var 1)) .nil)))
def bf_tuple_of : Stms := .cons f_tuple_of_0 .nil
def f_tuple_of : Fn := ⟨[Str.ofString "thing", Str.ofString "many"], [Str.ofString "thing", Str.ofString "many"], [], bf_tuple_of⟩
abbrev f_are_integers_C0 : Ex := .comp (.call (Str.ofString "is_integer") (.cons (.v (.var 1)) (.nil))) (.name 1) (.q (.var 0)) (.nil) [1]
abbrev f_are_integers_0 : Stm := .ret (.bi .all (.cons (f_are_integers_C0) .nil))
def bf_are_integers : Stms := .cons f_are_integers_0 .nil
def f_are_integers : Fn := ⟨[Str.ofString "thing"], [Str.ofString "thing", Str.ofString "part"], [], bf_are_integers⟩
abbrev f_quotient_of_0 : Stm := .asg (.name 2) (.bi .gcd (.cons (.var 0) (.cons (.var 1) .nil)))
abbrev f_quotient_of_1 : Stm := .ite (.x (.cmp .Lt (.var 1) (.cst (.int 0)))) (.cons (.asg (.name 2) (.neg (.var 2))) .nil) (.nil)
abbrev f_quotient_of_2 : Stm := .ret (.tup (.cons (.bin .FloorDiv (.var 0) (.var 2)) (.cons (.bin .FloorDiv (.var 1) (.var 2)) .nil)))
def bf_quotient_of : Stms := .cons f_quotient_of_0 (.cons f_quotient_of_1 (.cons f_quotient_of_2 .nil))
def f_quotient_of : Fn := ⟨[Str.ofString "number", Str.ofString "other"], [Str.ofString "number", Str.ofString "other", Str.ofString "common"], [], bf_quotient_of⟩
abbrev f_is_quotient_0 : Stm := .ite (.b false (.cons (.n (.x (.call (Str.ofString "tuple_of") (.cons (.b (.var 0)) (.cons (.v (.cst (.int 2))) (.nil)))))) (.cons (.n (.x (.call (Str.ofString "are_integers") (.cons (.b (.var 0)) (.nil))))) (.nil)))) (.cons (.ret (.cst (.bl false))) .nil) (.nil)
abbrev f_is_quotient_1 : Stm := .ret (.bool true (.cons (.cmp .GtE (.sub (.var 0) (.cst (.int 1))) (.cst (.int 1))) (.cons (.cmp .Eq (.bi .gcd (.cons (.sub (.var 0) (.cst (.int 0))) (.cons (.sub (.var 0) (.cst (.int 1))) .nil))) (.cst (.int 1))) .nil)))
def bf_is_quotient : Stms := .cons f_is_quotient_0 (.cons f_is_quotient_1 .nil)
def f_is_quotient : Fn := ⟨[Str.ofString "thing"], [Str.ofString "thing"], [], bf_is_quotient⟩
abbrev f_plus_0 : Stm := .ret (.call (Str.ofString "quotient_of") (.cons (.v (.bin .Add (.bin .Mult (.sub (.var 0) (.cst (.int 0))) (.sub (.var 1) (.cst (.int 1)))) (.bin .Mult (.sub (.var 1) (.cst (.int 0))) (.sub (.var 0) (.cst (.int 1)))))) (.cons (.v (.bin .Mult (.sub (.var 0) (.cst (.int 1))) (.sub (.var 1) (.cst (.int 1))))) (.nil))))
def bf_plus : Stms := .cons f_plus_0 .nil
def f_plus : Fn := ⟨[Str.ofString "one", Str.ofString "other"], [Str.ofString "one", Str.ofString "other"], [], bf_plus⟩
abbrev f_times_0 : Stm := .ret (.call (Str.ofString "quotient_of") (.cons (.v (.bin .Mult (.sub (.var 0) (.cst (.int 0))) (.sub (.var 1) (.cst (.int 0))))) (.cons (.v (.bin .Mult (.sub (.var 0) (.cst (.int 1))) (.sub (.var 1) (.cst (.int 1))))) (.nil))))
def bf_times : Stms := .cons f_times_0 .nil
def f_times : Fn := ⟨[Str.ofString "one", Str.ofString "other"], [Str.ofString "one", Str.ofString "other"], [], bf_times⟩
abbrev f_sign_of_0 : Stm := .ret (.bin .Sub (.cmp .Gt (.sub (.var 0) (.cst (.int 0))) (.cst (.int 0))) (.cmp .Lt (.sub (.var 0) (.cst (.int 0))) (.cst (.int 0))))
def bf_sign_of : Stms := .cons f_sign_of_0 .nil
def f_sign_of : Fn := ⟨[Str.ofString "one"], [Str.ofString "one"], [], bf_sign_of⟩
abbrev f_check_values_0 : Stm := .ite (.n (.x (.call (Str.ofString "tuple_of") (.cons (.b (.var 1)) (.cons (.v (.bi .len (.cons (.sub (.var 0) (.cst (.int 1))) .nil))) (.nil)))))) (.cons (.rai (Str.ofString "BadValues") [Str.ofString "at"] (.cons (.neg (.cst (.int 1))) .nil)) .nil) (.nil)
abbrev f_check_values_1b_0 : Stm := .ite (.n (.x (.call (Str.ofString "is_quotient") (.cons (.v (.var 3)) (.nil))))) (.cons (.rai (Str.ofString "BadValues") [Str.ofString "at"] (.cons (.var 2) .nil)) .nil) (.nil)
abbrev f_check_values_1b : Stms := .cons f_check_values_1b_0 .nil
abbrev f_check_values_1 : Stm := .fors (.tup (.cons (.name 2) (.cons (.name 3) (.nil)))) (.enum (.var 1)) (f_check_values_1b)
abbrev f_check_values_2 : Stm := .ret (.bi .len (.cons (.var 1) .nil))
def bf_check_values : Stms := .cons f_check_values_0 (.cons f_check_values_1 (.cons f_check_values_2 .nil))
def f_check_values : Fn := ⟨[Str.ofString "setting", Str.ofString "thing"], [Str.ofString "setting", Str.ofString "thing", Str.ofString "at", Str.ofString "part"], [], bf_check_values⟩
abbrev f_is_choice_of_0 : Stm := .ite (.b false (.cons (.n (.x (.call (Str.ofString "tuple_of") (.cons (.b (.var 1)) (.cons (.v (.cst (.int 2))) (.nil)))))) (.cons (.n (.x (.call (Str.ofString "is_quotient") (.cons (.v (.sub (.var 1) (.cst (.int 0)))) (.nil))))) (.cons (.n (.x (.call (Str.ofString "is_quotient") (.cons (.v (.sub (.var 1) (.cst (.int 1)))) (.nil))))) (.nil))))) (.cons (.ret (.cst (.bl false))) .nil) (.nil)
abbrev f_is_choice_of_1 : Stm := .ite (.b false (.cons (.x (.cmp .Lt (.call (Str.ofString "sign_of") (.cons (.v (.sub (.var 1) (.cst (.int 1)))) (.nil))) (.cst (.int 1)))) (.cons (.b true (.cons (.x (.cmp .Eq (.sub (.var 0) (.cst (.int 1))) (.cst (.str (Str.ofString "told"))))) (.cons (.x (.cmp .NotEq (.sub (.var 1) (.cst (.int 0))) (.glob (Str.ofString "ZERO")))) (.nil)))) (.nil)))) (.cons (.ret (.cst (.bl false))) .nil) (.nil)
abbrev f_is_choice_of_2 : Stm := .ret (.bool false (.cons (.cmp .Eq (.sub (.var 0) (.cst (.int 2))) (.cst (.str (Str.ofString "free")))) (.cons (.cmp .Eq (.sub (.var 1) (.cst (.int 1))) (.glob (Str.ofString "ONE"))) .nil)))
def bf_is_choice_of : Stms := .cons f_is_choice_of_0 (.cons f_is_choice_of_1 (.cons f_is_choice_of_2 .nil))
def f_is_choice_of : Fn := ⟨[Str.ofString "kind", Str.ofString "thing"], [Str.ofString "kind", Str.ofString "thing"], [], bf_is_choice_of⟩
abbrev f_check_choice_0 : Stm := .ite (.n (.x (.call (Str.ofString "tuple_of") (.cons (.b (.var 1)) (.cons (.v (.bi .len (.cons (.sub (.var 0) (.cst (.int 0))) .nil))) (.nil)))))) (.cons (.rai (Str.ofString "BadValues") [Str.ofString "at"] (.cons (.neg (.cst (.int 1))) .nil)) .nil) (.nil)
abbrev f_check_choice_1b_0 : Stm := .ite (.n (.x (.call (Str.ofString "is_choice_of") (.cons (.v (.var 3)) (.cons (.v (.sub (.var 1) (.var 2))) (.nil)))))) (.cons (.rai (Str.ofString "BadValues") [Str.ofString "at"] (.cons (.var 2) .nil)) .nil) (.nil)
abbrev f_check_choice_1b : Stms := .cons f_check_choice_1b_0 .nil
abbrev f_check_choice_1 : Stm := .fors (.tup (.cons (.name 2) (.cons (.name 3) (.nil)))) (.enum (.sub (.var 0) (.cst (.int 0)))) (f_check_choice_1b)
abbrev f_check_choice_2 : Stm := .ret (.bi .len (.cons (.var 1) .nil))
def bf_check_choice : Stms := .cons f_check_choice_0 (.cons f_check_choice_1 (.cons f_check_choice_2 .nil))
def f_check_choice : Fn := ⟨[Str.ofString "setting", Str.ofString "thing"], [Str.ofString "setting", Str.ofString "thing", Str.ofString "at", Str.ofString "kind"], [], bf_check_choice⟩
abbrev f_are_values_C0 : Ex := .comp (.call (Str.ofString "is_quotient") (.cons (.v (.var 2)) (.nil))) (.name 2) (.q (.var 1)) (.nil) [2]
abbrev f_are_values_0 : Stm := .ret (.bool true (.cons (.call (Str.ofString "tuple_of") (.cons (.b (.var 1)) (.cons (.v (.bi .len (.cons (.sub (.var 0) (.cst (.int 1))) .nil))) (.nil)))) (.cons (.bi .all (.cons (f_are_values_C0) .nil)) .nil)))
def bf_are_values : Stms := .cons f_are_values_0 .nil
def f_are_values : Fn := ⟨[Str.ofString "setting", Str.ofString "thing"], [Str.ofString "setting", Str.ofString "thing", Str.ofString "part"], [], bf_are_values⟩
abbrev f_is_choice_0 : Stm := .ite (.n (.x (.call (Str.ofString "tuple_of") (.cons (.b (.var 1)) (.cons (.v (.bi .len (.cons (.sub (.var 0) (.cst (.int 0))) .nil))) (.nil)))))) (.cons (.ret (.cst (.bl false))) .nil) (.nil)
abbrev f_is_choice_C0 : Ex := .comp (.call (Str.ofString "is_choice_of") (.cons (.v (.var 2)) (.cons (.v (.var 3)) (.nil)))) (.tup (.cons (.name 2) (.cons (.name 3) (.nil)))) (.zip (.sub (.var 0) (.cst (.int 0))) (.var 1)) (.nil) [2, 3]
abbrev f_is_choice_1 : Stm := .ret (.bi .all (.cons (f_is_choice_C0) .nil))
def bf_is_choice : Stms := .cons f_is_choice_0 (.cons f_is_choice_1 .nil)
def f_is_choice : Fn := ⟨[Str.ofString "setting", Str.ofString "thing"], [Str.ofString "setting", Str.ofString "thing", Str.ofString "kind", Str.ofString "part"], [], bf_is_choice⟩
abbrev f_plain_choice_C0 : Ex := .comp (.tup (.cons (.glob (Str.ofString "ZERO")) (.cons (.glob (Str.ofString "ONE")) .nil))) (.name 1) (.q (.sub (.var 0) (.cst (.int 0)))) (.nil) [1]
abbrev f_plain_choice_0 : Stm := .ret (.bi .tuple (.cons (f_plain_choice_C0) .nil))
def bf_plain_choice : Stms := .cons f_plain_choice_0 .nil
def f_plain_choice : Fn := ⟨[Str.ofString "setting"], [Str.ofString "setting", Str.ofString "kind"], [], bf_plain_choice⟩
abbrev f_moved_0 : Stm := .own 3 (.lst (.nil))
abbrev f_moved_1b_0 : Stm := .asg (.tup (.cons (.name 7) (.cons (.name 8) (.nil)))) (.sub (.var 2) (.var 5))
abbrev f_moved_1b_1 : Stm := .ex (.meth (.var 3) .append (.cons (.call (Str.ofString "plus") (.cons (.v (.var 7)) (.cons (.v (.call (Str.ofString "times") (.cons (.v (.var 8)) (.cons (.v (.var 6)) (.nil))))) (.nil)))) .nil))
abbrev f_moved_1b : Stms := .cons f_moved_1b_0 (.cons f_moved_1b_1 .nil)
abbrev f_moved_1 : Stm := .fors (.tup (.cons (.tup (.cons (.name 4) (.cons (.name 5) (.nil)))) (.cons (.name 6) (.nil)))) (.zip (.sub (.var 0) (.cst (.int 1))) (.var 1)) (f_moved_1b)
abbrev f_moved_2 : Stm := .ret (.bi .tuple (.cons (.var 3) .nil))
def bf_moved : Stms := .cons f_moved_0 (.cons f_moved_1 (.cons f_moved_2 .nil))
def f_moved : Fn := ⟨[Str.ofString "setting", Str.ofString "values", Str.ofString "choice"], [Str.ofString "setting", Str.ofString "values", Str.ofString "choice", Str.ofString "found", Str.ofString "_", Str.ofString "kind", Str.ofString "value", Str.ofString "zero", Str.ofString "unit"], [], bf_moved⟩
abbrev l_basin_0 : Stm := .par2 1 2 (.cst (.int 5003)) (.lst (.nil))
abbrev l_basin_1b_0 : Stm := .asg (.name 4) (.bin .Mod (.bi .abs (.cons (.bi .int (.cons (.var 3) .nil)) .nil)) (.bin .LShift (.cst (.int 1)) (.cst (.int 1600))))
abbrev l_basin_1b_1 : Stm := .asg (.name 1) (.bin .Mod (.bi .int (.cons (.bin .Add (.bin .Add (.bin .Mult (.var 1) (.cst (.int 62089911))) (.bin .Mod (.var 4) (.cst (.int 999999929)))) (.cst (.int 13))) .nil)) (.cst (.int 2147483647)))
abbrev l_basin_1b_2 : Stm := .ite (.x (.cmp .GtE (.var 4) (.bin .Pow (.cst (.int 10)) (.cst (.int 16))))) (.cons (.ex (.meth (.var 2) .append (.cons (.var 4) .nil))) .nil) (.nil)
abbrev l_basin_1b : Stms := .cons l_basin_1b_0 (.cons l_basin_1b_1 (.cons l_basin_1b_2 .nil))
abbrev l_basin_1 : Stm := .fors (.name 3) (.q (.slc (.var 0) .no (.yes (.cst (.int 63))))) (l_basin_1b)
abbrev l_basin_2 : Stm := .ret (.dct [Str.ofString "mixed", Str.ofString "great", Str.ofString "turn", Str.ofString "own"] (.cons (.var 1) (.cons (.var 2) (.cons (.cst (.int 0)) (.cons (.var 1) .nil)))))
def bl_basin : Stms := .cons l_basin_0 (.cons l_basin_1 (.cons l_basin_2 .nil))
def l_basin : Fn := ⟨[Str.ofString "script"], [Str.ofString "script", Str.ofString "mixed", Str.ofString "great", Str.ofString "cell", Str.ofString "size"], [], bl_basin⟩
abbrev l_scoop_0 : Stm := .asg (.sub (.var 0) (.cst (.str (Str.ofString "turn")))) (.bin .Add (.sub (.var 0) (.cst (.str (Str.ofString "turn")))) (.cst (.int 1)))
abbrev l_scoop_1 : Stm := .ite (.x (.sub (.var 0) (.cst (.str (Str.ofString "great"))))) (.cons (.asg (.name 3) (.bin .Mod (.bi .int (.cons (.sub (.var 0) (.cst (.str (Str.ofString "turn")))) .nil)) (.bi .len (.cons (.sub (.var 0) (.cst (.str (Str.ofString "great")))) .nil))))
    (.cons (.asg (.name 4) (.sub (.sub (.var 0) (.cst (.str (Str.ofString "great")))) (.var 3)))
    (.cons (.asg (.sub (.sub (.var 0) (.cst (.str (Str.ofString "great")))) (.var 3)) (.bin .FloorDiv (.var 4) (.var 1)))
    (.cons (.ite (.x (.cmp .Eq (.sub (.sub (.var 0) (.cst (.str (Str.ofString "great")))) (.var 3)) (.cst (.int 0)))) (.cons (.ex (.meth (.sub (.var 0) (.cst (.str (Str.ofString "great")))) .pop (.cons (.var 3) .nil))) .nil) (.nil))
    (.cons (.ret (.bin .Mod (.bi .int (.cons (.var 4) .nil)) (.var 1))) .nil))))) (.nil)
abbrev l_scoop_2 : Stm := .asg (.sub (.var 0) (.cst (.str (Str.ofString "mixed")))) (.bin .Mod (.bi .int (.cons (.bin .Add (.bin .Mult (.sub (.var 0) (.cst (.str (Str.ofString "mixed")))) (.cst (.int 48271))) (.sub (.var 0) (.cst (.str (Str.ofString "turn"))))) .nil)) (.cst (.int 2147483647)))
abbrev l_scoop_3 : Stm := .ite (.b true (.cons (.x (.cmp .Gt (.var 2) (.cst (.int 0)))) (.cons (.x (.cmp .Eq (.bin .Mod (.bi .int (.cons (.bin .FloorDiv (.sub (.var 0) (.cst (.str (Str.ofString "own")))) (.bin .Add (.var 2) (.cst (.int 5)))) .nil)) (.cst (.int 8))) (.cst (.int 1)))) (.nil)))) (.cons (.ret (.bin .Sub (.var 1) (.cst (.int 1)))) .nil) (.nil)
abbrev l_scoop_4 : Stm := .ite (.b true (.cons (.x (.cmp .Gt (.var 2) (.cst (.int 0)))) (.cons (.x (.cmp .Eq (.bin .Mod (.bi .int (.cons (.bin .FloorDiv (.sub (.var 0) (.cst (.str (Str.ofString "own")))) (.bin .Add (.var 2) (.cst (.int 5)))) .nil)) (.cst (.int 8))) (.cst (.int 2)))) (.nil)))) (.cons (.ret (.cst (.int 0))) .nil) (.nil)
abbrev l_scoop_5 : Stm := .ret (.bin .Mod (.bi .int (.cons (.bin .FloorDiv (.sub (.var 0) (.cst (.str (Str.ofString "mixed")))) (.cst (.int 601))) .nil)) (.var 1))
def bl_scoop : Stms := .cons l_scoop_0 (.cons l_scoop_1 (.cons l_scoop_2 (.cons l_scoop_3 (.cons l_scoop_4 (.cons l_scoop_5 .nil)))))
def l_scoop : Fn := ⟨[Str.ofString "basin", Str.ofString "many", Str.ofString "place"], [Str.ofString "basin", Str.ofString "many", Str.ofString "place", Str.ofString "at", Str.ofString "size"], [.int 0], bl_scoop⟩
abbrev l_same_0t1b_0 : Stm := .ite (.n (.x (.call (Str.ofString "_law_same") (.cons (.v (.sub (.var 0) (.var 2))) (.cons (.v (.sub (.var 1) (.var 2))) (.nil)))))) (.cons (.ret (.cst (.bl false))) .nil) (.nil)
abbrev l_same_0t1b : Stms := .cons l_same_0t1b_0 .nil
abbrev l_same_0 : Stm := .ite (.x (.isi (.var 1) [.tuple])) (.cons (.ite (.b false (.cons (.n (.x (.isi (.var 0) [.tuple]))) (.cons (.x (.cmp .NotEq (.bi .len (.cons (.var 0) .nil)) (.bi .len (.cons (.var 1) .nil)))) (.nil)))) (.cons (.ret (.cst (.bl false))) .nil) (.nil))
    (.cons (.fors (.name 2) (.rng (.cons (.bi .len (.cons (.var 1) .nil)) .nil)) (l_same_0t1b))
    (.cons (.ret (.cst (.bl true))) .nil))) (.nil)
abbrev l_same_1 : Stm := .ite (.b false (.cons (.x (.isi (.var 1) [.bool])) (.cons (.x (.isi (.var 0) [.bool])) (.nil)))) (.cons (.ret (.bool true (.cons (.isi (.var 1) [.bool]) (.cons (.isi (.var 0) [.bool]) (.cons (.cmp .Eq (.var 0) (.var 1)) .nil))))) .nil) (.nil)
abbrev l_same_2 : Stm := .ite (.b false (.cons (.x (.isi (.var 1) [.str])) (.cons (.x (.isi (.var 0) [.str])) (.nil)))) (.cons (.ret (.bool true (.cons (.isi (.var 1) [.str]) (.cons (.isi (.var 0) [.str]) (.cons (.cmp .Eq (.var 0) (.var 1)) .nil))))) .nil) (.nil)
abbrev l_same_3 : Stm := .ret (.bool true (.cons (.isi (.var 0) [.int]) (.cons (.cmp .Eq (.var 0) (.var 1)) .nil)))
def bl_same : Stms := .cons l_same_0 (.cons l_same_1 (.cons l_same_2 (.cons l_same_3 .nil)))
def l_same : Fn := ⟨[Str.ofString "told", Str.ofString "due"], [Str.ofString "told", Str.ofString "due", Str.ofString "at"], [], bl_same⟩
abbrev l_whole_0 : Stm := .ret (.bool true (.cons (.isi (.var 0) [.int]) (.cons (.not (.isi (.var 0) [.bool])) .nil)))
def bl_whole : Stms := .cons l_whole_0 .nil
def l_whole : Fn := ⟨[Str.ofString "thing"], [Str.ofString "thing"], [], bl_whole⟩
abbrev l_is_0 : Stm := .ite (.b false (.cons (.n (.x (.isi (.var 0) [.tuple]))) (.cons (.x (.cmp .NotEq (.bi .len (.cons (.var 0) .nil)) (.cst (.int 2)))) (.cons (.n (.x (.call (Str.ofString "_law_whole") (.cons (.v (.sub (.var 0) (.cst (.int 0)))) (.nil))))) (.cons (.n (.x (.call (Str.ofString "_law_whole") (.cons (.v (.sub (.var 0) (.cst (.int 1)))) (.nil))))) (.cons (.x (.cmp .Lt (.sub (.var 0) (.cst (.int 1))) (.cst (.int 1)))) (.nil))))))) (.cons (.ret (.cst (.bl false))) .nil) (.nil)
abbrev l_is_1 : Stm := .par2 1 2 (.bi .abs (.cons (.sub (.var 0) (.cst (.int 0))) .nil)) (.sub (.var 0) (.cst (.int 1)))
abbrev l_is_2b_0 : Stm := .par2 1 2 (.var 2) (.bin .Mod (.bi .int (.cons (.var 1) .nil)) (.var 2))
abbrev l_is_2b : Stms := .cons l_is_2b_0 .nil
abbrev l_is_2 : Stm := .whl (.x (.cmp .Gt (.var 2) (.cst (.int 0)))) (l_is_2b)
abbrev l_is_3 : Stm := .ret (.cmp .Eq (.var 1) (.cst (.int 1)))
def bl_is : Stms := .cons l_is_0 (.cons l_is_1 (.cons l_is_2 (.cons l_is_3 .nil)))
def l_is : Fn := ⟨[Str.ofString "thing"], [Str.ofString "thing", Str.ofString "one", Str.ofString "two"], [], bl_is⟩
abbrev l_pair_0 : Stm := .ite (.b false (.cons (.n (.x (.isi (.var 0) [.tuple]))) (.cons (.x (.cmp .NotEq (.bi .len (.cons (.var 0) .nil)) (.cst (.int 2)))) (.cons (.n (.x (.call (Str.ofString "_law_is") (.cons (.v (.sub (.var 0) (.cst (.int 0)))) (.nil))))) (.cons (.n (.x (.call (Str.ofString "_law_is") (.cons (.v (.sub (.var 0) (.cst (.int 1)))) (.nil))))) (.cons (.x (.cmp .Lt (.sub (.sub (.var 0) (.cst (.int 1))) (.cst (.int 0))) (.cst (.int 1)))) (.nil))))))) (.cons (.ret (.cst (.bl false))) .nil) (.nil)
abbrev l_pair_1 : Stm := .ite (.b true (.cons (.x (.cmp .Eq (.sub (.var 1) (.cst (.int 1))) (.cst (.str (Str.ofString "told"))))) (.cons (.x (.cmp .NotEq (.sub (.var 0) (.cst (.int 0))) (.tup (.cons (.cst (.int 0)) (.cons (.cst (.int 1)) .nil))))) (.nil)))) (.cons (.ret (.cst (.bl false))) .nil) (.nil)
abbrev l_pair_2 : Stm := .ret (.bool false (.cons (.cmp .NotEq (.sub (.var 1) (.cst (.int 2))) (.cst (.str (Str.ofString "told")))) (.cons (.cmp .Eq (.sub (.var 0) (.cst (.int 1))) (.tup (.cons (.cst (.int 1)) (.cons (.cst (.int 1)) .nil)))) .nil)))
def bl_pair : Stms := .cons l_pair_0 (.cons l_pair_1 (.cons l_pair_2 .nil))
def l_pair : Fn := ⟨[Str.ofString "thing", Str.ofString "kind"], [Str.ofString "thing", Str.ofString "kind"], [], bl_pair⟩
abbrev l_due_0 : Stm := .asg (.name 3) (.bi .len (.cons (.sub (.var 1) (.bin .Sub (.cst (.int 1)) (.var 0))) .nil))
abbrev l_due_1 : Stm := .ite (.b false (.cons (.n (.x (.isi (.var 2) [.tuple]))) (.cons (.x (.cmp .NotEq (.bi .len (.cons (.var 2) .nil)) (.var 3))) (.nil)))) (.cons (.ret (.tup (.cons (.cst (.str (Str.ofString "bad"))) (.cons (.neg (.cst (.int 1))) .nil)))) .nil) (.nil)
abbrev l_due_2b_0 : Stm := .ite (.n (.ife (.x (.cmp .Eq (.var 0) (.cst (.int 0)))) (.x (.call (Str.ofString "_law_is") (.cons (.v (.sub (.var 2) (.var 4))) (.nil)))) (.x (.call (Str.ofString "_law_pair") (.cons (.v (.sub (.var 2) (.var 4))) (.cons (.v (.sub (.sub (.var 1) (.cst (.int 0))) (.var 4))) (.nil))))))) (.cons (.ret (.tup (.cons (.cst (.str (Str.ofString "bad"))) (.cons (.var 4) .nil)))) .nil) (.nil)
abbrev l_due_2b : Stms := .cons l_due_2b_0 .nil
abbrev l_due_2 : Stm := .fors (.name 4) (.rng (.cons (.var 3) .nil)) (l_due_2b)
abbrev l_due_3 : Stm := .ret (.tup (.cons (.cst (.str (Str.ofString "told"))) (.cons (.var 3) .nil)))
def bl_due : Stms := .cons l_due_0 (.cons l_due_1 (.cons l_due_2 (.cons l_due_3 .nil)))
def l_due : Fn := ⟨[Str.ofString "which", Str.ofString "setting", Str.ofString "thing"], [Str.ofString "which", Str.ofString "setting", Str.ofString "thing", Str.ofString "many", Str.ofString "at"], [], bl_due⟩
abbrev l_checked_0r_0 : Stm := .ret (.tup (.cons (.cst (.str (Str.ofString "told"))) (.cons (.ife (.x (.cmp .Eq (.var 0) (.cst (.int 0)))) (.call (Str.ofString "check_values") (.cons (.b (.var 1)) (.cons (.b (.var 2)) (.nil)))) (.call (Str.ofString "check_choice") (.cons (.b (.var 1)) (.cons (.b (.var 2)) (.nil))))) .nil)))
abbrev l_checked_0r : Stms := .cons l_checked_0r_0 .nil
abbrev l_checked_0 : Stm := .trx (l_checked_0r) [Str.ofString "BadValues"] [⟨Str.ofString "BadValues", [Str.ofString "BadValues"], some 3, .ret (.ifi (Str.ofString "DataError") [Str.ofString "BadValues"] (.tup (.cons (.cst (.str (Str.ofString "bad"))) (.cons (.att (Str.ofString "at")) (.nil)))) (.tup (.cons (.cst (.str (Str.ofString "other"))) (.nil))))⟩, ⟨Str.ofString "WhateverError", [Str.ofString "BadValues"], none, .ret (.tup (.cons (.cst (.str (Str.ofString "other"))) (.nil)))⟩]
def bl_checked : Stms := .cons l_checked_0 .nil
def l_checked : Fn := ⟨[Str.ofString "which", Str.ofString "setting", Str.ofString "thing"], [Str.ofString "which", Str.ofString "setting", Str.ofString "thing", Str.ofString "e"], [], bl_checked⟩
abbrev l_looked_0 : Stm := .asg (.name 3) (.call (Str.ofString "_law_due") (.cons (.b (.var 0)) (.cons (.b (.var 1)) (.cons (.b (.var 2)) (.nil)))))
abbrev l_looked_1 : Stm := .asg (.name 4) (.ife (.x (.cmp .Eq (.var 0) (.cst (.int 0)))) (.call (Str.ofString "are_values") (.cons (.b (.var 1)) (.cons (.b (.var 2)) (.nil)))) (.call (Str.ofString "is_choice") (.cons (.b (.var 1)) (.cons (.b (.var 2)) (.nil)))))
abbrev l_looked_2 : Stm := .ret (.call (Str.ofString "_law_same") (.cons (.v (.tup (.cons (.call (Str.ofString "_law_checked") (.cons (.b (.var 0)) (.cons (.b (.var 1)) (.cons (.b (.var 2)) (.nil))))) (.cons (.var 4) .nil)))) (.cons (.v (.tup (.cons (.var 3) (.cons (.cmp .Eq (.sub (.var 3) (.cst (.int 0))) (.cst (.str (Str.ofString "told")))) .nil)))) (.nil))))
def bl_looked : Stms := .cons l_looked_0 (.cons l_looked_1 (.cons l_looked_2 .nil))
def l_looked : Fn := ⟨[Str.ofString "which", Str.ofString "setting", Str.ofString "thing"], [Str.ofString "which", Str.ofString "setting", Str.ofString "thing", Str.ofString "due", Str.ofString "look"], [], bl_looked⟩
abbrev l_setting_0 : Stm := .asg (.name 1) (.bin .Add (.cst (.int 1)) (.call (Str.ofString "_law_scoop") (.cons (.v (.var 0)) (.cons (.v (.cst (.int 3))) (.cons (.v (.cst (.int 1))) (.nil))))))
abbrev l_setting_1 : Stm := .own 2 (.lst (.nil))
abbrev l_setting_2b_0 : Stm := .ex (.meth (.var 2) .append (.cons (.tup (.cons (.sub (.tup (.cons (.cst (.str (Str.ofString "k"))) (.cons (.cst (.str (Str.ofString "h"))) (.cons (.cst (.str (Str.ofString "t"))) .nil)))) (.var 3)) (.cons (.sub (.tup (.cons (.cst (.str (Str.ofString "told"))) (.cons (.cst (.str (Str.ofString "free"))) .nil))) (.call (Str.ofString "_law_scoop") (.cons (.v (.var 0)) (.cons (.v (.cst (.int 2))) (.cons (.v (.cst (.int 2))) (.nil)))))) (.cons (.sub (.tup (.cons (.cst (.str (Str.ofString "told"))) (.cons (.cst (.str (Str.ofString "free"))) .nil))) (.call (Str.ofString "_law_scoop") (.cons (.v (.var 0)) (.cons (.v (.cst (.int 2))) (.cons (.v (.cst (.int 3))) (.nil)))))) .nil)))) .nil))
abbrev l_setting_2b : Stms := .cons l_setting_2b_0 .nil
abbrev l_setting_2 : Stm := .fors (.name 3) (.rng (.cons (.var 1) .nil)) (l_setting_2b)
abbrev l_setting_C0 : Ex := .comp (.tup (.cons (.bin .Add (.cst (.str (Str.ofString "r"))) (.bi .str (.cons (.var 3) .nil))) (.cons (.call (Str.ofString "_law_scoop") (.cons (.v (.var 0)) (.cons (.v (.var 1)) (.nil)))) .nil))) (.name 3) (.rng (.cons (.bin .Add (.cst (.int 1)) (.call (Str.ofString "_law_scoop") (.cons (.v (.var 0)) (.cons (.v (.cst (.int 4))) (.cons (.v (.cst (.int 4))) (.nil)))))) .nil)) (.nil) [3]
abbrev l_setting_3 : Stm := .own 4 (l_setting_C0)
abbrev l_setting_4 : Stm := .ret (.tup (.cons (.bi .tuple (.cons (.var 2) .nil)) (.cons (.bi .tuple (.cons (.var 4) .nil)) .nil)))
def bl_setting : Stms := .cons l_setting_0 (.cons l_setting_1 (.cons l_setting_2 (.cons l_setting_3 (.cons l_setting_4 .nil))))
def l_setting : Fn := ⟨[Str.ofString "basin"], [Str.ofString "basin", Str.ofString "many", Str.ofString "kinds", Str.ofString "turn", Str.ofString "readings"], [], bl_setting⟩
abbrev l_quotient_0 : Stm := .asg (.name 2) (.call (Str.ofString "_law_scoop") (.cons (.v (.var 0)) (.cons (.v (.cst (.int 4))) (.nil))))
abbrev l_quotient_1 : Stm := .ite (.x (.cmp .Eq (.var 2) (.cst (.int 0)))) (.cons (.ret (.tup (.cons (.bin .Add (.var 1) (.call (Str.ofString "_law_scoop") (.cons (.v (.var 0)) (.cons (.v (.cst (.int 12))) (.nil))))) (.cons (.cst (.int 1)) .nil)))) .nil) (.nil)
abbrev l_quotient_2 : Stm := .ite (.x (.cmp .Eq (.var 2) (.cst (.int 1)))) (.cons (.ret (.sub (.lst (.cons (.tup (.cons (.cst (.int 1)) (.cons (.cst (.int 2)) .nil))) (.cons (.tup (.cons (.cst (.int 2)) (.cons (.cst (.int 3)) .nil))) (.cons (.tup (.cons (.cst (.int 7)) (.cons (.cst (.int 5)) .nil))) (.cons (.tup (.cons (.cst (.int 999999)) (.cons (.cst (.int 1000)) .nil))) (.cons (.tup (.cons (.cst (.int 1000000)) (.cons (.cst (.int 1)) .nil))) .nil)))))) (.call (Str.ofString "_law_scoop") (.cons (.v (.var 0)) (.cons (.v (.cst (.int 5))) (.nil)))))) .nil) (.nil)
abbrev l_quotient_3 : Stm := .par2 3 4 (.bin .Add (.var 1) (.bin .Mult (.cst (.int 2)) (.call (Str.ofString "_law_scoop") (.cons (.v (.var 0)) (.cons (.v (.cst (.int 40))) (.nil)))))) (.cst (.int 2))
abbrev l_quotient_4 : Stm := .ite (.x (.cmp .Lt (.var 1) (.cst (.int 1)))) (.cons (.ret (.ife (.x (.cmp .Eq (.bin .Mod (.bi .int (.cons (.var 3) .nil)) (.cst (.int 2))) (.cst (.int 0)))) (.tup (.cons (.bin .Add (.var 3) (.cst (.int 1))) (.cons (.var 4) .nil))) (.tup (.cons (.var 3) (.cons (.var 4) .nil))))) .nil) (.nil)
abbrev l_quotient_5 : Stm := .ret (.tup (.cons (.bin .Add (.bin .Mult (.cst (.int 2)) (.var 3)) (.cst (.int 1))) (.cons (.cst (.int 4)) .nil)))
def bl_quotient : Stms := .cons l_quotient_0 (.cons l_quotient_1 (.cons l_quotient_2 (.cons l_quotient_3 (.cons l_quotient_4 (.cons l_quotient_5 .nil)))))
def l_quotient : Fn := ⟨[Str.ofString "basin", Str.ofString "low"], [Str.ofString "basin", Str.ofString "low", Str.ofString "way", Str.ofString "number", Str.ofString "under"], [], bl_quotient⟩
abbrev l_values_C0 : Ex := .comp (.call (Str.ofString "_law_quotient") (.cons (.v (.var 0)) (.cons (.v (.neg (.cst (.int 9)))) (.nil)))) (.name 2) (.q (.sub (.var 1) (.cst (.int 1)))) (.nil) [2]
abbrev l_values_0 : Stm := .ret (.bi .tuple (.cons (l_values_C0) .nil))
def bl_values : Stms := .cons l_values_0 .nil
def l_values : Fn := ⟨[Str.ofString "basin", Str.ofString "setting"], [Str.ofString "basin", Str.ofString "setting", Str.ofString "reading"], [], bl_values⟩
abbrev l_choice_0 : Stm := .own 2 (.lst (.nil))
abbrev l_choice_1b_0 : Stm := .ex (.meth (.var 2) .append (.cons (.tup (.cons (.ife (.x (.cmp .Eq (.var 4) (.cst (.str (Str.ofString "told"))))) (.tup (.cons (.cst (.int 0)) (.cons (.cst (.int 1)) .nil))) (.call (Str.ofString "_law_quotient") (.cons (.v (.var 0)) (.cons (.v (.neg (.cst (.int 9)))) (.nil))))) (.cons (.ife (.x (.cmp .Eq (.var 5) (.cst (.str (Str.ofString "told"))))) (.tup (.cons (.cst (.int 1)) (.cons (.cst (.int 1)) .nil))) (.call (Str.ofString "_law_quotient") (.cons (.v (.var 0)) (.cons (.v (.cst (.int 1))) (.nil))))) .nil))) .nil))
abbrev l_choice_1b : Stms := .cons l_choice_1b_0 .nil
abbrev l_choice_1 : Stm := .fors (.tup (.cons (.name 3) (.cons (.name 4) (.cons (.name 5) (.nil))))) (.q (.sub (.var 1) (.cst (.int 0)))) (l_choice_1b)
abbrev l_choice_2 : Stm := .ret (.bi .tuple (.cons (.var 2) .nil))
def bl_choice : Stms := .cons l_choice_0 (.cons l_choice_1 (.cons l_choice_2 .nil))
def l_choice : Fn := ⟨[Str.ofString "basin", Str.ofString "setting"], [Str.ofString "basin", Str.ofString "setting", Str.ofString "told", Str.ofString "name", Str.ofString "zero", Str.ofString "unit"], [], bl_choice⟩
abbrev l_odd_0 : Stm := .asg (.tup (.cons (.name 2) (.cons (.name 3) (.nil)))) (.var 1)
abbrev l_odd_1 : Stm := .own 4 (.lst (.cons (.tup (.cons (.bin .Mult (.cst (.int 2)) (.var 2)) (.cons (.bin .Mult (.cst (.int 2)) (.var 3)) .nil))) (.cons (.tup (.cons (.var 2) (.cons (.bin .Sub (.cst (.int 0)) (.var 3)) .nil))) (.cons (.lst (.cons (.var 2) (.cons (.var 3) .nil))) (.cons (.tup (.cons (.var 2) (.cons (.var 3) (.cons (.cst (.int 1)) .nil)))) (.cons (.tup (.cons (.var 2) .nil)) (.cons (.tup (.cons (.var 2) (.cons (.cst (.bl true)) .nil))) (.cons (.tup (.cons (.cst (.bl true)) (.cons (.var 3) .nil))) (.cons (.tup (.cons (.var 2) (.cons (.cst (.non)) .nil))) (.cons (.var 2) (.cons (.cst (.non)) (.cons (.cst (.str (Str.ofString "1"))) (.cons (.tup (.cons (.cst (.int 0)) (.cons (.cst (.int 2)) .nil))) (.cons (.tup (.cons (.var 2) (.cons (.cst (.int 0)) .nil))) (.cons (.tup (.cons (.bi .str (.cons (.var 2) .nil)) (.cons (.var 3) .nil))) (.cons (.tup (.cons (.tup (.cons (.var 2) (.cons (.var 3) .nil))) (.cons (.cst (.int 1)) .nil))) (.cons (.tup (.cons (.cst (.int 0)) (.cons (.cst (.int 0)) .nil))) (.cons (.tup (.nil)) .nil))))))))))))))))))
abbrev l_odd_2 : Stm := .ret (.sub (.var 4) (.call (Str.ofString "_law_scoop") (.cons (.v (.var 0)) (.cons (.v (.bi .len (.cons (.var 4) .nil))) (.nil)))))
def bl_odd : Stms := .cons l_odd_0 (.cons l_odd_1 (.cons l_odd_2 .nil))
def l_odd : Fn := ⟨[Str.ofString "basin", Str.ofString "one"], [Str.ofString "basin", Str.ofString "one", Str.ofString "a", Str.ofString "b", Str.ofString "rows"], [], bl_odd⟩
abbrev l_bent_pair_0 : Stm := .asg (.tup (.cons (.name 2) (.cons (.name 3) (.nil)))) (.var 1)
abbrev l_bent_pair_1 : Stm := .own 4 (.lst (.cons (.tup (.cons (.var 2) (.cons (.call (Str.ofString "_law_odd") (.cons (.v (.var 0)) (.cons (.v (.var 3)) (.nil)))) .nil))) (.cons (.tup (.cons (.call (Str.ofString "_law_odd") (.cons (.v (.var 0)) (.cons (.v (.var 2)) (.nil)))) (.cons (.var 3) .nil))) (.cons (.tup (.cons (.var 2) (.cons (.tup (.cons (.cst (.int 0)) (.cons (.cst (.int 1)) .nil))) .nil))) (.cons (.tup (.cons (.var 2) (.cons (.tup (.cons (.neg (.cst (.int 1))) (.cons (.cst (.int 1)) .nil))) .nil))) (.cons (.tup (.cons (.var 2) (.cons (.tup (.cons (.bin .Sub (.cst (.int 0)) (.sub (.var 3) (.cst (.int 0)))) (.cons (.sub (.var 3) (.cst (.int 1))) .nil))) .nil))) (.cons (.lst (.cons (.var 2) (.cons (.var 3) .nil))) (.cons (.tup (.cons (.var 2) .nil)) (.cons (.tup (.cons (.var 2) (.cons (.var 3) (.cons (.var 3) .nil)))) .nil)))))))))
abbrev l_bent_pair_2 : Stm := .own 4 (.bin .Add (.var 4) (.lst (.cons (.tup (.cons (.var 3) (.cons (.var 2) .nil))) (.cons (.var 2) (.cons (.cst (.non)) (.cons (.cst (.bl true)) (.cons (.tup (.cons (.tup (.cons (.cst (.int 1)) (.cons (.cst (.int 1)) .nil))) (.cons (.var 3) .nil))) (.cons (.tup (.cons (.var 2) (.cons (.tup (.cons (.cst (.int 2)) (.cons (.cst (.int 1)) .nil))) .nil))) (.cons (.tup (.cons (.tup (.cons (.cst (.int 0)) (.cons (.cst (.int 1)) .nil))) (.cons (.var 3) .nil))) (.cons (.tup (.cons (.var 2) (.cons (.tup (.cons (.cst (.int 1)) (.cons (.cst (.int 1)) .nil))) .nil))) (.cons (.tup (.cons (.tup (.cons (.cst (.int 1)) (.cons (.cst (.int 2)) .nil))) (.cons (.tup (.cons (.cst (.int 1)) (.cons (.cst (.int 2)) .nil))) .nil))) (.cons (.bin .Add (.var 2) (.var 3)) .nil))))))))))))
abbrev l_bent_pair_3 : Stm := .ret (.sub (.var 4) (.call (Str.ofString "_law_scoop") (.cons (.v (.var 0)) (.cons (.v (.bi .len (.cons (.var 4) .nil))) (.nil)))))
def bl_bent_pair : Stms := .cons l_bent_pair_0 (.cons l_bent_pair_1 (.cons l_bent_pair_2 (.cons l_bent_pair_3 .nil)))
def l_bent_pair : Fn := ⟨[Str.ofString "basin", Str.ofString "pair"], [Str.ofString "basin", Str.ofString "pair", Str.ofString "zero", Str.ofString "unit", Str.ofString "rows"], [], bl_bent_pair⟩
abbrev l_things_0 : Stm := .own 4 (.lst (.cons (.var 3) .nil))
abbrev l_things_1b_0 : Stm := .own 6 (.bi .list (.cons (.var 3) .nil))
abbrev l_things_1b_1b_0 : Stm := .asg (.name 8) (.call (Str.ofString "_law_scoop") (.cons (.v (.var 0)) (.cons (.v (.bi .len (.cons (.var 6) .nil))) (.nil))))
abbrev l_things_1b_1b_1 : Stm := .asg (.name 9) (.sub (.var 3) (.var 8))
abbrev l_things_1b_1b_2 : Stm := .asg (.sub (.var 6) (.var 8)) (.ife (.x (.cmp .Eq (.var 1) (.cst (.int 0)))) (.call (Str.ofString "_law_odd") (.cons (.v (.var 0)) (.cons (.v (.var 9)) (.nil)))) (.call (Str.ofString "_law_bent_pair") (.cons (.v (.var 0)) (.cons (.v (.var 9)) (.nil)))))
abbrev l_things_1b_1b : Stms := .cons l_things_1b_1b_0 (.cons l_things_1b_1b_1 (.cons l_things_1b_1b_2 .nil))
abbrev l_things_1b_1 : Stm := .fors (.name 7) (.rng (.cons (.bin .Add (.cst (.int 1)) (.bin .FloorDiv (.var 5) (.cst (.int 3)))) .nil)) (l_things_1b_1b)
abbrev l_things_1b_2 : Stm := .ex (.meth (.var 4) .append (.cons (.bi .tuple (.cons (.var 6) .nil)) .nil))
abbrev l_things_1b : Stms := .cons l_things_1b_0 (.cons l_things_1b_1 (.cons l_things_1b_2 .nil))
abbrev l_things_1 : Stm := .fors (.name 5) (.rng (.cons (.cst (.int 4)) .nil)) (l_things_1b)
abbrev l_things_2 : Stm := .own 10 (.lst (.cons (.bi .list (.cons (.var 3) .nil)) (.cons (.bin .Add (.var 3) (.slc (.var 3) .no (.yes (.cst (.int 1))))) (.cons (.slc (.var 3) .no (.yes (.neg (.cst (.int 1))))) (.cons (.cst (.non)) (.cons (.cst (.bl true)) (.cons (.bi .len (.cons (.var 3) .nil)) (.cons (.cst (.str (Str.ofString "x"))) (.cons (.tup (.cons (.var 3) .nil)) (.cons (.lst (.nil)) (.cons (.tup (.nil)) .nil)))))))))))
abbrev l_things_3 : Stm := .ret (.bin .Add (.var 4) (.lst (.cons (.sub (.var 10) (.call (Str.ofString "_law_scoop") (.cons (.v (.var 0)) (.cons (.v (.cst (.int 10))) (.nil))))) (.cons (.sub (.var 10) (.call (Str.ofString "_law_scoop") (.cons (.v (.var 0)) (.cons (.v (.cst (.int 4))) (.nil))))) .nil))))
def bl_things : Stms := .cons l_things_0 (.cons l_things_1 (.cons l_things_2 (.cons l_things_3 .nil)))
def l_things : Fn := ⟨[Str.ofString "basin", Str.ofString "which", Str.ofString "setting", Str.ofString "right"], [Str.ofString "basin", Str.ofString "which", Str.ofString "setting", Str.ofString "right", Str.ofString "told", Str.ofString "turn", Str.ofString "rows", Str.ofString "lap", Str.ofString "at", Str.ofString "one", Str.ofString "more"], [], bl_things⟩
abbrev l_scene_0 : Stm := .par2 1 2 (.call (Str.ofString "_law_setting") (.cons (.v (.var 0)) (.nil))) (.call (Str.ofString "_law_setting") (.cons (.v (.var 0)) (.nil)))
abbrev l_scene_1 : Stm := .par2 3 4 (.call (Str.ofString "_law_values") (.cons (.v (.var 0)) (.cons (.v (.var 1)) (.nil)))) (.call (Str.ofString "_law_choice") (.cons (.v (.var 0)) (.cons (.v (.var 1)) (.nil))))
abbrev l_scene_2b_0 : Stm := .ite (.b false (.cons (.n (.x (.call (Str.ofString "_law_looked") (.cons (.v (.cst (.int 0))) (.cons (.v (.var 1)) (.cons (.v (.var 5)) (.nil))))))) (.cons (.n (.x (.call (Str.ofString "_law_looked") (.cons (.v (.cst (.int 0))) (.cons (.v (.var 2)) (.cons (.v (.var 5)) (.nil))))))) (.nil)))) (.cons (.ret (.cst (.bl false))) .nil) (.nil)
abbrev l_scene_2b : Stms := .cons l_scene_2b_0 .nil
abbrev l_scene_2 : Stm := .fors (.name 5) (.q (.call (Str.ofString "_law_things") (.cons (.v (.var 0)) (.cons (.v (.cst (.int 0))) (.cons (.v (.var 1)) (.cons (.v (.var 3)) (.nil))))))) (l_scene_2b)
abbrev l_scene_3b_0 : Stm := .ite (.b false (.cons (.n (.x (.call (Str.ofString "_law_looked") (.cons (.v (.cst (.int 1))) (.cons (.v (.var 1)) (.cons (.v (.var 5)) (.nil))))))) (.cons (.n (.x (.call (Str.ofString "_law_looked") (.cons (.v (.cst (.int 1))) (.cons (.v (.var 2)) (.cons (.v (.var 5)) (.nil))))))) (.nil)))) (.cons (.ret (.cst (.bl false))) .nil) (.nil)
abbrev l_scene_3b : Stms := .cons l_scene_3b_0 .nil
abbrev l_scene_3 : Stm := .fors (.name 5) (.q (.call (Str.ofString "_law_things") (.cons (.v (.var 0)) (.cons (.v (.cst (.int 1))) (.cons (.v (.var 1)) (.cons (.v (.var 4)) (.nil))))))) (l_scene_3b)
abbrev l_scene_4 : Stm := .asg (.name 6) (.call (Str.ofString "plain_choice") (.cons (.v (.var 1)) (.nil)))
abbrev l_scene_5 : Stm := .asg (.name 7) (.bi .tuple (.cons (.bin .Mult (.lst (.cons (.tup (.cons (.tup (.cons (.cst (.int 0)) (.cons (.cst (.int 1)) .nil))) (.cons (.tup (.cons (.cst (.int 1)) (.cons (.cst (.int 1)) .nil))) .nil))) .nil)) (.bi .len (.cons (.sub (.var 1) (.cst (.int 0))) .nil))) .nil))
abbrev l_scene_6 : Stm := .ite (.n (.x (.call (Str.ofString "_law_same") (.cons (.v (.tup (.cons (.var 6) (.cons (.call (Str.ofString "moved") (.cons (.v (.var 1)) (.cons (.v (.var 3)) (.cons (.v (.var 6)) (.nil))))) .nil)))) (.cons (.v (.tup (.cons (.var 7) (.cons (.var 3) .nil)))) (.nil)))))) (.cons (.ret (.cst (.bl false))) .nil) (.nil)
abbrev l_scene_7 : Stm := .ret (.bool true (.cons (.call (Str.ofString "_law_looked") (.cons (.v (.cst (.int 1))) (.cons (.v (.var 1)) (.cons (.v (.var 7)) (.nil))))) (.cons (.call (Str.ofString "_law_looked") (.cons (.v (.cst (.int 1))) (.cons (.v (.var 2)) (.cons (.v (.var 7)) (.nil))))) (.cons (.call (Str.ofString "_law_looked") (.cons (.v (.cst (.int 1))) (.cons (.v (.var 2)) (.cons (.v (.var 4)) (.nil))))) (.cons (.call (Str.ofString "_law_looked") (.cons (.v (.cst (.int 0))) (.cons (.v (.var 1)) (.cons (.v (.var 4)) (.nil))))) .nil)))))
def bl_scene : Stms := .cons l_scene_0 (.cons l_scene_1 (.cons l_scene_2 (.cons l_scene_3 (.cons l_scene_4 (.cons l_scene_5 (.cons l_scene_6 (.cons l_scene_7 .nil)))))))
def l_scene : Fn := ⟨[Str.ofString "basin"], [Str.ofString "basin", Str.ofString "setting", Str.ofString "other", Str.ofString "values", Str.ofString "choice", Str.ofString "thing", Str.ofString "plain", Str.ofString "due"], [], bl_scene⟩
abbrev l_told_kinds_0b_0 : Stm := .asg (.name 3) (.tup (.cons (.tup (.cons (.tup (.cons (.cst (.str (Str.ofString "a"))) (.cons (.cst (.str (Str.ofString "free"))) (.cons (.cst (.str (Str.ofString "free"))) .nil)))) (.cons (.tup (.cons (.cst (.str (Str.ofString "b"))) (.cons (.var 1) (.cons (.var 2) .nil)))) .nil))) (.cons (.tup (.cons (.tup (.cons (.cst (.str (Str.ofString "x"))) (.cons (.cst (.int 1)) .nil))) .nil)) .nil)))
abbrev l_told_kinds_0b_1b_0 : Stm := .ite (.n (.x (.call (Str.ofString "_law_looked") (.cons (.v (.cst (.int 1))) (.cons (.v (.var 3)) (.cons (.v (.tup (.cons (.tup (.cons (.tup (.cons (.cst (.int 7)) (.cons (.cst (.int 1)) .nil))) (.cons (.tup (.cons (.cst (.int 1)) (.cons (.cst (.int 7)) .nil))) .nil))) (.cons (.var 4) .nil)))) (.nil))))))) (.cons (.ret (.cst (.bl false))) .nil) (.nil)
abbrev l_told_kinds_0b_1b : Stms := .cons l_told_kinds_0b_1b_0 .nil
abbrev l_told_kinds_0b_1 : Stm := .fors (.name 4) (.q (.tup (.cons (.tup (.cons (.tup (.cons (.cst (.int 0)) (.cons (.cst (.int 1)) .nil))) (.cons (.tup (.cons (.cst (.int 1)) (.cons (.cst (.int 1)) .nil))) .nil))) (.cons (.tup (.cons (.tup (.cons (.cst (.int 5)) (.cons (.cst (.int 2)) .nil))) (.cons (.tup (.cons (.cst (.int 1)) (.cons (.cst (.int 1)) .nil))) .nil))) (.cons (.tup (.cons (.tup (.cons (.cst (.int 0)) (.cons (.cst (.int 1)) .nil))) (.cons (.tup (.cons (.cst (.int 3)) (.cons (.cst (.int 2)) .nil))) .nil))) (.cons (.tup (.cons (.tup (.cons (.neg (.cst (.int 1))) (.cons (.cst (.int 1)) .nil))) (.cons (.tup (.cons (.cst (.int 2)) (.cons (.cst (.int 1)) .nil))) .nil))) (.cons (.tup (.cons (.tup (.cons (.cst (.int 0)) (.cons (.cst (.int 1)) .nil))) (.cons (.tup (.cons (.cst (.int 0)) (.cons (.cst (.int 1)) .nil))) .nil))) (.cons (.tup (.cons (.tup (.cons (.cst (.int 1)) (.cons (.cst (.int 1)) .nil))) (.cons (.tup (.cons (.neg (.cst (.int 1))) (.cons (.cst (.int 2)) .nil))) .nil))) .nil)))))))) (l_told_kinds_0b_1b)
abbrev l_told_kinds_0b : Stms := .cons l_told_kinds_0b_0 (.cons l_told_kinds_0b_1 .nil)
abbrev l_told_kinds_0 : Stm := .fors (.tup (.cons (.name 1) (.cons (.name 2) (.nil)))) (.q (.tup (.cons (.tup (.cons (.cst (.str (Str.ofString "told"))) (.cons (.cst (.str (Str.ofString "told"))) .nil))) (.cons (.tup (.cons (.cst (.str (Str.ofString "told"))) (.cons (.cst (.str (Str.ofString "free"))) .nil))) (.cons (.tup (.cons (.cst (.str (Str.ofString "free"))) (.cons (.cst (.str (Str.ofString "told"))) .nil))) (.cons (.tup (.cons (.cst (.str (Str.ofString "free"))) (.cons (.cst (.str (Str.ofString "free"))) .nil))) .nil)))))) (l_told_kinds_0b)
abbrev l_told_kinds_1 : Stm := .ret (.cst (.bl true))
def bl_told_kinds : Stms := .cons l_told_kinds_0 (.cons l_told_kinds_1 .nil)
def l_told_kinds : Fn := ⟨[Str.ofString "basin"], [Str.ofString "basin", Str.ofString "zero", Str.ofString "unit", Str.ofString "setting", Str.ofString "pair"], [], bl_told_kinds⟩
abbrev l_hand_0 : Stm := .asg (.name 0) (.tup (.cons (.tup (.cons (.tup (.cons (.cst (.str (Str.ofString "time"))) (.cons (.cst (.str (Str.ofString "free"))) (.cons (.cst (.str (Str.ofString "told"))) .nil)))) (.cons (.tup (.cons (.cst (.str (Str.ofString "heat"))) (.cons (.cst (.str (Str.ofString "free"))) (.cons (.cst (.str (Str.ofString "free"))) .nil)))) .nil))) (.cons (.tup (.cons (.tup (.cons (.cst (.str (Str.ofString "start"))) (.cons (.cst (.int 0)) .nil))) (.cons (.tup (.cons (.cst (.str (Str.ofString "stop"))) (.cons (.cst (.int 0)) .nil))) (.cons (.tup (.cons (.cst (.str (Str.ofString "in"))) (.cons (.cst (.int 1)) .nil))) (.cons (.tup (.cons (.cst (.str (Str.ofString "out"))) (.cons (.cst (.int 1)) .nil))) .nil))))) .nil)))
abbrev l_hand_1 : Stm := .asg (.name 1) (.tup (.cons (.tup (.cons (.cst (.int 8)) (.cons (.cst (.int 1)) .nil))) (.cons (.tup (.cons (.cst (.int 12)) (.cons (.cst (.int 1)) .nil))) (.cons (.tup (.cons (.cst (.int 21)) (.cons (.cst (.int 1)) .nil))) (.cons (.tup (.cons (.cst (.int 35)) (.cons (.cst (.int 2)) .nil))) .nil)))))
abbrev l_hand_2 : Stm := .asg (.name 2) (.tup (.cons (.tup (.cons (.cst (.int 0)) (.cons (.cst (.int 1)) .nil))) (.cons (.tup (.cons (.cst (.int 1)) (.cons (.cst (.int 1)) .nil))) .nil)))
abbrev l_hand_3 : Stm := .asg (.name 3) (.tup (.cons (.call (Str.ofString "_law_checked") (.cons (.v (.cst (.int 0))) (.cons (.v (.var 0)) (.cons (.v (.var 1)) (.nil))))) (.cons (.callk (Str.ofString "plain_choice") 0 [Str.ofString "setting"] (.cons (.v (.var 0)) (.nil))) (.cons (.callk (Str.ofString "is_choice") 0 [Str.ofString "setting", Str.ofString "thing"] (.cons (.v (.var 0)) (.cons (.v (.tup (.cons (.tup (.cons (.tup (.cons (.cst (.int 1)) (.cons (.cst (.int 2)) .nil))) (.cons (.tup (.cons (.cst (.int 2)) (.cons (.cst (.int 1)) .nil))) .nil))) (.cons (.var 2) .nil)))) (.nil)))) (.cons (.callk (Str.ofString "are_values") 0 [Str.ofString "setting", Str.ofString "thing"] (.cons (.v (.var 0)) (.cons (.v (.var 1)) (.nil)))) .nil)))))
abbrev l_hand_4 : Stm := .ite (.n (.x (.call (Str.ofString "_law_same") (.cons (.v (.var 3)) (.cons (.v (.tup (.cons (.tup (.cons (.cst (.str (Str.ofString "told"))) (.cons (.cst (.int 4)) .nil))) (.cons (.tup (.cons (.var 2) (.cons (.var 2) .nil))) (.cons (.cst (.bl false)) (.cons (.cst (.bl true)) .nil)))))) (.nil)))))) (.cons (.ret (.cst (.bl false))) .nil) (.nil)
abbrev l_hand_5 : Stm := .asg (.name 3) (.tup (.cons (.call (Str.ofString "_law_checked") (.cons (.v (.cst (.int 1))) (.cons (.v (.var 0)) (.cons (.v (.tup (.cons (.var 2) (.cons (.tup (.cons (.tup (.cons (.cst (.int 3)) (.cons (.cst (.int 2)) .nil))) (.cons (.tup (.cons (.cst (.int 0)) (.cons (.cst (.int 1)) .nil))) .nil))) .nil)))) (.nil))))) (.cons (.call (Str.ofString "_law_checked") (.cons (.v (.cst (.int 1))) (.cons (.v (.var 0)) (.cons (.v (.tup (.cons (.var 2) (.cons (.tup (.cons (.tup (.cons (.cst (.int 3)) (.cons (.cst (.int 2)) .nil))) (.cons (.tup (.cons (.cst (.int 1)) (.cons (.cst (.int 9)) .nil))) .nil))) .nil)))) (.nil))))) (.cons (.call (Str.ofString "_law_checked") (.cons (.v (.cst (.int 0))) (.cons (.v (.var 0)) (.cons (.v (.slc (.var 1) .no (.yes (.cst (.int 3))))) (.nil))))) (.cons (.call (Str.ofString "_law_checked") (.cons (.v (.cst (.int 0))) (.cons (.v (.var 0)) (.cons (.v (.bin .Add (.slc (.var 1) .no (.yes (.cst (.int 3)))) (.tup (.cons (.tup (.cons (.cst (.int 70)) (.cons (.cst (.int 4)) .nil))) .nil)))) (.nil))))) .nil)))))
abbrev l_hand_6 : Stm := .ret (.call (Str.ofString "_law_same") (.cons (.v (.var 3)) (.cons (.v (.tup (.cons (.tup (.cons (.cst (.str (Str.ofString "bad"))) (.cons (.cst (.int 1)) .nil))) (.cons (.tup (.cons (.cst (.str (Str.ofString "told"))) (.cons (.cst (.int 2)) .nil))) (.cons (.tup (.cons (.cst (.str (Str.ofString "bad"))) (.cons (.neg (.cst (.int 1))) .nil))) (.cons (.tup (.cons (.cst (.str (Str.ofString "bad"))) (.cons (.cst (.int 3)) .nil))) .nil)))))) (.nil))))
def bl_hand : Stms := .cons l_hand_0 (.cons l_hand_1 (.cons l_hand_2 (.cons l_hand_3 (.cons l_hand_4 (.cons l_hand_5 (.cons l_hand_6 .nil))))))
def l_hand : Fn := ⟨[], [Str.ofString "setting", Str.ofString "now", Str.ofString "plain", Str.ofString "told"], [], bl_hand⟩
abbrev f_law_0 : Stm := .asg (.name 1) (.call (Str.ofString "_law_basin") (.cons (.b (.var 0)) (.nil)))
abbrev f_law_1 : Stm := .ret (.bool true (.cons (.call (Str.ofString "_law_hand") (.nil)) (.cons (.call (Str.ofString "_law_told_kinds") (.cons (.v (.var 1)) (.nil))) (.cons (.call (Str.ofString "_law_scene") (.cons (.v (.var 1)) (.nil))) (.cons (.call (Str.ofString "_law_scene") (.cons (.v (.var 1)) (.nil))) .nil)))))
def bf_law : Stms := .cons f_law_0 (.cons f_law_1 .nil)
def f_law : Fn := ⟨[Str.ofString "script"], [Str.ofString "script", Str.ofString "basin"], [], bf_law⟩
def prog : Prog := [(Str.ofString "is_integer", f_is_integer), (Str.ofString "tuple_of", f_tuple_of), (Str.ofString "are_integers", f_are_integers), (Str.ofString "quotient_of", f_quotient_of), (Str.ofString "is_quotient", f_is_quotient), (Str.ofString "plus", f_plus), (Str.ofString "times", f_times), (Str.ofString "sign_of", f_sign_of), (Str.ofString "check_values", f_check_values), (Str.ofString "is_choice_of", f_is_choice_of), (Str.ofString "check_choice", f_check_choice), (Str.ofString "are_values", f_are_values), (Str.ofString "is_choice", f_is_choice), (Str.ofString "plain_choice", f_plain_choice), (Str.ofString "moved", f_moved), (Str.ofString "_law_basin", l_basin), (Str.ofString "_law_scoop", l_scoop), (Str.ofString "_law_same", l_same), (Str.ofString "_law_whole", l_whole), (Str.ofString "_law_is", l_is), (Str.ofString "_law_pair", l_pair), (Str.ofString "_law_due", l_due), (Str.ofString "_law_checked", l_checked), (Str.ofString "_law_looked", l_looked), (Str.ofString "_law_setting", l_setting), (Str.ofString "_law_quotient", l_quotient), (Str.ofString "_law_values", l_values), (Str.ofString "_law_choice", l_choice), (Str.ofString "_law_odd", l_odd), (Str.ofString "_law_bent_pair", l_bent_pair), (Str.ofString "_law_things", l_things), (Str.ofString "_law_scene", l_scene), (Str.ofString "_law_told_kinds", l_told_kinds), (Str.ofString "_law_hand", l_hand), (Str.ofString "law", f_law)]

end G
namespace G
open PySem PySem.Spec PyProof.Rows L2
def csL : List (Str × D) := [((Str.ofString "ZERO"), .tup [.int 0, .int 1]), ((Str.ofString "ONE"), .tup [.int 1, .int 1])]
abbrev eBadValues : ErD := ((Str.ofString "BadValues"), [(Str.ofString "at")], [(Str.ofString "BadValues"), (Str.ofString "DataError"), (Str.ofString "WhateverError")])
def gi : GI := ⟨[(Str.ofString "ValueError"), (Str.ofString "abs"), (Str.ofString "all"), (Str.ofString "bool"), (Str.ofString "enumerate"), (Str.ofString "int"), (Str.ofString "isinstance"), (Str.ofString "len"), (Str.ofString "list"), (Str.ofString "range"), (Str.ofString "str"), (Str.ofString "super"), (Str.ofString "tuple"), (Str.ofString "zip")], true, prog, fun x => csL.lookup x, fun f => (([((Str.ofString "plain_choice"), [[(Str.ofString "setting")]]), ((Str.ofString "is_choice"), [[(Str.ofString "setting"), (Str.ofString "thing")]]), ((Str.ofString "are_values"), [[(Str.ofString "setting"), (Str.ofString "thing")]])] : List (Str × List (List Str))).lookup f).getD [], [eBadValues], [(Str.ofString "BadValues"), (Str.ofString "WhateverError"), (Str.ofString "DataError")]⟩
def top (i : Nat) : Stmt := PySem.Challenge.pw_whateverzero_k05_values_and_choices_chec.main.body.getD i (.Pass ⟨0, 0, 0, 0⟩)
abbrev iBadValues : IniD := ⟨(Str.ofString "BadValues"), (Str.ofString "BadValues.__init__"), defArgs (clsM (top 4) 0), defBody (clsM (top 4) 0), defScope (clsM (top 4) 0)⟩
def iniL : List IniD := [iBadValues]
abbrev bBadValues : List Stmt := [supSt ⟨10, 8, 10, 13⟩ ⟨10, 8, 10, 15⟩ ⟨10, 8, 10, 24⟩ ⟨10, 8, 10, 28⟩ ⟨10, 8, 10, 28⟩ (.Name (Str.ofString "at") ⟨10, 25, 10, 27⟩) [], .Assign [.Attribute (.Name (Str.ofString "self") ⟨11, 8, 11, 12⟩) (Str.ofString "at") ⟨11, 8, 11, 15⟩] (.Name (Str.ofString "at") ⟨11, 18, 11, 20⟩) ⟨11, 8, 11, 20⟩]
theorem rBadValues {P : Program} {w : World} {K : PySem.W.Frag} {h : Heap} {mg : Str → Option Value} (X : K.In h) (G : h.Ns mainGlobals mg) (hr : raiB K P.main.file gi.flds gi.cls eBadValues = true) (hw : iniW K iBadValues = (iBadValues).val) (top : (P.main.scope.names.lookup ("super" : Str)).isSome = false) (base : Heap) : RaF P w K mg base eBadValues := by
  obtain ⟨C, f, cc, cd, kV, doc, pm, ct, an, mg, T, iC, tI, hcd, hno, F⟩ := supF_ok (e := eBadValues) (d := iBadValues) (bd := bBadValues) X G hr rfl (by decide +kernel) (by kernel_rfl) hw top
  obtain ⟨ar, hp, har⟩ : ∃ ar, ((iBadValues).params.posonlyargs ++ (iBadValues).params.args).head? = some ar ∧ ar.arg = (Str.ofString "self") := ⟨_, rfl, rfl⟩
  refine ⟨C, f, _, [(Str.ofString "self"), (Str.ofString "at")], mg, T, iC, tI, sinit1 (N := [(Str.ofString "self"), (Str.ofString "at"), (Str.ofString "__class__")]) F (NdefX.nscope_by (by kernel_rfl)) hcd hp har (by kernel_rfl) (hno _ (by decide +kernel)) (by decide) (by decide) (by decide) (by decide) ?_ ?_ ?_ ?_, .all fun us hl => match us, hl with | [_, _], _ => rfl, by decide⟩
  · exact fun env h => ⟨_, rfl⟩
  · intro env h; unfold interactive; rw [h]; rfl
  · exact fun env h => rfl
  · exact fun env h => rfl
abbrev df_is_integer : He.DefD := ⟨((Str.ofString "is_integer"), none), (Str.ofString "is_integer"), (Str.ofString "is_integer"), defArgs (top 6), defBody (top 6), defScope (top 6), [], []⟩
abbrev df_tuple_of : He.DefD := ⟨((Str.ofString "tuple_of"), none), (Str.ofString "tuple_of"), (Str.ofString "tuple_of"), defArgs (top 7), defBody (top 7), defScope (top 7), [], []⟩
abbrev df_are_integers : He.DefD := ⟨((Str.ofString "are_integers"), none), (Str.ofString "are_integers"), (Str.ofString "are_integers"), defArgs (top 8), defBody (top 8), defScope (top 8), [], []⟩
abbrev df_quotient_of : He.DefD := ⟨((Str.ofString "quotient_of"), none), (Str.ofString "quotient_of"), (Str.ofString "quotient_of"), defArgs (top 12), defBody (top 12), defScope (top 12), [], []⟩
abbrev df_is_quotient : He.DefD := ⟨((Str.ofString "is_quotient"), none), (Str.ofString "is_quotient"), (Str.ofString "is_quotient"), defArgs (top 13), defBody (top 13), defScope (top 13), [], []⟩
abbrev df_plus : He.DefD := ⟨((Str.ofString "plus"), none), (Str.ofString "plus"), (Str.ofString "plus"), defArgs (top 14), defBody (top 14), defScope (top 14), [], []⟩
abbrev df_times : He.DefD := ⟨((Str.ofString "times"), none), (Str.ofString "times"), (Str.ofString "times"), defArgs (top 15), defBody (top 15), defScope (top 15), [], []⟩
abbrev df_sign_of : He.DefD := ⟨((Str.ofString "sign_of"), none), (Str.ofString "sign_of"), (Str.ofString "sign_of"), defArgs (top 16), defBody (top 16), defScope (top 16), [], []⟩
abbrev df_check_values : He.DefD := ⟨((Str.ofString "check_values"), none), (Str.ofString "check_values"), (Str.ofString "check_values"), defArgs (top 18), defBody (top 18), defScope (top 18), [], []⟩
abbrev df_is_choice_of : He.DefD := ⟨((Str.ofString "is_choice_of"), none), (Str.ofString "is_choice_of"), (Str.ofString "is_choice_of"), defArgs (top 19), defBody (top 19), defScope (top 19), [], []⟩
abbrev df_check_choice : He.DefD := ⟨((Str.ofString "check_choice"), none), (Str.ofString "check_choice"), (Str.ofString "check_choice"), defArgs (top 20), defBody (top 20), defScope (top 20), [], []⟩
abbrev df_are_values : He.DefD := ⟨((Str.ofString "are_values"), none), (Str.ofString "are_values"), (Str.ofString "are_values"), defArgs (top 21), defBody (top 21), defScope (top 21), [], []⟩
abbrev df_is_choice : He.DefD := ⟨((Str.ofString "is_choice"), none), (Str.ofString "is_choice"), (Str.ofString "is_choice"), defArgs (top 22), defBody (top 22), defScope (top 22), [], []⟩
abbrev df_plain_choice : He.DefD := ⟨((Str.ofString "plain_choice"), none), (Str.ofString "plain_choice"), (Str.ofString "plain_choice"), defArgs (top 23), defBody (top 23), defScope (top 23), [], []⟩
abbrev df_moved : He.DefD := ⟨((Str.ofString "moved"), none), (Str.ofString "moved"), (Str.ofString "moved"), defArgs (top 24), defBody (top 24), defScope (top 24), [], []⟩
abbrev dl_basin : He.DefD := ⟨((Str.ofString "_law_basin"), none), (Str.ofString "_law_basin"), (Str.ofString "_law_basin"), defArgs (top 26), defBody (top 26), defScope (top 26), [], []⟩
abbrev dl_scoop : He.DefD := ⟨((Str.ofString "_law_scoop"), none), (Str.ofString "_law_scoop"), (Str.ofString "_law_scoop"), defArgs (top 27), defBody (top 27), defScope (top 27), [.int 0], []⟩
abbrev dl_same : He.DefD := ⟨((Str.ofString "_law_same"), none), (Str.ofString "_law_same"), (Str.ofString "_law_same"), defArgs (top 28), defBody (top 28), defScope (top 28), [], []⟩
abbrev dl_whole : He.DefD := ⟨((Str.ofString "_law_whole"), none), (Str.ofString "_law_whole"), (Str.ofString "_law_whole"), defArgs (top 29), defBody (top 29), defScope (top 29), [], []⟩
abbrev dl_is : He.DefD := ⟨((Str.ofString "_law_is"), none), (Str.ofString "_law_is"), (Str.ofString "_law_is"), defArgs (top 30), defBody (top 30), defScope (top 30), [], []⟩
abbrev dl_pair : He.DefD := ⟨((Str.ofString "_law_pair"), none), (Str.ofString "_law_pair"), (Str.ofString "_law_pair"), defArgs (top 31), defBody (top 31), defScope (top 31), [], []⟩
abbrev dl_due : He.DefD := ⟨((Str.ofString "_law_due"), none), (Str.ofString "_law_due"), (Str.ofString "_law_due"), defArgs (top 32), defBody (top 32), defScope (top 32), [], []⟩
abbrev dl_checked : He.DefD := ⟨((Str.ofString "_law_checked"), none), (Str.ofString "_law_checked"), (Str.ofString "_law_checked"), defArgs (top 33), defBody (top 33), defScope (top 33), [], []⟩
abbrev dl_looked : He.DefD := ⟨((Str.ofString "_law_looked"), none), (Str.ofString "_law_looked"), (Str.ofString "_law_looked"), defArgs (top 34), defBody (top 34), defScope (top 34), [], []⟩
abbrev dl_setting : He.DefD := ⟨((Str.ofString "_law_setting"), none), (Str.ofString "_law_setting"), (Str.ofString "_law_setting"), defArgs (top 35), defBody (top 35), defScope (top 35), [], []⟩
abbrev dl_quotient : He.DefD := ⟨((Str.ofString "_law_quotient"), none), (Str.ofString "_law_quotient"), (Str.ofString "_law_quotient"), defArgs (top 36), defBody (top 36), defScope (top 36), [], []⟩
abbrev dl_values : He.DefD := ⟨((Str.ofString "_law_values"), none), (Str.ofString "_law_values"), (Str.ofString "_law_values"), defArgs (top 37), defBody (top 37), defScope (top 37), [], []⟩
abbrev dl_choice : He.DefD := ⟨((Str.ofString "_law_choice"), none), (Str.ofString "_law_choice"), (Str.ofString "_law_choice"), defArgs (top 38), defBody (top 38), defScope (top 38), [], []⟩
abbrev dl_odd : He.DefD := ⟨((Str.ofString "_law_odd"), none), (Str.ofString "_law_odd"), (Str.ofString "_law_odd"), defArgs (top 39), defBody (top 39), defScope (top 39), [], []⟩
abbrev dl_bent_pair : He.DefD := ⟨((Str.ofString "_law_bent_pair"), none), (Str.ofString "_law_bent_pair"), (Str.ofString "_law_bent_pair"), defArgs (top 40), defBody (top 40), defScope (top 40), [], []⟩
abbrev dl_things : He.DefD := ⟨((Str.ofString "_law_things"), none), (Str.ofString "_law_things"), (Str.ofString "_law_things"), defArgs (top 41), defBody (top 41), defScope (top 41), [], []⟩
abbrev dl_scene : He.DefD := ⟨((Str.ofString "_law_scene"), none), (Str.ofString "_law_scene"), (Str.ofString "_law_scene"), defArgs (top 42), defBody (top 42), defScope (top 42), [], []⟩
abbrev dl_told_kinds : He.DefD := ⟨((Str.ofString "_law_told_kinds"), none), (Str.ofString "_law_told_kinds"), (Str.ofString "_law_told_kinds"), defArgs (top 43), defBody (top 43), defScope (top 43), [], []⟩
abbrev dl_hand : He.DefD := ⟨((Str.ofString "_law_hand"), none), (Str.ofString "_law_hand"), (Str.ofString "_law_hand"), defArgs (top 44), defBody (top 44), defScope (top 44), [], []⟩
abbrev df_law : He.DefD := ⟨((Str.ofString "law"), none), (Str.ofString "law"), (Str.ofString "law"), defArgs (top 45), defBody (top 45), defScope (top 45), [], []⟩
def fnL : List He.DefD := [df_is_integer, df_tuple_of, df_are_integers, df_quotient_of, df_is_quotient, df_plus, df_times, df_sign_of, df_check_values, df_is_choice_of, df_check_choice, df_are_values, df_is_choice, df_plain_choice, df_moved, dl_basin, dl_scoop, dl_same, dl_whole, dl_is, dl_pair, dl_due, dl_checked, dl_looked, dl_setting, dl_quotient, dl_values, dl_choice, dl_odd, dl_bent_pair, dl_things, dl_scene, dl_told_kinds, dl_hand, df_law]
def faL : List He.Fa := [.glo (Str.ofString "is_integer"), .glo (Str.ofString "tuple_of"), .glo (Str.ofString "are_integers"), .glo (Str.ofString "quotient_of"), .glo (Str.ofString "is_quotient"), .glo (Str.ofString "plus"), .glo (Str.ofString "times"), .glo (Str.ofString "sign_of"), .glo (Str.ofString "check_values"), .glo (Str.ofString "is_choice_of"), .glo (Str.ofString "check_choice"), .glo (Str.ofString "are_values"), .glo (Str.ofString "is_choice"), .glo (Str.ofString "plain_choice"), .glo (Str.ofString "moved"), .glo (Str.ofString "_law_basin"), .glo (Str.ofString "_law_scoop"), .glo (Str.ofString "_law_same"), .glo (Str.ofString "_law_whole"), .glo (Str.ofString "_law_is"), .glo (Str.ofString "_law_pair"), .glo (Str.ofString "_law_due"), .glo (Str.ofString "_law_checked"), .glo (Str.ofString "_law_looked"), .glo (Str.ofString "_law_setting"), .glo (Str.ofString "_law_quotient"), .glo (Str.ofString "_law_values"), .glo (Str.ofString "_law_choice"), .glo (Str.ofString "_law_odd"), .glo (Str.ofString "_law_bent_pair"), .glo (Str.ofString "_law_things"), .glo (Str.ofString "_law_scene"), .glo (Str.ofString "_law_told_kinds"), .glo (Str.ofString "_law_hand"), .glo (Str.ofString "law"), .free (Str.ofString "ValueError"), .free (Str.ofString "abs"), .free (Str.ofString "all"), .free (Str.ofString "bool"), .free (Str.ofString "enumerate"), .free (Str.ofString "int"), .free (Str.ofString "isinstance"), .free (Str.ofString "len"), .free (Str.ofString "list"), .free (Str.ofString "range"), .free (Str.ofString "str"), .free (Str.ofString "super"), .free (Str.ofString "tuple"), .free (Str.ofString "zip")]
/-! ### the look at each def -/
theorem mf_is_integer : mtSs gi ⟨f_is_integer.N, defScope (top 6), fun _ => true⟩ f_is_integer.body (defBody (top 6)) = true := by kernel_rfl
theorem sf_is_integer : FnScope f_is_integer.N f_is_integer.ps (defScope (top 6)) := ⟨by kernel_rfl, by kernel_rfl, by kernel_rfl, by decide +kernel, by kernel_rfl, by decide +kernel, by decide +kernel⟩
theorem mf_tuple_of : mtSs gi ⟨f_tuple_of.N, defScope (top 7), fun _ => true⟩ f_tuple_of.body (defBody (top 7)) = true := by kernel_rfl
theorem sf_tuple_of : FnScope f_tuple_of.N f_tuple_of.ps (defScope (top 7)) := ⟨by kernel_rfl, by kernel_rfl, by kernel_rfl, by decide +kernel, by kernel_rfl, by decide +kernel, by decide +kernel⟩
theorem mf_are_integers : mtSs gi ⟨f_are_integers.N, defScope (top 8), fun _ => true⟩ f_are_integers.body (defBody (top 8)) = true := by kernel_rfl
theorem sf_are_integers : FnScope f_are_integers.N f_are_integers.ps (defScope (top 8)) := ⟨by kernel_rfl, by kernel_rfl, by kernel_rfl, by decide +kernel, by kernel_rfl, by decide +kernel, by decide +kernel⟩
theorem mf_quotient_of : mtSs gi ⟨f_quotient_of.N, defScope (top 12), fun _ => true⟩ f_quotient_of.body (defBody (top 12)) = true := by kernel_rfl
theorem sf_quotient_of : FnScope f_quotient_of.N f_quotient_of.ps (defScope (top 12)) := ⟨by kernel_rfl, by kernel_rfl, by kernel_rfl, by decide +kernel, by kernel_rfl, by decide +kernel, by decide +kernel⟩
theorem mf_is_quotient : mtSs gi ⟨f_is_quotient.N, defScope (top 13), fun _ => true⟩ f_is_quotient.body (defBody (top 13)) = true := by kernel_rfl
theorem sf_is_quotient : FnScope f_is_quotient.N f_is_quotient.ps (defScope (top 13)) := ⟨by kernel_rfl, by kernel_rfl, by kernel_rfl, by decide +kernel, by kernel_rfl, by decide +kernel, by decide +kernel⟩
theorem mf_plus : mtSs gi ⟨f_plus.N, defScope (top 14), fun _ => true⟩ f_plus.body (defBody (top 14)) = true := by kernel_rfl
theorem sf_plus : FnScope f_plus.N f_plus.ps (defScope (top 14)) := ⟨by kernel_rfl, by kernel_rfl, by kernel_rfl, by decide +kernel, by kernel_rfl, by decide +kernel, by decide +kernel⟩
theorem mf_times : mtSs gi ⟨f_times.N, defScope (top 15), fun _ => true⟩ f_times.body (defBody (top 15)) = true := by kernel_rfl
theorem sf_times : FnScope f_times.N f_times.ps (defScope (top 15)) := ⟨by kernel_rfl, by kernel_rfl, by kernel_rfl, by decide +kernel, by kernel_rfl, by decide +kernel, by decide +kernel⟩
theorem mf_sign_of : mtSs gi ⟨f_sign_of.N, defScope (top 16), fun _ => true⟩ f_sign_of.body (defBody (top 16)) = true := by kernel_rfl
theorem sf_sign_of : FnScope f_sign_of.N f_sign_of.ps (defScope (top 16)) := ⟨by kernel_rfl, by kernel_rfl, by kernel_rfl, by decide +kernel, by kernel_rfl, by decide +kernel, by decide +kernel⟩
theorem mf_check_values : mtSs gi ⟨f_check_values.N, defScope (top 18), fun _ => true⟩ f_check_values.body (defBody (top 18)) = true := by kernel_rfl
theorem sf_check_values : FnScope f_check_values.N f_check_values.ps (defScope (top 18)) := ⟨by kernel_rfl, by kernel_rfl, by kernel_rfl, by decide +kernel, by kernel_rfl, by decide +kernel, by decide +kernel⟩
theorem mf_is_choice_of : mtSs gi ⟨f_is_choice_of.N, defScope (top 19), fun _ => true⟩ f_is_choice_of.body (defBody (top 19)) = true := by kernel_rfl
theorem sf_is_choice_of : FnScope f_is_choice_of.N f_is_choice_of.ps (defScope (top 19)) := ⟨by kernel_rfl, by kernel_rfl, by kernel_rfl, by decide +kernel, by kernel_rfl, by decide +kernel, by decide +kernel⟩
theorem mf_check_choice : mtSs gi ⟨f_check_choice.N, defScope (top 20), fun _ => true⟩ f_check_choice.body (defBody (top 20)) = true := by kernel_rfl
theorem sf_check_choice : FnScope f_check_choice.N f_check_choice.ps (defScope (top 20)) := ⟨by kernel_rfl, by kernel_rfl, by kernel_rfl, by decide +kernel, by kernel_rfl, by decide +kernel, by decide +kernel⟩
theorem mf_are_values : mtSs gi ⟨f_are_values.N, defScope (top 21), fun _ => true⟩ f_are_values.body (defBody (top 21)) = true := by kernel_rfl
theorem sf_are_values : FnScope f_are_values.N f_are_values.ps (defScope (top 21)) := ⟨by kernel_rfl, by kernel_rfl, by kernel_rfl, by decide +kernel, by kernel_rfl, by decide +kernel, by decide +kernel⟩
theorem mf_is_choice : mtSs gi ⟨f_is_choice.N, defScope (top 22), fun _ => true⟩ f_is_choice.body (defBody (top 22)) = true := by kernel_rfl
theorem sf_is_choice : FnScope f_is_choice.N f_is_choice.ps (defScope (top 22)) := ⟨by kernel_rfl, by kernel_rfl, by kernel_rfl, by decide +kernel, by kernel_rfl, by decide +kernel, by decide +kernel⟩
theorem mf_plain_choice : mtSs gi ⟨f_plain_choice.N, defScope (top 23), fun _ => true⟩ f_plain_choice.body (defBody (top 23)) = true := by kernel_rfl
theorem sf_plain_choice : FnScope f_plain_choice.N f_plain_choice.ps (defScope (top 23)) := ⟨by kernel_rfl, by kernel_rfl, by kernel_rfl, by decide +kernel, by kernel_rfl, by decide +kernel, by decide +kernel⟩
theorem mf_moved : mtSs gi ⟨f_moved.N, defScope (top 24), fun _ => true⟩ f_moved.body (defBody (top 24)) = true := by kernel_rfl
theorem sf_moved : FnScope f_moved.N f_moved.ps (defScope (top 24)) := ⟨by kernel_rfl, by kernel_rfl, by kernel_rfl, by decide +kernel, by kernel_rfl, by decide +kernel, by decide +kernel⟩
theorem ml_basin : mtSs gi ⟨l_basin.N, defScope (top 26), fun _ => true⟩ l_basin.body (defBody (top 26)) = true := by kernel_rfl
theorem sl_basin : FnScope l_basin.N l_basin.ps (defScope (top 26)) := ⟨by kernel_rfl, by kernel_rfl, by kernel_rfl, by decide +kernel, by kernel_rfl, by decide +kernel, by decide +kernel⟩
theorem ml_scoop : mtSs gi ⟨l_scoop.N, defScope (top 27), fun _ => true⟩ l_scoop.body (defBody (top 27)) = true := by kernel_rfl
theorem sl_scoop : FnScope l_scoop.N l_scoop.ps (defScope (top 27)) := ⟨by kernel_rfl, by kernel_rfl, by kernel_rfl, by decide +kernel, by kernel_rfl, by decide +kernel, by decide +kernel⟩
theorem ml_same : mtSs gi ⟨l_same.N, defScope (top 28), fun _ => true⟩ l_same.body (defBody (top 28)) = true := by kernel_rfl
theorem sl_same : FnScope l_same.N l_same.ps (defScope (top 28)) := ⟨by kernel_rfl, by kernel_rfl, by kernel_rfl, by decide +kernel, by kernel_rfl, by decide +kernel, by decide +kernel⟩
theorem ml_whole : mtSs gi ⟨l_whole.N, defScope (top 29), fun _ => true⟩ l_whole.body (defBody (top 29)) = true := by kernel_rfl
theorem sl_whole : FnScope l_whole.N l_whole.ps (defScope (top 29)) := ⟨by kernel_rfl, by kernel_rfl, by kernel_rfl, by decide +kernel, by kernel_rfl, by decide +kernel, by decide +kernel⟩
theorem ml_is : mtSs gi ⟨l_is.N, defScope (top 30), fun _ => true⟩ l_is.body (defBody (top 30)) = true := by kernel_rfl
theorem sl_is : FnScope l_is.N l_is.ps (defScope (top 30)) := ⟨by kernel_rfl, by kernel_rfl, by kernel_rfl, by decide +kernel, by kernel_rfl, by decide +kernel, by decide +kernel⟩
theorem ml_pair : mtSs gi ⟨l_pair.N, defScope (top 31), fun _ => true⟩ l_pair.body (defBody (top 31)) = true := by kernel_rfl
theorem sl_pair : FnScope l_pair.N l_pair.ps (defScope (top 31)) := ⟨by kernel_rfl, by kernel_rfl, by kernel_rfl, by decide +kernel, by kernel_rfl, by decide +kernel, by decide +kernel⟩
theorem ml_due : mtSs gi ⟨l_due.N, defScope (top 32), fun _ => true⟩ l_due.body (defBody (top 32)) = true := by kernel_rfl
theorem sl_due : FnScope l_due.N l_due.ps (defScope (top 32)) := ⟨by kernel_rfl, by kernel_rfl, by kernel_rfl, by decide +kernel, by kernel_rfl, by decide +kernel, by decide +kernel⟩
theorem ml_checked : mtSs gi ⟨l_checked.N, defScope (top 33), fun _ => true⟩ l_checked.body (defBody (top 33)) = true := by kernel_rfl
theorem sl_checked : FnScope l_checked.N l_checked.ps (defScope (top 33)) := ⟨by kernel_rfl, by kernel_rfl, by kernel_rfl, by decide +kernel, by kernel_rfl, by decide +kernel, by decide +kernel⟩
theorem ml_looked : mtSs gi ⟨l_looked.N, defScope (top 34), fun _ => true⟩ l_looked.body (defBody (top 34)) = true := by kernel_rfl
theorem sl_looked : FnScope l_looked.N l_looked.ps (defScope (top 34)) := ⟨by kernel_rfl, by kernel_rfl, by kernel_rfl, by decide +kernel, by kernel_rfl, by decide +kernel, by decide +kernel⟩
theorem ml_setting : mtSs gi ⟨l_setting.N, defScope (top 35), fun _ => true⟩ l_setting.body (defBody (top 35)) = true := by kernel_rfl
theorem sl_setting : FnScope l_setting.N l_setting.ps (defScope (top 35)) := ⟨by kernel_rfl, by kernel_rfl, by kernel_rfl, by decide +kernel, by kernel_rfl, by decide +kernel, by decide +kernel⟩
theorem ml_quotient : mtSs gi ⟨l_quotient.N, defScope (top 36), fun _ => true⟩ l_quotient.body (defBody (top 36)) = true := by kernel_rfl
theorem sl_quotient : FnScope l_quotient.N l_quotient.ps (defScope (top 36)) := ⟨by kernel_rfl, by kernel_rfl, by kernel_rfl, by decide +kernel, by kernel_rfl, by decide +kernel, by decide +kernel⟩
theorem ml_values : mtSs gi ⟨l_values.N, defScope (top 37), fun _ => true⟩ l_values.body (defBody (top 37)) = true := by kernel_rfl
theorem sl_values : FnScope l_values.N l_values.ps (defScope (top 37)) := ⟨by kernel_rfl, by kernel_rfl, by kernel_rfl, by decide +kernel, by kernel_rfl, by decide +kernel, by decide +kernel⟩
theorem ml_choice : mtSs gi ⟨l_choice.N, defScope (top 38), fun _ => true⟩ l_choice.body (defBody (top 38)) = true := by kernel_rfl
theorem sl_choice : FnScope l_choice.N l_choice.ps (defScope (top 38)) := ⟨by kernel_rfl, by kernel_rfl, by kernel_rfl, by decide +kernel, by kernel_rfl, by decide +kernel, by decide +kernel⟩
theorem ml_odd : mtSs gi ⟨l_odd.N, defScope (top 39), fun _ => true⟩ l_odd.body (defBody (top 39)) = true := by kernel_rfl
theorem sl_odd : FnScope l_odd.N l_odd.ps (defScope (top 39)) := ⟨by kernel_rfl, by kernel_rfl, by kernel_rfl, by decide +kernel, by kernel_rfl, by decide +kernel, by decide +kernel⟩
theorem ml_bent_pair : mtSs gi ⟨l_bent_pair.N, defScope (top 40), fun _ => true⟩ l_bent_pair.body (defBody (top 40)) = true := by kernel_rfl
theorem sl_bent_pair : FnScope l_bent_pair.N l_bent_pair.ps (defScope (top 40)) := ⟨by kernel_rfl, by kernel_rfl, by kernel_rfl, by decide +kernel, by kernel_rfl, by decide +kernel, by decide +kernel⟩
theorem ml_things : mtSs gi ⟨l_things.N, defScope (top 41), fun _ => true⟩ l_things.body (defBody (top 41)) = true := by kernel_rfl
theorem sl_things : FnScope l_things.N l_things.ps (defScope (top 41)) := ⟨by kernel_rfl, by kernel_rfl, by kernel_rfl, by decide +kernel, by kernel_rfl, by decide +kernel, by decide +kernel⟩
theorem ml_scene : mtSs gi ⟨l_scene.N, defScope (top 42), fun _ => true⟩ l_scene.body (defBody (top 42)) = true := by kernel_rfl
theorem sl_scene : FnScope l_scene.N l_scene.ps (defScope (top 42)) := ⟨by kernel_rfl, by kernel_rfl, by kernel_rfl, by decide +kernel, by kernel_rfl, by decide +kernel, by decide +kernel⟩
theorem ml_told_kinds : mtSs gi ⟨l_told_kinds.N, defScope (top 43), fun _ => true⟩ l_told_kinds.body (defBody (top 43)) = true := by kernel_rfl
theorem sl_told_kinds : FnScope l_told_kinds.N l_told_kinds.ps (defScope (top 43)) := ⟨by kernel_rfl, by kernel_rfl, by kernel_rfl, by decide +kernel, by kernel_rfl, by decide +kernel, by decide +kernel⟩
theorem ml_hand : mtSs gi ⟨l_hand.N, defScope (top 44), fun _ => true⟩ l_hand.body (defBody (top 44)) = true := by kernel_rfl
theorem sl_hand : FnScope l_hand.N l_hand.ps (defScope (top 44)) := ⟨by kernel_rfl, by kernel_rfl, by kernel_rfl, by decide +kernel, by kernel_rfl, by decide +kernel, by decide +kernel⟩
theorem mf_law : mtSs gi ⟨f_law.N, defScope (top 45), fun _ => true⟩ f_law.body (defBody (top 45)) = true := by kernel_rfl
theorem sf_law : FnScope f_law.N f_law.ps (defScope (top 45)) := ⟨by kernel_rfl, by kernel_rfl, by kernel_rfl, by decide +kernel, by kernel_rfl, by decide +kernel, by decide +kernel⟩
/-! ### each def as it stands -/
section
variable {K : PySem.W.Frag} {mg : Str → Option Value}
theorem kf_is_integer {a : Addr} {fdt : FuncData} (F : FunD K df_is_integer.name df_is_integer.qual df_is_integer.params df_is_integer.body df_is_integer.scope (df_is_integer.dvs K) (df_is_integer.kws K) a fdt) (hm : mg (Str.ofString "is_integer") = some (.ref a)) : FnK K mg gi (Str.ofString "is_integer") f_is_integer a fdt := by
  refine ⟨⟨_, _, _, _, _, _, F, hm, sf_is_integer, mf_is_integer⟩, ?_, ?_⟩
  · exact dfl_none rfl (FunD.bindsN (ps := f_is_integer.ps) F fun _ _ _ _ _ _ us hl => match us, hl with | [_], _ => rfl)
  · intro ks hks
    have e0 : gi.kw (Str.ofString "is_integer") = [] := by kernel_rfl
    rw [e0] at hks; exact absurd hks List.not_mem_nil
theorem kf_tuple_of {a : Addr} {fdt : FuncData} (F : FunD K df_tuple_of.name df_tuple_of.qual df_tuple_of.params df_tuple_of.body df_tuple_of.scope (df_tuple_of.dvs K) (df_tuple_of.kws K) a fdt) (hm : mg (Str.ofString "tuple_of") = some (.ref a)) : FnK K mg gi (Str.ofString "tuple_of") f_tuple_of a fdt := by
  refine ⟨⟨_, _, _, _, _, _, F, hm, sf_tuple_of, mf_tuple_of⟩, ?_, ?_⟩
  · exact dfl_none rfl (FunD.bindsN (ps := f_tuple_of.ps) F fun _ _ _ _ _ _ us hl => match us, hl with | [_, _], _ => rfl)
  · intro ks hks
    have e0 : gi.kw (Str.ofString "tuple_of") = [] := by kernel_rfl
    rw [e0] at hks; exact absurd hks List.not_mem_nil
theorem kf_are_integers {a : Addr} {fdt : FuncData} (F : FunD K df_are_integers.name df_are_integers.qual df_are_integers.params df_are_integers.body df_are_integers.scope (df_are_integers.dvs K) (df_are_integers.kws K) a fdt) (hm : mg (Str.ofString "are_integers") = some (.ref a)) : FnK K mg gi (Str.ofString "are_integers") f_are_integers a fdt := by
  refine ⟨⟨_, _, _, _, _, _, F, hm, sf_are_integers, mf_are_integers⟩, ?_, ?_⟩
  · exact dfl_none rfl (FunD.bindsN (ps := f_are_integers.ps) F fun _ _ _ _ _ _ us hl => match us, hl with | [_], _ => rfl)
  · intro ks hks
    have e0 : gi.kw (Str.ofString "are_integers") = [] := by kernel_rfl
    rw [e0] at hks; exact absurd hks List.not_mem_nil
theorem kf_quotient_of {a : Addr} {fdt : FuncData} (F : FunD K df_quotient_of.name df_quotient_of.qual df_quotient_of.params df_quotient_of.body df_quotient_of.scope (df_quotient_of.dvs K) (df_quotient_of.kws K) a fdt) (hm : mg (Str.ofString "quotient_of") = some (.ref a)) : FnK K mg gi (Str.ofString "quotient_of") f_quotient_of a fdt := by
  refine ⟨⟨_, _, _, _, _, _, F, hm, sf_quotient_of, mf_quotient_of⟩, ?_, ?_⟩
  · exact dfl_none rfl (FunD.bindsN (ps := f_quotient_of.ps) F fun _ _ _ _ _ _ us hl => match us, hl with | [_, _], _ => rfl)
  · intro ks hks
    have e0 : gi.kw (Str.ofString "quotient_of") = [] := by kernel_rfl
    rw [e0] at hks; exact absurd hks List.not_mem_nil
theorem kf_is_quotient {a : Addr} {fdt : FuncData} (F : FunD K df_is_quotient.name df_is_quotient.qual df_is_quotient.params df_is_quotient.body df_is_quotient.scope (df_is_quotient.dvs K) (df_is_quotient.kws K) a fdt) (hm : mg (Str.ofString "is_quotient") = some (.ref a)) : FnK K mg gi (Str.ofString "is_quotient") f_is_quotient a fdt := by
  refine ⟨⟨_, _, _, _, _, _, F, hm, sf_is_quotient, mf_is_quotient⟩, ?_, ?_⟩
  · exact dfl_none rfl (FunD.bindsN (ps := f_is_quotient.ps) F fun _ _ _ _ _ _ us hl => match us, hl with | [_], _ => rfl)
  · intro ks hks
    have e0 : gi.kw (Str.ofString "is_quotient") = [] := by kernel_rfl
    rw [e0] at hks; exact absurd hks List.not_mem_nil
theorem kf_plus {a : Addr} {fdt : FuncData} (F : FunD K df_plus.name df_plus.qual df_plus.params df_plus.body df_plus.scope (df_plus.dvs K) (df_plus.kws K) a fdt) (hm : mg (Str.ofString "plus") = some (.ref a)) : FnK K mg gi (Str.ofString "plus") f_plus a fdt := by
  refine ⟨⟨_, _, _, _, _, _, F, hm, sf_plus, mf_plus⟩, ?_, ?_⟩
  · exact dfl_none rfl (FunD.bindsN (ps := f_plus.ps) F fun _ _ _ _ _ _ us hl => match us, hl with | [_, _], _ => rfl)
  · intro ks hks
    have e0 : gi.kw (Str.ofString "plus") = [] := by kernel_rfl
    rw [e0] at hks; exact absurd hks List.not_mem_nil
theorem kf_times {a : Addr} {fdt : FuncData} (F : FunD K df_times.name df_times.qual df_times.params df_times.body df_times.scope (df_times.dvs K) (df_times.kws K) a fdt) (hm : mg (Str.ofString "times") = some (.ref a)) : FnK K mg gi (Str.ofString "times") f_times a fdt := by
  refine ⟨⟨_, _, _, _, _, _, F, hm, sf_times, mf_times⟩, ?_, ?_⟩
  · exact dfl_none rfl (FunD.bindsN (ps := f_times.ps) F fun _ _ _ _ _ _ us hl => match us, hl with | [_, _], _ => rfl)
  · intro ks hks
    have e0 : gi.kw (Str.ofString "times") = [] := by kernel_rfl
    rw [e0] at hks; exact absurd hks List.not_mem_nil
theorem kf_sign_of {a : Addr} {fdt : FuncData} (F : FunD K df_sign_of.name df_sign_of.qual df_sign_of.params df_sign_of.body df_sign_of.scope (df_sign_of.dvs K) (df_sign_of.kws K) a fdt) (hm : mg (Str.ofString "sign_of") = some (.ref a)) : FnK K mg gi (Str.ofString "sign_of") f_sign_of a fdt := by
  refine ⟨⟨_, _, _, _, _, _, F, hm, sf_sign_of, mf_sign_of⟩, ?_, ?_⟩
  · exact dfl_none rfl (FunD.bindsN (ps := f_sign_of.ps) F fun _ _ _ _ _ _ us hl => match us, hl with | [_], _ => rfl)
  · intro ks hks
    have e0 : gi.kw (Str.ofString "sign_of") = [] := by kernel_rfl
    rw [e0] at hks; exact absurd hks List.not_mem_nil
theorem kf_check_values {a : Addr} {fdt : FuncData} (F : FunD K df_check_values.name df_check_values.qual df_check_values.params df_check_values.body df_check_values.scope (df_check_values.dvs K) (df_check_values.kws K) a fdt) (hm : mg (Str.ofString "check_values") = some (.ref a)) : FnK K mg gi (Str.ofString "check_values") f_check_values a fdt := by
  refine ⟨⟨_, _, _, _, _, _, F, hm, sf_check_values, mf_check_values⟩, ?_, ?_⟩
  · exact dfl_none rfl (FunD.bindsN (ps := f_check_values.ps) F fun _ _ _ _ _ _ us hl => match us, hl with | [_, _], _ => rfl)
  · intro ks hks
    have e0 : gi.kw (Str.ofString "check_values") = [] := by kernel_rfl
    rw [e0] at hks; exact absurd hks List.not_mem_nil
theorem kf_is_choice_of {a : Addr} {fdt : FuncData} (F : FunD K df_is_choice_of.name df_is_choice_of.qual df_is_choice_of.params df_is_choice_of.body df_is_choice_of.scope (df_is_choice_of.dvs K) (df_is_choice_of.kws K) a fdt) (hm : mg (Str.ofString "is_choice_of") = some (.ref a)) : FnK K mg gi (Str.ofString "is_choice_of") f_is_choice_of a fdt := by
  refine ⟨⟨_, _, _, _, _, _, F, hm, sf_is_choice_of, mf_is_choice_of⟩, ?_, ?_⟩
  · exact dfl_none rfl (FunD.bindsN (ps := f_is_choice_of.ps) F fun _ _ _ _ _ _ us hl => match us, hl with | [_, _], _ => rfl)
  · intro ks hks
    have e0 : gi.kw (Str.ofString "is_choice_of") = [] := by kernel_rfl
    rw [e0] at hks; exact absurd hks List.not_mem_nil
theorem kf_check_choice {a : Addr} {fdt : FuncData} (F : FunD K df_check_choice.name df_check_choice.qual df_check_choice.params df_check_choice.body df_check_choice.scope (df_check_choice.dvs K) (df_check_choice.kws K) a fdt) (hm : mg (Str.ofString "check_choice") = some (.ref a)) : FnK K mg gi (Str.ofString "check_choice") f_check_choice a fdt := by
  refine ⟨⟨_, _, _, _, _, _, F, hm, sf_check_choice, mf_check_choice⟩, ?_, ?_⟩
  · exact dfl_none rfl (FunD.bindsN (ps := f_check_choice.ps) F fun _ _ _ _ _ _ us hl => match us, hl with | [_, _], _ => rfl)
  · intro ks hks
    have e0 : gi.kw (Str.ofString "check_choice") = [] := by kernel_rfl
    rw [e0] at hks; exact absurd hks List.not_mem_nil
theorem kf_are_values {a : Addr} {fdt : FuncData} (F : FunD K df_are_values.name df_are_values.qual df_are_values.params df_are_values.body df_are_values.scope (df_are_values.dvs K) (df_are_values.kws K) a fdt) (hm : mg (Str.ofString "are_values") = some (.ref a)) : FnK K mg gi (Str.ofString "are_values") f_are_values a fdt := by
  refine ⟨⟨_, _, _, _, _, _, F, hm, sf_are_values, mf_are_values⟩, ?_, ?_⟩
  · exact dfl_none rfl (FunD.bindsN (ps := f_are_values.ps) F fun _ _ _ _ _ _ us hl => match us, hl with | [_, _], _ => rfl)
  · intro ks hks s ws ys X hl hp
    have e0 : gi.kw (Str.ofString "are_values") = [[(Str.ofString "setting"), (Str.ofString "thing")]] := by kernel_rfl
    have e : ks = [(Str.ofString "setting"), (Str.ofString "thing")] := by rw [e0] at hks; exact List.mem_singleton.mp hks
    subst e
    match ws, hl with
    | [w0, w1], _ =>
      have e2 : ys = [w0, w1] := by
        have z : pick (List.zip [(Str.ofString "setting"), (Str.ofString "thing")] [w0, w1]) f_are_values.ps = some [w0, w1] := rfl
        exact Option.some.inj (hp.symm.trans z)
      subst e2
      obtain ⟨oc, od, dV, kV, doc, pm, an, cdv, ct, osl, rfl, lk, hcd, hD, hK⟩ := F.ex
      rcases hD with ⟨_, rfl⟩ | ⟨e, _⟩
      · exact .of_eq rfl
      · exact absurd rfl e
theorem kf_is_choice {a : Addr} {fdt : FuncData} (F : FunD K df_is_choice.name df_is_choice.qual df_is_choice.params df_is_choice.body df_is_choice.scope (df_is_choice.dvs K) (df_is_choice.kws K) a fdt) (hm : mg (Str.ofString "is_choice") = some (.ref a)) : FnK K mg gi (Str.ofString "is_choice") f_is_choice a fdt := by
  refine ⟨⟨_, _, _, _, _, _, F, hm, sf_is_choice, mf_is_choice⟩, ?_, ?_⟩
  · exact dfl_none rfl (FunD.bindsN (ps := f_is_choice.ps) F fun _ _ _ _ _ _ us hl => match us, hl with | [_, _], _ => rfl)
  · intro ks hks s ws ys X hl hp
    have e0 : gi.kw (Str.ofString "is_choice") = [[(Str.ofString "setting"), (Str.ofString "thing")]] := by kernel_rfl
    have e : ks = [(Str.ofString "setting"), (Str.ofString "thing")] := by rw [e0] at hks; exact List.mem_singleton.mp hks
    subst e
    match ws, hl with
    | [w0, w1], _ =>
      have e2 : ys = [w0, w1] := by
        have z : pick (List.zip [(Str.ofString "setting"), (Str.ofString "thing")] [w0, w1]) f_is_choice.ps = some [w0, w1] := rfl
        exact Option.some.inj (hp.symm.trans z)
      subst e2
      obtain ⟨oc, od, dV, kV, doc, pm, an, cdv, ct, osl, rfl, lk, hcd, hD, hK⟩ := F.ex
      rcases hD with ⟨_, rfl⟩ | ⟨e, _⟩
      · exact .of_eq rfl
      · exact absurd rfl e
theorem kf_plain_choice {a : Addr} {fdt : FuncData} (F : FunD K df_plain_choice.name df_plain_choice.qual df_plain_choice.params df_plain_choice.body df_plain_choice.scope (df_plain_choice.dvs K) (df_plain_choice.kws K) a fdt) (hm : mg (Str.ofString "plain_choice") = some (.ref a)) : FnK K mg gi (Str.ofString "plain_choice") f_plain_choice a fdt := by
  refine ⟨⟨_, _, _, _, _, _, F, hm, sf_plain_choice, mf_plain_choice⟩, ?_, ?_⟩
  · exact dfl_none rfl (FunD.bindsN (ps := f_plain_choice.ps) F fun _ _ _ _ _ _ us hl => match us, hl with | [_], _ => rfl)
  · intro ks hks s ws ys X hl hp
    have e0 : gi.kw (Str.ofString "plain_choice") = [[(Str.ofString "setting")]] := by kernel_rfl
    have e : ks = [(Str.ofString "setting")] := by rw [e0] at hks; exact List.mem_singleton.mp hks
    subst e
    match ws, hl with
    | [w0], _ =>
      have e2 : ys = [w0] := by
        have z : pick (List.zip [(Str.ofString "setting")] [w0]) f_plain_choice.ps = some [w0] := rfl
        exact Option.some.inj (hp.symm.trans z)
      subst e2
      obtain ⟨oc, od, dV, kV, doc, pm, an, cdv, ct, osl, rfl, lk, hcd, hD, hK⟩ := F.ex
      rcases hD with ⟨_, rfl⟩ | ⟨e, _⟩
      · exact .of_eq rfl
      · exact absurd rfl e
theorem kf_moved {a : Addr} {fdt : FuncData} (F : FunD K df_moved.name df_moved.qual df_moved.params df_moved.body df_moved.scope (df_moved.dvs K) (df_moved.kws K) a fdt) (hm : mg (Str.ofString "moved") = some (.ref a)) : FnK K mg gi (Str.ofString "moved") f_moved a fdt := by
  refine ⟨⟨_, _, _, _, _, _, F, hm, sf_moved, mf_moved⟩, ?_, ?_⟩
  · exact dfl_none rfl (FunD.bindsN (ps := f_moved.ps) F fun _ _ _ _ _ _ us hl => match us, hl with | [_, _, _], _ => rfl)
  · intro ks hks
    have e0 : gi.kw (Str.ofString "moved") = [] := by kernel_rfl
    rw [e0] at hks; exact absurd hks List.not_mem_nil
theorem kl_basin {a : Addr} {fdt : FuncData} (F : FunD K dl_basin.name dl_basin.qual dl_basin.params dl_basin.body dl_basin.scope (dl_basin.dvs K) (dl_basin.kws K) a fdt) (hm : mg (Str.ofString "_law_basin") = some (.ref a)) : FnK K mg gi (Str.ofString "_law_basin") l_basin a fdt := by
  refine ⟨⟨_, _, _, _, _, _, F, hm, sl_basin, ml_basin⟩, ?_, ?_⟩
  · exact dfl_none rfl (FunD.bindsN (ps := l_basin.ps) F fun _ _ _ _ _ _ us hl => match us, hl with | [_], _ => rfl)
  · intro ks hks
    have e0 : gi.kw (Str.ofString "_law_basin") = [] := by kernel_rfl
    rw [e0] at hks; exact absurd hks List.not_mem_nil
theorem kl_scoop {a : Addr} {fdt : FuncData} (F : FunD K dl_scoop.name dl_scoop.qual dl_scoop.params dl_scoop.body dl_scoop.scope (dl_scoop.dvs K) (dl_scoop.kws K) a fdt) (hm : mg (Str.ofString "_law_scoop") = some (.ref a)) : FnK K mg gi (Str.ofString "_law_scoop") l_scoop a fdt := by
  refine ⟨⟨_, _, _, _, _, _, F, hm, sl_scoop, ml_scoop⟩, ?_, ?_⟩
  · refine dfl_one rfl (v := .int 0) (fun _ _ => by simp only [DR]) ?_ ?_
    · exact FunD.binds1 (ps := l_scoop.ps) F 3 1 (by intro e; cases e) rfl fun _ _ _ _ _ _ _ us its h1 h2 => match us, its, h1, h2 with | [_, _, _], [_], _, _ => ⟨_, rfl, rfl⟩
    · exact FunD.binds1 (ps := l_scoop.ps) F 2 0 (by intro e; cases e) rfl fun _ _ _ _ _ _ _ us its h1 h2 => match us, its, h1, h2 with | [_, _], [_], _, _ => ⟨_, rfl, rfl⟩
  · intro ks hks
    have e0 : gi.kw (Str.ofString "_law_scoop") = [] := by kernel_rfl
    rw [e0] at hks; exact absurd hks List.not_mem_nil
theorem kl_same {a : Addr} {fdt : FuncData} (F : FunD K dl_same.name dl_same.qual dl_same.params dl_same.body dl_same.scope (dl_same.dvs K) (dl_same.kws K) a fdt) (hm : mg (Str.ofString "_law_same") = some (.ref a)) : FnK K mg gi (Str.ofString "_law_same") l_same a fdt := by
  refine ⟨⟨_, _, _, _, _, _, F, hm, sl_same, ml_same⟩, ?_, ?_⟩
  · exact dfl_none rfl (FunD.bindsN (ps := l_same.ps) F fun _ _ _ _ _ _ us hl => match us, hl with | [_, _], _ => rfl)
  · intro ks hks
    have e0 : gi.kw (Str.ofString "_law_same") = [] := by kernel_rfl
    rw [e0] at hks; exact absurd hks List.not_mem_nil
theorem kl_whole {a : Addr} {fdt : FuncData} (F : FunD K dl_whole.name dl_whole.qual dl_whole.params dl_whole.body dl_whole.scope (dl_whole.dvs K) (dl_whole.kws K) a fdt) (hm : mg (Str.ofString "_law_whole") = some (.ref a)) : FnK K mg gi (Str.ofString "_law_whole") l_whole a fdt := by
  refine ⟨⟨_, _, _, _, _, _, F, hm, sl_whole, ml_whole⟩, ?_, ?_⟩
  · exact dfl_none rfl (FunD.bindsN (ps := l_whole.ps) F fun _ _ _ _ _ _ us hl => match us, hl with | [_], _ => rfl)
  · intro ks hks
    have e0 : gi.kw (Str.ofString "_law_whole") = [] := by kernel_rfl
    rw [e0] at hks; exact absurd hks List.not_mem_nil
theorem kl_is {a : Addr} {fdt : FuncData} (F : FunD K dl_is.name dl_is.qual dl_is.params dl_is.body dl_is.scope (dl_is.dvs K) (dl_is.kws K) a fdt) (hm : mg (Str.ofString "_law_is") = some (.ref a)) : FnK K mg gi (Str.ofString "_law_is") l_is a fdt := by
  refine ⟨⟨_, _, _, _, _, _, F, hm, sl_is, ml_is⟩, ?_, ?_⟩
  · exact dfl_none rfl (FunD.bindsN (ps := l_is.ps) F fun _ _ _ _ _ _ us hl => match us, hl with | [_], _ => rfl)
  · intro ks hks
    have e0 : gi.kw (Str.ofString "_law_is") = [] := by kernel_rfl
    rw [e0] at hks; exact absurd hks List.not_mem_nil
theorem kl_pair {a : Addr} {fdt : FuncData} (F : FunD K dl_pair.name dl_pair.qual dl_pair.params dl_pair.body dl_pair.scope (dl_pair.dvs K) (dl_pair.kws K) a fdt) (hm : mg (Str.ofString "_law_pair") = some (.ref a)) : FnK K mg gi (Str.ofString "_law_pair") l_pair a fdt := by
  refine ⟨⟨_, _, _, _, _, _, F, hm, sl_pair, ml_pair⟩, ?_, ?_⟩
  · exact dfl_none rfl (FunD.bindsN (ps := l_pair.ps) F fun _ _ _ _ _ _ us hl => match us, hl with | [_, _], _ => rfl)
  · intro ks hks
    have e0 : gi.kw (Str.ofString "_law_pair") = [] := by kernel_rfl
    rw [e0] at hks; exact absurd hks List.not_mem_nil
theorem kl_due {a : Addr} {fdt : FuncData} (F : FunD K dl_due.name dl_due.qual dl_due.params dl_due.body dl_due.scope (dl_due.dvs K) (dl_due.kws K) a fdt) (hm : mg (Str.ofString "_law_due") = some (.ref a)) : FnK K mg gi (Str.ofString "_law_due") l_due a fdt := by
  refine ⟨⟨_, _, _, _, _, _, F, hm, sl_due, ml_due⟩, ?_, ?_⟩
  · exact dfl_none rfl (FunD.bindsN (ps := l_due.ps) F fun _ _ _ _ _ _ us hl => match us, hl with | [_, _, _], _ => rfl)
  · intro ks hks
    have e0 : gi.kw (Str.ofString "_law_due") = [] := by kernel_rfl
    rw [e0] at hks; exact absurd hks List.not_mem_nil
theorem kl_checked {a : Addr} {fdt : FuncData} (F : FunD K dl_checked.name dl_checked.qual dl_checked.params dl_checked.body dl_checked.scope (dl_checked.dvs K) (dl_checked.kws K) a fdt) (hm : mg (Str.ofString "_law_checked") = some (.ref a)) : FnK K mg gi (Str.ofString "_law_checked") l_checked a fdt := by
  refine ⟨⟨_, _, _, _, _, _, F, hm, sl_checked, ml_checked⟩, ?_, ?_⟩
  · exact dfl_none rfl (FunD.bindsN (ps := l_checked.ps) F fun _ _ _ _ _ _ us hl => match us, hl with | [_, _, _], _ => rfl)
  · intro ks hks
    have e0 : gi.kw (Str.ofString "_law_checked") = [] := by kernel_rfl
    rw [e0] at hks; exact absurd hks List.not_mem_nil
theorem kl_looked {a : Addr} {fdt : FuncData} (F : FunD K dl_looked.name dl_looked.qual dl_looked.params dl_looked.body dl_looked.scope (dl_looked.dvs K) (dl_looked.kws K) a fdt) (hm : mg (Str.ofString "_law_looked") = some (.ref a)) : FnK K mg gi (Str.ofString "_law_looked") l_looked a fdt := by
  refine ⟨⟨_, _, _, _, _, _, F, hm, sl_looked, ml_looked⟩, ?_, ?_⟩
  · exact dfl_none rfl (FunD.bindsN (ps := l_looked.ps) F fun _ _ _ _ _ _ us hl => match us, hl with | [_, _, _], _ => rfl)
  · intro ks hks
    have e0 : gi.kw (Str.ofString "_law_looked") = [] := by kernel_rfl
    rw [e0] at hks; exact absurd hks List.not_mem_nil
theorem kl_setting {a : Addr} {fdt : FuncData} (F : FunD K dl_setting.name dl_setting.qual dl_setting.params dl_setting.body dl_setting.scope (dl_setting.dvs K) (dl_setting.kws K) a fdt) (hm : mg (Str.ofString "_law_setting") = some (.ref a)) : FnK K mg gi (Str.ofString "_law_setting") l_setting a fdt := by
  refine ⟨⟨_, _, _, _, _, _, F, hm, sl_setting, ml_setting⟩, ?_, ?_⟩
  · exact dfl_none rfl (FunD.bindsN (ps := l_setting.ps) F fun _ _ _ _ _ _ us hl => match us, hl with | [_], _ => rfl)
  · intro ks hks
    have e0 : gi.kw (Str.ofString "_law_setting") = [] := by kernel_rfl
    rw [e0] at hks; exact absurd hks List.not_mem_nil
theorem kl_quotient {a : Addr} {fdt : FuncData} (F : FunD K dl_quotient.name dl_quotient.qual dl_quotient.params dl_quotient.body dl_quotient.scope (dl_quotient.dvs K) (dl_quotient.kws K) a fdt) (hm : mg (Str.ofString "_law_quotient") = some (.ref a)) : FnK K mg gi (Str.ofString "_law_quotient") l_quotient a fdt := by
  refine ⟨⟨_, _, _, _, _, _, F, hm, sl_quotient, ml_quotient⟩, ?_, ?_⟩
  · exact dfl_none rfl (FunD.bindsN (ps := l_quotient.ps) F fun _ _ _ _ _ _ us hl => match us, hl with | [_, _], _ => rfl)
  · intro ks hks
    have e0 : gi.kw (Str.ofString "_law_quotient") = [] := by kernel_rfl
    rw [e0] at hks; exact absurd hks List.not_mem_nil
theorem kl_values {a : Addr} {fdt : FuncData} (F : FunD K dl_values.name dl_values.qual dl_values.params dl_values.body dl_values.scope (dl_values.dvs K) (dl_values.kws K) a fdt) (hm : mg (Str.ofString "_law_values") = some (.ref a)) : FnK K mg gi (Str.ofString "_law_values") l_values a fdt := by
  refine ⟨⟨_, _, _, _, _, _, F, hm, sl_values, ml_values⟩, ?_, ?_⟩
  · exact dfl_none rfl (FunD.bindsN (ps := l_values.ps) F fun _ _ _ _ _ _ us hl => match us, hl with | [_, _], _ => rfl)
  · intro ks hks
    have e0 : gi.kw (Str.ofString "_law_values") = [] := by kernel_rfl
    rw [e0] at hks; exact absurd hks List.not_mem_nil
theorem kl_choice {a : Addr} {fdt : FuncData} (F : FunD K dl_choice.name dl_choice.qual dl_choice.params dl_choice.body dl_choice.scope (dl_choice.dvs K) (dl_choice.kws K) a fdt) (hm : mg (Str.ofString "_law_choice") = some (.ref a)) : FnK K mg gi (Str.ofString "_law_choice") l_choice a fdt := by
  refine ⟨⟨_, _, _, _, _, _, F, hm, sl_choice, ml_choice⟩, ?_, ?_⟩
  · exact dfl_none rfl (FunD.bindsN (ps := l_choice.ps) F fun _ _ _ _ _ _ us hl => match us, hl with | [_, _], _ => rfl)
  · intro ks hks
    have e0 : gi.kw (Str.ofString "_law_choice") = [] := by kernel_rfl
    rw [e0] at hks; exact absurd hks List.not_mem_nil
theorem kl_odd {a : Addr} {fdt : FuncData} (F : FunD K dl_odd.name dl_odd.qual dl_odd.params dl_odd.body dl_odd.scope (dl_odd.dvs K) (dl_odd.kws K) a fdt) (hm : mg (Str.ofString "_law_odd") = some (.ref a)) : FnK K mg gi (Str.ofString "_law_odd") l_odd a fdt := by
  refine ⟨⟨_, _, _, _, _, _, F, hm, sl_odd, ml_odd⟩, ?_, ?_⟩
  · exact dfl_none rfl (FunD.bindsN (ps := l_odd.ps) F fun _ _ _ _ _ _ us hl => match us, hl with | [_, _], _ => rfl)
  · intro ks hks
    have e0 : gi.kw (Str.ofString "_law_odd") = [] := by kernel_rfl
    rw [e0] at hks; exact absurd hks List.not_mem_nil
theorem kl_bent_pair {a : Addr} {fdt : FuncData} (F : FunD K dl_bent_pair.name dl_bent_pair.qual dl_bent_pair.params dl_bent_pair.body dl_bent_pair.scope (dl_bent_pair.dvs K) (dl_bent_pair.kws K) a fdt) (hm : mg (Str.ofString "_law_bent_pair") = some (.ref a)) : FnK K mg gi (Str.ofString "_law_bent_pair") l_bent_pair a fdt := by
  refine ⟨⟨_, _, _, _, _, _, F, hm, sl_bent_pair, ml_bent_pair⟩, ?_, ?_⟩
  · exact dfl_none rfl (FunD.bindsN (ps := l_bent_pair.ps) F fun _ _ _ _ _ _ us hl => match us, hl with | [_, _], _ => rfl)
  · intro ks hks
    have e0 : gi.kw (Str.ofString "_law_bent_pair") = [] := by kernel_rfl
    rw [e0] at hks; exact absurd hks List.not_mem_nil
theorem kl_things {a : Addr} {fdt : FuncData} (F : FunD K dl_things.name dl_things.qual dl_things.params dl_things.body dl_things.scope (dl_things.dvs K) (dl_things.kws K) a fdt) (hm : mg (Str.ofString "_law_things") = some (.ref a)) : FnK K mg gi (Str.ofString "_law_things") l_things a fdt := by
  refine ⟨⟨_, _, _, _, _, _, F, hm, sl_things, ml_things⟩, ?_, ?_⟩
  · exact dfl_none rfl (FunD.bindsN (ps := l_things.ps) F fun _ _ _ _ _ _ us hl => match us, hl with | [_, _, _, _], _ => rfl)
  · intro ks hks
    have e0 : gi.kw (Str.ofString "_law_things") = [] := by kernel_rfl
    rw [e0] at hks; exact absurd hks List.not_mem_nil
theorem kl_scene {a : Addr} {fdt : FuncData} (F : FunD K dl_scene.name dl_scene.qual dl_scene.params dl_scene.body dl_scene.scope (dl_scene.dvs K) (dl_scene.kws K) a fdt) (hm : mg (Str.ofString "_law_scene") = some (.ref a)) : FnK K mg gi (Str.ofString "_law_scene") l_scene a fdt := by
  refine ⟨⟨_, _, _, _, _, _, F, hm, sl_scene, ml_scene⟩, ?_, ?_⟩
  · exact dfl_none rfl (FunD.bindsN (ps := l_scene.ps) F fun _ _ _ _ _ _ us hl => match us, hl with | [_], _ => rfl)
  · intro ks hks
    have e0 : gi.kw (Str.ofString "_law_scene") = [] := by kernel_rfl
    rw [e0] at hks; exact absurd hks List.not_mem_nil
theorem kl_told_kinds {a : Addr} {fdt : FuncData} (F : FunD K dl_told_kinds.name dl_told_kinds.qual dl_told_kinds.params dl_told_kinds.body dl_told_kinds.scope (dl_told_kinds.dvs K) (dl_told_kinds.kws K) a fdt) (hm : mg (Str.ofString "_law_told_kinds") = some (.ref a)) : FnK K mg gi (Str.ofString "_law_told_kinds") l_told_kinds a fdt := by
  refine ⟨⟨_, _, _, _, _, _, F, hm, sl_told_kinds, ml_told_kinds⟩, ?_, ?_⟩
  · exact dfl_none rfl (FunD.bindsN (ps := l_told_kinds.ps) F fun _ _ _ _ _ _ us hl => match us, hl with | [_], _ => rfl)
  · intro ks hks
    have e0 : gi.kw (Str.ofString "_law_told_kinds") = [] := by kernel_rfl
    rw [e0] at hks; exact absurd hks List.not_mem_nil
theorem kl_hand {a : Addr} {fdt : FuncData} (F : FunD K dl_hand.name dl_hand.qual dl_hand.params dl_hand.body dl_hand.scope (dl_hand.dvs K) (dl_hand.kws K) a fdt) (hm : mg (Str.ofString "_law_hand") = some (.ref a)) : FnK K mg gi (Str.ofString "_law_hand") l_hand a fdt := by
  refine ⟨⟨_, _, _, _, _, _, F, hm, sl_hand, ml_hand⟩, ?_, ?_⟩
  · exact dfl_none rfl (FunD.bindsN (ps := l_hand.ps) F fun _ _ _ _ _ _ us hl => match us, hl with | [], _ => rfl)
  · intro ks hks
    have e0 : gi.kw (Str.ofString "_law_hand") = [] := by kernel_rfl
    rw [e0] at hks; exact absurd hks List.not_mem_nil
theorem kf_law {a : Addr} {fdt : FuncData} (F : FunD K df_law.name df_law.qual df_law.params df_law.body df_law.scope (df_law.dvs K) (df_law.kws K) a fdt) (hm : mg (Str.ofString "law") = some (.ref a)) : FnK K mg gi (Str.ofString "law") f_law a fdt := by
  refine ⟨⟨_, _, _, _, _, _, F, hm, sf_law, mf_law⟩, ?_, ?_⟩
  · exact dfl_none rfl (FunD.bindsN (ps := f_law.ps) F fun _ _ _ _ _ _ us hl => match us, hl with | [_], _ => rfl)
  · intro ks hks
    have e0 : gi.kw (Str.ofString "law") = [] := by kernel_rfl
    rw [e0] at hks; exact absurd hks List.not_mem_nil
end
/-! ### the head -/
abbrev RR : PySem.W.OpenRow := PySem.W.OpenLaw.row PySem.Challenge.rw_whateverzero_k05_values_and_choices_chec
def bxK (K : PySem.W.Frag) : Bool := errB K PySem.Challenge.pw_whateverzero_k05_values_and_choices_chec.main.file gi.flds gi.cls gi.ers
abbrev hk : PySem.W.Hook := hookE true csL 5 faL fnL bxK iniL
def ob (s : PySem.W.SharedT) : AlE := obsE true csL 5 faL fnL bxK iniL (HandSHeadRun.getT s)
theorem ob_eq (s : PySem.W.SharedT) : ob s = hk.obs s.abs := obsE_eq (HandSHeadRun.getT_eq s)
def loose : List Str := [(Str.ofString "WhateverError"), (Str.ofString "DataError"), (Str.ofString "BadValues"), (Str.ofString "is_integer"), (Str.ofString "tuple_of"), (Str.ofString "are_integers"), (Str.ofString "quotient_of"), (Str.ofString "is_quotient"), (Str.ofString "plus"), (Str.ofString "times"), (Str.ofString "sign_of"), (Str.ofString "check_values"), (Str.ofString "is_choice_of"), (Str.ofString "check_choice"), (Str.ofString "are_values"), (Str.ofString "is_choice"), (Str.ofString "plain_choice"), (Str.ofString "moved"), (Str.ofString "_law_basin"), (Str.ofString "_law_scoop"), (Str.ofString "_law_same"), (Str.ofString "_law_whole"), (Str.ofString "_law_is"), (Str.ofString "_law_pair"), (Str.ofString "_law_due"), (Str.ofString "_law_checked"), (Str.ofString "_law_looked"), (Str.ofString "_law_setting"), (Str.ofString "_law_quotient"), (Str.ofString "_law_values"), (Str.ofString "_law_choice"), (Str.ofString "_law_odd"), (Str.ofString "_law_bent_pair"), (Str.ofString "_law_things"), (Str.ofString "_law_scene"), (Str.ofString "_law_told_kinds"), (Str.ofString "_law_hand"), (Str.ofString "ZERO"), (Str.ofString "ONE")]
theorem runT (w : World) : HandSHeadRun.RunEqI RR (PySem.W.view RR.prog [0, 45]) hk ob 9000 loose w := by unfold HandSHeadRun.RunEqI; kernel_rfl
def LV : Nat := 150
theorem facts {P : Program} {w : World} {K : PySem.W.Frag} {h : Heap} {mg : Str → Option Value} {f : Addr} (X : K.In h) (G : h.Ns mainGlobals mg) (hfa : mg (Str.ofString "law") = some (.ref f)) (c : He.SaysD faL fnL K) (cg : factG K true csL = true) (cb : errB K P.main.file gi.flds gi.cls gi.ers = true) (ci : iniL.map (iniW K) = iniL.map IniD.val) (top : (P.main.scope.names.lookup ("super" : Str)).isSome = false) :
    ∃ fd : FuncData, (∀ (s : Shared) (v : Value), BindsTo s fd ⟨[v], []⟩ [(Str.ofString "script", v)]) ∧ ∀ base : Heap, FnOk P w K mg base (L2.CX P w) (LV + 3) f fd [Str.ofString "script"] (spF K mg gi (Str.ofString "law") f_law (LV + 1)) := by
  obtain ⟨t0, F0⟩ := c.def_ 0 (d := df_is_integer) rfl
  obtain ⟨t1, F1⟩ := c.def_ 1 (d := df_tuple_of) rfl
  obtain ⟨t2, F2⟩ := c.def_ 2 (d := df_are_integers) rfl
  obtain ⟨t3, F3⟩ := c.def_ 3 (d := df_quotient_of) rfl
  obtain ⟨t4, F4⟩ := c.def_ 4 (d := df_is_quotient) rfl
  obtain ⟨t5, F5⟩ := c.def_ 5 (d := df_plus) rfl
  obtain ⟨t6, F6⟩ := c.def_ 6 (d := df_times) rfl
  obtain ⟨t7, F7⟩ := c.def_ 7 (d := df_sign_of) rfl
  obtain ⟨t8, F8⟩ := c.def_ 8 (d := df_check_values) rfl
  obtain ⟨t9, F9⟩ := c.def_ 9 (d := df_is_choice_of) rfl
  obtain ⟨t10, F10⟩ := c.def_ 10 (d := df_check_choice) rfl
  obtain ⟨t11, F11⟩ := c.def_ 11 (d := df_are_values) rfl
  obtain ⟨t12, F12⟩ := c.def_ 12 (d := df_is_choice) rfl
  obtain ⟨t13, F13⟩ := c.def_ 13 (d := df_plain_choice) rfl
  obtain ⟨t14, F14⟩ := c.def_ 14 (d := df_moved) rfl
  obtain ⟨t15, F15⟩ := c.def_ 15 (d := dl_basin) rfl
  obtain ⟨t16, F16⟩ := c.def_ 16 (d := dl_scoop) rfl
  obtain ⟨t17, F17⟩ := c.def_ 17 (d := dl_same) rfl
  obtain ⟨t18, F18⟩ := c.def_ 18 (d := dl_whole) rfl
  obtain ⟨t19, F19⟩ := c.def_ 19 (d := dl_is) rfl
  obtain ⟨t20, F20⟩ := c.def_ 20 (d := dl_pair) rfl
  obtain ⟨t21, F21⟩ := c.def_ 21 (d := dl_due) rfl
  obtain ⟨t22, F22⟩ := c.def_ 22 (d := dl_checked) rfl
  obtain ⟨t23, F23⟩ := c.def_ 23 (d := dl_looked) rfl
  obtain ⟨t24, F24⟩ := c.def_ 24 (d := dl_setting) rfl
  obtain ⟨t25, F25⟩ := c.def_ 25 (d := dl_quotient) rfl
  obtain ⟨t26, F26⟩ := c.def_ 26 (d := dl_values) rfl
  obtain ⟨t27, F27⟩ := c.def_ 27 (d := dl_choice) rfl
  obtain ⟨t28, F28⟩ := c.def_ 28 (d := dl_odd) rfl
  obtain ⟨t29, F29⟩ := c.def_ 29 (d := dl_bent_pair) rfl
  obtain ⟨t30, F30⟩ := c.def_ 30 (d := dl_things) rfl
  obtain ⟨t31, F31⟩ := c.def_ 31 (d := dl_scene) rfl
  obtain ⟨t32, F32⟩ := c.def_ 32 (d := dl_told_kinds) rfl
  obtain ⟨t33, F33⟩ := c.def_ 33 (d := dl_hand) rfl
  obtain ⟨t34, F34⟩ := c.def_ 34 (d := df_law) rfl
  have gh : ∀ base : Heap, GH P w K mg base gi := by
    intro base
    unfold errB at cb
    rw [Bool.and_eq_true] at cb
    have hes := List.all_eq_true.mp cb.2
    refine { fr := fun x hx => ?_, gcd := fun hg => ?_, gl := fun x d hx => gl_ok X G cg x d hx, ers := fun e he => erF_ok X G cb.1 (hes e he), cmg := cls_mg X G cb.1, rai := fun e he => ?_ }
    · have hx : x ∈ [(Str.ofString "ValueError"), (Str.ofString "abs"), (Str.ofString "all"), (Str.ofString "bool"), (Str.ofString "enumerate"), (Str.ofString "int"), (Str.ofString "isinstance"), (Str.ofString "len"), (Str.ofString "list"), (Str.ofString "range"), (Str.ofString "str"), (Str.ofString "super"), (Str.ofString "tuple"), (Str.ofString "zip")] := List.contains_iff_mem.mp hx
      simp only [List.mem_cons, List.not_mem_nil, or_false] at hx
      rcases hx with rfl | rfl | rfl | rfl | rfl | rfl | rfl | rfl | rfl | rfl | rfl | rfl | rfl | rfl
      · exact He.free_ok X G (c.fact 35 (f := .free (Str.ofString "ValueError")) rfl)
      · exact He.free_ok X G (c.fact 36 (f := .free (Str.ofString "abs")) rfl)
      · exact He.free_ok X G (c.fact 37 (f := .free (Str.ofString "all")) rfl)
      · exact He.free_ok X G (c.fact 38 (f := .free (Str.ofString "bool")) rfl)
      · exact He.free_ok X G (c.fact 39 (f := .free (Str.ofString "enumerate")) rfl)
      · exact He.free_ok X G (c.fact 40 (f := .free (Str.ofString "int")) rfl)
      · exact He.free_ok X G (c.fact 41 (f := .free (Str.ofString "isinstance")) rfl)
      · exact He.free_ok X G (c.fact 42 (f := .free (Str.ofString "len")) rfl)
      · exact He.free_ok X G (c.fact 43 (f := .free (Str.ofString "list")) rfl)
      · exact He.free_ok X G (c.fact 44 (f := .free (Str.ofString "range")) rfl)
      · exact He.free_ok X G (c.fact 45 (f := .free (Str.ofString "str")) rfl)
      · exact He.free_ok X G (c.fact 46 (f := .free (Str.ofString "super")) rfl)
      · exact He.free_ok X G (c.fact 47 (f := .free (Str.ofString "tuple")) rfl)
      · exact He.free_ok X G (c.fact 48 (f := .free (Str.ofString "zip")) rfl)
    · exact gcd_ok X G cg
    · have hm : e ∈ [eBadValues] := he
      simp only [List.mem_cons, List.not_mem_nil, or_false] at hm
      rcases hm with rfl
      · exact rBadValues X G (hes _ he) (ini_at ci 0 (d := iBadValues) rfl) top base
  have hk : ∀ f fd, gi.P.lookup f = some fd → ∃ a fdt, FnK K mg gi f fd a fdt := by
    refine lookups (Pr := fun f fd => ∃ a fdt, FnK K mg gi f fd a fdt) ?_
    intro q hq
    have hq : q ∈ prog := hq
    simp only [prog, List.mem_cons, List.not_mem_nil, or_false] at hq
    rcases hq with rfl | rfl | rfl | rfl | rfl | rfl | rfl | rfl | rfl | rfl | rfl | rfl | rfl | rfl | rfl | rfl | rfl | rfl | rfl | rfl | rfl | rfl | rfl | rfl | rfl | rfl | rfl | rfl | rfl | rfl | rfl | rfl | rfl | rfl | rfl
    · exact ⟨_, t0, kf_is_integer F0 (He.glo_ok X G (c.fact 0 (f := .glo (Str.ofString "is_integer")) rfl))⟩
    · exact ⟨_, t1, kf_tuple_of F1 (He.glo_ok X G (c.fact 1 (f := .glo (Str.ofString "tuple_of")) rfl))⟩
    · exact ⟨_, t2, kf_are_integers F2 (He.glo_ok X G (c.fact 2 (f := .glo (Str.ofString "are_integers")) rfl))⟩
    · exact ⟨_, t3, kf_quotient_of F3 (He.glo_ok X G (c.fact 3 (f := .glo (Str.ofString "quotient_of")) rfl))⟩
    · exact ⟨_, t4, kf_is_quotient F4 (He.glo_ok X G (c.fact 4 (f := .glo (Str.ofString "is_quotient")) rfl))⟩
    · exact ⟨_, t5, kf_plus F5 (He.glo_ok X G (c.fact 5 (f := .glo (Str.ofString "plus")) rfl))⟩
    · exact ⟨_, t6, kf_times F6 (He.glo_ok X G (c.fact 6 (f := .glo (Str.ofString "times")) rfl))⟩
    · exact ⟨_, t7, kf_sign_of F7 (He.glo_ok X G (c.fact 7 (f := .glo (Str.ofString "sign_of")) rfl))⟩
    · exact ⟨_, t8, kf_check_values F8 (He.glo_ok X G (c.fact 8 (f := .glo (Str.ofString "check_values")) rfl))⟩
    · exact ⟨_, t9, kf_is_choice_of F9 (He.glo_ok X G (c.fact 9 (f := .glo (Str.ofString "is_choice_of")) rfl))⟩
    · exact ⟨_, t10, kf_check_choice F10 (He.glo_ok X G (c.fact 10 (f := .glo (Str.ofString "check_choice")) rfl))⟩
    · exact ⟨_, t11, kf_are_values F11 (He.glo_ok X G (c.fact 11 (f := .glo (Str.ofString "are_values")) rfl))⟩
    · exact ⟨_, t12, kf_is_choice F12 (He.glo_ok X G (c.fact 12 (f := .glo (Str.ofString "is_choice")) rfl))⟩
    · exact ⟨_, t13, kf_plain_choice F13 (He.glo_ok X G (c.fact 13 (f := .glo (Str.ofString "plain_choice")) rfl))⟩
    · exact ⟨_, t14, kf_moved F14 (He.glo_ok X G (c.fact 14 (f := .glo (Str.ofString "moved")) rfl))⟩
    · exact ⟨_, t15, kl_basin F15 (He.glo_ok X G (c.fact 15 (f := .glo (Str.ofString "_law_basin")) rfl))⟩
    · exact ⟨_, t16, kl_scoop F16 (He.glo_ok X G (c.fact 16 (f := .glo (Str.ofString "_law_scoop")) rfl))⟩
    · exact ⟨_, t17, kl_same F17 (He.glo_ok X G (c.fact 17 (f := .glo (Str.ofString "_law_same")) rfl))⟩
    · exact ⟨_, t18, kl_whole F18 (He.glo_ok X G (c.fact 18 (f := .glo (Str.ofString "_law_whole")) rfl))⟩
    · exact ⟨_, t19, kl_is F19 (He.glo_ok X G (c.fact 19 (f := .glo (Str.ofString "_law_is")) rfl))⟩
    · exact ⟨_, t20, kl_pair F20 (He.glo_ok X G (c.fact 20 (f := .glo (Str.ofString "_law_pair")) rfl))⟩
    · exact ⟨_, t21, kl_due F21 (He.glo_ok X G (c.fact 21 (f := .glo (Str.ofString "_law_due")) rfl))⟩
    · exact ⟨_, t22, kl_checked F22 (He.glo_ok X G (c.fact 22 (f := .glo (Str.ofString "_law_checked")) rfl))⟩
    · exact ⟨_, t23, kl_looked F23 (He.glo_ok X G (c.fact 23 (f := .glo (Str.ofString "_law_looked")) rfl))⟩
    · exact ⟨_, t24, kl_setting F24 (He.glo_ok X G (c.fact 24 (f := .glo (Str.ofString "_law_setting")) rfl))⟩
    · exact ⟨_, t25, kl_quotient F25 (He.glo_ok X G (c.fact 25 (f := .glo (Str.ofString "_law_quotient")) rfl))⟩
    · exact ⟨_, t26, kl_values F26 (He.glo_ok X G (c.fact 26 (f := .glo (Str.ofString "_law_values")) rfl))⟩
    · exact ⟨_, t27, kl_choice F27 (He.glo_ok X G (c.fact 27 (f := .glo (Str.ofString "_law_choice")) rfl))⟩
    · exact ⟨_, t28, kl_odd F28 (He.glo_ok X G (c.fact 28 (f := .glo (Str.ofString "_law_odd")) rfl))⟩
    · exact ⟨_, t29, kl_bent_pair F29 (He.glo_ok X G (c.fact 29 (f := .glo (Str.ofString "_law_bent_pair")) rfl))⟩
    · exact ⟨_, t30, kl_things F30 (He.glo_ok X G (c.fact 30 (f := .glo (Str.ofString "_law_things")) rfl))⟩
    · exact ⟨_, t31, kl_scene F31 (He.glo_ok X G (c.fact 31 (f := .glo (Str.ofString "_law_scene")) rfl))⟩
    · exact ⟨_, t32, kl_told_kinds F32 (He.glo_ok X G (c.fact 32 (f := .glo (Str.ofString "_law_told_kinds")) rfl))⟩
    · exact ⟨_, t33, kl_hand F33 (He.glo_ok X G (c.fact 33 (f := .glo (Str.ofString "_law_hand")) rfl))⟩
    · exact ⟨_, t34, kf_law F34 (He.glo_ok X G (c.fact 34 (f := .glo (Str.ofString "law")) rfl))⟩
  have e := hfa.symm.trans (He.glo_ok X G (c.fact 34 (f := .glo (Str.ofString "law")) rfl))
  cases e
  have b := FunD.bindsA (ps := [Str.ofString "script"]) F34 fun _ _ _ _ _ _ us hl => match us, hl with | [_], _ => rfl
  refine ⟨t34, fun s v => b s [v] rfl, fun base => ?_⟩
  exact (fn_step (gh base) (fn_all (gh base) hk LV) (f := Str.ofString "law") (fd := f_law) (by kernel_rfl) (kf_law F34 (He.glo_ok X G (c.fact 34 (f := .glo (Str.ofString "law")) rfl)))).ok
end G
open PySem PySem.W PySem.Calls PyProof.Rows
/-- the law holds, if the term's run says so -/
theorem G.holds (hrun : ∀ ns : List Int, ns.length ≤ 63 → ∃ M, G.run G.prog (fun x => G.csL.lookup x) (G.LV + 1) (Str.ofString "law") [.ro (ns.map G.D.int)] [] = .ok (.val (.bl true)) M) : PySem.Challenge.rw_whateverzero_k05_values_and_choices_chec.Holds := by
  w_on; o_law
  refine HandSHeadRun.head_imp (r := OpenLaw.row PySem.Challenge.rw_whateverzero_k05_values_and_choices_chec) (q := view (OpenLaw.row PySem.Challenge.rw_whateverzero_k05_values_and_choices_chec).prog [0, 45]) (H := G.hk) (ob := G.ob) (M := 9000) (loose := G.loose) (d := HandSHeadRun.topDef (OpenLaw.row PySem.Challenge.rw_whateverzero_k05_values_and_choices_chec).prog 45) (kwd := []) G.ob_eq G.runT (by kernel_rfl) (by kernel_rfl) (by kernel_rfl) (by rfl) (by first | assumption | decide +kernel) (by decide +kernel) ⟨rfl, rfl, rfl, rfl, rfl, by decide +kernel⟩ ?hw ?hc
  case hw => w_witness2
  case hc =>
    refine L2.walk_ofG (l := PySem.Challenge.rw_whateverzero_k05_values_and_choices_chec) (n := 63) (k := G.LV + 3) (x := Str.ofString "script") (CX := fun w => L2.CX (PySem.Challenge.rw_whateverzero_k05_values_and_choices_chec).prog w) rfl (by decide) (by kernel_rfl) ⟨rfl, by decide, by decide⟩ ?F (fun w H s e s' z => L2.cx_no _ w H s e s' z)
    intro w mg fa h Y G1 hmg0
    obtain ⟨K, KX, c, cg, cb, ci⟩ := Y
    have hmg : mg (Str.ofString "law") = some (.ref fa) := by
      have e : (HandSHeadRun.topDef (OpenLaw.row PySem.Challenge.rw_whateverzero_k05_values_and_choices_chec).prog 45).name = (Str.ofString "law") := by kernel_rfl
      rw [← e]
      exact hmg0
    obtain ⟨fd, hb, hF⟩ := G.facts (P := (PySem.Challenge.rw_whateverzero_k05_values_and_choices_chec).prog) (w := w) KX G1 hmg c cg cb ci (by decide +kernel)
    exact ⟨K, fd, _, KX, hb, fun H a ns hl hbits _ hS => by
      obtain ⟨M, hM⟩ := hrun ns hl
      exact G.law_sp rfl hS hM, fun base _ _ => hF base⟩

/-! ## GT1 -/
set_option Elab.async false
set_option linter.all false
set_option maxRecDepth 100000
namespace G
open PySem
/-! ## loops with an invariant -/
def isRo : Slot → Bool
  | .ro _ => true
  | _ => false
theorem isRo_no : isRo .no = false := rfl
theorem isRo_val (d : D) : isRo (.val d) = false := rfl
theorem isRo_own (d : List D) : isRo (.own d) = false := rfl
theorem setName_def (i : Nat) (d : Slot) (s : S) : setName i d s = (match s.v[i]? with
    | some x => if isRo x = true then R.bad else .ok () ⟨s.v.set i d, s.M⟩
    | none => .bad) := by
  unfold setName
  cases s.v[i]? with
  | none => rfl
  | some x => cases x <;> rfl
theorem forL_inv {ok : S → Bool} {body : D → S → R Fl} (hok : ∀ s, ok s = true) (P : Nat → S → Prop) : ∀ (xs : List D) (k : Nat), (∀ j x s, xs[j]? = some x → P (k + j) s → ∃ s', body x s = .ok .nx s' ∧ P (k + j + 1) s') → ∀ s, P k s →
    ∃ s', forL ok body xs s = .ok .nx s' ∧ P (k + xs.length) s'
  | [], k, _, s, h => ⟨s, by rw [forL, hok]; rfl, h⟩
  | x :: xs, k, hs, s, h => by
    obtain ⟨s1, e1, h1⟩ := hs 0 x s rfl h
    obtain ⟨s2, e2, h2⟩ := forL_inv hok P xs (k + 1) (fun j y t hy ht => by
      have := hs (j + 1) y t hy (by rw [show k + (j + 1) = k + 1 + j by omega]; exact ht)
      rw [show k + (j + 1) + 1 = k + 1 + j + 1 by omega] at this
      exact this) s1 h1
    refine ⟨s2, ?_, by rw [List.length_cons, show k + (xs.length + 1) = k + 1 + xs.length by omega]; exact h2⟩
    rw [forL, hok, e1]
    exact e2
theorem fors_inv {c : Cn} (st : Stm) {t : Tg} {it : It} {b : Stms} {s s1 : S} {m : Itm} (hst : st = .fors t it b) (hi : evI c it s = .ok m s1) (hl : m.lks = []) (hc : m.chk = []) (P : Nat → S → Prop) (h0 : P 0 s1)
    (step : ∀ j x s, m.xs[j]? = some x → P j s → ∃ s', ((evG c t x s).bind fun _ s2 => evSs c b s2) = .ok .nx s' ∧ P (j + 1) s') : ∃ s', evS c st s = .ok .nx s' ∧ P m.xs.length s' := by
  subst hst
  obtain ⟨xs, chk, lks⟩ := m
  dsimp only at hl hc step
  subst hl hc
  obtain ⟨s', e, h⟩ := forL_inv (ok := Itm.ok ⟨xs, [], []⟩) (fun _ => rfl) P xs 0 (fun j x s hx hp => by
    rw [Nat.zero_add] at hp ⊢
    exact step j x s hx hp) s1 h0
  refine ⟨s', ?_, by rw [Nat.zero_add] at h; exact h⟩
  rw [evS, hi]
  exact (congrArg (unl []) e).trans rfl
theorem compL_inv {ok : S → Bool} {body : D → S → R (Option D)} (hok : ∀ s, ok s = true) (P : Nat → S → Prop) (Q : Nat → D → Prop) : ∀ (xs : List D) (k : Nat),
    (∀ j x s, xs[j]? = some x → P (k + j) s → ∃ d s', body x s = .ok (some d) s' ∧ P (k + j + 1) s' ∧ Q (k + j) d) → ∀ s, P k s →
    ∃ ds s', compL ok body xs s = .ok ds s' ∧ P (k + xs.length) s' ∧ ds.length = xs.length ∧ ∀ j d, ds[j]? = some d → Q (k + j) d
  | [], k, _, s, h => ⟨[], s, by rw [compL, hok]; rfl, h, rfl, fun j d h => by cases h⟩
  | x :: xs, k, hs, s, h => by
    obtain ⟨d, s1, e1, h1, q1⟩ := hs 0 x s rfl h
    obtain ⟨ds, s2, e2, h2, l2, q2⟩ := compL_inv hok P Q xs (k + 1) (fun j y t hy ht => by
      have := hs (j + 1) y t hy (by rw [show k + (j + 1) = k + 1 + j by omega]; exact ht)
      rw [show k + (j + 1) + 1 = k + 1 + j + 1 by omega, show k + (j + 1) = k + 1 + j by omega] at this
      exact this) s1 h1
    refine ⟨d :: ds, s2, ?_, by rw [List.length_cons, show k + (xs.length + 1) = k + 1 + xs.length by omega]; exact h2, by rw [List.length_cons, List.length_cons, l2], fun j e he => ?_⟩
    · rw [compL, hok, e1]
      show (if true = true then (compL ok body xs s1).bind _ else _) = _
      rw [e2]
      rfl
    · cases j with
      | zero => cases he; exact q1
      | succ j => rw [show k + (j + 1) = k + 1 + j by omega]; exact q2 j e he
theorem comp_inv {c : Cn} (X : Ex) {elt : Ex} {tg : Tg} {it : It} {ifs : Tes} {own : List Nat} {s : S} {m : Itm} {v : List Slot} {M : List Cell} (hX : X = .comp elt tg it ifs own) (hi : evI c it s = .ok m ⟨v, M⟩) (hl : m.lks = []) (hc : m.chk = []) (hw : wipes v own = v) (hr : restor v v own = v)
    (hf : fits m.xs.length = true) (P : Nat → List Cell → Prop) (Q : Nat → D → Prop) (h0 : P 0 M)
    (step : ∀ j x M, m.xs[j]? = some x → P j M → ∃ d v' M', turnC (evG c tg) (evTB c true ifs) (evX c elt) x ⟨v, M⟩ = .ok (some d) ⟨v', M'⟩ ∧ wipes v' own = v ∧ P (j + 1) M' ∧ Q j d) :
    ∃ ds M', evX c X s = .ok (.new ds) ⟨v, M'⟩ ∧ P m.xs.length M' ∧ ds.length = m.xs.length ∧ ∀ j d, ds[j]? = some d → Q j d := by
  subst hX
  obtain ⟨xs, chk, lks⟩ := m
  dsimp only at hl hc step hf
  subst hl hc
  obtain ⟨ds, s', e, ⟨hv, hP⟩, hlen, hq⟩ := compL_inv (ok := Itm.ok ⟨xs, [], []⟩) (body := fun x s => (turnC (evG c tg) (evTB c true ifs) (evX c elt) x s).bind fun o s' => .ok o (wiped own s')) (fun _ => rfl) (fun j s => s.v = v ∧ P j s.M) Q xs 0 (fun j x s hx hp => by
    rw [Nat.zero_add] at hp ⊢
    obtain ⟨v2, M2⟩ := s
    obtain ⟨e1, hp⟩ := hp
    dsimp only at e1 hp
    subst e1
    obtain ⟨d, v', M', e, e2, p, q⟩ := step j x M2 hx hp
    refine ⟨d, wiped own ⟨v', M'⟩, ?_, ⟨e2, p⟩, q⟩
    rw [e]
    rfl) ⟨v, M⟩ ⟨rfl, h0⟩
  obtain ⟨v2, M2⟩ := s'
  dsimp only at hv hP
  subst hv
  rw [Nat.zero_add] at hP
  refine ⟨ds, M2, ?_, hP, hlen, fun j d h => by have := hq j d h; rw [Nat.zero_add] at this; exact this⟩
  rw [evX, hi]
  show compD _ _ _ _ = _
  unfold compD
  have hwd : wiped own ⟨lock v2 [], M⟩ = ⟨v2, M⟩ := by unfold wiped; exact congrArg (fun w => (⟨w, M⟩ : S)) hw
  rw [hwd, e]
  show noX (if fits ds.length = true then _ else _) = _
  rw [hlen, if_pos hf]
  show R.ok _ _ = _
  unfold unlock lock
  rw [hr]
theorem ext_get {α : Type} {ds L : List α} (hl : ds.length = L.length) (h : ∀ (j : Nat) d, ds[j]? = some d → L[j]? = some d) : ds = L := by
  refine List.ext_getElem? fun j => ?_
  by_cases hj : j < ds.length
  · rw [List.getElem?_eq_getElem hj]
    exact (h j _ (List.getElem?_eq_getElem hj)).symm
  · rw [List.getElem?_eq_none (by omega), List.getElem?_eq_none (by omega)]
/-- a comprehension that changes nothing -/
theorem comp_map {c : Cn} (X : Ex) {elt : Ex} {tg : Tg} {it : It} {ifs : Tes} {own : List Nat} {s : S} {m : Itm} {v : List Slot} {M : List Cell} (hX : X = .comp elt tg it ifs own) (L : List D) (hi : evI c it s = .ok m ⟨v, M⟩) (hl : m.lks = []) (hc : m.chk = []) (hw : wipes v own = v) (hr : restor v v own = v)
    (hf : fits m.xs.length = true) (hL : L.length = m.xs.length)
    (step : ∀ (j : Nat) x d, m.xs[j]? = some x → L[j]? = some d → ∃ v', turnC (evG c tg) (evTB c true ifs) (evX c elt) x ⟨v, M⟩ = .ok (some d) ⟨v', M⟩ ∧ wipes v' own = v) :
    evX c X s = .ok (.new L) ⟨v, M⟩ := by
  obtain ⟨ds, M', e, hM, hl2, hq⟩ := comp_inv X hX hi hl hc hw hr hf (fun _ N => N = M) (fun j d => L[j]? = some d) rfl (fun j x N hx hN => by
    subst hN
    have hj : j < L.length := by rw [hL]; exact (List.getElem?_eq_some_iff.mp hx).1
    obtain ⟨v', e, h⟩ := step j x L[j] hx (List.getElem?_eq_getElem hj)
    exact ⟨L[j], v', _, e, h, rfl, List.getElem?_eq_getElem hj⟩)
  subst hM
  rw [e, ext_get (by omega) hq]
/-- a comprehension that changes nothing, with tests: item j gives f j -/
theorem compL_fm {ok : S → Bool} {body : D → S → R (Option D)} (hok : ∀ s, ok s = true) (f : Nat → Option D) (s : S) : ∀ (xs : List D) (k : Nat), (∀ (j : Nat) x, xs[j]? = some x → body x s = .ok (f (k + j)) s) → compL ok body xs s = .ok ((List.range' k xs.length).filterMap f) s
  | [], k, _ => by rw [compL, hok]; rfl
  | x :: xs, k, h => by
    have e1 := h 0 x rfl
    have e2 := compL_fm hok f s xs (k + 1) (fun j y hy => by
      have := h (j + 1) y hy
      rw [show k + (j + 1) = k + 1 + j by omega] at this
      exact this)
    rw [Nat.add_zero] at e1
    rw [compL, hok, e1]
    show (if true = true then (compL ok body xs s).bind _ else _) = _
    rw [e2, List.length_cons, List.range'_succ, List.filterMap_cons]
    cases f k <;> rfl
theorem comp_fmL {c : Cn} (X : Ex) {elt : Ex} {tg : Tg} {it : It} {ifs : Tes} {own : List Nat} {s : S} {m : Itm} {v u : List Slot} {M : List Cell} (hX : X = .comp elt tg it ifs own) (f : Nat → Option D) (hi : evI c it s = .ok m ⟨v, M⟩) (hl : lock v m.lks = u) (hu : unlock u m.lks = v) (hc : m.chk = []) (hw : wipes u own = u) (hr : restor u u own = u)
    (hf : m.xs.length < 1000000)
    (step : ∀ (j : Nat) x, m.xs[j]? = some x → ∃ v', turnC (evG c tg) (evTB c true ifs) (evX c elt) x ⟨u, M⟩ = .ok (f j) ⟨v', M⟩ ∧ wipes v' own = u) :
    evX c X s = .ok (.new ((List.range m.xs.length).filterMap f)) ⟨v, M⟩ := by
  subst hX
  obtain ⟨xs, chk, lks⟩ := m
  dsimp only at hl hc hu step hf
  subst hc
  have e := compL_fm (ok := Itm.ok ⟨xs, [], lks⟩) (body := fun x s => (turnC (evG c tg) (evTB c true ifs) (evX c elt) x s).bind fun o s' => .ok o (wiped own s')) (fun _ => rfl) f ⟨u, M⟩ xs 0 (fun j x hx => by
    obtain ⟨v', e, h⟩ := step j x hx
    rw [e, Nat.zero_add]
    show R.ok _ (wiped own ⟨v', M⟩) = _
    unfold wiped
    rw [h])
  rw [evX, hi]
  show compD _ _ _ _ = _
  unfold compD
  have hwd : wiped own ⟨u, M⟩ = ⟨u, M⟩ := by unfold wiped; exact congrArg (fun w => (⟨w, M⟩ : S)) hw
  dsimp only
  rw [hl, hwd, e, ← List.range_eq_range']
  have hf2 : fits ((List.range xs.length).filterMap f).length = true := by
    unfold fits PySem.sizeLine
    have := List.length_filterMap_le f (List.range xs.length)
    rw [List.length_range] at this
    exact Nat.ble_eq.mpr (by omega)
  show noX (if fits ((List.range xs.length).filterMap f).length = true then _ else _) = _
  rw [if_pos hf2]
  show R.ok _ _ = _
  rw [hr, hu]
theorem comp_fm {c : Cn} (X : Ex) {elt : Ex} {tg : Tg} {it : It} {ifs : Tes} {own : List Nat} {s : S} {m : Itm} {v : List Slot} {M : List Cell} (hX : X = .comp elt tg it ifs own) (f : Nat → Option D) (hi : evI c it s = .ok m ⟨v, M⟩) (hl : m.lks = []) (hc : m.chk = []) (hw : wipes v own = v) (hr : restor v v own = v)
    (hf : m.xs.length < 1000000)
    (step : ∀ (j : Nat) x, m.xs[j]? = some x → ∃ v', turnC (evG c tg) (evTB c true ifs) (evX c elt) x ⟨v, M⟩ = .ok (f j) ⟨v', M⟩ ∧ wipes v' own = v) :
    evX c X s = .ok (.new ((List.range m.xs.length).filterMap f)) ⟨v, M⟩ := comp_fmL X hX f hi (by rw [hl]; rfl) (by rw [hl]; rfl) hc hw hr hf step
theorem zp_get : ∀ {xs ys : List D} {j : Nat} {x : D}, (zips xs ys)[j]? = some x → ∃ a b, xs[j]? = some a ∧ ys[j]? = some b ∧ x = .tup [a, b]
  | [], _, j, x, h => by simp [zips] at h
  | _ :: _, [], j, x, h => by simp [zips] at h
  | a :: xs, b :: ys, 0, x, h => by rw [zips] at h; cases h; exact ⟨a, b, rfl, rfl, rfl⟩
  | a :: xs, b :: ys, j + 1, x, h => by rw [zips] at h; exact zp_get (xs := xs) (ys := ys) h
theorem zp_len : ∀ (xs ys : List D), (zips xs ys).length = min xs.length ys.length
  | [], ys => by simp [zips]
  | _ :: _, [] => by simp [zips]
  | a :: xs, b :: ys => by rw [zips, List.length_cons, zp_len xs ys, List.length_cons, List.length_cons]; omega
theorem tk {α β : Type} {L : List α} {f : α → β} {j : Nat} {y : α} (h : L[j]? = some y) : (L.take (j + 1)).map f = (L.take j).map f ++ [f y] := by
  rw [List.take_add_one, h]; simp
theorem en_get : ∀ {xs : List D} {k : Int} {i : Nat} {d : D}, (pairs k xs)[i]? = some d → ∃ x, xs[i]? = some x ∧ d = .tup [.int (k + (i : Int)), x]
  | [], _, _, _, h => by simp [pairs] at h
  | x :: xs, k, i, d, h => by
    unfold pairs at h
    cases i with
    | zero => simp at h; exact ⟨x, rfl, by rw [← h]; simp⟩
    | succ i =>
      simp at h
      obtain ⟨a, h1, h2⟩ := en_get h
      refine ⟨a, by simpa using h1, ?_⟩
      rw [h2]
      congr 2
      have : k + 1 + (i : Int) = k + ((i + 1 : Nat) : Int) := by omega
      rw [this]
theorem en_len : ∀ (xs : List D) (k : Int), (pairs k xs).length = xs.length
  | [], k => rfl
  | x :: xs, k => by unfold pairs; rw [List.length_cons, List.length_cons, en_len xs (k + 1)]
theorem atI_nat {α : Type} {xs : List α} {k : Nat} {x : α} (h : xs[k]? = some x) : L2.atI xs (k : Int) = some x := by
  have hl : k < xs.length := (List.getElem?_eq_some_iff.mp h).1
  unfold L2.atI L2.ixN
  rw [if_pos (by omega), if_pos (by omega)]
  show xs[(k : Int).toNat]? = _
  rw [Int.toNat_natCast]; exact h
theorem evI_rngZ {c : Cn} {e : Ex} {s s1 : S} {z : Int} {m : Nat} (h : evX c e s = .ok (.val (.int z)) s1) (hm : in62 z = true) (hz : z.toNat = m) : evI c (.rng (.cons e .nil)) s = .ok ⟨rngL 0 m, [], []⟩ s1 := by
  subst hz
  simp [evI, evXs, h, R.bind, lif, rngD, hm]
theorem rngL_get {m j : Nat} {x : D} (h : (rngL 0 m)[j]? = some x) : x = .int (j : Int) ∧ j < m := by
  unfold rngL at h
  rw [List.getElem?_map] at h
  have hj : j < m := by
    by_cases hj : j < m
    · exact hj
    · rw [List.getElem?_eq_none (by rw [List.length_range]; omega)] at h; cases h
  rw [List.getElem?_eq_getElem (by rw [List.length_range]; exact hj), List.getElem_range] at h
  cases h
  exact ⟨congrArg D.int (Int.zero_add _), hj⟩
theorem rngL_len (m : Nat) : (rngL 0 m).length = m := by unfold rngL; rw [List.length_map, List.length_range]
theorem len62 {n : Nat} (hl : n < 1000000) : in62 (n : Int) = true := by
  unfold in62
  rw [Bool.and_eq_true, decide_eq_true_eq, decide_eq_true_eq]
  omega
theorem fits_lt {n : Nat} (hl : n < 1000000) : fits n = true := by
  unfold fits PySem.sizeLine
  exact Nat.ble_eq.mpr (by omega)
theorem lt_sizeLine {n : Nat} (hl : n < 1000000) : n < sizeLine := by unfold PySem.sizeLine; omega
theorem ite_t {c : Cn} {t : Te} {a b : Stms} {s s1 : S} {r : R Fl} (h : evT c t s = .ok true s1) (h2 : evSs c a s1 = r) : evS c (.ite t a b) s = r := by
  rw [evS, h]; exact h2
theorem ite_f {c : Cn} {t : Te} {a b : Stms} {s s1 : S} {r : R Fl} (h : evT c t s = .ok false s1) (h2 : evSs c b s1 = r) : evS c (.ite t a b) s = r := by
  rw [evS, h]; exact h2
theorem sq {c : Cn} {st : Stm} {ss : Stms} {s s1 : S} {r : R Fl} (h : evS c st s = .ok .nx s1) (h2 : evSs c ss s1 = r) : evSs c (.cons st ss) s = r := by
  rw [evSs, h]; exact h2
theorem ret_tup {c : Cn} {X : Ex} {s s1 : S} {L : List D} (h : evX c X s = .ok (.new L) s1) (ss : Stms) : evSs c (.cons (.ret (.bi .tuple (.cons X .nil))) ss) s = .ok (.rt (.val (.tup L))) s1 := by
  simp [evSs, evS, evX, evXs, R.bind, h, biD, bi1, seq, lif, retD]
theorem ret_all {c : Cn} {X : Ex} {s s1 : S} {L : List D} {bs : List Bool} (h : evX c X s = .ok (.new L) s1) (hb : asBools L = some bs) (ss : Stms) : evSs c (.cons (.ret (.bi .all (.cons X .nil))) ss) s = .ok (.rt (.val (.bl (bs.all id)))) s1 := by
  simp [evSs, evS, evX, evXs, R.bind, h, biD, bi1, lis, lif, retD, hb]
theorem evX_tup {c : Cn} {X : Ex} {s s1 : S} {L : List D} (h : evX c X s = .ok (.new L) s1) : evX c (.bi .tuple (.cons X .nil)) s = .ok (.val (.tup L)) s1 := by
  simp [evX, evXs, R.bind, h, biD, bi1, seq, lif]
theorem fit0 : fits 0 = true := by decide
theorem fit1 : fits 1 = true := by decide
theorem fit2 : fits 2 = true := by decide
theorem fit3 : fits 3 = true := by decide
theorem fit4 : fits 4 = true := by decide
theorem fit5 : fits 5 = true := by decide
theorem fit6 : fits 6 = true := by decide
theorem fit7 : fits 7 = true := by decide
theorem fit8 : fits 8 = true := by decide
theorem fit9 : fits 9 = true := by decide
theorem fit10 : fits 10 = true := by decide
theorem fit11 : fits 11 = true := by decide
theorem fit12 : fits 12 = true := by decide
theorem fit13 : fits 13 = true := by decide
theorem fit14 : fits 14 = true := by decide
theorem fit15 : fits 15 = true := by decide
theorem fit16 : fits 16 = true := by decide
end G

/-! ## V1 -/
set_option Elab.async false
set_option linter.all false
set_option maxRecDepth 100000
set_option maxHeartbeats 4000000
namespace G
open PySem
abbrev GL : Str → Option D := fun x => csL.lookup x
abbrev RN (n : Nat) : Str → List Slot → List Cell → RF := run prog GL n
def CN (n : Nat) : Cn := ⟨RN n, kbOf prog, GL⟩
/-- no rfl for the simplifier: the kernel would run the program -/
theorem call_CN (n : Nat) (f : Str) (vs : List Slot) (M : List Cell) : (CN n).call f vs M = RN n f vs M := Eq.trans rfl rfl
abbrev T2 (a b : Int) : D := .tup [.int a, .int b]
theorem c_quotient_of (n : Nat) (a b : Slot) (M : List Cell) : RN (n+1) (Str.ofString "quotient_of") [a, b] M = ofBody (evSs (CN n) bf_quotient_of ⟨[a, b, .no], M⟩) := rfl
theorem c_plus (n : Nat) (a b : Slot) (M : List Cell) : RN (n+1) (Str.ofString "plus") [a, b] M = ofBody (evSs (CN n) bf_plus ⟨[a, b], M⟩) := rfl
theorem c_times (n : Nat) (a b : Slot) (M : List Cell) : RN (n+1) (Str.ofString "times") [a, b] M = ofBody (evSs (CN n) bf_times ⟨[a, b], M⟩) := rfl
def gcdI (a b : Int) : Int := (Nat.gcd a.natAbs b.natAbs : Nat)
theorem bi2_gcd (a b : Int) : bi2 .gcd (.val (.int a)) (.val (.int b)) = some (.val (.int (gcdI a b))) := rfl
def sgn (a b : Int) : Int := if b < 0 then -gcdI a b else gcdI a b
def quo (a b : Int) : Int × Int := (a.fdiv (sgn a b), b.fdiv (sgn a b))
theorem Sd_ok {i : Int} (h : i.natAbs < 2 ^ 9000) (h0 : i ≠ 0) : Sd i = true := by
  unfold Sd
  rw [Nat.blt_eq]
  exact (Nat.log2_lt (by omega)).mpr h
theorem Sm_ok {i : Int} (h : i.natAbs < 2 ^ 9000) : Sm i = true := by
  unfold Sm LIM
  rw [Nat.blt_eq]
  by_cases h0 : i.natAbs = 0
  · rw [h0]; decide
  · have := (Nat.log2_lt h0).mpr h
    omega
theorem gcdI_pos {a b : Int} (hb : b ≠ 0) : 0 < gcdI a b := by
  unfold gcdI
  have : Nat.gcd a.natAbs b.natAbs ≠ 0 := fun e => by
    have := Nat.eq_zero_of_gcd_eq_zero_right e
    omega
  omega
theorem gcdI_le {a b : Int} (hb : b ≠ 0) : (gcdI a b).natAbs ≤ b.natAbs := by
  unfold gcdI
  exact Nat.le_of_dvd (by omega) (Nat.gcd_dvd_right _ _)
theorem Sd_gcd {a b : Int} (hb : b ≠ 0) (hs : b.natAbs < 2 ^ 9000) : Sd (gcdI a b) = true := Sd_ok (Nat.lt_of_le_of_lt (gcdI_le hb) hs) (by have := gcdI_pos (a := a) hb; omega)
theorem Sd_neg {a : Int} : Sd (-a) = Sd a := by unfold Sd; rw [Int.natAbs_neg]
theorem s_quotient_of (n : Nat) (a b : Int) (M : List Cell) (hb : b ≠ 0) (hs : b.natAbs < 2 ^ 9000) : RN (n+1) (Str.ofString "quotient_of") [.val (.int a), .val (.int b)] M = .ok (.val (T2 (quo a b).1 (quo a b).2)) M := by
  rw [c_quotient_of]
  have g0 := gcdI_pos (a := a) hb
  have g1 : gcdI a b ≠ 0 := by omega
  have gs := Sd_gcd (a := a) hb hs
  by_cases hn : b < 0
  · simp [bf_quotient_of, evSs, evS, evX, evXs, evEs, evA, evAg, evT, evTB, evB, evG, evGs, evI, Tgs.len, varD, R.bind, biD, bi1, bi2_gcd, lif, toVal, setName, cmpD, truD, negD, binD, intOp, retD, ofBody, fits, sizeLine, callD, call_CN, callkD, slots, Ar.slot, lend, ofCall, subD, seq, lis, L2.atI, L2.ixN, G.atI, isTys, isTy, eqD, D.eqv, pure60, D.pure, D.deep, List.set, setD, putL, cell, methD, mtD, strI, ofSeq, plcC, plcV, unl, lock, unlock, rngD, forL, Itm.ok, stays, List.all_nil, bi2_gcd, hn, gs, g1, quo, sgn, Sd_neg]
  · simp [bf_quotient_of, evSs, evS, evX, evXs, evEs, evA, evAg, evT, evTB, evB, evG, evGs, evI, Tgs.len, varD, R.bind, biD, bi1, bi2_gcd, lif, toVal, setName, cmpD, truD, negD, binD, intOp, retD, ofBody, fits, sizeLine, callD, call_CN, callkD, slots, Ar.slot, lend, ofCall, subD, seq, lis, L2.atI, L2.ixN, G.atI, isTys, isTy, eqD, D.eqv, pure60, D.pure, D.deep, List.set, setD, putL, cell, methD, mtD, strI, ofSeq, plcC, plcV, unl, lock, unlock, rngD, forL, Itm.ok, stays, List.all_nil, bi2_gcd, hn, gs, g1, quo, sgn]
theorem sgn_mul {a b : Int} (hb : b ≠ 0) : ∃ x y : Int, a = sgn a b * x ∧ b = sgn a b * y ∧ 0 < y ∧ Nat.gcd x.natAbs y.natAbs = 1 ∧ sgn a b ≠ 0 := by
  have hg : 0 < Nat.gcd a.natAbs b.natAbs := Nat.pos_of_ne_zero fun e => by
    have := Nat.eq_zero_of_gcd_eq_zero_right e
    omega
  have key : ∀ s : Int, s.natAbs = Nat.gcd a.natAbs b.natAbs → (s < 0 ↔ b < 0) → ∃ x y : Int, a = s * x ∧ b = s * y ∧ 0 < y ∧ Nat.gcd x.natAbs y.natAbs = 1 ∧ s ≠ 0 := fun s hs hn => by
    obtain ⟨x, hx⟩ : s ∣ a := Int.natAbs_dvd_natAbs.mp (by rw [hs]; exact Nat.gcd_dvd_left _ _)
    obtain ⟨y, hy⟩ : s ∣ b := Int.natAbs_dvd_natAbs.mp (by rw [hs]; exact Nat.gcd_dvd_right _ _)
    have s0 : s ≠ 0 := by intro e; rw [e] at hs; simp at hs; omega
    refine ⟨x, y, hx, hy, ?_, ?_, s0⟩
    · by_cases h : b < 0
      · have h1 := hn.mpr h
        by_cases h2 : 0 < y
        · exact h2
        · exfalso
          have := Int.mul_nonneg_of_nonpos_of_nonpos (a := s) (b := y) (by omega) (by omega)
          omega
      · have h1 : ¬ s < 0 := fun e => h (hn.mp e)
        by_cases h2 : 0 < y
        · exact h2
        · exfalso
          have := Int.mul_nonpos_of_nonneg_of_nonpos (a := s) (b := y) (by omega) (by omega)
          omega
    · have e1 : a.natAbs = s.natAbs * x.natAbs := by rw [← Int.natAbs_mul, ← hx]
      have e2 : b.natAbs = s.natAbs * y.natAbs := by rw [← Int.natAbs_mul, ← hy]
      have e3 : s.natAbs * Nat.gcd x.natAbs y.natAbs = s.natAbs * 1 := by
        rw [← Nat.gcd_mul_left, ← e1, ← e2, Nat.mul_one, hs]
      exact Nat.eq_of_mul_eq_mul_left (by omega) e3
  unfold sgn gcdI
  by_cases h : b < 0
  · rw [if_pos h]
    exact key _ (by rw [Int.natAbs_neg]; rfl) ⟨fun _ => h, fun _ => by omega⟩
  · rw [if_neg h]
    exact key _ rfl ⟨fun e => by omega, fun e => absurd e h⟩
theorem quo_right {a b : Int} (hb : b ≠ 0) : 0 < (quo a b).2 ∧ Nat.gcd (quo a b).1.natAbs (quo a b).2.natAbs = 1 ∧ (quo a b).1 * b = a * (quo a b).2 ∧ (quo a b).1.natAbs ≤ a.natAbs ∧ (quo a b).2.natAbs ≤ b.natAbs := by
  obtain ⟨x, y, hx, hy, hp, co, s0⟩ := sgn_mul (a := a) hb
  unfold quo
  dsimp only
  generalize sgn a b = s at hx hy s0 ⊢
  subst hx hy
  rw [Int.mul_fdiv_cancel_left _ s0, Int.mul_fdiv_cancel_left _ s0]
  refine ⟨hp, co, by ac_rfl, ?_, ?_⟩
  · rw [Int.natAbs_mul]; exact Nat.le_mul_of_pos_left _ (by omega)
  · rw [Int.natAbs_mul]; exact Nat.le_mul_of_pos_left _ (by omega)
theorem s_plus (n : Nat) (a b c d : Int) (M : List Cell) (h0 : b * d ≠ 0) (hs : (b * d).natAbs < 2 ^ 9000) (ha : Sm a = true) (hb : Sm b = true) (hc : Sm c = true) (hd : Sm d = true) :
    RN (n+2) (Str.ofString "plus") [.val (T2 a b), .val (T2 c d)] M = .ok (.val (T2 (quo (a * d + c * b) (b * d)).1 (quo (a * d + c * b) (b * d)).2)) M := by
  rw [c_plus]
  have := s_quotient_of n (a * d + c * b) (b * d) M h0 hs
  simp [bf_plus, evSs, evS, evX, evXs, evEs, evA, evAg, evT, evTB, evB, evG, evGs, evI, Tgs.len, varD, R.bind, biD, bi1, bi2_gcd, lif, toVal, setName, cmpD, truD, negD, binD, intOp, retD, ofBody, fits, sizeLine, callD, call_CN, callkD, slots, Ar.slot, lend, ofCall, subD, seq, lis, L2.atI, L2.ixN, G.atI, isTys, isTy, eqD, D.eqv, pure60, D.pure, D.deep, List.set, setD, putL, cell, methD, mtD, strI, ofSeq, plcC, plcV, unl, lock, unlock, rngD, forL, Itm.ok, stays, List.all_nil, ha, hb, hc, hd, this]
theorem s_times (n : Nat) (a b c d : Int) (M : List Cell) (h0 : b * d ≠ 0) (hs : (b * d).natAbs < 2 ^ 9000) (ha : Sm a = true) (hb : Sm b = true) (hc : Sm c = true) (hd : Sm d = true) :
    RN (n+2) (Str.ofString "times") [.val (T2 a b), .val (T2 c d)] M = .ok (.val (T2 (quo (a * c) (b * d)).1 (quo (a * c) (b * d)).2)) M := by
  rw [c_times]
  have := s_quotient_of n (a * c) (b * d) M h0 hs
  simp [bf_times, evSs, evS, evX, evXs, evEs, evA, evAg, evT, evTB, evB, evG, evGs, evI, Tgs.len, varD, R.bind, biD, bi1, bi2_gcd, lif, toVal, setName, cmpD, truD, negD, binD, intOp, retD, ofBody, fits, sizeLine, callD, call_CN, callkD, slots, Ar.slot, lend, ofCall, subD, seq, lis, L2.atI, L2.ixN, G.atI, isTys, isTy, eqD, D.eqv, pure60, D.pure, D.deep, List.set, setD, putL, cell, methD, mtD, strI, ofSeq, plcC, plcV, unl, lock, unlock, rngD, forL, Itm.ok, stays, List.all_nil, ha, hb, hc, hd, this]
theorem seq_nx {c : Cn} {st : Stm} {ss : Stms} {s s1 : S} (h : evS c st s = .ok .nx s1) : evSs c (.cons st ss) s = evSs c ss s1 := by
  rw [evSs, h]; rfl

/-! ### rationals -/
def qd (r : Rat) : D := T2 r.num (r.den : Int)
theorem can_unique {x y u v : Int} (hy : 0 < y) (hv : 0 < v) (c1 : Nat.gcd x.natAbs y.natAbs = 1) (c2 : Nat.gcd u.natAbs v.natAbs = 1) (h : x * v = u * y) : x = u ∧ y = v := by
  have h' : x.natAbs * v.natAbs = u.natAbs * y.natAbs := by rw [← Int.natAbs_mul, ← Int.natAbs_mul, h]
  have d1 : y.natAbs ∣ v.natAbs := by
    have : y.natAbs ∣ x.natAbs * v.natAbs := by rw [h']; exact Nat.dvd_mul_left _ _
    exact (Nat.Coprime.dvd_of_dvd_mul_left (by rw [Nat.coprime_iff_gcd_eq_one, Nat.gcd_comm]; exact c1) this)
  have d2 : v.natAbs ∣ y.natAbs := by
    have : v.natAbs ∣ u.natAbs * y.natAbs := by rw [← h']; exact Nat.dvd_mul_left _ _
    exact (Nat.Coprime.dvd_of_dvd_mul_left (by rw [Nat.coprime_iff_gcd_eq_one, Nat.gcd_comm]; exact c2) this)
  have e := Nat.dvd_antisymm d1 d2
  have e2 : y = v := by omega
  subst e2
  exact ⟨Int.eq_of_mul_eq_mul_right (by omega) h, rfl⟩
theorem quo_rat {a b : Int} (hb : b ≠ 0) : (quo a b).1 = ((a : Rat) / (b : Rat)).num ∧ (quo a b).2 = (((a : Rat) / (b : Rat)).den : Int) := by
  obtain ⟨h1, h2, h3, _⟩ := quo_right (a := a) hb
  generalize hr : (a : Rat) / (b : Rat) = r
  have e : r.num * b = a * r.den := by
    have q : Rat.divInt r.num (r.den : Int) = Rat.divInt a b := by rw [Rat.num_divInt_den, Rat.divInt_eq_div]; exact hr.symm
    exact (Rat.divInt_eq_divInt_iff (by have := r.den_pos; omega) hb).mp q
  refine can_unique h1 (by have := r.den_pos; omega) h2 r.reduced ?_
  refine Int.eq_of_mul_eq_mul_right hb ?_
  calc (quo a b).1 * r.den * b = (quo a b).1 * b * r.den := by ac_rfl
    _ = a * r.den * (quo a b).2 := by rw [h3]; ac_rfl
    _ = r.num * (quo a b).2 * b := by rw [← e]; ac_rfl
theorem quo_qd {a b : Int} (hb : b ≠ 0) : T2 (quo a b).1 (quo a b).2 = qd ((a : Rat) / (b : Rat)) := by
  obtain ⟨h1, h2⟩ := quo_rat (a := a) hb
  unfold qd
  rw [h1, h2]
/-- sizes -/
def Bd (k : Nat) (r : Rat) : Prop := r.num.natAbs < 2 ^ k ∧ r.den < 2 ^ k
theorem den0 (r : Rat) : ((r.den : Int) : Rat) ≠ 0 := by
  have := r.den_pos
  rw [Ne, Rat.intCast_eq_zero_iff]; omega
theorem num_eq (r : Rat) : (r.num : Rat) = r * ((r.den : Int) : Rat) := by
  have h : (r.num : Rat) / ((r.den : Int) : Rat) = r := by rw [← Rat.divInt_eq_div, Rat.num_divInt_den]
  have := den0 r
  grind
/-- the calls of one level, behind a name: the kernel can't run the program -/
theorem opq (n : Nat) : ∃ C : Cn, C = CN n ∧ ∀ {f : Str} {vs : List Slot} {M : List Cell} {r : RF}, RN n f vs M = r → C.call f vs M = r := ⟨_, rfl, fun h => (call_CN _ _ _ _).trans h⟩
theorem globZ (n : Nat) (s : S) : globD (CN n) (Str.ofString "ZERO") s = .ok (.val (qd 0)) s := rfl
theorem globO (n : Nat) (s : S) : globD (CN n) (Str.ofString "ONE") s = .ok (.val (qd 1)) s := rfl
theorem mulb {a b : Int} {i j : Nat} (ha : a.natAbs < 2 ^ i) (hb : b.natAbs < 2 ^ j) : (a * b).natAbs < 2 ^ (i + j) := by
  rw [Int.natAbs_mul, Nat.pow_add]
  exact Nat.mul_lt_mul'' ha hb
theorem addb {a b : Int} {i : Nat} (ha : a.natAbs < 2 ^ i) (hb : b.natAbs < 2 ^ i) : (a + b).natAbs < 2 ^ (i + 1) := by
  have := Int.natAbs_add_le a b
  rw [Nat.pow_succ]; omega
theorem subb {a b : Int} {i : Nat} (ha : a.natAbs < 2 ^ i) (hb : b.natAbs < 2 ^ i) : (a - b).natAbs < 2 ^ (i + 1) := by
  have := Int.natAbs_sub_le a b
  rw [Nat.pow_succ]; omega
theorem upb {a : Int} {i : Nat} (j : Nat) (ha : a.natAbs < 2 ^ i) (h : i ≤ j) : a.natAbs < 2 ^ j := Nat.lt_of_lt_of_le ha (Nat.pow_le_pow_right (by decide) h)
theorem Smb {a : Int} {i : Nat} (ha : a.natAbs < 2 ^ i) (h : i ≤ 9000) : Sm a = true := Sm_ok (upb 9000 ha h)
theorem bd_div {a b : Int} {k : Nat} (hb : b ≠ 0) (h1 : a.natAbs < 2 ^ k) (h2 : b.natAbs < 2 ^ k) : Bd k ((a : Rat) / (b : Rat)) := by
  obtain ⟨e1, e2⟩ := quo_rat (a := a) hb
  obtain ⟨_, _, _, h4, h5⟩ := quo_right (a := a) hb
  refine ⟨by rw [← e1]; omega, ?_⟩
  have : ((((a : Rat) / (b : Rat)).den : Int)).natAbs < 2 ^ k := by rw [← e2]; omega
  simpa using this
theorem Bd.up {k : Nat} {r : Rat} (j : Nat) (h : Bd k r) (hk : k ≤ j) : Bd j r := ⟨Nat.lt_of_lt_of_le h.1 (Nat.pow_le_pow_right (by decide) hk), Nat.lt_of_lt_of_le h.2 (Nat.pow_le_pow_right (by decide) hk)⟩
theorem Bd.den {k : Nat} {r : Rat} (h : Bd k r) : ((r.den : Int)).natAbs < 2 ^ k := by simpa using h.2
theorem den_ne (r : Rat) : (r.den : Int) ≠ 0 := by have := r.den_pos; omega
section
variable (n : Nat) (M : List Cell) {r s : Rat} {k l : Nat} (hr : Bd k r) (hs : Bd l s) (hk : k + l ≤ 8990)
include hr hs hk
theorem r_plus : RN (n+2) (Str.ofString "plus") [.val (qd r), .val (qd s)] M = .ok (.val (qd (r + s))) M ∧ Bd (k + l + 1) (r + s) := by
  have b0 : (r.den : Int) * s.den ≠ 0 := Int.mul_ne_zero (den_ne r) (den_ne s)
  have bb := mulb hr.den hs.den
  have e := s_plus n r.num r.den s.num s.den M b0 (upb 9000 bb (by omega)) (Smb hr.1 (by omega)) (Smb hr.den (by omega)) (Smb hs.1 (by omega)) (Smb hs.den (by omega))
  have v : ((r.num * s.den + s.num * r.den : Int) : Rat) / ((r.den * s.den : Int) : Rat) = r + s := by
    have h1 := num_eq r
    have h2 := num_eq s
    have d1 := den0 r
    have d2 := den0 s
    rw [Rat.intCast_add, Rat.intCast_mul, Rat.intCast_mul, Rat.intCast_mul]
    grind
  have sm := addb (mulb hr.1 hs.den) (upb (k + l) (mulb hs.1 hr.den) (by omega))
  have bd := bd_div b0 sm (upb (k + l + 1) bb (by omega))
  rw [v] at bd
  refine ⟨?_, bd⟩
  rw [quo_qd b0, v] at e
  exact e
theorem r_times : RN (n+2) (Str.ofString "times") [.val (qd r), .val (qd s)] M = .ok (.val (qd (r * s))) M ∧ Bd (k + l) (r * s) := by
  have b0 : (r.den : Int) * s.den ≠ 0 := Int.mul_ne_zero (den_ne r) (den_ne s)
  have bb := mulb hr.den hs.den
  have e := s_times n r.num r.den s.num s.den M b0 (upb 9000 bb (by omega)) (Smb hr.1 (by omega)) (Smb hr.den (by omega)) (Smb hs.1 (by omega)) (Smb hs.den (by omega))
  have v : ((r.num * s.num : Int) : Rat) / ((r.den * s.den : Int) : Rat) = r * s := by
    have h1 := num_eq r
    have h2 := num_eq s
    have d1 := den0 r
    have d2 := den0 s
    rw [Rat.intCast_mul, Rat.intCast_mul]
    grind
  have bd := bd_div b0 (mulb hr.1 hs.1) bb
  rw [v] at bd
  refine ⟨?_, bd⟩
  rw [quo_qd b0, v] at e
  exact e
end
end G

/-! ## V2 -/
set_option Elab.async false
set_option linter.all false
set_option maxRecDepth 100000
set_option maxHeartbeats 4000000
namespace G
open PySem
/-! ### quotients among things of any kind -/
theorem seq_rt {c : Cn} {st : Stm} {ss : Stms} {s s1 : S} {o : Slot} (h : evS c st s = .ok (.rt o) s1) : evSs c (.cons st ss) s = .ok (.rt o) s1 := by
  rw [evSs, h]; rfl
mutual
/-- what a thing names is there: lists -/
def Wd (M : List Cell) : D → Prop
  | .non => True
  | .bl _ => True
  | .int _ => True
  | .str _ => True
  | .tup xs => Wds M xs
  | .loc n => ∃ xs, M[n]? = some (.lst xs)
def Wds (M : List Cell) : List D → Prop
  | [] => True
  | d :: ds => Wd M d ∧ Wds M ds
end
theorem wds_get {M : List Cell} : ∀ {ds : List D} {j : Nat} {d : D}, Wds M ds → ds[j]? = some d → Wd M d
  | [], _, _, _, h => by simp at h
  | x :: xs, 0, d, w, h => by
    simp at h
    subst h
    simp only [Wds] at w
    exact w.1
  | x :: xs, j + 1, d, w, h => by
    simp only [Wds] at w
    exact wds_get w.2 (by simpa using h)
def isI : D → Bool
  | .int _ => true
  | _ => false
def isTu (k : Int) : D → Bool
  | .tup xs => (xs.length : Int) == k
  | _ => false
def isQ : D → Bool
  | .tup [.int a, .int b] => decide (1 ≤ b) && decide (gcdI a b = 1)
  | _ => false
theorem c_is_integer (n : Nat) (a : Slot) (M : List Cell) : RN (n+1) (Str.ofString "is_integer") [a] M = ofBody (evSs (CN n) bf_is_integer ⟨[a], M⟩) := rfl
theorem s_isI (n : Nat) (M : List Cell) (d : D) (h : Wd M d) : RN (n+1) (Str.ofString "is_integer") [.val d] M = .ok (.val (.bl (isI d))) M := by
  rw [c_is_integer]
  cases d with
  | loc m =>
    simp only [Wd] at h
    obtain ⟨xs, h⟩ := h
    simp [bf_is_integer, evSs, evS, evX, evXs, evEs, evA, evAg, evT, evTB, evB, evG, evGs, evI, Tgs.len, varD, R.bind, biD, bi1, bi2_gcd, lif, toVal, setName_def, isRo_no, isRo_val, isRo_own, cmpD, truD, negD, binD, intOp, retD, ofBody, callD, call_CN, callkD, slots, Ar.slot, lend, ofCall, subD, seq, lis, G.atI, isTys, isTy, eqD, D.eqv, pure60, D.pure, D.deep, List.set, setD, putL, cell, methD, mtD, strI, ofSeq, plcC, plcV, unl, lock, unlock, rngD, forL, Itm.ok, stays, List.all_nil, fit0, fit1, fit2, fit3, fit4, fit5, fit6, fit7, fit8, fit9, fit10, fit11, fit12, fit13, fit14, fit15, fit16, isI, h]
  | _ => simp [bf_is_integer, evSs, evS, evX, evXs, evEs, evA, evAg, evT, evTB, evB, evG, evGs, evI, Tgs.len, varD, R.bind, biD, bi1, bi2_gcd, lif, toVal, setName_def, isRo_no, isRo_val, isRo_own, cmpD, truD, negD, binD, intOp, retD, ofBody, callD, call_CN, callkD, slots, Ar.slot, lend, ofCall, subD, seq, lis, G.atI, isTys, isTy, eqD, D.eqv, pure60, D.pure, D.deep, List.set, setD, putL, cell, methD, mtD, strI, ofSeq, plcC, plcV, unl, lock, unlock, rngD, forL, Itm.ok, stays, List.all_nil, fit0, fit1, fit2, fit3, fit4, fit5, fit6, fit7, fit8, fit9, fit10, fit11, fit12, fit13, fit14, fit15, fit16, isI]
theorem c_tuple_of (n : Nat) (a b : Slot) (M : List Cell) : RN (n+1) (Str.ofString "tuple_of") [a, b] M = ofBody (evSs (CN n) bf_tuple_of ⟨[a, b], M⟩) := rfl
theorem s_isTu (n : Nat) (M : List Cell) (d : D) (k : Int) (h : Wd M d) : RN (n+1) (Str.ofString "tuple_of") [.val d, .val (.int k)] M = .ok (.val (.bl (isTu k d))) M := by
  rw [c_tuple_of]
  cases d with
  | loc m =>
    simp only [Wd] at h
    obtain ⟨xs, h⟩ := h
    simp [bf_tuple_of, evSs, evS, evX, evXs, evEs, evA, evAg, evT, evTB, evB, evG, evGs, evI, Tgs.len, varD, R.bind, biD, bi1, bi2_gcd, lif, toVal, setName_def, isRo_no, isRo_val, isRo_own, cmpD, truD, negD, binD, intOp, retD, ofBody, callD, call_CN, callkD, slots, Ar.slot, lend, ofCall, subD, seq, lis, G.atI, isTys, isTy, eqD, D.eqv, pure60, D.pure, D.deep, List.set, setD, putL, cell, methD, mtD, strI, ofSeq, plcC, plcV, unl, lock, unlock, rngD, forL, Itm.ok, stays, List.all_nil, fit0, fit1, fit2, fit3, fit4, fit5, fit6, fit7, fit8, fit9, fit10, fit11, fit12, fit13, fit14, fit15, fit16, isTu, h]
  | tup xs => simp [bf_tuple_of, evSs, evS, evX, evXs, evEs, evA, evAg, evT, evTB, evB, evG, evGs, evI, Tgs.len, varD, R.bind, biD, bi1, bi2_gcd, lif, toVal, setName_def, isRo_no, isRo_val, isRo_own, cmpD, truD, negD, binD, intOp, retD, ofBody, callD, call_CN, callkD, slots, Ar.slot, lend, ofCall, subD, seq, lis, G.atI, isTys, isTy, eqD, D.eqv, pure60, D.pure, D.deep, List.set, setD, putL, cell, methD, mtD, strI, ofSeq, plcC, plcV, unl, lock, unlock, rngD, forL, Itm.ok, stays, List.all_nil, fit0, fit1, fit2, fit3, fit4, fit5, fit6, fit7, fit8, fit9, fit10, fit11, fit12, fit13, fit14, fit15, fit16, isTu]
  | _ => simp [bf_tuple_of, evSs, evS, evX, evXs, evEs, evA, evAg, evT, evTB, evB, evG, evGs, evI, Tgs.len, varD, R.bind, biD, bi1, bi2_gcd, lif, toVal, setName_def, isRo_no, isRo_val, isRo_own, cmpD, truD, negD, binD, intOp, retD, ofBody, callD, call_CN, callkD, slots, Ar.slot, lend, ofCall, subD, seq, lis, G.atI, isTys, isTy, eqD, D.eqv, pure60, D.pure, D.deep, List.set, setD, putL, cell, methD, mtD, strI, ofSeq, plcC, plcV, unl, lock, unlock, rngD, forL, Itm.ok, stays, List.all_nil, fit0, fit1, fit2, fit3, fit4, fit5, fit6, fit7, fit8, fit9, fit10, fit11, fit12, fit13, fit14, fit15, fit16, isTu]
theorem asBools_map (xs : List D) : asBools (xs.map fun d => D.bl (isI d)) = some (xs.map isI) := by
  induction xs with
  | nil => rfl
  | cons x xs ih => rw [List.map_cons, asBools, ih]; rfl
theorem c_are_integers (n : Nat) (a : Slot) (M : List Cell) : RN (n+1) (Str.ofString "are_integers") [a] M = ofBody (evSs (CN n) bf_are_integers ⟨[a, .no], M⟩) := rfl
theorem s_areI (n : Nat) (M : List Cell) (xs : List D) (h : Wds M xs) (hl : xs.length < 1000) : RN (n+2) (Str.ofString "are_integers") [.val (.tup xs)] M = .ok (.val (.bl (xs.all isI))) M := by
  rw [c_are_integers]
  obtain ⟨C, hC, hg⟩ := opq (n+1)
  rw [← hC]
  have hi : evI C (.q (.var 0)) ⟨[.val (.tup xs), .no], M⟩ = .ok ⟨xs, [], []⟩ ⟨[.val (.tup xs), .no], M⟩ := by
    simp [evSs, evS, evX, evXs, evEs, evA, evAg, evT, evTB, evB, evG, evGs, evI, Tgs.len, varD, R.bind, biD, bi1, bi2_gcd, lif, toVal, setName_def, isRo_no, isRo_val, isRo_own, cmpD, truD, negD, binD, intOp, retD, ofBody, callD, call_CN, callkD, slots, Ar.slot, lend, ofCall, subD, seq, lis, G.atI, isTys, isTy, eqD, D.eqv, pure60, D.pure, D.deep, List.set, setD, putL, cell, methD, mtD, strI, ofSeq, plcC, plcV, unl, lock, unlock, rngD, forL, Itm.ok, stays, List.all_nil, fit0, fit1, fit2, fit3, fit4, fit5, fit6, fit7, fit8, fit9, fit10, fit11, fit12, fit13, fit14, fit15, fit16]
  have ec := comp_map f_are_integers_C0 rfl (xs.map fun d => D.bl (isI d)) hi rfl rfl rfl rfl (fits_lt (by dsimp only; omega)) (by simp) (by
    intro j x d hx hd
    have e1 := hg (s_isI n M x (wds_get h hx))
    have hd2 : (xs.map fun d => D.bl (isI d))[j]? = some (.bl (isI x)) := by rw [List.getElem?_map, hx]; rfl
    rw [hd2] at hd
    cases hd
    refine ⟨[.val (.tup xs), .val x], ?_, rfl⟩
    simp [turnC, evSs, evS, evX, evXs, evEs, evA, evAg, evT, evTB, evB, evG, evGs, evI, Tgs.len, varD, R.bind, biD, bi1, bi2_gcd, lif, toVal, setName_def, isRo_no, isRo_val, isRo_own, cmpD, truD, negD, binD, intOp, retD, ofBody, callD, call_CN, callkD, slots, Ar.slot, lend, ofCall, subD, seq, lis, G.atI, isTys, isTy, eqD, D.eqv, pure60, D.pure, D.deep, List.set, setD, putL, cell, methD, mtD, strI, ofSeq, plcC, plcV, unl, lock, unlock, rngD, forL, Itm.ok, stays, List.all_nil, fit0, fit1, fit2, fit3, fit4, fit5, fit6, fit7, fit8, fit9, fit10, fit11, fit12, fit13, fit14, fit15, fit16, e1])
  have i0 : evS C f_are_integers_0 ⟨[.val (.tup xs), .no], M⟩ = .ok (.rt (.val (.bl (xs.all isI)))) ⟨[.val (.tup xs), .no], M⟩ := by
    show evS C (.ret (.bi .all (.cons f_are_integers_C0 .nil))) _ = _
    rw [evS, evX, evXs, ec]
    simp [R.bind, evXs, biD, bi1, lis, asBools_map, lif, retD, toVal, List.all_map]
  unfold bf_are_integers
  rw [seq_rt i0]
  rfl
theorem c_is_quotient (n : Nat) (a : Slot) (M : List Cell) : RN (n+1) (Str.ofString "is_quotient") [a] M = ofBody (evSs (CN n) bf_is_quotient ⟨[a], M⟩) := rfl
/-- small enough: numbers of a thing -/
theorem isQ_len {xs : List D} (h : ¬ xs.length = 2) : isQ (.tup xs) = false := by
  match xs, h with
  | [], _ => rfl
  | [_], _ => simp [isQ]
  | [_, _], h => exact absurd rfl h
  | _ :: _ :: _ :: _, _ => simp [isQ]
theorem s_isQ (n : Nat) (M : List Cell) (d : D) (h : Wd M d) : RN (n+3) (Str.ofString "is_quotient") [.val d] M = .ok (.val (.bl (isQ d))) M := by
  rw [c_is_quotient]
  obtain ⟨C, hC, hg⟩ := opq (n+2)
  rw [← hC]
  have e1 := hg (s_isTu (n+1) M d 2 h)
  cases d with
  | tup xs =>
    simp only [Wd] at h
    by_cases hl : xs.length = 2
    · obtain ⟨x, y, rfl⟩ : ∃ x y, xs = [x, y] := by
        match xs, hl with
        | [x, y], _ => exact ⟨x, y, rfl⟩
      have e2 := hg (s_areI n M [x, y] h (by show 2 < 1000; decide))
      have t2 : isTu 2 (.tup [x, y]) = true := rfl
      rw [t2] at e1
      have g0 : L2.atI [x, y] 0 = some x := rfl
      have g1 : L2.atI [x, y] 1 = some y := rfl
      cases x with
      | int a =>
        cases y with
        | int b =>
          have t3 : [D.int a, D.int b].all isI = true := rfl
          rw [t3] at e2
          simp only [isQ]
          by_cases hb : 1 ≤ b
          · by_cases hc : gcdI a b = 1
            · simp [bf_is_quotient, evSs, evS, evX, evXs, evEs, evA, evAg, evT, evTB, evB, evG, evGs, evI, Tgs.len, varD, R.bind, biD, bi1, bi2_gcd, lif, toVal, setName_def, isRo_no, isRo_val, isRo_own, cmpD, truD, negD, binD, intOp, retD, ofBody, callD, call_CN, callkD, slots, Ar.slot, lend, ofCall, subD, seq, lis, G.atI, isTys, isTy, eqD, D.eqv, pure60, D.pure, D.deep, List.set, setD, putL, cell, methD, mtD, strI, ofSeq, plcC, plcV, unl, lock, unlock, rngD, forL, Itm.ok, stays, List.all_nil, fit0, fit1, fit2, fit3, fit4, fit5, fit6, fit7, fit8, fit9, fit10, fit11, fit12, fit13, fit14, fit15, fit16, e1, e2, g0, g1, hb, hc]
            · simp [bf_is_quotient, evSs, evS, evX, evXs, evEs, evA, evAg, evT, evTB, evB, evG, evGs, evI, Tgs.len, varD, R.bind, biD, bi1, bi2_gcd, lif, toVal, setName_def, isRo_no, isRo_val, isRo_own, cmpD, truD, negD, binD, intOp, retD, ofBody, callD, call_CN, callkD, slots, Ar.slot, lend, ofCall, subD, seq, lis, G.atI, isTys, isTy, eqD, D.eqv, pure60, D.pure, D.deep, List.set, setD, putL, cell, methD, mtD, strI, ofSeq, plcC, plcV, unl, lock, unlock, rngD, forL, Itm.ok, stays, List.all_nil, fit0, fit1, fit2, fit3, fit4, fit5, fit6, fit7, fit8, fit9, fit10, fit11, fit12, fit13, fit14, fit15, fit16, e1, e2, g0, g1, hb, hc]
          · simp [bf_is_quotient, evSs, evS, evX, evXs, evEs, evA, evAg, evT, evTB, evB, evG, evGs, evI, Tgs.len, varD, R.bind, biD, bi1, bi2_gcd, lif, toVal, setName_def, isRo_no, isRo_val, isRo_own, cmpD, truD, negD, binD, intOp, retD, ofBody, callD, call_CN, callkD, slots, Ar.slot, lend, ofCall, subD, seq, lis, G.atI, isTys, isTy, eqD, D.eqv, pure60, D.pure, D.deep, List.set, setD, putL, cell, methD, mtD, strI, ofSeq, plcC, plcV, unl, lock, unlock, rngD, forL, Itm.ok, stays, List.all_nil, fit0, fit1, fit2, fit3, fit4, fit5, fit6, fit7, fit8, fit9, fit10, fit11, fit12, fit13, fit14, fit15, fit16, e1, e2, g0, g1, hb]
        | _ => simp [isI] at e2; simp [bf_is_quotient, evSs, evS, evX, evXs, evEs, evA, evAg, evT, evTB, evB, evG, evGs, evI, Tgs.len, varD, R.bind, biD, bi1, bi2_gcd, lif, toVal, setName_def, isRo_no, isRo_val, isRo_own, cmpD, truD, negD, binD, intOp, retD, ofBody, callD, call_CN, callkD, slots, Ar.slot, lend, ofCall, subD, seq, lis, G.atI, isTys, isTy, eqD, D.eqv, pure60, D.pure, D.deep, List.set, setD, putL, cell, methD, mtD, strI, ofSeq, plcC, plcV, unl, lock, unlock, rngD, forL, Itm.ok, stays, List.all_nil, fit0, fit1, fit2, fit3, fit4, fit5, fit6, fit7, fit8, fit9, fit10, fit11, fit12, fit13, fit14, fit15, fit16, e1, e2, isQ]
      | _ => simp [isI] at e2; simp [bf_is_quotient, evSs, evS, evX, evXs, evEs, evA, evAg, evT, evTB, evB, evG, evGs, evI, Tgs.len, varD, R.bind, biD, bi1, bi2_gcd, lif, toVal, setName_def, isRo_no, isRo_val, isRo_own, cmpD, truD, negD, binD, intOp, retD, ofBody, callD, call_CN, callkD, slots, Ar.slot, lend, ofCall, subD, seq, lis, G.atI, isTys, isTy, eqD, D.eqv, pure60, D.pure, D.deep, List.set, setD, putL, cell, methD, mtD, strI, ofSeq, plcC, plcV, unl, lock, unlock, rngD, forL, Itm.ok, stays, List.all_nil, fit0, fit1, fit2, fit3, fit4, fit5, fit6, fit7, fit8, fit9, fit10, fit11, fit12, fit13, fit14, fit15, fit16, e1, e2, isQ]
    · have t2 : isTu 2 (.tup xs) = false := by
        unfold isTu
        rw [beq_eq_false_iff_ne]
        omega
      rw [t2] at e1
      rw [isQ_len hl]
      simp [bf_is_quotient, evSs, evS, evX, evXs, evEs, evA, evAg, evT, evTB, evB, evG, evGs, evI, Tgs.len, varD, R.bind, biD, bi1, bi2_gcd, lif, toVal, setName_def, isRo_no, isRo_val, isRo_own, cmpD, truD, negD, binD, intOp, retD, ofBody, callD, call_CN, callkD, slots, Ar.slot, lend, ofCall, subD, seq, lis, G.atI, isTys, isTy, eqD, D.eqv, pure60, D.pure, D.deep, List.set, setD, putL, cell, methD, mtD, strI, ofSeq, plcC, plcV, unl, lock, unlock, rngD, forL, Itm.ok, stays, List.all_nil, fit0, fit1, fit2, fit3, fit4, fit5, fit6, fit7, fit8, fit9, fit10, fit11, fit12, fit13, fit14, fit15, fit16, e1]
  | _ => simp [isTu] at e1; simp [bf_is_quotient, evSs, evS, evX, evXs, evEs, evA, evAg, evT, evTB, evB, evG, evGs, evI, Tgs.len, varD, R.bind, biD, bi1, bi2_gcd, lif, toVal, setName_def, isRo_no, isRo_val, isRo_own, cmpD, truD, negD, binD, intOp, retD, ofBody, callD, call_CN, callkD, slots, Ar.slot, lend, ofCall, subD, seq, lis, G.atI, isTys, isTy, eqD, D.eqv, pure60, D.pure, D.deep, List.set, setD, putL, cell, methD, mtD, strI, ofSeq, plcC, plcV, unl, lock, unlock, rngD, forL, Itm.ok, stays, List.all_nil, fit0, fit1, fit2, fit3, fit4, fit5, fit6, fit7, fit8, fit9, fit10, fit11, fit12, fit13, fit14, fit15, fit16, e1, isQ]
end G

/-! ## V3 -/
set_option Elab.async false
set_option linter.all false
set_option maxRecDepth 100000
set_option maxHeartbeats 4000000
namespace G
open PySem
/-! ### the law's own look at a quotient -/
theorem p64 {k : Nat} (h : k < 2 ^ 64) : k < 2 ^ 9000 := Nat.lt_of_lt_of_le h (Nat.pow_le_pow_right (by decide) (by decide))
theorem WF_big {b : Nat} (h : b < 2 ^ 9000) : b < WF := by
  unfold WF
  exact Nat.lt_of_lt_of_le h (Nat.pow_le_pow_right (by decide) (by decide))
theorem euclid3 {T : S → R Bool} {B : S → R Fl} {M : List Cell} {a0 : Slot} (hT : ∀ a b : Nat, T ⟨[a0, .val (.int a), .val (.int b)], M⟩ = .ok (decide (0 < b)) ⟨[a0, .val (.int a), .val (.int b)], M⟩)
    (hB : ∀ a b : Nat, 0 < b → B ⟨[a0, .val (.int a), .val (.int b)], M⟩ = .ok .nx ⟨[a0, .val (.int b), .val (.int (a % b : Nat))], M⟩) : ∀ (f a b : Nat), b < f → whlL T B f ⟨[a0, .val (.int a), .val (.int b)], M⟩ = .ok .nx ⟨[a0, .val (.int (Nat.gcd a b : Nat)), .val (.int 0)], M⟩
  | 0, a, b, h => by omega
  | f + 1, a, b, h => by
    rw [whlL, hT]
    by_cases hb : b = 0
    · subst hb
      simp [R.bind]
    · have h1 : 0 < b := Nat.pos_of_ne_zero hb
      have ih := euclid3 hT hB f b (a % b) (by have := Nat.mod_lt a h1; omega)
      have e4 : (b.gcd (a % b)) = a.gcd b := by rw [Nat.gcd_comm b (a % b), ← Nat.gcd_rec, Nat.gcd_comm]
      rw [e4] at ih
      simp only [R.bind, h1, decide_true, if_true, hB a b h1]
      exact ih
/-- the second number is small enough for the loop -/
def Sb : D → Prop
  | .tup [_, .int b] => b.natAbs < 2 ^ 9000
  | _ => True
theorem c_whole (n : Nat) (a : Slot) (M : List Cell) : RN (n+1) (Str.ofString "_law_whole") [a] M = ofBody (evSs (CN n) bl_whole ⟨[a], M⟩) := rfl
theorem s_whole (n : Nat) (M : List Cell) (d : D) (h : Wd M d) : RN (n+1) (Str.ofString "_law_whole") [.val d] M = .ok (.val (.bl (isI d))) M := by
  rw [c_whole]
  cases d with
  | loc m =>
    simp only [Wd] at h
    obtain ⟨xs, h⟩ := h
    simp [bl_whole, evSs, evS, evX, evXs, evEs, evA, evAg, evT, evTB, evB, evG, evGs, evI, Tgs.len, varD, R.bind, biD, bi1, bi2_gcd, lif, toVal, setName_def, isRo_no, isRo_val, isRo_own, cmpD, truD, negD, binD, intOp, retD, ofBody, callD, call_CN, callkD, slots, Ar.slot, lend, ofCall, subD, seq, lis, G.atI, isTys, isTy, eqD, D.eqv, pure60, D.pure, D.deep, List.set, setD, putL, cell, methD, mtD, strI, ofSeq, plcC, plcV, unl, lock, unlock, rngD, forL, Itm.ok, stays, List.all_nil, fit0, fit1, fit2, fit3, fit4, fit5, fit6, fit7, fit8, fit9, fit10, fit11, fit12, fit13, fit14, fit15, fit16, isI, h]
  | _ => simp [bl_whole, evSs, evS, evX, evXs, evEs, evA, evAg, evT, evTB, evB, evG, evGs, evI, Tgs.len, varD, R.bind, biD, bi1, bi2_gcd, lif, toVal, setName_def, isRo_no, isRo_val, isRo_own, cmpD, truD, negD, binD, intOp, retD, ofBody, callD, call_CN, callkD, slots, Ar.slot, lend, ofCall, subD, seq, lis, G.atI, isTys, isTy, eqD, D.eqv, pure60, D.pure, D.deep, List.set, setD, putL, cell, methD, mtD, strI, ofSeq, plcC, plcV, unl, lock, unlock, rngD, forL, Itm.ok, stays, List.all_nil, fit0, fit1, fit2, fit3, fit4, fit5, fit6, fit7, fit8, fit9, fit10, fit11, fit12, fit13, fit14, fit15, fit16, isI]
theorem c_is (n : Nat) (a : Slot) (M : List Cell) : RN (n+1) (Str.ofString "_law_is") [a] M = ofBody (evSs (CN n) bl_is ⟨[a, .no, .no], M⟩) := rfl
theorem s_is (n : Nat) (M : List Cell) (d : D) (h : Wd M d) (hb : Sb d) : RN (n+2) (Str.ofString "_law_is") [.val d] M = .ok (.val (.bl (isQ d))) M := by
  rw [c_is]
  obtain ⟨C, hC, hg⟩ := opq (n+1)
  rw [← hC]
  cases d with
  | tup xs =>
    simp only [Wd] at h
    by_cases hl : xs.length = 2
    · obtain ⟨x, y, rfl⟩ : ∃ x y, xs = [x, y] := by
        match xs, hl with
        | [x, y], _ => exact ⟨x, y, rfl⟩
      have g0 : L2.atI [x, y] 0 = some x := rfl
      have g1 : L2.atI [x, y] 1 = some y := rfl
      simp only [Wds] at h
      have e1 := hg (s_whole n M x h.1)
      have e2 := hg (s_whole n M y h.2.1)
      cases x with
      | int a =>
        cases y with
        | int b =>
          have hb : b.natAbs < 2 ^ 9000 := hb
          simp only [isI] at e1 e2
          by_cases h1 : b < 1
          · have : isQ (.tup [.int a, .int b]) = false := by
              have : ¬ 1 ≤ b := by omega
              simp [isQ, this]
            rw [this]
            simp [bl_is, evSs, evS, evX, evXs, evEs, evA, evAg, evT, evTB, evB, evG, evGs, evI, Tgs.len, varD, R.bind, biD, bi1, bi2_gcd, lif, toVal, setName_def, isRo_no, isRo_val, isRo_own, cmpD, truD, negD, binD, intOp, retD, ofBody, callD, call_CN, callkD, slots, Ar.slot, lend, ofCall, subD, seq, lis, G.atI, isTys, isTy, eqD, D.eqv, pure60, D.pure, D.deep, List.set, setD, putL, cell, methD, mtD, strI, ofSeq, plcC, plcV, unl, lock, unlock, rngD, forL, Itm.ok, stays, List.all_nil, fit0, fit1, fit2, fit3, fit4, fit5, fit6, fit7, fit8, fit9, fit10, fit11, fit12, fit13, fit14, fit15, fit16, e1, e2, g0, g1, h1]
          · obtain ⟨m, rfl⟩ := Int.eq_ofNat_of_zero_le (show 0 ≤ b by omega)
            have hm : 1 ≤ (m : Int) := by omega
            have e := euclid3 (a0 := .val (.tup [.int a, .int (m : Int)])) (T := evT C (.x (.cmp .Gt (.var 2) (.cst (.int 0))))) (B := evSs C l_is_2b) (M := M)
              (fun a b => by
                have : ((0 : Int) < (b : Int)) ↔ 0 < b := by omega
                simp [evSs, evS, evX, evXs, evEs, evA, evAg, evT, evTB, evB, evG, evGs, evI, Tgs.len, varD, R.bind, biD, bi1, bi2_gcd, lif, toVal, setName_def, isRo_no, isRo_val, isRo_own, cmpD, truD, negD, binD, intOp, retD, ofBody, callD, call_CN, callkD, slots, Ar.slot, lend, ofCall, subD, seq, lis, G.atI, isTys, isTy, eqD, D.eqv, pure60, D.pure, D.deep, List.set, setD, putL, cell, methD, mtD, strI, ofSeq, plcC, plcV, unl, lock, unlock, rngD, forL, Itm.ok, stays, List.all_nil, fit0, fit1, fit2, fit3, fit4, fit5, fit6, fit7, fit8, fit9, fit10, fit11, fit12, fit13, fit14, fit15, fit16, this]) (fun a b h => by
                have e : ((a : Int).fmod (b : Int)) = ((a % b : Nat) : Int) := by
                  rw [Int.fmod_eq_emod_of_nonneg _ (by omega)]; rfl
                have e2 : b ≠ 0 := by omega
                simp [evSs, evS, evX, evXs, evEs, evA, evAg, evT, evTB, evB, evG, evGs, evI, Tgs.len, varD, R.bind, biD, bi1, bi2_gcd, lif, toVal, setName_def, isRo_no, isRo_val, isRo_own, cmpD, truD, negD, binD, intOp, retD, ofBody, callD, call_CN, callkD, slots, Ar.slot, lend, ofCall, subD, seq, lis, G.atI, isTys, isTy, eqD, D.eqv, pure60, D.pure, D.deep, List.set, setD, putL, cell, methD, mtD, strI, ofSeq, plcC, plcV, unl, lock, unlock, rngD, forL, Itm.ok, stays, List.all_nil, fit0, fit1, fit2, fit3, fit4, fit5, fit6, fit7, fit8, fit9, fit10, fit11, fit12, fit13, fit14, fit15, fit16, e2, e]) WF a.natAbs m (WF_big (by simpa using hb))
            have ea : (if a < 0 then -a else a) = (a.natAbs : Int) := by split <;> omega
            have i0 : evS C l_is_0 ⟨[.val (.tup [.int a, .int (m : Int)]), .no, .no], M⟩ = .ok .nx ⟨[.val (.tup [.int a, .int (m : Int)]), .no, .no], M⟩ := by
              simp [evSs, evS, evX, evXs, evEs, evA, evAg, evT, evTB, evB, evG, evGs, evI, Tgs.len, varD, R.bind, biD, bi1, bi2_gcd, lif, toVal, setName_def, isRo_no, isRo_val, isRo_own, cmpD, truD, negD, binD, intOp, retD, ofBody, callD, call_CN, callkD, slots, Ar.slot, lend, ofCall, subD, seq, lis, G.atI, isTys, isTy, eqD, D.eqv, pure60, D.pure, D.deep, List.set, setD, putL, cell, methD, mtD, strI, ofSeq, plcC, plcV, unl, lock, unlock, rngD, forL, Itm.ok, stays, List.all_nil, fit0, fit1, fit2, fit3, fit4, fit5, fit6, fit7, fit8, fit9, fit10, fit11, fit12, fit13, fit14, fit15, fit16, e1, e2, g0, g1, h1]
            have i1 : evS C l_is_1 ⟨[.val (.tup [.int a, .int (m : Int)]), .no, .no], M⟩ = .ok .nx ⟨[.val (.tup [.int a, .int (m : Int)]), .val (.int a.natAbs), .val (.int m)], M⟩ := by
              simp [evSs, evS, evX, evXs, evEs, evA, evAg, evT, evTB, evB, evG, evGs, evI, Tgs.len, varD, R.bind, biD, bi1, bi2_gcd, lif, toVal, setName_def, isRo_no, isRo_val, isRo_own, cmpD, truD, negD, binD, intOp, retD, ofBody, callD, call_CN, callkD, slots, Ar.slot, lend, ofCall, subD, seq, lis, G.atI, isTys, isTy, eqD, D.eqv, pure60, D.pure, D.deep, List.set, setD, putL, cell, methD, mtD, strI, ofSeq, plcC, plcV, unl, lock, unlock, rngD, forL, Itm.ok, stays, List.all_nil, fit0, fit1, fit2, fit3, fit4, fit5, fit6, fit7, fit8, fit9, fit10, fit11, fit12, fit13, fit14, fit15, fit16, g0, g1, ea]
            have i2 : evS C l_is_2 ⟨[.val (.tup [.int a, .int (m : Int)]), .val (.int a.natAbs), .val (.int m)], M⟩ = .ok .nx ⟨[.val (.tup [.int a, .int (m : Int)]), .val (.int (Nat.gcd a.natAbs m : Nat)), .val (.int 0)], M⟩ := by
              rw [evS]
              exact e
            have eg : ((Nat.gcd a.natAbs m : Nat) : Int) = gcdI a m := rfl
            rw [eg] at i2
            have q : isQ (.tup [.int a, .int (m : Int)]) = (gcdI a m == 1) := by
              simp only [isQ, hm, decide_true, Bool.true_and]
              by_cases hc : gcdI a m = 1 <;> simp [hc]
            unfold bl_is
            rw [seq_nx i0, seq_nx i1, seq_nx i2, q]
            generalize gcdI a m = z at *
            simp [evSs, evS, evX, evXs, evEs, evA, evAg, evT, evTB, evB, evG, evGs, evI, Tgs.len, varD, R.bind, biD, bi1, bi2_gcd, lif, toVal, setName_def, isRo_no, isRo_val, isRo_own, cmpD, truD, negD, binD, intOp, retD, ofBody, callD, call_CN, callkD, slots, Ar.slot, lend, ofCall, subD, seq, lis, G.atI, isTys, isTy, eqD, D.eqv, pure60, D.pure, D.deep, List.set, setD, putL, cell, methD, mtD, strI, ofSeq, plcC, plcV, unl, lock, unlock, rngD, forL, Itm.ok, stays, List.all_nil, fit0, fit1, fit2, fit3, fit4, fit5, fit6, fit7, fit8, fit9, fit10, fit11, fit12, fit13, fit14, fit15, fit16]
        | loc w => simp [isI] at e2 e1; simp [bl_is, evSs, evS, evX, evXs, evEs, evA, evAg, evT, evTB, evB, evG, evGs, evI, Tgs.len, varD, R.bind, biD, bi1, bi2_gcd, lif, toVal, setName_def, isRo_no, isRo_val, isRo_own, cmpD, truD, negD, binD, intOp, retD, ofBody, callD, call_CN, callkD, slots, Ar.slot, lend, ofCall, subD, seq, lis, G.atI, isTys, isTy, eqD, D.eqv, pure60, D.pure, D.deep, List.set, setD, putL, cell, methD, mtD, strI, ofSeq, plcC, plcV, unl, lock, unlock, rngD, forL, Itm.ok, stays, List.all_nil, fit0, fit1, fit2, fit3, fit4, fit5, fit6, fit7, fit8, fit9, fit10, fit11, fit12, fit13, fit14, fit15, fit16, e1, e2, isQ, g0, g1]
        | _ => simp [isI] at e2 e1; simp [bl_is, evSs, evS, evX, evXs, evEs, evA, evAg, evT, evTB, evB, evG, evGs, evI, Tgs.len, varD, R.bind, biD, bi1, bi2_gcd, lif, toVal, setName_def, isRo_no, isRo_val, isRo_own, cmpD, truD, negD, binD, intOp, retD, ofBody, callD, call_CN, callkD, slots, Ar.slot, lend, ofCall, subD, seq, lis, G.atI, isTys, isTy, eqD, D.eqv, pure60, D.pure, D.deep, List.set, setD, putL, cell, methD, mtD, strI, ofSeq, plcC, plcV, unl, lock, unlock, rngD, forL, Itm.ok, stays, List.all_nil, fit0, fit1, fit2, fit3, fit4, fit5, fit6, fit7, fit8, fit9, fit10, fit11, fit12, fit13, fit14, fit15, fit16, e1, e2, isQ, g0, g1]
      | _ => simp [isI] at e1; simp [bl_is, evSs, evS, evX, evXs, evEs, evA, evAg, evT, evTB, evB, evG, evGs, evI, Tgs.len, varD, R.bind, biD, bi1, bi2_gcd, lif, toVal, setName_def, isRo_no, isRo_val, isRo_own, cmpD, truD, negD, binD, intOp, retD, ofBody, callD, call_CN, callkD, slots, Ar.slot, lend, ofCall, subD, seq, lis, G.atI, isTys, isTy, eqD, D.eqv, pure60, D.pure, D.deep, List.set, setD, putL, cell, methD, mtD, strI, ofSeq, plcC, plcV, unl, lock, unlock, rngD, forL, Itm.ok, stays, List.all_nil, fit0, fit1, fit2, fit3, fit4, fit5, fit6, fit7, fit8, fit9, fit10, fit11, fit12, fit13, fit14, fit15, fit16, e1, isQ, g0, g1]
    · rw [isQ_len hl]
      have hl' : ¬ (xs.length : Int) = 2 := by omega
      have hl2 : ((xs.length : Int) == 2) = false := by rw [beq_eq_false_iff_ne]; exact hl'
      simp [bl_is, evSs, evS, evX, evXs, evEs, evA, evAg, evT, evTB, evB, evG, evGs, evI, Tgs.len, varD, R.bind, biD, bi1, bi2_gcd, lif, toVal, setName_def, isRo_no, isRo_val, isRo_own, cmpD, truD, negD, binD, intOp, retD, ofBody, callD, call_CN, callkD, slots, Ar.slot, lend, ofCall, subD, seq, lis, G.atI, isTys, isTy, eqD, D.eqv, pure60, D.pure, D.deep, List.set, setD, putL, cell, methD, mtD, strI, ofSeq, plcC, plcV, unl, lock, unlock, rngD, forL, Itm.ok, stays, List.all_nil, fit0, fit1, fit2, fit3, fit4, fit5, fit6, fit7, fit8, fit9, fit10, fit11, fit12, fit13, fit14, fit15, fit16, hl', hl2, hl]
  | loc m =>
    simp only [Wd] at h
    obtain ⟨xs, h⟩ := h
    simp [bl_is, evSs, evS, evX, evXs, evEs, evA, evAg, evT, evTB, evB, evG, evGs, evI, Tgs.len, varD, R.bind, biD, bi1, bi2_gcd, lif, toVal, setName_def, isRo_no, isRo_val, isRo_own, cmpD, truD, negD, binD, intOp, retD, ofBody, callD, call_CN, callkD, slots, Ar.slot, lend, ofCall, subD, seq, lis, G.atI, isTys, isTy, eqD, D.eqv, pure60, D.pure, D.deep, List.set, setD, putL, cell, methD, mtD, strI, ofSeq, plcC, plcV, unl, lock, unlock, rngD, forL, Itm.ok, stays, List.all_nil, fit0, fit1, fit2, fit3, fit4, fit5, fit6, fit7, fit8, fit9, fit10, fit11, fit12, fit13, fit14, fit15, fit16, isQ, h]
  | _ => simp [bl_is, evSs, evS, evX, evXs, evEs, evA, evAg, evT, evTB, evB, evG, evGs, evI, Tgs.len, varD, R.bind, biD, bi1, bi2_gcd, lif, toVal, setName_def, isRo_no, isRo_val, isRo_own, cmpD, truD, negD, binD, intOp, retD, ofBody, callD, call_CN, callkD, slots, Ar.slot, lend, ofCall, subD, seq, lis, G.atI, isTys, isTy, eqD, D.eqv, pure60, D.pure, D.deep, List.set, setD, putL, cell, methD, mtD, strI, ofSeq, plcC, plcV, unl, lock, unlock, rngD, forL, Itm.ok, stays, List.all_nil, fit0, fit1, fit2, fit3, fit4, fit5, fit6, fit7, fit8, fit9, fit10, fit11, fit12, fit13, fit14, fit15, fit16, isQ]
end G

/-! ## V4 -/
set_option Elab.async false
set_option linter.all false
set_option maxRecDepth 100000
set_option maxHeartbeats 4000000
namespace G
open PySem
/-! ### a kind's pair -/
def flD (b : Bool) : D := if b then .str (Str.ofString "free") else .str (Str.ofString "told")
def kdD (nm : Str) (z u : Bool) : D := .tup [.str nm, flD z, flD u]
def isP (z u : Bool) : D → Bool
  | .tup [x, y] => isQ x && (isQ y && (match x, y with
    | .tup [.int a, .int b], .tup [.int p, .int q] => decide (1 ≤ p) && ((z || (decide (a = 0) && decide (b = 1))) && (u || (decide (p = 1) && decide (q = 1))))
    | _, _ => false))
  | _ => false
theorem isQ_inv {x : D} (h : isQ x = true) : ∃ a b : Int, x = T2 a b := by
  unfold isQ at h
  split at h
  · exact ⟨_, _, rfl⟩
  · cases h
theorem isP_len {z u : Bool} {xs : List D} (h : ¬ xs.length = 2) : isP z u (.tup xs) = false := by
  match xs, h with
  | [], _ => rfl
  | [_], _ => simp [isP]
  | [_, _], h => exact absurd rfl h
  | _ :: _ :: _ :: _, _ => simp [isP]
theorem isP_Q {z u : Bool} {a b p q : Int} (h1 : isQ (T2 a b) = true) (h2 : isQ (T2 p q) = true) : isP z u (.tup [T2 a b, T2 p q]) = (decide (1 ≤ p) && ((z || (decide (a = 0) && decide (b = 1))) && (u || (decide (p = 1) && decide (q = 1))))) := by
  show (isQ (T2 a b) && (isQ (T2 p q) && _)) = _
  rw [h1, h2]
  rfl
theorem eqv_T2 (a b c d : Int) : eqD (T2 a b) (T2 c d) = some (decide (a = c) && decide (b = d)) := by
  by_cases h1 : a = c <;> by_cases h2 : b = d <;> simp [eqD, pure60, D.pure, D.pures, D.deep, D.deeps, D.eqv, D.eqvs, h1, h2]
theorem c_sign_of (n : Nat) (a : Slot) (M : List Cell) : RN (n+1) (Str.ofString "sign_of") [a] M = ofBody (evSs (CN n) bf_sign_of ⟨[a], M⟩) := rfl
theorem s_sign (n : Nat) (M : List Cell) (p q : Int) : RN (n+1) (Str.ofString "sign_of") [.val (T2 p q)] M = .ok (.val (.int (if 0 < p then 1 else if p < 0 then -1 else 0))) M := by
  rw [c_sign_of]
  by_cases h1 : 0 < p
  · have h2 : ¬ p < 0 := by omega
    simp [bf_sign_of, evSs, evS, evX, evXs, evEs, evA, evAg, evT, evTB, evB, evG, evGs, evI, Tgs.len, varD, R.bind, biD, bi1, bi2_gcd, lif, toVal, setName, cmpD, truD, negD, binD, intOp, retD, ofBody, fits, sizeLine, callD, call_CN, callkD, slots, Ar.slot, lend, ofCall, subD, seq, lis, L2.atI, L2.ixN, G.atI, isTys, isTy, eqD, D.eqv, pure60, D.pure, D.deep, List.set, setD, putL, cell, methD, mtD, strI, ofSeq, plcC, plcV, unl, lock, unlock, rngD, forL, Itm.ok, stays, List.all_nil, h1, h2]
  · by_cases h2 : p < 0
    · simp [bf_sign_of, evSs, evS, evX, evXs, evEs, evA, evAg, evT, evTB, evB, evG, evGs, evI, Tgs.len, varD, R.bind, biD, bi1, bi2_gcd, lif, toVal, setName, cmpD, truD, negD, binD, intOp, retD, ofBody, fits, sizeLine, callD, call_CN, callkD, slots, Ar.slot, lend, ofCall, subD, seq, lis, L2.atI, L2.ixN, G.atI, isTys, isTy, eqD, D.eqv, pure60, D.pure, D.deep, List.set, setD, putL, cell, methD, mtD, strI, ofSeq, plcC, plcV, unl, lock, unlock, rngD, forL, Itm.ok, stays, List.all_nil, h1, h2]
    · simp [bf_sign_of, evSs, evS, evX, evXs, evEs, evA, evAg, evT, evTB, evB, evG, evGs, evI, Tgs.len, varD, R.bind, biD, bi1, bi2_gcd, lif, toVal, setName, cmpD, truD, negD, binD, intOp, retD, ofBody, fits, sizeLine, callD, call_CN, callkD, slots, Ar.slot, lend, ofCall, subD, seq, lis, L2.atI, L2.ixN, G.atI, isTys, isTy, eqD, D.eqv, pure60, D.pure, D.deep, List.set, setD, putL, cell, methD, mtD, strI, ofSeq, plcC, plcV, unl, lock, unlock, rngD, forL, Itm.ok, stays, List.all_nil, h1, h2]
theorem eqD_fl (b : Bool) : eqD (flD b) (.str (Str.ofString "free")) = some b ∧ eqD (flD b) (.str (Str.ofString "told")) = some (!b) := by
  cases b <;> exact ⟨by decide, by decide⟩
theorem c_choice_of (n : Nat) (a b : Slot) (M : List Cell) : RN (n+1) (Str.ofString "is_choice_of") [a, b] M = ofBody (evSs (CN n) bf_is_choice_of ⟨[a, b], M⟩) := rfl
theorem s_isP (n : Nat) (M : List Cell) (nm : Str) (z u : Bool) (d : D) (h : Wd M d) : RN (n+4) (Str.ofString "is_choice_of") [.val (kdD nm z u), .val d] M = .ok (.val (.bl (isP z u d))) M := by
  rw [c_choice_of]
  obtain ⟨C, hC, hg⟩ := opq (n+3)
  rw [← hC]
  have gZ : ∀ s, globD C (Str.ofString "ZERO") s = .ok (.val (T2 0 1)) s := fun s => by rw [hC]; rfl
  have gO : ∀ s, globD C (Str.ofString "ONE") s = .ok (.val (T2 1 1)) s := fun s => by rw [hC]; rfl
  have e1 := hg (s_isTu (n+2) M d 2 h)
  obtain ⟨z1, z2⟩ := eqD_fl z
  obtain ⟨u1, u2⟩ := eqD_fl u
  have k0 : L2.atI [D.str nm, flD z, flD u] 1 = some (flD z) := rfl
  have k1 : L2.atI [D.str nm, flD z, flD u] 2 = some (flD u) := rfl
  unfold kdD
  cases d with
  | tup xs =>
    simp only [Wd] at h
    by_cases hl : xs.length = 2
    · obtain ⟨x, y, rfl⟩ : ∃ x y, xs = [x, y] := by
        match xs, hl with
        | [x, y], _ => exact ⟨x, y, rfl⟩
      have t2 : isTu 2 (.tup [x, y]) = true := rfl
      rw [t2] at e1
      have g0 : L2.atI [x, y] 0 = some x := rfl
      have g1 : L2.atI [x, y] 1 = some y := rfl
      simp only [Wds] at h
      have e2 := hg (s_isQ n M x h.1)
      have e3 := hg (s_isQ n M y h.2.1)
      cases hx : isQ x with
      | false =>
        rw [hx] at e2
        have : isP z u (.tup [x, y]) = false := by simp [isP, hx]
        rw [this]
        simp [bf_is_choice_of, evSs, evS, evX, evXs, evEs, evA, evAg, evT, evTB, evB, evG, evGs, evI, Tgs.len, varD, R.bind, biD, bi1, bi2_gcd, lif, toVal, setName_def, isRo_no, isRo_val, isRo_own, cmpD, truD, negD, binD, intOp, retD, ofBody, callD, call_CN, callkD, slots, Ar.slot, lend, ofCall, subD, seq, lis, G.atI, isTys, isTy, D.pure, D.deep, List.set, setD, putL, cell, methD, mtD, strI, ofSeq, plcC, plcV, unl, lock, unlock, rngD, forL, Itm.ok, stays, List.all_nil, fit0, fit1, fit2, fit3, fit4, fit5, fit6, fit7, fit8, fit9, fit10, fit11, fit12, fit13, fit14, fit15, fit16, e1, e2, g0]
      | true =>
        rw [hx] at e2
        cases hy : isQ y with
        | false =>
          rw [hy] at e3
          have : isP z u (.tup [x, y]) = false := by simp [isP, hy]
          rw [this]
          simp [bf_is_choice_of, evSs, evS, evX, evXs, evEs, evA, evAg, evT, evTB, evB, evG, evGs, evI, Tgs.len, varD, R.bind, biD, bi1, bi2_gcd, lif, toVal, setName_def, isRo_no, isRo_val, isRo_own, cmpD, truD, negD, binD, intOp, retD, ofBody, callD, call_CN, callkD, slots, Ar.slot, lend, ofCall, subD, seq, lis, G.atI, isTys, isTy, D.pure, D.deep, List.set, setD, putL, cell, methD, mtD, strI, ofSeq, plcC, plcV, unl, lock, unlock, rngD, forL, Itm.ok, stays, List.all_nil, fit0, fit1, fit2, fit3, fit4, fit5, fit6, fit7, fit8, fit9, fit10, fit11, fit12, fit13, fit14, fit15, fit16, e1, e2, e3, g0, g1]
        | true =>
          rw [hy] at e3
          obtain ⟨a, b, rfl⟩ := isQ_inv hx
          obtain ⟨p, q, rfl⟩ := isQ_inv hy
          rw [isP_Q hx hy]
          have e4 := hg (s_sign (n+2) M p q)
          have f1 := eqv_T2 a b 0 1
          have f2 := eqv_T2 p q 1 1
          generalize T2 a b = X1 at *
          generalize T2 p q = Y1 at *
          generalize flD z = fz at *
          generalize flD u = fu at *
          generalize T2 0 1 = ZZ at *
          generalize T2 1 1 = OO at *
          have i0 : evS C f_is_choice_of_0 ⟨[.val (.tup [.str nm, fz, fu]), .val (.tup [X1, Y1])], M⟩ = .ok .nx ⟨[.val (.tup [.str nm, fz, fu]), .val (.tup [X1, Y1])], M⟩ := by
            simp [evSs, evS, evX, evXs, evEs, evA, evAg, evT, evTB, evB, evG, evGs, evI, Tgs.len, varD, R.bind, biD, bi1, bi2_gcd, lif, toVal, setName_def, isRo_no, isRo_val, isRo_own, cmpD, truD, negD, binD, intOp, retD, ofBody, callD, call_CN, callkD, slots, Ar.slot, lend, ofCall, subD, seq, lis, G.atI, isTys, isTy, D.pure, D.deep, List.set, setD, putL, cell, methD, mtD, strI, ofSeq, plcC, plcV, unl, lock, unlock, rngD, forL, Itm.ok, stays, List.all_nil, fit0, fit1, fit2, fit3, fit4, fit5, fit6, fit7, fit8, fit9, fit10, fit11, fit12, fit13, fit14, fit15, fit16, e1, e2, e3, g0, g1]
          unfold bf_is_choice_of
          rw [seq_nx i0]
          by_cases hp : 1 ≤ p
          · have hs : (if 0 < p then (1 : Int) else if p < 0 then -1 else 0) = 1 := if_pos (by omega)
            rw [hs] at e4
            cases z <;> cases u <;> by_cases ha : a = 0 <;> by_cases hb : b = 1 <;> by_cases hp1 : p = 1 <;> by_cases hq : q = 1 <;> simp [evSs, evS, evX, evXs, evEs, evA, evAg, evT, evTB, evB, evG, evGs, evI, Tgs.len, varD, R.bind, biD, bi1, bi2_gcd, lif, toVal, setName_def, isRo_no, isRo_val, isRo_own, cmpD, truD, negD, binD, intOp, retD, ofBody, callD, call_CN, callkD, slots, Ar.slot, lend, ofCall, subD, seq, lis, G.atI, isTys, isTy, D.pure, D.deep, List.set, setD, putL, cell, methD, mtD, strI, ofSeq, plcC, plcV, unl, lock, unlock, rngD, forL, Itm.ok, stays, List.all_nil, fit0, fit1, fit2, fit3, fit4, fit5, fit6, fit7, fit8, fit9, fit10, fit11, fit12, fit13, fit14, fit15, fit16, e4, g0, g1, k0, k1, z1, z2, u1, u2, gZ, gO, f1, f2, hp, ha, hb, hp1, hq]
          · have hs : (if 0 < p then (1 : Int) else if p < 0 then -1 else 0) < 1 := by
              rw [if_neg (by omega)]
              split <;> omega
            generalize (if 0 < p then (1 : Int) else if p < 0 then -1 else 0) = sg at *
            simp [evSs, evS, evX, evXs, evEs, evA, evAg, evT, evTB, evB, evG, evGs, evI, Tgs.len, varD, R.bind, biD, bi1, bi2_gcd, lif, toVal, setName_def, isRo_no, isRo_val, isRo_own, cmpD, truD, negD, binD, intOp, retD, ofBody, callD, call_CN, callkD, slots, Ar.slot, lend, ofCall, subD, seq, lis, G.atI, isTys, isTy, D.pure, D.deep, List.set, setD, putL, cell, methD, mtD, strI, ofSeq, plcC, plcV, unl, lock, unlock, rngD, forL, Itm.ok, stays, List.all_nil, fit0, fit1, fit2, fit3, fit4, fit5, fit6, fit7, fit8, fit9, fit10, fit11, fit12, fit13, fit14, fit15, fit16, e4, g1, hs, hp]
    · have t2 : isTu 2 (.tup xs) = false := by
        unfold isTu
        rw [beq_eq_false_iff_ne]
        omega
      rw [t2] at e1
      rw [isP_len hl]
      simp [bf_is_choice_of, evSs, evS, evX, evXs, evEs, evA, evAg, evT, evTB, evB, evG, evGs, evI, Tgs.len, varD, R.bind, biD, bi1, bi2_gcd, lif, toVal, setName_def, isRo_no, isRo_val, isRo_own, cmpD, truD, negD, binD, intOp, retD, ofBody, callD, call_CN, callkD, slots, Ar.slot, lend, ofCall, subD, seq, lis, G.atI, isTys, isTy, D.pure, D.deep, List.set, setD, putL, cell, methD, mtD, strI, ofSeq, plcC, plcV, unl, lock, unlock, rngD, forL, Itm.ok, stays, List.all_nil, fit0, fit1, fit2, fit3, fit4, fit5, fit6, fit7, fit8, fit9, fit10, fit11, fit12, fit13, fit14, fit15, fit16, e1]
  | _ => simp [isTu] at e1; simp [bf_is_choice_of, evSs, evS, evX, evXs, evEs, evA, evAg, evT, evTB, evB, evG, evGs, evI, Tgs.len, varD, R.bind, biD, bi1, bi2_gcd, lif, toVal, setName_def, isRo_no, isRo_val, isRo_own, cmpD, truD, negD, binD, intOp, retD, ofBody, callD, call_CN, callkD, slots, Ar.slot, lend, ofCall, subD, seq, lis, G.atI, isTys, isTy, D.pure, D.deep, List.set, setD, putL, cell, methD, mtD, strI, ofSeq, plcC, plcV, unl, lock, unlock, rngD, forL, Itm.ok, stays, List.all_nil, fit0, fit1, fit2, fit3, fit4, fit5, fit6, fit7, fit8, fit9, fit10, fit11, fit12, fit13, fit14, fit15, fit16, e1, isP]
end G

/-! ## V5 -/
set_option Elab.async false
set_option linter.all false
set_option maxRecDepth 100000
set_option maxHeartbeats 4000000
namespace G
open PySem
/-! ### the law's own look at a pair -/
/-- small enough parts -/
def Sbs : D → Prop
  | .tup xs => ∀ x ∈ xs, Sb x
  | _ => True
theorem c_pair (n : Nat) (a b : Slot) (M : List Cell) : RN (n+1) (Str.ofString "_law_pair") [a, b] M = ofBody (evSs (CN n) bl_pair ⟨[a, b], M⟩) := rfl
theorem s_pair (n : Nat) (M : List Cell) (nm : Str) (z u : Bool) (d : D) (h : Wd M d) (hs : Sbs d) : RN (n+3) (Str.ofString "_law_pair") [.val d, .val (kdD nm z u)] M = .ok (.val (.bl (isP z u d))) M := by
  rw [c_pair]
  obtain ⟨C, hC, hg⟩ := opq (n+2)
  rw [← hC]
  obtain ⟨z1, z2⟩ := eqD_fl z
  obtain ⟨u1, u2⟩ := eqD_fl u
  have k0 : L2.atI [D.str nm, flD z, flD u] 1 = some (flD z) := rfl
  have k1 : L2.atI [D.str nm, flD z, flD u] 2 = some (flD u) := rfl
  unfold kdD
  cases d with
  | tup xs =>
    simp only [Wd] at h
    by_cases hl : xs.length = 2
    · obtain ⟨x, y, rfl⟩ : ∃ x y, xs = [x, y] := by
        match xs, hl with
        | [x, y], _ => exact ⟨x, y, rfl⟩
      have g0 : L2.atI [x, y] 0 = some x := rfl
      have g1 : L2.atI [x, y] 1 = some y := rfl
      simp only [Wds] at h
      have e22 : eqD (.int 2) (.int 2) = some true := by decide
      have e2 := hg (s_is n M x h.1 (hs x (by simp)))
      have e3 := hg (s_is n M y h.2.1 (hs y (by simp)))
      cases hx : isQ x with
      | false =>
        rw [hx] at e2
        have : isP z u (.tup [x, y]) = false := by simp [isP, hx]
        rw [this]
        simp [bl_pair, evSs, evS, evX, evXs, evEs, evA, evAg, evT, evTB, evB, evG, evGs, evI, Tgs.len, varD, R.bind, biD, bi1, bi2_gcd, lif, toVal, setName_def, isRo_no, isRo_val, isRo_own, cmpD, truD, negD, binD, intOp, retD, ofBody, callD, call_CN, callkD, slots, Ar.slot, lend, ofCall, subD, seq, lis, G.atI, isTys, isTy, D.pure, D.deep, List.set, setD, putL, cell, methD, mtD, strI, ofSeq, plcC, plcV, unl, lock, unlock, rngD, forL, Itm.ok, stays, List.all_nil, fit0, fit1, fit2, fit3, fit4, fit5, fit6, fit7, fit8, fit9, fit10, fit11, fit12, fit13, fit14, fit15, fit16, e22, e2, g0]
      | true =>
        rw [hx] at e2
        cases hy : isQ y with
        | false =>
          rw [hy] at e3
          have : isP z u (.tup [x, y]) = false := by simp [isP, hy]
          rw [this]
          simp [bl_pair, evSs, evS, evX, evXs, evEs, evA, evAg, evT, evTB, evB, evG, evGs, evI, Tgs.len, varD, R.bind, biD, bi1, bi2_gcd, lif, toVal, setName_def, isRo_no, isRo_val, isRo_own, cmpD, truD, negD, binD, intOp, retD, ofBody, callD, call_CN, callkD, slots, Ar.slot, lend, ofCall, subD, seq, lis, G.atI, isTys, isTy, D.pure, D.deep, List.set, setD, putL, cell, methD, mtD, strI, ofSeq, plcC, plcV, unl, lock, unlock, rngD, forL, Itm.ok, stays, List.all_nil, fit0, fit1, fit2, fit3, fit4, fit5, fit6, fit7, fit8, fit9, fit10, fit11, fit12, fit13, fit14, fit15, fit16, e22, e2, e3, g0, g1]
        | true =>
          rw [hy] at e3
          obtain ⟨a, b, rfl⟩ := isQ_inv hx
          obtain ⟨p, q, rfl⟩ := isQ_inv hy
          rw [isP_Q hx hy]
          have f1 := eqv_T2 a b 0 1
          have f2 := eqv_T2 p q 1 1
          have g2 : L2.atI [D.int p, D.int q] 0 = some (.int p) := rfl
          have i0 : evS C l_pair_0 ⟨[.val (.tup [T2 a b, T2 p q]), .val (.tup [.str nm, flD z, flD u])], M⟩ = if 1 ≤ p then .ok .nx ⟨[.val (.tup [T2 a b, T2 p q]), .val (.tup [.str nm, flD z, flD u])], M⟩ else .ok (.rt (.val (.bl false))) ⟨[.val (.tup [T2 a b, T2 p q]), .val (.tup [.str nm, flD z, flD u])], M⟩ := by
            generalize T2 a b = X1 at *
            by_cases hp : 1 ≤ p
            · have hp' : ¬ p < 1 := by omega
              simp [evSs, evS, evX, evXs, evEs, evA, evAg, evT, evTB, evB, evG, evGs, evI, Tgs.len, varD, R.bind, biD, bi1, bi2_gcd, lif, toVal, setName_def, isRo_no, isRo_val, isRo_own, cmpD, truD, negD, binD, intOp, retD, ofBody, callD, call_CN, callkD, slots, Ar.slot, lend, ofCall, subD, seq, lis, G.atI, isTys, isTy, D.pure, D.deep, List.set, setD, putL, cell, methD, mtD, strI, ofSeq, plcC, plcV, unl, lock, unlock, rngD, forL, Itm.ok, stays, List.all_nil, fit0, fit1, fit2, fit3, fit4, fit5, fit6, fit7, fit8, fit9, fit10, fit11, fit12, fit13, fit14, fit15, fit16, e22, e2, e3, g0, g1, g2, hp, hp']
            · have hp' : p < 1 := by omega
              simp [evSs, evS, evX, evXs, evEs, evA, evAg, evT, evTB, evB, evG, evGs, evI, Tgs.len, varD, R.bind, biD, bi1, bi2_gcd, lif, toVal, setName_def, isRo_no, isRo_val, isRo_own, cmpD, truD, negD, binD, intOp, retD, ofBody, callD, call_CN, callkD, slots, Ar.slot, lend, ofCall, subD, seq, lis, G.atI, isTys, isTy, D.pure, D.deep, List.set, setD, putL, cell, methD, mtD, strI, ofSeq, plcC, plcV, unl, lock, unlock, rngD, forL, Itm.ok, stays, List.all_nil, fit0, fit1, fit2, fit3, fit4, fit5, fit6, fit7, fit8, fit9, fit10, fit11, fit12, fit13, fit14, fit15, fit16, e22, e2, e3, g0, g1, g2, hp, hp']
          generalize T2 a b = X1 at *
          generalize T2 p q = Y1 at *
          generalize flD z = fz at *
          generalize flD u = fu at *
          unfold bl_pair
          by_cases hp : 1 ≤ p
          · rw [if_pos hp] at i0
            rw [seq_nx i0]
            cases z <;> cases u <;> by_cases ha : a = 0 <;> by_cases hb : b = 1 <;> by_cases hp1 : p = 1 <;> by_cases hq : q = 1 <;> simp [evSs, evS, evX, evXs, evEs, evA, evAg, evT, evTB, evB, evG, evGs, evI, Tgs.len, varD, R.bind, biD, bi1, bi2_gcd, lif, toVal, setName_def, isRo_no, isRo_val, isRo_own, cmpD, truD, negD, binD, intOp, retD, ofBody, callD, call_CN, callkD, slots, Ar.slot, lend, ofCall, subD, seq, lis, G.atI, isTys, isTy, D.pure, D.deep, List.set, setD, putL, cell, methD, mtD, strI, ofSeq, plcC, plcV, unl, lock, unlock, rngD, forL, Itm.ok, stays, List.all_nil, fit0, fit1, fit2, fit3, fit4, fit5, fit6, fit7, fit8, fit9, fit10, fit11, fit12, fit13, fit14, fit15, fit16, g0, g1, k0, k1, z1, z2, u1, u2, f1, f2, hp, ha, hb, hp1, hq]
          · rw [if_neg hp] at i0
            rw [seq_rt i0]
            simp [hp, ofBody]
    · rw [isP_len hl]
      have hl2 : ((xs.length : Int) == 2) = false := by rw [beq_eq_false_iff_ne]; omega
      simp [bl_pair, evSs, evS, evX, evXs, evEs, evA, evAg, evT, evTB, evB, evG, evGs, evI, Tgs.len, varD, R.bind, biD, bi1, bi2_gcd, lif, toVal, setName_def, isRo_no, isRo_val, isRo_own, cmpD, truD, negD, binD, intOp, retD, ofBody, callD, call_CN, callkD, slots, Ar.slot, lend, ofCall, subD, seq, lis, G.atI, isTys, isTy, eqD, D.eqv, pure60, D.pure, D.deep, List.set, setD, putL, cell, methD, mtD, strI, ofSeq, plcC, plcV, unl, lock, unlock, rngD, forL, Itm.ok, stays, List.all_nil, fit0, fit1, fit2, fit3, fit4, fit5, fit6, fit7, fit8, fit9, fit10, fit11, fit12, fit13, fit14, fit15, fit16, hl2, hl]
  | loc m =>
    simp only [Wd] at h
    obtain ⟨xs, h⟩ := h
    simp [bl_pair, evSs, evS, evX, evXs, evEs, evA, evAg, evT, evTB, evB, evG, evGs, evI, Tgs.len, varD, R.bind, biD, bi1, bi2_gcd, lif, toVal, setName_def, isRo_no, isRo_val, isRo_own, cmpD, truD, negD, binD, intOp, retD, ofBody, callD, call_CN, callkD, slots, Ar.slot, lend, ofCall, subD, seq, lis, G.atI, isTys, isTy, eqD, D.eqv, pure60, D.pure, D.deep, List.set, setD, putL, cell, methD, mtD, strI, ofSeq, plcC, plcV, unl, lock, unlock, rngD, forL, Itm.ok, stays, List.all_nil, fit0, fit1, fit2, fit3, fit4, fit5, fit6, fit7, fit8, fit9, fit10, fit11, fit12, fit13, fit14, fit15, fit16, isP, h]
  | _ => simp [bl_pair, evSs, evS, evX, evXs, evEs, evA, evAg, evT, evTB, evB, evG, evGs, evI, Tgs.len, varD, R.bind, biD, bi1, bi2_gcd, lif, toVal, setName_def, isRo_no, isRo_val, isRo_own, cmpD, truD, negD, binD, intOp, retD, ofBody, callD, call_CN, callkD, slots, Ar.slot, lend, ofCall, subD, seq, lis, G.atI, isTys, isTy, eqD, D.eqv, pure60, D.pure, D.deep, List.set, setD, putL, cell, methD, mtD, strI, ofSeq, plcC, plcV, unl, lock, unlock, rngD, forL, Itm.ok, stays, List.all_nil, fit0, fit1, fit2, fit3, fit4, fit5, fit6, fit7, fit8, fit9, fit10, fit11, fit12, fit13, fit14, fit15, fit16, isP]
end G

/-! ## V6 -/
set_option Elab.async false
set_option linter.all false
set_option maxRecDepth 100000
set_option maxHeartbeats 8000000
namespace G
open PySem
/-! ### the first that is wrong: loops that raise or hand back there -/
def fstBad (f : D → Bool) : List D → Option Nat
  | [] => none
  | x :: xs => if f x then (fstBad f xs).map (· + 1) else some 0
/-- how a body ends at a wrong place: Er of the place and the state -/
theorem forL_first {ok : S → Bool} {body : D → S → R Fl} (hok : ∀ s, ok s = true) (good : D → Bool) (P : Nat → S → Prop) (Er : Nat → R Fl → Prop) (hE : ∀ i (r : R Fl), Er i r → (r.bind fun f s1 => match f with
    | .nx => forL ok body [] s1
    | .ct => forL ok body [] s1
    | .bk => .ok .nx s1
    | .rt o => .ok (.rt o) s1) = r) (hE2 : ∀ i f s, Er i (.ok f s) → ∃ o, f = .rt o) : ∀ (xs : List D) (k : Nat),
    (∀ j x s, xs[j]? = some x → P (k + j) s → if good x then ∃ s', body x s = .ok .nx s' ∧ P (k + j + 1) s' else Er (k + j) (body x s)) → ∀ s, P k s →
    match fstBad good xs with
    | none => ∃ s', forL ok body xs s = .ok .nx s' ∧ P (k + xs.length) s'
    | some i => ∃ r, forL ok body xs s = r ∧ Er (k + i) r
  | [], k, _, s, h => ⟨s, by rw [forL, hok]; rfl, h⟩
  | x :: xs, k, hs, s, h => by
    have h0 := hs 0 x s rfl h
    unfold fstBad
    cases hg : good x with
    | true =>
      rw [hg, if_pos rfl] at h0
      obtain ⟨s1, e1, h1⟩ := h0
      have ih := forL_first hok good P Er hE hE2 xs (k + 1) (fun j y t hy ht => by
        have := hs (j + 1) y t hy (by rw [show k + (j + 1) = k + 1 + j by omega]; exact ht)
        rw [show k + (j + 1) + 1 = k + 1 + j + 1 by omega, show k + (j + 1) = k + 1 + j by omega] at this
        exact this) s1 h1
      have ef : forL ok body (x :: xs) s = forL ok body xs s1 := by rw [forL, hok, e1]; rfl
      rw [if_pos rfl, ef]
      cases hf : fstBad good xs with
      | none =>
        rw [hf] at ih
        obtain ⟨s2, e2, h2⟩ := ih
        exact ⟨s2, e2, by rw [List.length_cons, show k + (xs.length + 1) = k + 1 + xs.length by omega]; exact h2⟩
      | some i =>
        rw [hf] at ih
        obtain ⟨r, e2, h2⟩ := ih
        refine ⟨r, e2, ?_⟩
        show Er (k + (i + 1)) r
        rw [show k + (i + 1) = k + 1 + i by omega]
        exact h2
    | false =>
      rw [hg, if_neg Bool.false_ne_true] at h0
      rw [if_neg Bool.false_ne_true]
      refine ⟨_, rfl, ?_⟩
      have ef : forL ok body (x :: xs) s = body x s := by
        rw [forL, hok, if_pos rfl]
        cases hb : body x s with
        | bad => rfl
        | exc y s1 => rfl
        | ok f s1 =>
          rw [hb] at h0
          obtain ⟨o, rfl⟩ := hE2 _ _ _ h0
          rfl
      rw [ef]
      exact h0
end G

/-! ## V7 -/
set_option Elab.async false
set_option linter.all false
set_option maxRecDepth 100000
set_option maxHeartbeats 8000000
namespace G
open PySem
/-! ### values checked -/
def sndG (f : D → Bool) : D → Bool
  | .tup [_, x] => f x
  | _ => false
theorem fst_pairs (f : D → Bool) : ∀ (xs : List D) (k : Int), fstBad (sndG f) (pairs k xs) = fstBad f xs
  | [], _ => rfl
  | x :: xs, k => by
    rw [pairs, fstBad, fstBad, fst_pairs f xs]
    rfl
theorem prs_len : ∀ (xs : List D) (k : Int), (pairs k xs).length = xs.length
  | [], _ => rfl
  | x :: xs, k => by rw [pairs, List.length_cons, List.length_cons, prs_len xs]
def ckV (f : D → Bool) (m : Nat) : D → Except Int Nat
  | .tup xs => if xs.length = m then (match fstBad f xs with
    | none => .ok m
    | some i => .error i) else .error (-1)
  | _ => .error (-1)
abbrev sBV : Str := Str.ofString "BadValues"
abbrev sAt : Str := Str.ofString "at"
def ckR (r : Except Int Nat) (M : List Cell) : RF := match r with
  | .ok m => .ok (.val (.int m)) M
  | .error i => .exc ⟨sBV, [(sAt, .int i)]⟩ M
theorem c_check_values (n : Nat) (a b : Slot) (M : List Cell) : RN (n+1) (Str.ofString "check_values") [a, b] M = ofBody (evSs (CN n) bf_check_values ⟨[a, b, .no, .no], M⟩) := rfl
theorem s_check_values (n : Nat) (M : List Cell) (KS : D) (RS : List D) (d : D) (h : Wd M d) (hl : RS.length < 1000) : RN (n+4) (Str.ofString "check_values") [.val (.tup [KS, .tup RS]), .val d] M = ckR (ckV isQ RS.length d) M := by
  rw [c_check_values]
  obtain ⟨C, hC, hg⟩ := opq (n+3)
  rw [← hC]
  have e1 := hg (s_isTu (n+2) M d RS.length h)
  have g1 : L2.atI [KS, .tup RS] 1 = some (.tup RS) := rfl
  cases ht : isTu RS.length d with
  | false =>
    rw [ht] at e1
    have : ckV isQ RS.length d = .error (-1) := by
      unfold ckV
      cases d with
      | tup xs =>
        simp only
        rw [if_neg]
        intro e
        unfold isTu at ht
        rw [beq_eq_false_iff_ne] at ht
        omega
      | _ => rfl
    rw [this]
    simp [bf_check_values, evSs, evS, evX, evXs, evEs, evA, evAg, evT, evTB, evB, evG, evGs, evI, Tgs.len, varD, R.bind, biD, bi1, bi2_gcd, lif, toVal, setName_def, isRo_no, isRo_val, isRo_own, cmpD, truD, negD, binD, intOp, retD, ofBody, callD, call_CN, callkD, slots, Ar.slot, lend, ofCall, subD, seq, lis, G.atI, isTys, isTy, eqD, D.eqv, pure60, D.pure, D.deep, List.set, setD, putL, cell, methD, mtD, strI, ofSeq, plcC, plcV, unl, lock, unlock, rngD, forL, Itm.ok, stays, List.all_nil, fit0, fit1, fit2, fit3, fit4, fit5, fit6, fit7, fit8, fit9, fit10, fit11, fit12, fit13, fit14, fit15, fit16, g1, e1, ckR]
  | true =>
    rw [ht] at e1
    obtain ⟨xs, rfl, hx⟩ : ∃ xs, d = .tup xs ∧ xs.length = RS.length := by
      unfold isTu at ht
      split at ht
      · rename_i xs
        rw [beq_iff_eq] at ht
        exact ⟨xs, rfl, by omega⟩
      · cases ht
    simp only [Wd] at h
    have i0 : evS C f_check_values_0 ⟨[.val (.tup [KS, .tup RS]), .val (.tup xs), .no, .no], M⟩ = .ok .nx ⟨[.val (.tup [KS, .tup RS]), .val (.tup xs), .no, .no], M⟩ := by
      simp [evSs, evS, evX, evXs, evEs, evA, evAg, evT, evTB, evB, evG, evGs, evI, Tgs.len, varD, R.bind, biD, bi1, bi2_gcd, lif, toVal, setName_def, isRo_no, isRo_val, isRo_own, cmpD, truD, negD, binD, intOp, retD, ofBody, callD, call_CN, callkD, slots, Ar.slot, lend, ofCall, subD, seq, lis, G.atI, isTys, isTy, eqD, D.eqv, pure60, D.pure, D.deep, List.set, setD, putL, cell, methD, mtD, strI, ofSeq, plcC, plcV, unl, lock, unlock, rngD, forL, Itm.ok, stays, List.all_nil, fit0, fit1, fit2, fit3, fit4, fit5, fit6, fit7, fit8, fit9, fit10, fit11, fit12, fit13, fit14, fit15, fit16, g1, e1]
    have hi : evI C (.enum (.var 1)) ⟨[.val (.tup [KS, .tup RS]), .val (.tup xs), .no, .no], M⟩ = .ok ⟨pairs 0 xs, [], []⟩ ⟨[.val (.tup [KS, .tup RS]), .val (.tup xs), .no, .no], M⟩ := by
      simp [evSs, evS, evX, evXs, evEs, evA, evAg, evT, evTB, evB, evG, evGs, evI, Tgs.len, varD, R.bind, biD, bi1, bi2_gcd, lif, toVal, setName_def, isRo_no, isRo_val, isRo_own, cmpD, truD, negD, binD, intOp, retD, ofBody, callD, call_CN, callkD, slots, Ar.slot, lend, ofCall, subD, seq, lis, G.atI, isTys, isTy, eqD, D.eqv, pure60, D.pure, D.deep, List.set, setD, putL, cell, methD, mtD, strI, ofSeq, plcC, plcV, unl, lock, unlock, rngD, forL, Itm.ok, stays, List.all_nil, fit0, fit1, fit2, fit3, fit4, fit5, fit6, fit7, fit8, fit9, fit10, fit11, fit12, fit13, fit14, fit15, fit16]
    have key := forL_first (ok := Itm.ok ⟨pairs 0 xs, [], []⟩) (body := fun x s2 => (evG C (.tup (.cons (.name 2) (.cons (.name 3) (.nil)))) x s2).bind fun _ s3 => evSs C f_check_values_1b s3) (fun _ => rfl) (sndG isQ)
      (fun _ s => ∃ a b : Slot, isRo a = false ∧ isRo b = false ∧ s = ⟨[.val (.tup [KS, .tup RS]), .val (.tup xs), a, b], M⟩)
      (fun i r => ∃ s, r = .exc ⟨sBV, [(sAt, .int i)]⟩ s ∧ s.M = M) (fun i r ⟨s, e, _⟩ => by rw [e]; rfl) (fun i f s ⟨s', e, _⟩ => by cases e) (pairs 0 xs) 0
      (by
        rintro j x s hj ⟨a, b, na, nb, rfl⟩
        obtain ⟨y, hy, rfl⟩ := en_get hj
        have e2 := hg (s_isQ n M y (wds_get h hy))
        simp only [sndG, Nat.zero_add, Int.zero_add]
        cases hq : isQ y with
        | true =>
          rw [hq] at e2
          rw [if_pos rfl]
          refine ⟨⟨[.val (.tup [KS, .tup RS]), .val (.tup xs), .val (.int j), .val y], M⟩, ?_, _, _, rfl, rfl, rfl⟩
          simp [evSs, evS, evX, evXs, evEs, evA, evAg, evT, evTB, evB, evG, evGs, evI, Tgs.len, varD, R.bind, biD, bi1, bi2_gcd, lif, toVal, setName_def, isRo_no, isRo_val, isRo_own, cmpD, truD, negD, binD, intOp, retD, ofBody, callD, call_CN, callkD, slots, Ar.slot, lend, ofCall, subD, seq, lis, G.atI, isTys, isTy, eqD, D.eqv, pure60, D.pure, D.deep, List.set, setD, putL, cell, methD, mtD, strI, ofSeq, plcC, plcV, unl, lock, unlock, rngD, forL, Itm.ok, stays, List.all_nil, fit0, fit1, fit2, fit3, fit4, fit5, fit6, fit7, fit8, fit9, fit10, fit11, fit12, fit13, fit14, fit15, fit16, na, nb, e2]
        | false =>
          rw [hq] at e2
          rw [if_neg Bool.false_ne_true]
          refine ⟨⟨[.val (.tup [KS, .tup RS]), .val (.tup xs), .val (.int j), .val y], M⟩, ?_, rfl⟩
          simp [evSs, evS, evX, evXs, evEs, evA, evAg, evT, evTB, evB, evG, evGs, evI, Tgs.len, varD, R.bind, biD, bi1, bi2_gcd, lif, toVal, setName_def, isRo_no, isRo_val, isRo_own, cmpD, truD, negD, binD, intOp, retD, ofBody, callD, call_CN, callkD, slots, Ar.slot, lend, ofCall, subD, seq, lis, G.atI, isTys, isTy, eqD, D.eqv, pure60, D.pure, D.deep, List.set, setD, putL, cell, methD, mtD, strI, ofSeq, plcC, plcV, unl, lock, unlock, rngD, forL, Itm.ok, stays, List.all_nil, fit0, fit1, fit2, fit3, fit4, fit5, fit6, fit7, fit8, fit9, fit10, fit11, fit12, fit13, fit14, fit15, fit16, na, nb, e2])
      ⟨[.val (.tup [KS, .tup RS]), .val (.tup xs), .no, .no], M⟩ ⟨_, _, rfl, rfl, rfl⟩
    rw [fst_pairs] at key
    have ck : ckV isQ RS.length (.tup xs) = (match fstBad isQ xs with
      | none => .ok RS.length
      | some i => .error (i : Int)) := by
      show (if xs.length = RS.length then _ else _) = _
      rw [if_pos hx]
    rw [ck]
    unfold bf_check_values
    rw [seq_nx i0]
    cases hf : fstBad isQ xs with
    | none =>
      rw [hf] at key
      obtain ⟨s', e, a, b, na, nb, rfl⟩ := key
      have i1 : evS C f_check_values_1 ⟨[.val (.tup [KS, .tup RS]), .val (.tup xs), .no, .no], M⟩ = .ok .nx ⟨[.val (.tup [KS, .tup RS]), .val (.tup xs), a, b], M⟩ := by
        show evS C (.fors _ _ _) _ = _
        rw [evS, hi]
        exact (congrArg (unl []) e).trans rfl
      rw [seq_nx i1]
      simp [evSs, evS, evX, evXs, evEs, evA, evAg, evT, evTB, evB, evG, evGs, evI, Tgs.len, varD, R.bind, biD, bi1, bi2_gcd, lif, toVal, setName_def, isRo_no, isRo_val, isRo_own, cmpD, truD, negD, binD, intOp, retD, ofBody, callD, call_CN, callkD, slots, Ar.slot, lend, ofCall, subD, seq, lis, G.atI, isTys, isTy, eqD, D.eqv, pure60, D.pure, D.deep, List.set, setD, putL, cell, methD, mtD, strI, ofSeq, plcC, plcV, unl, lock, unlock, rngD, forL, Itm.ok, stays, List.all_nil, fit0, fit1, fit2, fit3, fit4, fit5, fit6, fit7, fit8, fit9, fit10, fit11, fit12, fit13, fit14, fit15, fit16, ckR, hx]
    | some i =>
      rw [hf] at key
      obtain ⟨r, e, s', er, eM⟩ := key
      subst er
      rw [Nat.zero_add] at e
      have i1 : evS C f_check_values_1 ⟨[.val (.tup [KS, .tup RS]), .val (.tup xs), .no, .no], M⟩ = .exc ⟨sBV, [(sAt, .int i)]⟩ s' := by
        show evS C (.fors _ _ _) _ = _
        rw [evS, hi]
        exact (congrArg (unl []) e).trans rfl
      rw [evSs, i1]
      show RF.exc _ s'.M = _
      rw [eM]
      rfl
end G

/-! ## V8 -/
set_option Elab.async false
set_option linter.all false
set_option maxRecDepth 100000
set_option maxHeartbeats 8000000
namespace G
open PySem
/-! ### choices checked -/
structure Kd where
  nm : Str
  z : Bool
  u : Bool
def kD (k : Kd) : D := kdD k.nm k.z k.u
/-- the first place that is wrong, of things beside kinds -/
def fstP : List Kd → List D → Option Nat
  | k :: ks, x :: xs => if isP k.z k.u x then (fstP ks xs).map (· + 1) else some 0
  | _, _ => none
def ckC (ks : List Kd) : D → Except Int Nat
  | .tup xs => if xs.length = ks.length then (match fstP ks xs with
    | none => .ok ks.length
    | some i => .error i) else .error (-1)
  | _ => .error (-1)
/-- good: of a kind's number and itself -/
def gdC (ks : List Kd) (xs : List D) : D → Bool
  | .tup [.int i, _] => (match ks[i.toNat]?, xs[i.toNat]? with
    | some k, some x => isP k.z k.u x
    | _, _ => false)
  | _ => false
theorem fst_kinds : ∀ (ks2 : List Kd) (xs2 : List D) (ks1 : List Kd) (xs1 : List D), ks1.length = xs1.length → ks2.length = xs2.length →
    fstBad (gdC (ks1 ++ ks2) (xs1 ++ xs2)) (pairs (ks1.length : Int) (ks2.map kD)) = fstP ks2 xs2
  | [], [], _, _, _, _ => rfl
  | [], _ :: _, _, _, _, h => by cases h
  | _ :: _, [], _, _, _, h => by cases h
  | k :: ks, x :: xs, ks1, xs1, h1, h2 => by
    have ih := fst_kinds ks xs (ks1 ++ [k]) (xs1 ++ [x]) (by simp [h1]) (by simpa using h2)
    rw [List.append_assoc, List.append_assoc, List.length_append] at ih
    have e1 : (ks1 ++ k :: ks)[ks1.length]? = some k := by simp
    have e2 : (xs1 ++ x :: xs)[ks1.length]? = some x := by rw [h1]; simp
    rw [List.map_cons, pairs, fstBad, fstP]
    have e3 : gdC (ks1 ++ k :: ks) (xs1 ++ x :: xs) (.tup [.int (ks1.length : Int), kD k]) = isP k.z k.u x := by
      unfold gdC
      simp only [Int.toNat_natCast, e1, e2]
    rw [e3]
    have e4 : ((ks1.length : Int) + 1) = ((ks1.length + [k].length : Nat) : Int) := by simp
    rw [e4]
    simp only [List.singleton_append] at ih
    rw [ih]
end G

/-! ## V9 -/
set_option Elab.async false
set_option linter.all false
set_option maxRecDepth 100000
set_option maxHeartbeats 8000000
namespace G
open PySem
theorem get_map {α β : Type} {f : α → β} {xs : List α} {j : Nat} {y : β} (h : (xs.map f)[j]? = some y) : ∃ x, xs[j]? = some x ∧ y = f x := by
  rw [List.getElem?_map] at h
  obtain ⟨x, e, rfl⟩ := Option.map_eq_some_iff.mp h
  exact ⟨x, e, rfl⟩
theorem prs_get {xs : List D} {k : Int} {i : Nat} {d : D} (h : (pairs k xs)[i]? = some d) : ∃ x, xs[i]? = some x ∧ d = .tup [.int (k + (i : Int)), x] := en_get h
theorem c_check_choice (n : Nat) (a b : Slot) (M : List Cell) : RN (n+1) (Str.ofString "check_choice") [a, b] M = ofBody (evSs (CN n) bf_check_choice ⟨[a, b, .no, .no], M⟩) := rfl
theorem s_check_choice (n : Nat) (M : List Cell) (ks : List Kd) (RD : D) (d : D) (h : Wd M d) (hl : ks.length < 1000) : RN (n+5) (Str.ofString "check_choice") [.val (.tup [.tup (ks.map kD), RD]), .val d] M = ckR (ckC ks d) M := by
  rw [c_check_choice]
  obtain ⟨C, hC, hg⟩ := opq (n+4)
  rw [← hC]
  have hlm : (ks.map kD).length = ks.length := List.length_map _
  have e1 := hg (s_isTu (n+3) M d ks.length h)
  have g1 : L2.atI [.tup (ks.map kD), RD] 0 = some (.tup (ks.map kD)) := rfl
  cases ht : isTu ks.length d with
  | false =>
    rw [ht] at e1
    have : ckC ks d = .error (-1) := by
      unfold ckC
      cases d with
      | tup xs =>
        simp only
        rw [if_neg]
        intro e
        unfold isTu at ht
        rw [beq_eq_false_iff_ne] at ht
        omega
      | _ => rfl
    rw [this]
    generalize ks.map kD = KD at *
    simp [bf_check_choice, evSs, evS, evX, evXs, evEs, evA, evAg, evT, evTB, evB, evG, evGs, evI, Tgs.len, varD, R.bind, biD, bi1, bi2_gcd, lif, toVal, setName_def, isRo_no, isRo_val, isRo_own, cmpD, truD, negD, binD, intOp, retD, ofBody, callD, call_CN, callkD, slots, Ar.slot, lend, ofCall, subD, seq, lis, G.atI, isTys, isTy, eqD, D.eqv, pure60, D.pure, D.deep, List.set, setD, putL, cell, methD, mtD, strI, ofSeq, plcC, plcV, unl, lock, unlock, rngD, forL, Itm.ok, stays, List.all_nil, fit0, fit1, fit2, fit3, fit4, fit5, fit6, fit7, fit8, fit9, fit10, fit11, fit12, fit13, fit14, fit15, fit16, g1, hlm, e1, ckR]
  | true =>
    rw [ht] at e1
    obtain ⟨xs, rfl, hx⟩ : ∃ xs, d = .tup xs ∧ xs.length = ks.length := by
      unfold isTu at ht
      split at ht
      · rename_i xs
        rw [beq_iff_eq] at ht
        exact ⟨xs, rfl, by omega⟩
      · cases ht
    simp only [Wd] at h
    have i0 : evS C f_check_choice_0 ⟨[.val (.tup [.tup (ks.map kD), RD]), .val (.tup xs), .no, .no], M⟩ = .ok .nx ⟨[.val (.tup [.tup (ks.map kD), RD]), .val (.tup xs), .no, .no], M⟩ := by
      generalize ks.map kD = KD at *
      simp [evSs, evS, evX, evXs, evEs, evA, evAg, evT, evTB, evB, evG, evGs, evI, Tgs.len, varD, R.bind, biD, bi1, bi2_gcd, lif, toVal, setName_def, isRo_no, isRo_val, isRo_own, cmpD, truD, negD, binD, intOp, retD, ofBody, callD, call_CN, callkD, slots, Ar.slot, lend, ofCall, subD, seq, lis, G.atI, isTys, isTy, eqD, D.eqv, pure60, D.pure, D.deep, List.set, setD, putL, cell, methD, mtD, strI, ofSeq, plcC, plcV, unl, lock, unlock, rngD, forL, Itm.ok, stays, List.all_nil, fit0, fit1, fit2, fit3, fit4, fit5, fit6, fit7, fit8, fit9, fit10, fit11, fit12, fit13, fit14, fit15, fit16, g1, hlm, e1]
    have hi : evI C (.enum (.sub (.var 0) (.cst (.int 0)))) ⟨[.val (.tup [.tup (ks.map kD), RD]), .val (.tup xs), .no, .no], M⟩ = .ok ⟨pairs 0 (ks.map kD), [], []⟩ ⟨[.val (.tup [.tup (ks.map kD), RD]), .val (.tup xs), .no, .no], M⟩ := by
      generalize ks.map kD = KD at *
      simp [evSs, evS, evX, evXs, evEs, evA, evAg, evT, evTB, evB, evG, evGs, evI, Tgs.len, varD, R.bind, biD, bi1, bi2_gcd, lif, toVal, setName_def, isRo_no, isRo_val, isRo_own, cmpD, truD, negD, binD, intOp, retD, ofBody, callD, call_CN, callkD, slots, Ar.slot, lend, ofCall, subD, seq, lis, G.atI, isTys, isTy, eqD, D.eqv, pure60, D.pure, D.deep, List.set, setD, putL, cell, methD, mtD, strI, ofSeq, plcC, plcV, unl, lock, unlock, rngD, forL, Itm.ok, stays, List.all_nil, fit0, fit1, fit2, fit3, fit4, fit5, fit6, fit7, fit8, fit9, fit10, fit11, fit12, fit13, fit14, fit15, fit16, g1]
    have key := forL_first (ok := Itm.ok ⟨pairs 0 (ks.map kD), [], []⟩) (body := fun x s2 => (evG C (.tup (.cons (.name 2) (.cons (.name 3) (.nil)))) x s2).bind fun _ s3 => evSs C f_check_choice_1b s3) (fun _ => rfl) (gdC ks xs)
      (fun _ s => ∃ a b : Slot, isRo a = false ∧ isRo b = false ∧ s = ⟨[.val (.tup [.tup (ks.map kD), RD]), .val (.tup xs), a, b], M⟩)
      (fun i r => ∃ s, r = .exc ⟨sBV, [(sAt, .int i)]⟩ s ∧ s.M = M) (fun i r ⟨s, e, _⟩ => by rw [e]; rfl) (fun i f s ⟨s', e, _⟩ => by cases e) (pairs 0 (ks.map kD)) 0
      (by
        rintro j x s hj ⟨a, b, na, nb, rfl⟩
        obtain ⟨y, hy, rfl⟩ := prs_get hj
        obtain ⟨k, hk, rfl⟩ := get_map hy
        have hjl : j < xs.length := by
          have := (List.getElem?_eq_some_iff.mp hk).1
          omega
        have hxj : xs[j]? = some xs[j] := List.getElem?_eq_getElem hjl
        have hat : L2.atI xs (j : Int) = some xs[j] := atI_nat hxj
        have e2 := hg (s_isP n M k.nm k.z k.u xs[j] (wds_get h hxj))
        have e2 : C.call (Str.ofString "is_choice_of") [.val (kD k), .val xs[j]] M = .ok (.val (.bl (isP k.z k.u xs[j]))) M := e2
        have hgd : gdC ks xs (.tup [.int (0 + (j : Int)), kD k]) = isP k.z k.u xs[j] := by
          unfold gdC
          simp only [Int.zero_add, Int.toNat_natCast, hk, hxj]
        rw [hgd]
        simp only [Nat.zero_add, Int.zero_add]
        generalize kD k = kd at *
        generalize ks.map kD = KD at *
        generalize xs[j] = y at *
        cases hq : isP k.z k.u y with
        | true =>
          rw [hq] at e2
          rw [if_pos rfl]
          refine ⟨⟨[.val (.tup [.tup KD, RD]), .val (.tup xs), .val (.int j), .val kd], M⟩, ?_, _, _, rfl, rfl, rfl⟩
          simp [evSs, evS, evX, evXs, evEs, evA, evAg, evT, evTB, evB, evG, evGs, evI, Tgs.len, varD, R.bind, biD, bi1, bi2_gcd, lif, toVal, setName_def, isRo_no, isRo_val, isRo_own, cmpD, truD, negD, binD, intOp, retD, ofBody, callD, call_CN, callkD, slots, Ar.slot, lend, ofCall, subD, seq, lis, G.atI, isTys, isTy, eqD, D.eqv, pure60, D.pure, D.deep, List.set, setD, putL, cell, methD, mtD, strI, ofSeq, plcC, plcV, unl, lock, unlock, rngD, forL, Itm.ok, stays, List.all_nil, fit0, fit1, fit2, fit3, fit4, fit5, fit6, fit7, fit8, fit9, fit10, fit11, fit12, fit13, fit14, fit15, fit16, na, nb, hat, e2]
        | false =>
          rw [hq] at e2
          rw [if_neg Bool.false_ne_true]
          refine ⟨⟨[.val (.tup [.tup KD, RD]), .val (.tup xs), .val (.int j), .val kd], M⟩, ?_, rfl⟩
          simp [evSs, evS, evX, evXs, evEs, evA, evAg, evT, evTB, evB, evG, evGs, evI, Tgs.len, varD, R.bind, biD, bi1, bi2_gcd, lif, toVal, setName_def, isRo_no, isRo_val, isRo_own, cmpD, truD, negD, binD, intOp, retD, ofBody, callD, call_CN, callkD, slots, Ar.slot, lend, ofCall, subD, seq, lis, G.atI, isTys, isTy, eqD, D.eqv, pure60, D.pure, D.deep, List.set, setD, putL, cell, methD, mtD, strI, ofSeq, plcC, plcV, unl, lock, unlock, rngD, forL, Itm.ok, stays, List.all_nil, fit0, fit1, fit2, fit3, fit4, fit5, fit6, fit7, fit8, fit9, fit10, fit11, fit12, fit13, fit14, fit15, fit16, na, nb, hat, e2])
      ⟨[.val (.tup [.tup (ks.map kD), RD]), .val (.tup xs), .no, .no], M⟩ ⟨_, _, rfl, rfl, rfl⟩
    have hfk := fst_kinds ks xs [] [] rfl hx.symm
    have hfk : fstBad (gdC ks xs) (pairs 0 (ks.map kD)) = fstP ks xs := hfk
    rw [hfk] at key
    have ck : ckC ks (.tup xs) = (match fstP ks xs with
      | none => .ok ks.length
      | some i => .error (i : Int)) := by
      show (if xs.length = ks.length then _ else _) = _
      rw [if_pos hx]
      try (cases fstP ks xs <;> rfl)
    rw [ck]
    unfold bf_check_choice
    rw [seq_nx i0]
    cases hf : fstP ks xs with
    | none =>
      rw [hf] at key
      obtain ⟨s', e, a, b, na, nb, rfl⟩ := key
      have i1 : evS C f_check_choice_1 ⟨[.val (.tup [.tup (ks.map kD), RD]), .val (.tup xs), .no, .no], M⟩ = .ok .nx ⟨[.val (.tup [.tup (ks.map kD), RD]), .val (.tup xs), a, b], M⟩ := by
        show evS C (.fors _ _ _) _ = _
        rw [evS, hi]
        exact (congrArg (unl []) e).trans rfl
      rw [seq_nx i1]
      generalize ks.map kD = KD at *
      simp [evSs, evS, evX, evXs, evEs, evA, evAg, evT, evTB, evB, evG, evGs, evI, Tgs.len, varD, R.bind, biD, bi1, bi2_gcd, lif, toVal, setName_def, isRo_no, isRo_val, isRo_own, cmpD, truD, negD, binD, intOp, retD, ofBody, callD, call_CN, callkD, slots, Ar.slot, lend, ofCall, subD, seq, lis, G.atI, isTys, isTy, eqD, D.eqv, pure60, D.pure, D.deep, List.set, setD, putL, cell, methD, mtD, strI, ofSeq, plcC, plcV, unl, lock, unlock, rngD, forL, Itm.ok, stays, List.all_nil, fit0, fit1, fit2, fit3, fit4, fit5, fit6, fit7, fit8, fit9, fit10, fit11, fit12, fit13, fit14, fit15, fit16, ckR, hx]
    | some i =>
      rw [hf] at key
      obtain ⟨r, e, s', er, eM⟩ := key
      subst er
      rw [Nat.zero_add] at e
      have i1 : evS C f_check_choice_1 ⟨[.val (.tup [.tup (ks.map kD), RD]), .val (.tup xs), .no, .no], M⟩ = .exc ⟨sBV, [(sAt, .int i)]⟩ s' := by
        show evS C (.fors _ _ _) _ = _
        rw [evS, hi]
        exact (congrArg (unl []) e).trans rfl
      rw [evSs, i1]
      show RF.exc _ s'.M = _
      rw [eM]
      rfl
end G

/-! ## V10 -/
set_option Elab.async false
set_option linter.all false
set_option maxRecDepth 100000
set_option maxHeartbeats 8000000
namespace G
open PySem
/-! ### are_values, is_choice -/
def okE : Except Int Nat → Bool
  | .ok _ => true
  | .error _ => false
theorem all_fst (f : D → Bool) : ∀ xs : List D, xs.all f = (fstBad f xs).isNone
  | [] => rfl
  | x :: xs => by
    rw [List.all_cons, fstBad, all_fst f xs]
    cases f x <;> cases fstBad f xs <;> rfl
theorem asBools_f (f : D → Bool) (xs : List D) : asBools (xs.map fun d => D.bl (f d)) = some (xs.map f) := by
  induction xs with
  | nil => rfl
  | cons x xs ih => rw [List.map_cons, asBools, ih]; rfl
theorem isTu_inv {k : Nat} {d : D} (h : isTu (k : Int) d = true) : ∃ xs, d = .tup xs ∧ xs.length = k := by
  unfold isTu at h
  split at h
  · rename_i xs
    rw [beq_iff_eq] at h
    exact ⟨xs, rfl, by omega⟩
  · cases h
theorem ckV_no {f : D → Bool} {k : Nat} {d : D} (h : isTu (k : Int) d = false) : ckV f k d = .error (-1) := by
  unfold ckV
  cases d with
  | tup xs =>
    simp only
    rw [if_neg]
    intro e
    unfold isTu at h
    rw [beq_eq_false_iff_ne] at h
    omega
  | _ => rfl
theorem ckC_no {ks : List Kd} {d : D} (h : isTu (ks.length : Int) d = false) : ckC ks d = .error (-1) := by
  unfold ckC
  cases d with
  | tup xs =>
    simp only
    rw [if_neg]
    intro e
    unfold isTu at h
    rw [beq_eq_false_iff_ne] at h
    omega
  | _ => rfl
theorem ckV_tu {f : D → Bool} {k : Nat} {xs : List D} (h : xs.length = k) : ckV f k (.tup xs) = (match fstBad f xs with
    | none => .ok k
    | some i => .error (i : Int)) := by
  show (if xs.length = k then _ else _) = _
  rw [if_pos h]
  try (cases fstBad f xs <;> rfl)
theorem ckC_tu {ks : List Kd} {xs : List D} (h : xs.length = ks.length) : ckC ks (.tup xs) = (match fstP ks xs with
    | none => .ok ks.length
    | some i => .error (i : Int)) := by
  show (if xs.length = ks.length then _ else _) = _
  rw [if_pos h]
  try (cases fstP ks xs <;> rfl)
theorem c_are_values (n : Nat) (a b : Slot) (M : List Cell) : RN (n+1) (Str.ofString "are_values") [a, b] M = ofBody (evSs (CN n) bf_are_values ⟨[a, b, .no], M⟩) := rfl
theorem s_are_values (n : Nat) (M : List Cell) (KS : D) (RS : List D) (d : D) (h : Wd M d) (hl : RS.length < 1000) : RN (n+4) (Str.ofString "are_values") [.val (.tup [KS, .tup RS]), .val d] M = .ok (.val (.bl (okE (ckV isQ RS.length d)))) M := by
  rw [c_are_values]
  obtain ⟨C, hC, hg⟩ := opq (n+3)
  rw [← hC]
  have e1 := hg (s_isTu (n+2) M d RS.length h)
  have g1 : L2.atI [KS, .tup RS] 1 = some (.tup RS) := rfl
  cases ht : isTu RS.length d with
  | false =>
    rw [ht] at e1
    rw [ckV_no ht]
    simp [bf_are_values, evSs, evS, evX, evXs, evEs, evA, evAg, evT, evTB, evB, evG, evGs, evI, Tgs.len, varD, R.bind, biD, bi1, bi2_gcd, lif, toVal, setName_def, isRo_no, isRo_val, isRo_own, cmpD, truD, negD, binD, intOp, retD, ofBody, callD, call_CN, callkD, slots, Ar.slot, lend, ofCall, subD, seq, lis, G.atI, isTys, isTy, eqD, D.eqv, pure60, D.pure, D.deep, List.set, setD, putL, cell, methD, mtD, strI, ofSeq, plcC, plcV, unl, lock, unlock, rngD, forL, Itm.ok, stays, List.all_nil, fit0, fit1, fit2, fit3, fit4, fit5, fit6, fit7, fit8, fit9, fit10, fit11, fit12, fit13, fit14, fit15, fit16, g1, e1, okE]
  | true =>
    rw [ht] at e1
    obtain ⟨xs, rfl, hx⟩ := isTu_inv ht
    simp only [Wd] at h
    have hi : evI C (.q (.var 1)) ⟨[.val (.tup [KS, .tup RS]), .val (.tup xs), .no], M⟩ = .ok ⟨xs, [], []⟩ ⟨[.val (.tup [KS, .tup RS]), .val (.tup xs), .no], M⟩ := by
      simp [evSs, evS, evX, evXs, evEs, evA, evAg, evT, evTB, evB, evG, evGs, evI, Tgs.len, varD, R.bind, biD, bi1, bi2_gcd, lif, toVal, setName_def, isRo_no, isRo_val, isRo_own, cmpD, truD, negD, binD, intOp, retD, ofBody, callD, call_CN, callkD, slots, Ar.slot, lend, ofCall, subD, seq, lis, G.atI, isTys, isTy, eqD, D.eqv, pure60, D.pure, D.deep, List.set, setD, putL, cell, methD, mtD, strI, ofSeq, plcC, plcV, unl, lock, unlock, rngD, forL, Itm.ok, stays, List.all_nil, fit0, fit1, fit2, fit3, fit4, fit5, fit6, fit7, fit8, fit9, fit10, fit11, fit12, fit13, fit14, fit15, fit16]
    have ec := comp_map f_are_values_C0 rfl (xs.map fun d => D.bl (isQ d)) hi rfl rfl rfl rfl (fits_lt (by dsimp only; omega)) (by simp) (by
      intro j x d hx hd
      have e2 := hg (s_isQ n M x (wds_get h hx))
      obtain ⟨y, hy, rfl⟩ := get_map hd
      rw [hx] at hy
      cases hy
      refine ⟨[.val (.tup [KS, .tup RS]), .val (.tup xs), .val x], ?_, rfl⟩
      simp [turnC, evSs, evS, evX, evXs, evEs, evA, evAg, evT, evTB, evB, evG, evGs, evI, Tgs.len, varD, R.bind, biD, bi1, bi2_gcd, lif, toVal, setName_def, isRo_no, isRo_val, isRo_own, cmpD, truD, negD, binD, intOp, retD, ofBody, callD, call_CN, callkD, slots, Ar.slot, lend, ofCall, subD, seq, lis, G.atI, isTys, isTy, eqD, D.eqv, pure60, D.pure, D.deep, List.set, setD, putL, cell, methD, mtD, strI, ofSeq, plcC, plcV, unl, lock, unlock, rngD, forL, Itm.ok, stays, List.all_nil, fit0, fit1, fit2, fit3, fit4, fit5, fit6, fit7, fit8, fit9, fit10, fit11, fit12, fit13, fit14, fit15, fit16, e2])
    have hb := asBools_f isQ xs
    have ha := all_fst isQ xs
    rw [ckV_tu hx]
    have hk : okE (match fstBad isQ xs with
      | none => .ok RS.length
      | some i => .error (i : Int)) = xs.all isQ := by rw [ha]; cases fstBad isQ xs <;> rfl
    rw [hk]
    have e0 : evX C (.bi .all (.cons (f_are_values_C0) .nil)) ⟨[.val (.tup [KS, .tup RS]), .val (.tup xs), .no], M⟩ = .ok (.val (.bl (xs.all isQ))) ⟨[.val (.tup [KS, .tup RS]), .val (.tup xs), .no], M⟩ := by
      rw [evX, evXs, ec]
      simp [R.bind, evXs, biD, bi1, lis, hb, lif, toVal, List.all_map]
    unfold bf_are_values f_are_values_0
    generalize (.bi .all (.cons (f_are_values_C0) .nil) : Ex) = X at *
    generalize xs.all isQ = av at *
    cases av <;> simp [evSs, evS, evX, evXs, evEs, evA, evAg, evT, evTB, evB, evG, evGs, evI, Tgs.len, varD, R.bind, biD, bi1, bi2_gcd, lif, toVal, setName_def, isRo_no, isRo_val, isRo_own, cmpD, truD, negD, binD, intOp, retD, ofBody, callD, call_CN, callkD, slots, Ar.slot, lend, ofCall, subD, seq, lis, G.atI, isTys, isTy, eqD, D.eqv, pure60, D.pure, D.deep, List.set, setD, putL, cell, methD, mtD, strI, ofSeq, plcC, plcV, unl, lock, unlock, rngD, forL, Itm.ok, stays, List.all_nil, fit0, fit1, fit2, fit3, fit4, fit5, fit6, fit7, fit8, fit9, fit10, fit11, fit12, fit13, fit14, fit15, fit16, g1, e1, e0]
theorem fst_zips : ∀ (ks : List Kd) (xs : List D), ks.length = xs.length → (zips (ks.map kD) xs).length = ks.length
  | [], [], _ => rfl
  | [], _ :: _, h => by cases h
  | _ :: _, [], h => by cases h
  | k :: ks, x :: xs, h => by
    rw [List.map_cons, zips, List.length_cons, List.length_cons, fst_zips ks xs (by simpa using h)]
def goods : List Kd → List D → List Bool
  | k :: ks, x :: xs => isP k.z k.u x :: goods ks xs
  | _, _ => []
theorem goods_len : ∀ (ks : List Kd) (xs : List D), ks.length = xs.length → (goods ks xs).length = ks.length
  | [], [], _ => rfl
  | [], _ :: _, h => by cases h
  | _ :: _, [], h => by cases h
  | k :: ks, x :: xs, h => by
    rw [goods, List.length_cons, List.length_cons, goods_len ks xs (by simpa using h)]
theorem goods_get : ∀ {ks : List Kd} {xs : List D} {j : Nat} {k : Kd} {x : D}, ks[j]? = some k → xs[j]? = some x → (goods ks xs)[j]? = some (isP k.z k.u x)
  | [], _, _, _, _, h, _ => by simp at h
  | _ :: _, [], _, _, _, _, h => by simp at h
  | k :: ks, x :: xs, 0, _, _, h, h2 => by
    simp at h h2
    subst h h2
    rfl
  | k :: ks, x :: xs, j + 1, _, _, h, h2 => goods_get (ks := ks) (xs := xs) (j := j) (by simpa using h) (by simpa using h2)
theorem goods_all : ∀ (ks : List Kd) (xs : List D), ks.length = xs.length → (goods ks xs).all id = (fstP ks xs).isNone
  | [], [], _ => rfl
  | [], _ :: _, h => by cases h
  | _ :: _, [], h => by cases h
  | k :: ks, x :: xs, h => by
    rw [goods, List.all_cons, fstP, goods_all ks xs (by simpa using h)]
    cases h1 : isP k.z k.u x <;> cases fstP ks xs <;> rfl
theorem asBools_bl : ∀ bs : List Bool, asBools (bs.map D.bl) = some bs
  | [] => rfl
  | b :: bs => by rw [List.map_cons, asBools, asBools_bl bs]; rfl
theorem c_is_choice (n : Nat) (a b : Slot) (M : List Cell) : RN (n+1) (Str.ofString "is_choice") [a, b] M = ofBody (evSs (CN n) bf_is_choice ⟨[a, b, .no, .no], M⟩) := rfl
theorem s_is_choice (n : Nat) (M : List Cell) (ks : List Kd) (RD : D) (d : D) (h : Wd M d) (hl : ks.length < 1000) : RN (n+5) (Str.ofString "is_choice") [.val (.tup [.tup (ks.map kD), RD]), .val d] M = .ok (.val (.bl (okE (ckC ks d)))) M := by
  rw [c_is_choice]
  obtain ⟨C, hC, hg⟩ := opq (n+4)
  rw [← hC]
  have hlm : (ks.map kD).length = ks.length := List.length_map _
  have e1 := hg (s_isTu (n+3) M d ks.length h)
  have g1 : L2.atI [.tup (ks.map kD), RD] 0 = some (.tup (ks.map kD)) := rfl
  cases ht : isTu ks.length d with
  | false =>
    rw [ht] at e1
    rw [ckC_no ht]
    generalize ks.map kD = KD at *
    simp [bf_is_choice, evSs, evS, evX, evXs, evEs, evA, evAg, evT, evTB, evB, evG, evGs, evI, Tgs.len, varD, R.bind, biD, bi1, bi2_gcd, lif, toVal, setName_def, isRo_no, isRo_val, isRo_own, cmpD, truD, negD, binD, intOp, retD, ofBody, callD, call_CN, callkD, slots, Ar.slot, lend, ofCall, subD, seq, lis, G.atI, isTys, isTy, eqD, D.eqv, pure60, D.pure, D.deep, List.set, setD, putL, cell, methD, mtD, strI, ofSeq, plcC, plcV, unl, lock, unlock, rngD, forL, Itm.ok, stays, List.all_nil, fit0, fit1, fit2, fit3, fit4, fit5, fit6, fit7, fit8, fit9, fit10, fit11, fit12, fit13, fit14, fit15, fit16, g1, hlm, e1, okE]
  | true =>
    rw [ht] at e1
    obtain ⟨xs, rfl, hx⟩ := isTu_inv ht
    simp only [Wd] at h
    have i0 : evS C f_is_choice_0 ⟨[.val (.tup [.tup (ks.map kD), RD]), .val (.tup xs), .no, .no], M⟩ = .ok .nx ⟨[.val (.tup [.tup (ks.map kD), RD]), .val (.tup xs), .no, .no], M⟩ := by
      generalize ks.map kD = KD at *
      simp [evSs, evS, evX, evXs, evEs, evA, evAg, evT, evTB, evB, evG, evGs, evI, Tgs.len, varD, R.bind, biD, bi1, bi2_gcd, lif, toVal, setName_def, isRo_no, isRo_val, isRo_own, cmpD, truD, negD, binD, intOp, retD, ofBody, callD, call_CN, callkD, slots, Ar.slot, lend, ofCall, subD, seq, lis, G.atI, isTys, isTy, eqD, D.eqv, pure60, D.pure, D.deep, List.set, setD, putL, cell, methD, mtD, strI, ofSeq, plcC, plcV, unl, lock, unlock, rngD, forL, Itm.ok, stays, List.all_nil, fit0, fit1, fit2, fit3, fit4, fit5, fit6, fit7, fit8, fit9, fit10, fit11, fit12, fit13, fit14, fit15, fit16, g1, hlm, e1]
    have hi : evI C (.zip (.sub (.var 0) (.cst (.int 0))) (.var 1)) ⟨[.val (.tup [.tup (ks.map kD), RD]), .val (.tup xs), .no, .no], M⟩ = .ok ⟨zips (ks.map kD) xs, [], []⟩ ⟨[.val (.tup [.tup (ks.map kD), RD]), .val (.tup xs), .no, .no], M⟩ := by
      generalize ks.map kD = KD at *
      simp [evSs, evS, evX, evXs, evEs, evA, evAg, evT, evTB, evB, evG, evGs, evI, Tgs.len, varD, R.bind, biD, bi1, bi2_gcd, lif, toVal, setName, cmpD, truD, negD, binD, intOp, retD, ofBody, fits, sizeLine, callD, call_CN, callkD, slots, Ar.slot, lend, ofCall, subD, seq, lis, L2.atI, L2.ixN, G.atI, isTys, isTy, eqD, D.eqv, pure60, D.pure, D.deep, List.set, setD, putL, cell, methD, mtD, strI, ofSeq, plcC, plcV, unl, lock, unlock, rngD, forL, Itm.ok, stays, List.all_nil, isTup, plcV]
    have ec := comp_map f_is_choice_C0 rfl ((goods ks xs).map D.bl) hi rfl rfl rfl rfl (fits_lt (by rw [fst_zips _ _ hx.symm]; omega)) (by rw [fst_zips _ _ hx.symm, List.length_map, goods_len _ _ hx.symm]) (by
      intro j x d hx hd
      obtain ⟨a, b, ha, hb, rfl⟩ := zp_get hx
      obtain ⟨k, hk, rfl⟩ := get_map ha
      have e2 := hg (s_isP n M k.nm k.z k.u b (wds_get h hb))
      have e2 : C.call (Str.ofString "is_choice_of") [.val (kD k), .val b] M = .ok (.val (.bl (isP k.z k.u b))) M := e2
      obtain ⟨g, hy, rfl⟩ := get_map hd
      rw [goods_get hk hb] at hy
      cases hy
      refine ⟨[.val (.tup [.tup (ks.map kD), RD]), .val (.tup xs), .val (kD k), .val b], ?_, rfl⟩
      generalize kD k = kd at *
      generalize ks.map kD = KD at *
      simp [turnC]
      simp [evSs, evS, evX, evXs, evEs, evA, evAg, evT, evTB, evB, evG, evGs, evI, Tgs.len, varD, R.bind, biD, bi1, bi2_gcd, lif, toVal, setName_def, isRo_no, isRo_val, isRo_own, cmpD, truD, negD, binD, intOp, retD, ofBody, callD, call_CN, callkD, slots, Ar.slot, lend, ofCall, subD, seq, lis, G.atI, isTys, isTy, eqD, D.eqv, pure60, D.pure, D.deep, List.set, setD, putL, cell, methD, mtD, strI, ofSeq, plcC, plcV, unl, lock, unlock, rngD, forL, Itm.ok, stays, List.all_nil, fit0, fit1, fit2, fit3, fit4, fit5, fit6, fit7, fit8, fit9, fit10, fit11, fit12, fit13, fit14, fit15, fit16, e2])
    have hb := asBools_bl (goods ks xs)
    rw [ckC_tu hx]
    have hk : okE (match fstP ks xs with
      | none => .ok ks.length
      | some i => .error (i : Int)) = (goods ks xs).all id := by rw [goods_all _ _ hx.symm]; cases fstP ks xs <;> rfl
    rw [hk]
    unfold bf_is_choice
    rw [seq_nx i0, ret_all ec hb]
    rfl
end G

/-! ## V11 -/
set_option Elab.async false
set_option linter.all false
set_option maxRecDepth 100000
set_option maxHeartbeats 8000000
namespace G
open PySem
/-! ### what is due -/
theorem bind_ok {α β : Type} {a : α} {s : S} {f : α → S → R β} {r : R β} (h : f a s = r) : (R.ok a s).bind f = r := h
def fstF : List Bool → Option Nat
  | [] => none
  | b :: bs => if b then (fstF bs).map (· + 1) else some 0
theorem fstF_map (f : D → Bool) : ∀ xs : List D, fstF (xs.map f) = fstBad f xs
  | [] => rfl
  | x :: xs => by rw [List.map_cons, fstF, fstBad, fstF_map f xs]
theorem fstF_goods : ∀ (ks : List Kd) (xs : List D), fstF (goods ks xs) = fstP ks xs
  | [], [] => rfl
  | [], _ :: _ => rfl
  | _ :: _, [] => rfl
  | k :: ks, x :: xs => by rw [goods, fstF, fstP, fstF_goods ks xs]
def ixG (gs : List Bool) : D → Bool
  | .int j => gs[j.toNat]?.getD false
  | _ => false
theorem fst_rngL : ∀ (gs pre : List Bool), fstBad (ixG (pre ++ gs)) ((List.range' pre.length gs.length).map fun k : Nat => D.int (k : Int)) = fstF gs
  | [], _ => rfl
  | b :: gs, pre => by
    have ih := fst_rngL gs (pre ++ [b])
    rw [List.append_assoc, List.length_append] at ih
    rw [List.length_cons, List.range'_succ, List.map_cons, fstBad, fstF]
    have e : ixG (pre ++ b :: gs) (.int (pre.length : Int)) = b := by
      unfold ixG
      simp
    rw [e]
    have ih : fstBad (ixG (pre ++ b :: gs)) ((List.range' (pre.length + 1) gs.length).map fun k : Nat => D.int (k : Int)) = fstF gs := ih
    rw [ih]
theorem rngL_range' (m : Nat) : rngL 0 m = (List.range' 0 m).map fun k : Nat => D.int (k : Int) := by
  unfold rngL
  rw [List.range_eq_range']
  apply List.map_congr_left
  intro k _
  rw [Int.zero_add]
theorem fst_rng (gs : List Bool) : fstBad (ixG gs) (rngL 0 gs.length) = fstF gs := by
  rw [rngL_range']
  exact fst_rngL gs []
abbrev sTold : Str := Str.ofString "told"
abbrev sBad : Str := Str.ofString "bad"
def dueD : Except Int Nat → D
  | .ok m => .tup [.str sTold, .int m]
  | .error i => .tup [.str sBad, .int i]
def ckG (gs : List Bool) (m : Nat) : Except Int Nat := match fstF gs with
  | none => .ok m
  | some i => .error (i : Int)
theorem c_due (n : Nat) (a b c : Slot) (M : List Cell) : RN (n+1) (Str.ofString "_law_due") [a, b, c] M = ofBody (evSs (CN n) bl_due ⟨[a, b, c, .no, .no], M⟩) := rfl
/-- the loop, with what is asked of each place -/
theorem due_loop {C : Cn} {w : Int} {A : D} {xs : List D} {M : List Cell} (gs : List Bool) (h : gs.length = xs.length) (hl : xs.length < 1000)
    (hb : ∀ (j : Nat) (g : Bool), gs[j]? = some g → evT C (.ife (.x (.cmp .Eq (.var 0) (.cst (.int 0)))) (.x (.call (Str.ofString "_law_is") (.cons (.v (.sub (.var 2) (.var 4))) (.nil)))) (.x (.call (Str.ofString "_law_pair") (.cons (.v (.sub (.var 2) (.var 4))) (.cons (.v (.sub (.sub (.var 1) (.cst (.int 0))) (.var 4))) (.nil)))))) ⟨[.val (.int w), .val A, .val (.tup xs), .val (.int xs.length), .val (.int j)], M⟩ = .ok g ⟨[.val (.int w), .val A, .val (.tup xs), .val (.int xs.length), .val (.int j)], M⟩) :
    ∃ s, evSs C (.cons l_due_2 (.cons l_due_3 .nil)) ⟨[.val (.int w), .val A, .val (.tup xs), .val (.int xs.length), .no], M⟩ = .ok (.rt (.val (dueD (ckG gs xs.length)))) s ∧ s.M = M := by
  have hi : evI C (.rng (.cons (.var 3) .nil)) ⟨[.val (.int w), .val A, .val (.tup xs), .val (.int xs.length), .no], M⟩ = .ok ⟨rngL 0 gs.length, [], []⟩ ⟨[.val (.int w), .val A, .val (.tup xs), .val (.int xs.length), .no], M⟩ := evI_rngZ (z := (xs.length : Int)) (by simp [evSs, evS, evX, evXs, evEs, evA, evAg, evT, evTB, evB, evG, evGs, evI, Tgs.len, varD, R.bind, biD, bi1, bi2_gcd, lif, toVal, setName_def, isRo_no, isRo_val, isRo_own, cmpD, truD, negD, binD, intOp, retD, ofBody, callD, call_CN, callkD, slots, Ar.slot, lend, ofCall, subD, seq, lis, G.atI, isTys, isTy, eqD, D.eqv, pure60, D.pure, D.deep, List.set, setD, putL, cell, methD, mtD, strI, ofSeq, plcC, plcV, unl, lock, unlock, rngD, forL, Itm.ok, stays, List.all_nil, fit0, fit1, fit2, fit3, fit4, fit5, fit6, fit7, fit8, fit9, fit10, fit11, fit12, fit13, fit14, fit15, fit16]) (len62 (by omega)) (by rw [h]; exact Int.toNat_natCast _)
  have key := forL_first (ok := Itm.ok ⟨rngL 0 gs.length, [], []⟩) (body := fun x s2 => (evG C (.name 4) x s2).bind fun _ s3 => evSs C l_due_2b s3) (fun _ => rfl) (ixG gs)
    (fun _ s => ∃ a : Slot, isRo a = false ∧ s = ⟨[.val (.int w), .val A, .val (.tup xs), .val (.int xs.length), a], M⟩)
    (fun i r => ∃ s, r = .ok (.rt (.val (.tup [.str sBad, .int i]))) s ∧ s.M = M) (fun i r ⟨s, e, _⟩ => by rw [e]; rfl) (fun i f s ⟨s', e, _⟩ => by cases e; exact ⟨_, rfl⟩) (rngL 0 gs.length) 0
    (by
      rintro j x s hj ⟨a, na, rfl⟩
      obtain ⟨rfl, hjl⟩ := rngL_get hj
      have hgj : gs[j]? = some gs[j] := List.getElem?_eq_getElem hjl
      have e2 := hb j _ hgj
      have hx : ixG gs (.int (j : Int)) = gs[j] := by
        show gs[((j : Int)).toNat]?.getD false = gs[j]
        rw [Int.toNat_natCast, hgj]
        rfl
      rw [hx]
      simp only [Nat.zero_add]
      have j0 : evG C (.name 4) (.int (j : Int)) ⟨[.val (.int w), .val A, .val (.tup xs), .val (.int xs.length), a], M⟩ = .ok () ⟨[.val (.int w), .val A, .val (.tup xs), .val (.int xs.length), .val (.int j)], M⟩ := by
        simp [evSs, evS, evX, evXs, evEs, evA, evAg, evT, evTB, evB, evG, evGs, evI, Tgs.len, varD, R.bind, biD, bi1, bi2_gcd, lif, toVal, setName_def, isRo_no, isRo_val, isRo_own, cmpD, truD, negD, binD, intOp, retD, ofBody, callD, call_CN, callkD, slots, Ar.slot, lend, ofCall, subD, seq, lis, G.atI, isTys, isTy, eqD, D.eqv, pure60, D.pure, D.deep, List.set, setD, putL, cell, methD, mtD, strI, ofSeq, plcC, plcV, unl, lock, unlock, rngD, forL, Itm.ok, stays, List.all_nil, fit0, fit1, fit2, fit3, fit4, fit5, fit6, fit7, fit8, fit9, fit10, fit11, fit12, fit13, fit14, fit15, fit16, na]
      generalize gs[j] = g at *
      cases g with
      | true =>
        rw [if_pos rfl]
        refine ⟨⟨[.val (.int w), .val A, .val (.tup xs), .val (.int xs.length), .val (.int j)], M⟩, ?_, _, rfl, rfl⟩
        rw [j0]
        refine bind_ok ?_
        show evSs C (.cons (.ite (.n _) _ _) .nil) _ = _
        rw [evSs, evS, evT, e2]
        rfl
      | false =>
        rw [if_neg Bool.false_ne_true]
        refine ⟨⟨[.val (.int w), .val A, .val (.tup xs), .val (.int xs.length), .val (.int j)], M⟩, ?_, rfl⟩
        rw [j0]
        refine bind_ok ?_
        show evSs C (.cons (.ite (.n _) _ _) .nil) _ = _
        rw [evSs, evS, evT, e2]
        simp [evSs, evS, evX, evXs, evEs, evA, evAg, evT, evTB, evB, evG, evGs, evI, Tgs.len, varD, R.bind, biD, bi1, bi2_gcd, lif, toVal, setName_def, isRo_no, isRo_val, isRo_own, cmpD, truD, negD, binD, intOp, retD, ofBody, callD, call_CN, callkD, slots, Ar.slot, lend, ofCall, subD, seq, lis, G.atI, isTys, isTy, eqD, D.eqv, pure60, D.pure, D.deep, List.set, setD, putL, cell, methD, mtD, strI, ofSeq, plcC, plcV, unl, lock, unlock, rngD, forL, Itm.ok, stays, List.all_nil, fit0, fit1, fit2, fit3, fit4, fit5, fit6, fit7, fit8, fit9, fit10, fit11, fit12, fit13, fit14, fit15, fit16])
    ⟨[.val (.int w), .val A, .val (.tup xs), .val (.int xs.length), .no], M⟩ ⟨_, rfl, rfl⟩
  rw [fst_rng] at key
  unfold ckG
  cases hf : fstF gs with
  | none =>
    rw [hf] at key
    obtain ⟨s', e, a, na, rfl⟩ := key
    have i1 : evS C l_due_2 ⟨[.val (.int w), .val A, .val (.tup xs), .val (.int xs.length), .no], M⟩ = .ok .nx ⟨[.val (.int w), .val A, .val (.tup xs), .val (.int xs.length), a], M⟩ := by
      show evS C (.fors _ _ _) _ = _
      rw [evS, hi]
      exact (congrArg (unl []) e).trans rfl
    refine ⟨⟨[.val (.int w), .val A, .val (.tup xs), .val (.int xs.length), a], M⟩, ?_, rfl⟩
    rw [seq_nx i1]
    simp [evSs, evS, evX, evXs, evEs, evA, evAg, evT, evTB, evB, evG, evGs, evI, Tgs.len, varD, R.bind, biD, bi1, bi2_gcd, lif, toVal, setName_def, isRo_no, isRo_val, isRo_own, cmpD, truD, negD, binD, intOp, retD, ofBody, callD, call_CN, callkD, slots, Ar.slot, lend, ofCall, subD, seq, lis, G.atI, isTys, isTy, eqD, D.eqv, pure60, D.pure, D.deep, List.set, setD, putL, cell, methD, mtD, strI, ofSeq, plcC, plcV, unl, lock, unlock, rngD, forL, Itm.ok, stays, List.all_nil, fit0, fit1, fit2, fit3, fit4, fit5, fit6, fit7, fit8, fit9, fit10, fit11, fit12, fit13, fit14, fit15, fit16, dueD]
  | some i =>
    rw [hf] at key
    obtain ⟨r, e, s', er, eM⟩ := key
    subst er
    rw [Nat.zero_add] at e
    have i1 : evS C l_due_2 ⟨[.val (.int w), .val A, .val (.tup xs), .val (.int xs.length), .no], M⟩ = .ok (.rt (.val (.tup [.str sBad, .int i]))) s' := by
      show evS C (.fors _ _ _) _ = _
      rw [evS, hi]
      exact (congrArg (unl []) e).trans rfl
    exact ⟨s', by rw [seq_rt i1]; rfl, eM⟩
theorem due_end {C : Cn} {s0 : S} {M : List Cell} {ss : Stms} {d : D} (h : ∃ s, evSs C ss s0 = .ok (.rt (.val d)) s ∧ s.M = M) : ofBody (evSs C ss s0) = .ok (.val d) M := by
  obtain ⟨s, e, rfl⟩ := h
  rw [e]
  rfl
/-- all parts are small enough -/
def Sb1 : D → Prop
  | .tup xs => ∀ x ∈ xs, Sb x
  | _ => True
def Sb2 : D → Prop
  | .tup xs => ∀ x ∈ xs, Sbs x
  | _ => True
theorem s_due0 (n : Nat) (M : List Cell) (KS : D) (RS : List D) (d : D) (h : Wd M d) (hs : Sb1 d) (hl : RS.length < 1000) : RN (n+3) (Str.ofString "_law_due") [.val (.int 0), .val (.tup [KS, .tup RS]), .val d] M = .ok (.val (dueD (ckV isQ RS.length d))) M := by
  rw [c_due]
  obtain ⟨C, hC, hg⟩ := opq (n+2)
  rw [← hC]
  have g1 : L2.atI [KS, .tup RS] 1 = some (.tup RS) := rfl
  have i0 : evS C l_due_0 ⟨[.val (.int 0), .val (.tup [KS, .tup RS]), .val d, .no, .no], M⟩ = .ok .nx ⟨[.val (.int 0), .val (.tup [KS, .tup RS]), .val d, .val (.int RS.length), .no], M⟩ := by
    simp [evSs, evS, evX, evXs, evEs, evA, evAg, evT, evTB, evB, evG, evGs, evI, Tgs.len, varD, R.bind, biD, bi1, bi2_gcd, lif, toVal, setName_def, isRo_no, isRo_val, isRo_own, cmpD, truD, negD, binD, intOp, retD, ofBody, callD, call_CN, callkD, slots, Ar.slot, lend, ofCall, subD, seq, lis, G.atI, isTys, isTy, eqD, D.eqv, pure60, D.pure, D.deep, List.set, setD, putL, cell, methD, mtD, strI, ofSeq, plcC, plcV, unl, lock, unlock, rngD, forL, Itm.ok, stays, List.all_nil, fit0, fit1, fit2, fit3, fit4, fit5, fit6, fit7, fit8, fit9, fit10, fit11, fit12, fit13, fit14, fit15, fit16, g1]
  unfold bl_due
  rw [seq_nx i0]
  cases ht : isTu RS.length d with
  | false =>
    rw [ckV_no ht]
    have i1 : evS C l_due_1 ⟨[.val (.int 0), .val (.tup [KS, .tup RS]), .val d, .val (.int RS.length), .no], M⟩ = .ok (.rt (.val (dueD (.error (-1))))) ⟨[.val (.int 0), .val (.tup [KS, .tup RS]), .val d, .val (.int RS.length), .no], M⟩ := by
      cases d with
      | tup xs =>
        have hx : ¬ (xs.length : Int) = (RS.length : Int) := by
          unfold isTu at ht
          rw [beq_eq_false_iff_ne] at ht
          exact ht
        simp [evSs, evS, evX, evXs, evEs, evA, evAg, evT, evTB, evB, evG, evGs, evI, Tgs.len, varD, R.bind, biD, bi1, bi2_gcd, lif, toVal, setName_def, isRo_no, isRo_val, isRo_own, cmpD, truD, negD, binD, intOp, retD, ofBody, callD, call_CN, callkD, slots, Ar.slot, lend, ofCall, subD, seq, lis, G.atI, isTys, isTy, eqD, D.eqv, pure60, D.pure, D.deep, List.set, setD, putL, cell, methD, mtD, strI, ofSeq, plcC, plcV, unl, lock, unlock, rngD, forL, Itm.ok, stays, List.all_nil, fit0, fit1, fit2, fit3, fit4, fit5, fit6, fit7, fit8, fit9, fit10, fit11, fit12, fit13, fit14, fit15, fit16, hx, dueD]
      | loc m =>
        simp only [Wd] at h
        obtain ⟨xs, h⟩ := h
        simp [evSs, evS, evX, evXs, evEs, evA, evAg, evT, evTB, evB, evG, evGs, evI, Tgs.len, varD, R.bind, biD, bi1, bi2_gcd, lif, toVal, setName_def, isRo_no, isRo_val, isRo_own, cmpD, truD, negD, binD, intOp, retD, ofBody, callD, call_CN, callkD, slots, Ar.slot, lend, ofCall, subD, seq, lis, G.atI, isTys, isTy, eqD, D.eqv, pure60, D.pure, D.deep, List.set, setD, putL, cell, methD, mtD, strI, ofSeq, plcC, plcV, unl, lock, unlock, rngD, forL, Itm.ok, stays, List.all_nil, fit0, fit1, fit2, fit3, fit4, fit5, fit6, fit7, fit8, fit9, fit10, fit11, fit12, fit13, fit14, fit15, fit16, h, dueD]
      | _ => simp [evSs, evS, evX, evXs, evEs, evA, evAg, evT, evTB, evB, evG, evGs, evI, Tgs.len, varD, R.bind, biD, bi1, bi2_gcd, lif, toVal, setName_def, isRo_no, isRo_val, isRo_own, cmpD, truD, negD, binD, intOp, retD, ofBody, callD, call_CN, callkD, slots, Ar.slot, lend, ofCall, subD, seq, lis, G.atI, isTys, isTy, eqD, D.eqv, pure60, D.pure, D.deep, List.set, setD, putL, cell, methD, mtD, strI, ofSeq, plcC, plcV, unl, lock, unlock, rngD, forL, Itm.ok, stays, List.all_nil, fit0, fit1, fit2, fit3, fit4, fit5, fit6, fit7, fit8, fit9, fit10, fit11, fit12, fit13, fit14, fit15, fit16, dueD]
    rw [seq_rt i1]
    rfl
  | true =>
    obtain ⟨xs, rfl, hx⟩ := isTu_inv ht
    rw [ckV_tu hx]
    have i1 : evS C l_due_1 ⟨[.val (.int 0), .val (.tup [KS, .tup RS]), .val (.tup xs), .val (.int RS.length), .no], M⟩ = .ok .nx ⟨[.val (.int 0), .val (.tup [KS, .tup RS]), .val (.tup xs), .val (.int RS.length), .no], M⟩ := by
      simp [evSs, evS, evX, evXs, evEs, evA, evAg, evT, evTB, evB, evG, evGs, evI, Tgs.len, varD, R.bind, biD, bi1, bi2_gcd, lif, toVal, setName_def, isRo_no, isRo_val, isRo_own, cmpD, truD, negD, binD, intOp, retD, ofBody, callD, call_CN, callkD, slots, Ar.slot, lend, ofCall, subD, seq, lis, G.atI, isTys, isTy, eqD, D.eqv, pure60, D.pure, D.deep, List.set, setD, putL, cell, methD, mtD, strI, ofSeq, plcC, plcV, unl, lock, unlock, rngD, forL, Itm.ok, stays, List.all_nil, fit0, fit1, fit2, fit3, fit4, fit5, fit6, fit7, fit8, fit9, fit10, fit11, fit12, fit13, fit14, fit15, fit16, hx]
    rw [seq_nx i1, ← hx]
    simp only [Wd] at h
    have e := due_loop (C := C) (w := 0) (A := .tup [KS, .tup RS]) (xs := xs) (M := M) (xs.map isQ) (List.length_map _) (by omega) (by
      intro j g hj
      obtain ⟨x, hxj, rfl⟩ := get_map hj
      have e2 := hg (s_is n M x (wds_get h hxj) (hs x (List.mem_of_getElem? hxj)))
      have hat : L2.atI xs (j : Int) = some x := atI_nat hxj
      simp [evSs, evS, evX, evXs, evEs, evA, evAg, evT, evTB, evB, evG, evGs, evI, Tgs.len, varD, R.bind, biD, bi1, bi2_gcd, lif, toVal, setName_def, isRo_no, isRo_val, isRo_own, cmpD, truD, negD, binD, intOp, retD, ofBody, callD, call_CN, callkD, slots, Ar.slot, lend, ofCall, subD, seq, lis, G.atI, isTys, isTy, eqD, D.eqv, pure60, D.pure, D.deep, List.set, setD, putL, cell, methD, mtD, strI, ofSeq, plcC, plcV, unl, lock, unlock, rngD, forL, Itm.ok, stays, List.all_nil, fit0, fit1, fit2, fit3, fit4, fit5, fit6, fit7, fit8, fit9, fit10, fit11, fit12, fit13, fit14, fit15, fit16, hat, e2])
    unfold ckG at e
    rw [fstF_map] at e
    exact due_end e
theorem s_due1 (n : Nat) (M : List Cell) (ks : List Kd) (RD : D) (d : D) (h : Wd M d) (hs : Sb2 d) (hl : ks.length < 1000) : RN (n+4) (Str.ofString "_law_due") [.val (.int 1), .val (.tup [.tup (ks.map kD), RD]), .val d] M = .ok (.val (dueD (ckC ks d))) M := by
  rw [c_due]
  obtain ⟨C, hC, hg⟩ := opq (n+3)
  rw [← hC]
  have hlm : (ks.map kD).length = ks.length := List.length_map _
  have g1 : L2.atI [.tup (ks.map kD), RD] 0 = some (.tup (ks.map kD)) := rfl
  have i0 : evS C l_due_0 ⟨[.val (.int 1), .val (.tup [.tup (ks.map kD), RD]), .val d, .no, .no], M⟩ = .ok .nx ⟨[.val (.int 1), .val (.tup [.tup (ks.map kD), RD]), .val d, .val (.int ks.length), .no], M⟩ := by
    generalize ks.map kD = KD at *
    simp [evSs, evS, evX, evXs, evEs, evA, evAg, evT, evTB, evB, evG, evGs, evI, Tgs.len, varD, R.bind, biD, bi1, bi2_gcd, lif, toVal, setName_def, isRo_no, isRo_val, isRo_own, cmpD, truD, negD, binD, intOp, retD, ofBody, callD, call_CN, callkD, slots, Ar.slot, lend, ofCall, subD, seq, lis, G.atI, isTys, isTy, eqD, D.eqv, pure60, D.pure, D.deep, List.set, setD, putL, cell, methD, mtD, strI, ofSeq, plcC, plcV, unl, lock, unlock, rngD, forL, Itm.ok, stays, List.all_nil, fit0, fit1, fit2, fit3, fit4, fit5, fit6, fit7, fit8, fit9, fit10, fit11, fit12, fit13, fit14, fit15, fit16, g1, hlm]
  unfold bl_due
  rw [seq_nx i0]
  cases ht : isTu ks.length d with
  | false =>
    rw [ckC_no ht]
    have i1 : evS C l_due_1 ⟨[.val (.int 1), .val (.tup [.tup (ks.map kD), RD]), .val d, .val (.int ks.length), .no], M⟩ = .ok (.rt (.val (dueD (.error (-1))))) ⟨[.val (.int 1), .val (.tup [.tup (ks.map kD), RD]), .val d, .val (.int ks.length), .no], M⟩ := by
      generalize ks.map kD = KD at *
      cases d with
      | tup xs =>
        have hx : ¬ (xs.length : Int) = (ks.length : Int) := by
          unfold isTu at ht
          rw [beq_eq_false_iff_ne] at ht
          exact ht
        simp [evSs, evS, evX, evXs, evEs, evA, evAg, evT, evTB, evB, evG, evGs, evI, Tgs.len, varD, R.bind, biD, bi1, bi2_gcd, lif, toVal, setName_def, isRo_no, isRo_val, isRo_own, cmpD, truD, negD, binD, intOp, retD, ofBody, callD, call_CN, callkD, slots, Ar.slot, lend, ofCall, subD, seq, lis, G.atI, isTys, isTy, eqD, D.eqv, pure60, D.pure, D.deep, List.set, setD, putL, cell, methD, mtD, strI, ofSeq, plcC, plcV, unl, lock, unlock, rngD, forL, Itm.ok, stays, List.all_nil, fit0, fit1, fit2, fit3, fit4, fit5, fit6, fit7, fit8, fit9, fit10, fit11, fit12, fit13, fit14, fit15, fit16, hx, dueD]
      | loc m =>
        simp only [Wd] at h
        obtain ⟨xs, h⟩ := h
        simp [evSs, evS, evX, evXs, evEs, evA, evAg, evT, evTB, evB, evG, evGs, evI, Tgs.len, varD, R.bind, biD, bi1, bi2_gcd, lif, toVal, setName_def, isRo_no, isRo_val, isRo_own, cmpD, truD, negD, binD, intOp, retD, ofBody, callD, call_CN, callkD, slots, Ar.slot, lend, ofCall, subD, seq, lis, G.atI, isTys, isTy, eqD, D.eqv, pure60, D.pure, D.deep, List.set, setD, putL, cell, methD, mtD, strI, ofSeq, plcC, plcV, unl, lock, unlock, rngD, forL, Itm.ok, stays, List.all_nil, fit0, fit1, fit2, fit3, fit4, fit5, fit6, fit7, fit8, fit9, fit10, fit11, fit12, fit13, fit14, fit15, fit16, h, dueD]
      | _ => simp [evSs, evS, evX, evXs, evEs, evA, evAg, evT, evTB, evB, evG, evGs, evI, Tgs.len, varD, R.bind, biD, bi1, bi2_gcd, lif, toVal, setName_def, isRo_no, isRo_val, isRo_own, cmpD, truD, negD, binD, intOp, retD, ofBody, callD, call_CN, callkD, slots, Ar.slot, lend, ofCall, subD, seq, lis, G.atI, isTys, isTy, eqD, D.eqv, pure60, D.pure, D.deep, List.set, setD, putL, cell, methD, mtD, strI, ofSeq, plcC, plcV, unl, lock, unlock, rngD, forL, Itm.ok, stays, List.all_nil, fit0, fit1, fit2, fit3, fit4, fit5, fit6, fit7, fit8, fit9, fit10, fit11, fit12, fit13, fit14, fit15, fit16, dueD]
    rw [seq_rt i1]
    rfl
  | true =>
    obtain ⟨xs, rfl, hx⟩ := isTu_inv ht
    rw [ckC_tu hx]
    have i1 : evS C l_due_1 ⟨[.val (.int 1), .val (.tup [.tup (ks.map kD), RD]), .val (.tup xs), .val (.int ks.length), .no], M⟩ = .ok .nx ⟨[.val (.int 1), .val (.tup [.tup (ks.map kD), RD]), .val (.tup xs), .val (.int ks.length), .no], M⟩ := by
      generalize ks.map kD = KD at *
      simp [evSs, evS, evX, evXs, evEs, evA, evAg, evT, evTB, evB, evG, evGs, evI, Tgs.len, varD, R.bind, biD, bi1, bi2_gcd, lif, toVal, setName_def, isRo_no, isRo_val, isRo_own, cmpD, truD, negD, binD, intOp, retD, ofBody, callD, call_CN, callkD, slots, Ar.slot, lend, ofCall, subD, seq, lis, G.atI, isTys, isTy, eqD, D.eqv, pure60, D.pure, D.deep, List.set, setD, putL, cell, methD, mtD, strI, ofSeq, plcC, plcV, unl, lock, unlock, rngD, forL, Itm.ok, stays, List.all_nil, fit0, fit1, fit2, fit3, fit4, fit5, fit6, fit7, fit8, fit9, fit10, fit11, fit12, fit13, fit14, fit15, fit16, hx]
    rw [seq_nx i1, ← hx]
    simp only [Wd] at h
    have e := due_loop (C := C) (w := 1) (A := .tup [.tup (ks.map kD), RD]) (xs := xs) (M := M) (goods ks xs) (by rw [goods_len _ _ hx.symm, hx]) (by omega) (by
      intro j g hj
      have hjl : j < ks.length := by
        have := (List.getElem?_eq_some_iff.mp hj).1
        rw [goods_len _ _ hx.symm] at this
        exact this
      have hk : ks[j]? = some ks[j] := List.getElem?_eq_getElem hjl
      have hxj : xs[j]? = some (xs[j]'(by omega)) := List.getElem?_eq_getElem (by omega)
      generalize xs[j]'(by omega) = x at *
      generalize ks[j] = k at *
      rw [goods_get hk hxj] at hj
      cases hj
      have hat : L2.atI xs (j : Int) = some x := atI_nat hxj
      have hat2 : L2.atI (ks.map kD) (j : Int) = some (kD k) := atI_nat (by rw [List.getElem?_map, hk]; rfl)
      have e2 := hg (s_pair n M k.nm k.z k.u x (wds_get h hxj) (hs x (List.mem_of_getElem? hxj)))
      have e2 : C.call (Str.ofString "_law_pair") [.val x, .val (kD k)] M = .ok (.val (.bl (isP k.z k.u x))) M := e2
      generalize kD k = kd at *
      generalize ks.map kD = KD at *
      simp [evSs, evS, evX, evXs, evEs, evA, evAg, evT, evTB, evB, evG, evGs, evI, Tgs.len, varD, R.bind, biD, bi1, bi2_gcd, lif, toVal, setName_def, isRo_no, isRo_val, isRo_own, cmpD, truD, negD, binD, intOp, retD, ofBody, callD, call_CN, callkD, slots, Ar.slot, lend, ofCall, subD, seq, lis, G.atI, isTys, isTy, eqD, D.eqv, pure60, D.pure, D.deep, List.set, setD, putL, cell, methD, mtD, strI, ofSeq, plcC, plcV, unl, lock, unlock, rngD, forL, Itm.ok, stays, List.all_nil, fit0, fit1, fit2, fit3, fit4, fit5, fit6, fit7, fit8, fit9, fit10, fit11, fit12, fit13, fit14, fit15, fit16, hat, hat2, g1, e2])
    unfold ckG at e
    rw [fstF_goods] at e
    exact due_end e
end G

/-! ## V12 -/
set_option Elab.async false
set_option linter.all false
set_option maxRecDepth 100000
set_option maxHeartbeats 8000000
namespace G
open PySem
theorem c_same (n : Nat) (a b : Slot) (M : List Cell) : RN (n+1) (Str.ofString "_law_same") [a, b] M = ofBody (evSs (CN n) bl_same ⟨[a, b, .no], M⟩) := rfl
mutual

/-- numbers, bools, texts, tuples of them -/
def NP : D → Bool
  | .int _ => true
  | .bl _ => true
  | .str _ => true
  | .tup xs => Nat.blt xs.length 1000 && NPs xs
  | _ => false
def NPs : List D → Bool
  | [] => true
  | x :: xs => NP x && NPs xs
end
theorem lt_of_blt' {a b : Nat} (h : Nat.blt a b = true) : a < b := Nat.le_of_ble_eq_true h
theorem NPs_mem : ∀ {xs : List D}, NPs xs = true → ∀ x ∈ xs, NP x = true
  | [], _, x, h => absurd h List.not_mem_nil
  | y :: ys, h, x, hx => by
    rw [NPs, Bool.and_eq_true] at h
    rcases List.mem_cons.mp hx with rfl | hx
    · exact h.1
    · exact NPs_mem h.2 x hx
theorem deeps_mem : ∀ {xs : List D}, ∀ x ∈ xs, x.deep ≤ D.deeps xs
  | [], x, h => absurd h List.not_mem_nil
  | y :: ys, x, hx => by
    rw [D.deeps]
    rcases List.mem_cons.mp hx with rfl | hx
    · exact Nat.le_max_left _ _
    · exact Nat.le_trans (deeps_mem x hx) (Nat.le_max_right _ _)

theorem same_tup (m : Nat) (M : List Cell) (xs : List D) (hl : xs.length < 1000) (hh : ∀ x ∈ xs, RN (m+1) (Str.ofString "_law_same") [.val x, .val x] M = .ok (.val (.bl true)) M) :
    RN (m+1+1) (Str.ofString "_law_same") [.val (.tup xs), .val (.tup xs)] M = .ok (.val (.bl true)) M := by
  rw [c_same]
  obtain ⟨C, hC, hg⟩ := opq (m+1)
  rw [← hC]
  have hi : evI C (.rng (.cons (.bi .len (.cons (.var 1) .nil)) .nil)) ⟨[.val (.tup xs), .val (.tup xs), .no], M⟩ = .ok ⟨rngL 0 xs.length, [], []⟩ ⟨[.val (.tup xs), .val (.tup xs), .no], M⟩ := evI_rngZ (z := (xs.length : Int)) (by simp [evSs, evS, evX, evXs, evEs, evA, evAg, evT, evTB, evB, evG, evGs, evI, Tgs.len, varD, R.bind, biD, bi1, bi2_gcd, lif, toVal, setName_def, isRo_no, isRo_val, isRo_own, cmpD, truD, negD, binD, intOp, retD, ofBody, callD, call_CN, callkD, slots, Ar.slot, lend, ofCall, subD, seq, lis, G.atI, isTys, isTy, eqD, D.eqv, pure60, D.pure, D.deep, List.set, setD, putL, cell, methD, mtD, strI, ofSeq, plcC, plcV, unl, lock, unlock, rngD, forL, Itm.ok, stays, List.all_nil, fit0, fit1, fit2, fit3, fit4, fit5, fit6, fit7, fit8, fit9, fit10, fit11, fit12, fit13, fit14, fit15, fit16]) (len62 (by omega)) (Int.toNat_natCast _)
  obtain ⟨s', i1, y, hy, es⟩ := fors_inv (.fors (.name 2) (.rng (.cons (.bi .len (.cons (.var 1) .nil)) .nil)) l_same_0t1b) rfl hi rfl rfl (fun _ s => ∃ y, isRo y = false ∧ s = ⟨[.val (.tup xs), .val (.tup xs), y], M⟩) ⟨_, rfl, rfl⟩ (by
    rintro j x s hx ⟨y, hy, rfl⟩
    obtain ⟨rfl, hj⟩ := rngL_get hx
    have e := hg (hh xs[j] (List.getElem_mem hj))
    have ea : L2.atI xs (j : Int) = some xs[j] := atI_nat (List.getElem?_eq_getElem hj)
    refine ⟨⟨[.val (.tup xs), .val (.tup xs), .val (.int j)], M⟩, ?_, _, rfl, rfl⟩
    simp [evSs, evS, evX, evXs, evEs, evA, evAg, evT, evTB, evB, evG, evGs, evI, Tgs.len, varD, R.bind, biD, bi1, bi2_gcd, lif, toVal, setName_def, isRo_no, isRo_val, isRo_own, cmpD, truD, negD, binD, intOp, retD, ofBody, callD, call_CN, callkD, slots, Ar.slot, lend, ofCall, subD, seq, lis, G.atI, isTys, isTy, eqD, D.eqv, pure60, D.pure, D.deep, List.set, setD, putL, cell, methD, mtD, strI, ofSeq, plcC, plcV, unl, lock, unlock, rngD, forL, Itm.ok, stays, List.all_nil, fit0, fit1, fit2, fit3, fit4, fit5, fit6, fit7, fit8, fit9, fit10, fit11, fit12, fit13, fit14, fit15, fit16, hy, ea, e])
  subst es
  have key : evSs C bl_same ⟨[.val (.tup xs), .val (.tup xs), .no], M⟩ = .ok (.rt (.val (.bl true))) ⟨[.val (.tup xs), .val (.tup xs), y], M⟩ := by
    unfold bl_same
    refine seq_rt (ite_t (s1 := ⟨[.val (.tup xs), .val (.tup xs), .no], M⟩) (by simp [evSs, evS, evX, evXs, evEs, evA, evAg, evT, evTB, evB, evG, evGs, evI, Tgs.len, varD, R.bind, biD, bi1, bi2_gcd, lif, toVal, setName_def, isRo_no, isRo_val, isRo_own, cmpD, truD, negD, binD, intOp, retD, ofBody, callD, call_CN, callkD, slots, Ar.slot, lend, ofCall, subD, seq, lis, G.atI, isTys, isTy, eqD, D.eqv, pure60, D.pure, D.deep, List.set, setD, putL, cell, methD, mtD, strI, ofSeq, plcC, plcV, unl, lock, unlock, rngD, forL, Itm.ok, stays, List.all_nil, fit0, fit1, fit2, fit3, fit4, fit5, fit6, fit7, fit8, fit9, fit10, fit11, fit12, fit13, fit14, fit15, fit16]) (sq (s1 := ⟨[.val (.tup xs), .val (.tup xs), .no], M⟩) (by simp [evSs, evS, evX, evXs, evEs, evA, evAg, evT, evTB, evB, evG, evGs, evI, Tgs.len, varD, R.bind, biD, bi1, bi2_gcd, lif, toVal, setName_def, isRo_no, isRo_val, isRo_own, cmpD, truD, negD, binD, intOp, retD, ofBody, callD, call_CN, callkD, slots, Ar.slot, lend, ofCall, subD, seq, lis, G.atI, isTys, isTy, eqD, D.eqv, pure60, D.pure, D.deep, List.set, setD, putL, cell, methD, mtD, strI, ofSeq, plcC, plcV, unl, lock, unlock, rngD, forL, Itm.ok, stays, List.all_nil, fit0, fit1, fit2, fit3, fit4, fit5, fit6, fit7, fit8, fit9, fit10, fit11, fit12, fit13, fit14, fit15, fit16]) (sq i1 ?_)))
    simp [evSs, evS, evX, evXs, evEs, evA, evAg, evT, evTB, evB, evG, evGs, evI, Tgs.len, varD, R.bind, biD, bi1, bi2_gcd, lif, toVal, setName_def, isRo_no, isRo_val, isRo_own, cmpD, truD, negD, binD, intOp, retD, ofBody, callD, call_CN, callkD, slots, Ar.slot, lend, ofCall, subD, seq, lis, G.atI, isTys, isTy, eqD, D.eqv, pure60, D.pure, D.deep, List.set, setD, putL, cell, methD, mtD, strI, ofSeq, plcC, plcV, unl, lock, unlock, rngD, forL, Itm.ok, stays, List.all_nil, fit0, fit1, fit2, fit3, fit4, fit5, fit6, fit7, fit8, fit9, fit10, fit11, fit12, fit13, fit14, fit15, fit16]
  rw [key]
  rfl
theorem same_int (n : Nat) (M : List Cell) (i : Int) : RN (n+1) (Str.ofString "_law_same") [.val (.int i), .val (.int i)] M = .ok (.val (.bl true)) M := by
  rw [c_same]
  simp [bl_same, evSs, evS, evX, evXs, evEs, evA, evAg, evT, evTB, evB, evG, evGs, evI, Tgs.len, varD, R.bind, biD, bi1, bi2_gcd, lif, toVal, setName, cmpD, truD, negD, binD, intOp, retD, ofBody, fits, sizeLine, callD, call_CN, callkD, slots, Ar.slot, lend, ofCall, subD, seq, lis, L2.atI, L2.ixN, G.atI, isTys, isTy, eqD, D.eqv, pure60, D.pure, D.deep, List.set, setD, putL, cell, methD, mtD, strI, ofSeq, plcC, plcV, unl, lock, unlock, rngD, forL, Itm.ok, stays, List.all_nil]
theorem same_bl (n : Nat) (M : List Cell) (i : Bool) : RN (n+1) (Str.ofString "_law_same") [.val (.bl i), .val (.bl i)] M = .ok (.val (.bl true)) M := by
  rw [c_same]
  simp [bl_same, evSs, evS, evX, evXs, evEs, evA, evAg, evT, evTB, evB, evG, evGs, evI, Tgs.len, varD, R.bind, biD, bi1, bi2_gcd, lif, toVal, setName, cmpD, truD, negD, binD, intOp, retD, ofBody, fits, sizeLine, callD, call_CN, callkD, slots, Ar.slot, lend, ofCall, subD, seq, lis, L2.atI, L2.ixN, G.atI, isTys, isTy, eqD, D.eqv, pure60, D.pure, D.deep, List.set, setD, putL, cell, methD, mtD, strI, ofSeq, plcC, plcV, unl, lock, unlock, rngD, forL, Itm.ok, stays, List.all_nil]
theorem eqD_str (z : Str) : eqD (.str z) (.str z) = some true := by simp [eqD, pure60, D.pure, D.deep, D.eqv]
theorem same_str (n : Nat) (M : List Cell) (z : Str) : RN (n+1) (Str.ofString "_law_same") [.val (.str z), .val (.str z)] M = .ok (.val (.bl true)) M := by
  rw [c_same]
  have e := eqD_str z
  simp [bl_same, evSs, evS, evX, evXs, evEs, evA, evAg, evT, evTB, evB, evG, evGs, evI, Tgs.len, varD, R.bind, biD, bi1, bi2_gcd, lif, toVal, setName_def, isRo_no, isRo_val, isRo_own, cmpD, truD, negD, binD, intOp, retD, ofBody, callD, call_CN, callkD, slots, Ar.slot, lend, ofCall, subD, seq, lis, G.atI, isTys, isTy, D.pure, D.deep, List.set, setD, putL, cell, methD, mtD, strI, ofSeq, plcC, plcV, unl, lock, unlock, rngD, forL, Itm.ok, stays, List.all_nil, fit0, fit1, fit2, fit3, fit4, fit5, fit6, fit7, fit8, fit9, fit10, fit11, fit12, fit13, fit14, fit15, fit16, e]
theorem s_same : ∀ (k : Nat) (d : D), d.deep ≤ k → NP d = true → ∀ (n : Nat) (M : List Cell), k ≤ n → RN (n+1) (Str.ofString "_law_same") [.val d, .val d] M = .ok (.val (.bl true)) M := by
  intro k
  induction k with
  | zero =>
    intro d hd h n M hn
    cases d with
    | int i => exact same_int n M i
    | bl b => exact same_bl n M b
    | str b => exact same_str n M b
    | tup xs => rw [D.deep] at hd; omega
    | _ => cases h
  | succ k ih =>
    intro d hd h n M hn
    cases d with
    | int i => exact same_int n M i
    | bl b => exact same_bl n M b
    | str b => exact same_str n M b
    | tup xs =>
      rw [D.deep] at hd
      rw [NP, Bool.and_eq_true] at h
      have hl := lt_of_blt' h.1
      obtain ⟨m, rfl⟩ : ∃ m, n = m + 1 := ⟨n - 1, by omega⟩
      exact same_tup m M xs hl fun x hx => ih x (Nat.le_trans (deeps_mem x hx) (by omega)) (NPs_mem h.2 x hx) m M (by omega)
    | _ => cases h
end G

/-! ## V13 -/
set_option Elab.async false
set_option linter.all false
set_option maxRecDepth 100000
set_option maxHeartbeats 8000000
namespace G
open PySem
/-! ### the check as the law asks it -/
theorem c_checked (n : Nat) (a b c : Slot) (M : List Cell) : RN (n+1) (Str.ofString "_law_checked") [a, b, c] M = ofBody (evSs (CN n) bl_checked ⟨[a, b, c, .no], M⟩) := rfl
theorem s_checked0 (n : Nat) (M : List Cell) (KS : D) (RS : List D) (d : D) (h : Wd M d) (hl : RS.length < 1000) : RN (n+5) (Str.ofString "_law_checked") [.val (.int 0), .val (.tup [KS, .tup RS]), .val d] M = .ok (.val (dueD (ckV isQ RS.length d))) M := by
  rw [c_checked]
  obtain ⟨C, hC, hg⟩ := opq (n+4)
  rw [← hC]
  have e1 := s_check_values n M KS RS d h hl
  cases hk : ckV isQ RS.length d with
  | ok m =>
    rw [hk] at e1
    have e1 := hg e1
    simp only [ckR] at e1
    generalize D.tup [KS, .tup RS] = ST at *
    simp [bl_checked, evSs, evS, evX, evXs, evEs, evA, evAg, evT, evTB, evB, evG, evGs, evI, Tgs.len, varD, R.bind, biD, bi1, bi2_gcd, lif, toVal, setName_def, isRo_no, isRo_val, isRo_own, cmpD, truD, negD, binD, intOp, retD, ofBody, callD, call_CN, callkD, slots, Ar.slot, lend, ofCall, subD, seq, lis, G.atI, isTys, isTy, eqD, D.eqv, pure60, D.pure, D.deep, List.set, setD, putL, cell, methD, mtD, strI, ofSeq, plcC, plcV, unl, lock, unlock, rngD, forL, Itm.ok, stays, List.all_nil, fit0, fit1, fit2, fit3, fit4, fit5, fit6, fit7, fit8, fit9, fit10, fit11, fit12, fit13, fit14, fit15, fit16, e1, dueD]
  | error i =>
    rw [hk] at e1
    have e1 : C.call (Str.ofString "check_values") [.val (.tup [KS, .tup RS]), .val d] M = .exc ⟨sBV, [(sAt, .int i)]⟩ M := by rw [hC]; exact e1
    generalize D.tup [KS, .tup RS] = ST at *
    simp [bl_checked, evSs, evS, evX, evXs, evEs, evA, evAg, evT, evTB, evB, evG, evGs, evI, Tgs.len, varD, R.bind, biD, bi1, bi2_gcd, lif, toVal, setName_def, isRo_no, isRo_val, isRo_own, cmpD, truD, negD, binD, intOp, retD, ofBody, callD, call_CN, callkD, slots, Ar.slot, lend, ofCall, subD, seq, lis, G.atI, isTys, isTy, eqD, D.eqv, pure60, D.pure, D.deep, List.set, setD, putL, cell, methD, mtD, strI, ofSeq, plcC, plcV, unl, lock, unlock, rngD, forL, Itm.ok, stays, List.all_nil, fit0, fit1, fit2, fit3, fit4, fit5, fit6, fit7, fit8, fit9, fit10, fit11, fit12, fit13, fit14, fit15, fit16, e1, dueD, evHs, evHb, evHx, evHxs, freeS, List.lookup]
theorem s_checked1 (n : Nat) (M : List Cell) (ks : List Kd) (RD : D) (d : D) (h : Wd M d) (hl : ks.length < 1000) : RN (n+6) (Str.ofString "_law_checked") [.val (.int 1), .val (.tup [.tup (ks.map kD), RD]), .val d] M = .ok (.val (dueD (ckC ks d))) M := by
  rw [c_checked]
  obtain ⟨C, hC, hg⟩ := opq (n+5)
  rw [← hC]
  have e1 := s_check_choice n M ks RD d h hl
  cases hk : ckC ks d with
  | ok m =>
    rw [hk] at e1
    have e1 := hg e1
    simp only [ckR] at e1
    generalize D.tup [.tup (ks.map kD), RD] = ST at *
    simp [bl_checked, evSs, evS, evX, evXs, evEs, evA, evAg, evT, evTB, evB, evG, evGs, evI, Tgs.len, varD, R.bind, biD, bi1, bi2_gcd, lif, toVal, setName_def, isRo_no, isRo_val, isRo_own, cmpD, truD, negD, binD, intOp, retD, ofBody, callD, call_CN, callkD, slots, Ar.slot, lend, ofCall, subD, seq, lis, G.atI, isTys, isTy, eqD, D.eqv, pure60, D.pure, D.deep, List.set, setD, putL, cell, methD, mtD, strI, ofSeq, plcC, plcV, unl, lock, unlock, rngD, forL, Itm.ok, stays, List.all_nil, fit0, fit1, fit2, fit3, fit4, fit5, fit6, fit7, fit8, fit9, fit10, fit11, fit12, fit13, fit14, fit15, fit16, e1, dueD]
  | error i =>
    rw [hk] at e1
    have e1 : C.call (Str.ofString "check_choice") [.val (.tup [.tup (ks.map kD), RD]), .val d] M = .exc ⟨sBV, [(sAt, .int i)]⟩ M := by rw [hC]; exact e1
    generalize D.tup [.tup (ks.map kD), RD] = ST at *
    simp [bl_checked, evSs, evS, evX, evXs, evEs, evA, evAg, evT, evTB, evB, evG, evGs, evI, Tgs.len, varD, R.bind, biD, bi1, bi2_gcd, lif, toVal, setName_def, isRo_no, isRo_val, isRo_own, cmpD, truD, negD, binD, intOp, retD, ofBody, callD, call_CN, callkD, slots, Ar.slot, lend, ofCall, subD, seq, lis, G.atI, isTys, isTy, eqD, D.eqv, pure60, D.pure, D.deep, List.set, setD, putL, cell, methD, mtD, strI, ofSeq, plcC, plcV, unl, lock, unlock, rngD, forL, Itm.ok, stays, List.all_nil, fit0, fit1, fit2, fit3, fit4, fit5, fit6, fit7, fit8, fit9, fit10, fit11, fit12, fit13, fit14, fit15, fit16, e1, dueD, evHs, evHb, evHx, evHxs, freeS, List.lookup]
/-! ### both looks -/
def KD (ks : List Kd) (RS : List D) : D := .tup [.tup (ks.map kD), .tup RS]
/-- right things to ask about: lists are there, numbers are small enough -/
def Ask (M : List Cell) (d : D) : Prop := Wd M d ∧ Sb1 d ∧ Sb2 d
theorem dueD_told (r : Except Int Nat) : ∃ x y, dueD r = .tup [.str x, y] ∧ eqD (.str x) (.str sTold) = some (okE r) := by
  cases r with
  | ok m => exact ⟨_, _, rfl, eqD_str _⟩
  | error i => exact ⟨_, _, rfl, (by decide : eqD (.str sBad) (.str sTold) = some false)⟩
theorem dueD_NP (r : Except Int Nat) : NP (dueD r) = true ∧ (dueD r).deep = 1 := by
  cases r <;> exact ⟨rfl, rfl⟩
theorem c_looked (n : Nat) (a b c : Slot) (M : List Cell) : RN (n+1) (Str.ofString "_law_looked") [a, b, c] M = ofBody (evSs (CN n) bl_looked ⟨[a, b, c, .no, .no], M⟩) := rfl
theorem s_looked0 (n : Nat) (M : List Cell) (ks : List Kd) (RS : List D) (d : D) (h : Ask M d) (hl : RS.length < 1000) : RN (n+7) (Str.ofString "_law_looked") [.val (.int 0), .val (KD ks RS), .val d] M = .ok (.val (.bl true)) M := by
  rw [c_looked]
  obtain ⟨C, hC, hg⟩ := opq (n+6)
  rw [← hC]
  have e1 := hg (s_due0 (n+3) M (.tup (ks.map kD)) RS d h.1 h.2.1 hl)
  have e2 := hg (s_are_values (n+2) M (.tup (ks.map kD)) RS d h.1 hl)
  have e3 := hg (s_checked0 (n+1) M (.tup (ks.map kD)) RS d h.1 hl)
  unfold KD
  obtain ⟨x, y, hx, he⟩ := dueD_told (ckV isQ RS.length d)
  obtain ⟨n1, n2⟩ := dueD_NP (ckV isQ RS.length d)
  have n1' : NP (.tup [dueD (ckV isQ RS.length d), .bl (okE (ckV isQ RS.length d))]) = true := by
    simp only [NP, NPs, n1]
    rfl
  have e4 := hg (s_same 2 (.tup [dueD (ckV isQ RS.length d), .bl (okE (ckV isQ RS.length d))]) (by simp [D.deep, D.deeps, n2]) n1' (n+5) M (by omega))
  generalize okE (ckV isQ RS.length d) = ok at *
  rw [hx] at e1 e3 e4
  have g0 : L2.atI [.str x, y] 0 = some (.str x) := rfl
  generalize D.tup [.tup (ks.map kD), .tup RS] = ST at *
  have i0 : evS C l_looked_0 ⟨[.val (.int 0), .val ST, .val d, .no, .no], M⟩ = .ok .nx ⟨[.val (.int 0), .val ST, .val d, .val (.tup [.str x, y]), .no], M⟩ := by
    simp [evSs, evS, evX, evXs, evEs, evA, evAg, evT, evTB, evB, evG, evGs, evI, Tgs.len, varD, R.bind, biD, bi1, bi2_gcd, lif, toVal, setName_def, isRo_no, isRo_val, isRo_own, cmpD, truD, negD, binD, intOp, retD, ofBody, callD, call_CN, callkD, slots, Ar.slot, lend, ofCall, subD, seq, lis, G.atI, isTys, isTy, D.pure, D.deep, List.set, setD, putL, cell, methD, mtD, strI, ofSeq, plcC, plcV, unl, lock, unlock, rngD, forL, Itm.ok, stays, List.all_nil, fit0, fit1, fit2, fit3, fit4, fit5, fit6, fit7, fit8, fit9, fit10, fit11, fit12, fit13, fit14, fit15, fit16, e1]
  have i1 : evS C l_looked_1 ⟨[.val (.int 0), .val ST, .val d, .val (.tup [.str x, y]), .no], M⟩ = .ok .nx ⟨[.val (.int 0), .val ST, .val d, .val (.tup [.str x, y]), .val (.bl ok)], M⟩ := by
    simp [evSs, evS, evX, evXs, evEs, evA, evAg, evT, evTB, evB, evG, evGs, evI, Tgs.len, varD, R.bind, biD, bi1, bi2_gcd, lif, toVal, setName_def, isRo_no, isRo_val, isRo_own, cmpD, truD, negD, binD, intOp, retD, ofBody, callD, call_CN, callkD, slots, Ar.slot, lend, ofCall, subD, seq, lis, G.atI, isTys, isTy, eqD, D.eqv, pure60, D.pure, D.deep, List.set, setD, putL, cell, methD, mtD, strI, ofSeq, plcC, plcV, unl, lock, unlock, rngD, forL, Itm.ok, stays, List.all_nil, fit0, fit1, fit2, fit3, fit4, fit5, fit6, fit7, fit8, fit9, fit10, fit11, fit12, fit13, fit14, fit15, fit16, e2]
  unfold bl_looked
  rw [seq_nx i0, seq_nx i1]
  have he : eqD (.str x) (.str (Str.ofString "told")) = some ok := he
  simp [evSs, evS, evX, evXs, evEs, evA, evAg, evT, evTB, evB, evG, evGs, evI, Tgs.len, varD, R.bind, biD, bi1, bi2_gcd, lif, toVal, setName_def, isRo_no, isRo_val, isRo_own, cmpD, truD, negD, binD, intOp, retD, ofBody, callD, call_CN, callkD, slots, Ar.slot, lend, ofCall, subD, seq, lis, G.atI, isTys, isTy, D.pure, D.deep, List.set, setD, putL, cell, methD, mtD, strI, ofSeq, plcC, plcV, unl, lock, unlock, rngD, forL, Itm.ok, stays, List.all_nil, fit0, fit1, fit2, fit3, fit4, fit5, fit6, fit7, fit8, fit9, fit10, fit11, fit12, fit13, fit14, fit15, fit16, e3, g0, he, e4]
theorem s_looked1 (n : Nat) (M : List Cell) (ks : List Kd) (RS : List D) (d : D) (h : Ask M d) (hl : ks.length < 1000) : RN (n+7) (Str.ofString "_law_looked") [.val (.int 1), .val (KD ks RS), .val d] M = .ok (.val (.bl true)) M := by
  rw [c_looked]
  obtain ⟨C, hC, hg⟩ := opq (n+6)
  rw [← hC]
  have e1 := hg (s_due1 (n+2) M ks (.tup RS) d h.1 h.2.2 hl)
  have e2 := hg (s_is_choice (n+1) M ks (.tup RS) d h.1 hl)
  have e3 := hg (s_checked1 n M ks (.tup RS) d h.1 hl)
  unfold KD
  obtain ⟨x, y, hx, he⟩ := dueD_told (ckC ks d)
  obtain ⟨n1, n2⟩ := dueD_NP (ckC ks d)
  have n1' : NP (.tup [dueD (ckC ks d), .bl (okE (ckC ks d))]) = true := by
    simp only [NP, NPs, n1]
    rfl
  have e4 := hg (s_same 2 (.tup [dueD (ckC ks d), .bl (okE (ckC ks d))]) (by simp [D.deep, D.deeps, n2]) n1' (n+5) M (by omega))
  generalize okE (ckC ks d) = ok at *
  rw [hx] at e1 e3 e4
  have g0 : L2.atI [.str x, y] 0 = some (.str x) := rfl
  generalize D.tup [.tup (ks.map kD), .tup RS] = ST at *
  have i0 : evS C l_looked_0 ⟨[.val (.int 1), .val ST, .val d, .no, .no], M⟩ = .ok .nx ⟨[.val (.int 1), .val ST, .val d, .val (.tup [.str x, y]), .no], M⟩ := by
    simp [evSs, evS, evX, evXs, evEs, evA, evAg, evT, evTB, evB, evG, evGs, evI, Tgs.len, varD, R.bind, biD, bi1, bi2_gcd, lif, toVal, setName_def, isRo_no, isRo_val, isRo_own, cmpD, truD, negD, binD, intOp, retD, ofBody, callD, call_CN, callkD, slots, Ar.slot, lend, ofCall, subD, seq, lis, G.atI, isTys, isTy, D.pure, D.deep, List.set, setD, putL, cell, methD, mtD, strI, ofSeq, plcC, plcV, unl, lock, unlock, rngD, forL, Itm.ok, stays, List.all_nil, fit0, fit1, fit2, fit3, fit4, fit5, fit6, fit7, fit8, fit9, fit10, fit11, fit12, fit13, fit14, fit15, fit16, e1]
  have i1 : evS C l_looked_1 ⟨[.val (.int 1), .val ST, .val d, .val (.tup [.str x, y]), .no], M⟩ = .ok .nx ⟨[.val (.int 1), .val ST, .val d, .val (.tup [.str x, y]), .val (.bl ok)], M⟩ := by
    simp [evSs, evS, evX, evXs, evEs, evA, evAg, evT, evTB, evB, evG, evGs, evI, Tgs.len, varD, R.bind, biD, bi1, bi2_gcd, lif, toVal, setName_def, isRo_no, isRo_val, isRo_own, cmpD, truD, negD, binD, intOp, retD, ofBody, callD, call_CN, callkD, slots, Ar.slot, lend, ofCall, subD, seq, lis, G.atI, isTys, isTy, eqD, D.eqv, pure60, D.pure, D.deep, List.set, setD, putL, cell, methD, mtD, strI, ofSeq, plcC, plcV, unl, lock, unlock, rngD, forL, Itm.ok, stays, List.all_nil, fit0, fit1, fit2, fit3, fit4, fit5, fit6, fit7, fit8, fit9, fit10, fit11, fit12, fit13, fit14, fit15, fit16, e2]
  unfold bl_looked
  rw [seq_nx i0, seq_nx i1]
  have he : eqD (.str x) (.str (Str.ofString "told")) = some ok := he
  simp [evSs, evS, evX, evXs, evEs, evA, evAg, evT, evTB, evB, evG, evGs, evI, Tgs.len, varD, R.bind, biD, bi1, bi2_gcd, lif, toVal, setName_def, isRo_no, isRo_val, isRo_own, cmpD, truD, negD, binD, intOp, retD, ofBody, callD, call_CN, callkD, slots, Ar.slot, lend, ofCall, subD, seq, lis, G.atI, isTys, isTy, D.pure, D.deep, List.set, setD, putL, cell, methD, mtD, strI, ofSeq, plcC, plcV, unl, lock, unlock, rngD, forL, Itm.ok, stays, List.all_nil, fit0, fit1, fit2, fit3, fit4, fit5, fit6, fit7, fit8, fit9, fit10, fit11, fit12, fit13, fit14, fit15, fit16, e3, g0, he, e4]
end G

/-! ## V14 -/
set_option Elab.async false
set_option linter.all false
set_option maxRecDepth 100000
set_option maxHeartbeats 8000000
namespace G
open PySem
/-! ### the basin -/
theorem lt_get {α : Type} {xs : List α} {j : Nat} {x : α} (h : xs[j]? = some x) : j < xs.length := (List.getElem?_eq_some_iff.mp h).1
theorem Sm64 {i : Int} (h : i.natAbs < 2 ^ 64) : Sm i = true := Sm_ok (p64 h)
theorem Sd64 {i : Int} (h : i.natAbs < 2 ^ 64) (h0 : i ≠ 0) : Sd i = true := Sd_ok (p64 h) h0
theorem fmod_nn {a b : Int} (h : 0 < b) : 0 ≤ a.fmod b ∧ a.fmod b < b := ⟨Int.fmod_nonneg_of_pos _ h, Int.fmod_lt_of_pos _ h⟩
abbrev kMix : Str := Str.ofString "mixed"
abbrev kGr : Str := Str.ofString "great"
abbrev kTurn : Str := Str.ofString "turn"
abbrev kOwn : Str := Str.ofString "own"
def dBas (mx tn ow : Int) : List (Str × D) := [(kMix, .int mx), (kGr, .loc 0), (kTurn, .int tn), (kOwn, .int ow)]
def Basin (T : Nat) (M : List Cell) : Prop := ∃ (zs : List Int) (mx tn ow : Int), M[0]? = some (.lst (zs.map D.int)) ∧ M[1]? = some (.dct (dBas mx tn ow)) ∧ (∀ z ∈ zs, 0 ≤ z) ∧ zs.length < 1000 ∧ 0 ≤ mx ∧ mx < 2147483647 ∧ 0 ≤ tn ∧ tn ≤ T ∧ 0 ≤ ow ∧ ow < 2147483647
theorem Basin.up {T : Nat} {M : List Cell} (h : Basin T M) (U : Nat) (hu : T ≤ U) : Basin U M := by
  obtain ⟨zs, mx, tn, ow, h1, h2, h3, h4, h5, h6, h7, h8, h9⟩ := h
  exact ⟨zs, mx, tn, ow, h1, h2, h3, h4, h5, h6, h7, by omega, h9⟩
theorem Basin.app {T : Nat} {M : List Cell} {x : Cell} (h : Basin T M) : Basin T (M ++ [x]) := by
  obtain ⟨zs, mx, tn, ow, h0, h1, r⟩ := h
  exact ⟨zs, mx, tn, ow, by rw [List.getElem?_append_left (lt_get h0)]; exact h0, by rw [List.getElem?_append_left (lt_get h1)]; exact h1, r⟩
/-- lists stay lists -/
def Ls (M M' : List Cell) : Prop := ∀ (i : Nat) (xs : List D), M[i]? = some (Cell.lst xs) → ∃ ys : List D, M'[i]? = some (Cell.lst ys)
theorem map_erase (f : Int → D) : ∀ (xs : List Int) (m : Nat), (xs.map f).eraseIdx m = (xs.eraseIdx m).map f
  | [], _ => rfl
  | x :: xs, 0 => rfl
  | x :: xs, m + 1 => congrArg (f x :: ·) (map_erase f xs m)
theorem Ls.refl (M : List Cell) : Ls M M := fun i xs h => ⟨xs, h⟩
theorem Ls.trans {A B C : List Cell} (h : Ls A B) (k : Ls B C) : Ls A C := fun i xs e => by
  obtain ⟨ys, e2⟩ := h i xs e
  exact k i ys e2
theorem Ls.app (M : List Cell) (x : Cell) : Ls M (M ++ [x]) := fun i xs h => ⟨xs, by rw [List.getElem?_append_left (lt_get h)]; exact h⟩
theorem Ls.set {M : List Cell} {u : Nat} (ys : List D) : Ls M (M.set u (.lst ys)) := fun i xs h => by
  by_cases e : i = u
  · subst e
    exact ⟨ys, List.getElem?_set_self (lt_get h)⟩
  · exact ⟨xs, by rw [List.getElem?_set_ne (Ne.symm e)]; exact h⟩
theorem Ls.setD {M : List Cell} {u : Nat} {kv kw : List (Str × D)} (hu : M[u]? = some (.dct kv)) : Ls M (M.set u (.dct kw)) := fun i xs h => by
  by_cases e : i = u
  · subst e
    rw [hu] at h
    cases h
  · exact ⟨xs, by rw [List.getElem?_set_ne (Ne.symm e)]; exact h⟩
mutual
theorem Wd.up {M M' : List Cell} (h : Ls M M') : ∀ {d : D}, Wd M d → Wd M' d
  | .non, _ => trivial
  | .bl _, _ => trivial
  | .int _, _ => trivial
  | .str _, _ => trivial
  | .tup xs, w => by
    simp only [Wd] at w ⊢
    exact Wds.up h w
  | .loc n, w => by
    simp only [Wd] at w ⊢
    obtain ⟨xs, e⟩ := w
    exact h n xs e
theorem Wds.up {M M' : List Cell} (h : Ls M M') : ∀ {ds : List D}, Wds M ds → Wds M' ds
  | [], _ => trivial
  | d :: ds, w => by
    simp only [Wds] at w ⊢
    exact ⟨Wd.up h w.1, Wds.up h w.2⟩
end
theorem g_mix (a b c d : D) : getS [(kMix, a), (kGr, b), (kTurn, c), (kOwn, d)] kMix = some a := rfl
theorem g_gr (a b c d : D) : getS [(kMix, a), (kGr, b), (kTurn, c), (kOwn, d)] kGr = some b := rfl
theorem g_turn (a b c d : D) : getS [(kMix, a), (kGr, b), (kTurn, c), (kOwn, d)] kTurn = some c := rfl
theorem g_own (a b c d : D) : getS [(kMix, a), (kGr, b), (kTurn, c), (kOwn, d)] kOwn = some d := rfl
theorem p_mix (a b c d e : D) : putS [(kMix, a), (kGr, b), (kTurn, c), (kOwn, d)] kMix e = [(kMix, e), (kGr, b), (kTurn, c), (kOwn, d)] := rfl
theorem p_turn (a b c d e : D) : putS [(kMix, a), (kGr, b), (kTurn, c), (kOwn, d)] kTurn e = [(kMix, a), (kGr, b), (kTurn, e), (kOwn, d)] := rfl
theorem sl4 : 4 < sizeLine := by decide
theorem ix_nat {m k : Nat} (h : m < k) : L2.ixN k (m : Int) = some m := by
  unfold L2.ixN
  simp [h]
theorem sx_nat {m k : Nat} (h : m < k) : seqIndex? (m : Int) k = some m := by
  unfold seqIndex?
  have : ¬ (m : Int) < 0 := by omega
  simp [h, this]
theorem c_scoop3 (n : Nat) (a b c : Slot) (M : List Cell) : RN (n+1) (Str.ofString "_law_scoop") [a, b, c] M = ofBody (evSs (CN n) bl_scoop ⟨[a, b, c, .no, .no], M⟩) := rfl
theorem c_scoop2 (n : Nat) (a b : Slot) (M : List Cell) : RN (n+1) (Str.ofString "_law_scoop") [a, b] M = ofBody (evSs (CN n) bl_scoop ⟨[a, b, .val (.int 0), .no, .no], M⟩) := rfl
theorem scoop_gr {C : Cn} {M1 : List Cell} {A B : List D} {m : Nat} {mx ow : D} {tn many p z q : Int} (u0 : M1[0]? = some (.lst A)) (u1 : M1[1]? = some (.dct [(kMix, mx), (kGr, .loc 0), (kTurn, .int tn), (kOwn, ow)])) (hne : ¬ A = []) (hm : tn.fmod (A.length : Int) = (m : Int)) (hat : L2.atI A (m : Int) = some (.int z)) (hix : L2.ixN A.length (m : Int) = some m)
    (hq : z.fdiv many = q) (hset : A.set m (.int q) = B) (w0 : (M1.set 0 (.lst B))[0]? = some (.lst B)) (w1 : (M1.set 0 (.lst B))[1]? = some (.dct [(kMix, mx), (kGr, .loc 0), (kTurn, .int tn), (kOwn, ow)])) (hat2 : L2.atI B (m : Int) = some (.int q)) (sdm : Sd many = true) (n0 : many ≠ 0) (q0 : q ≠ 0) :
    evS C l_scoop_1 ⟨[.val (.loc 1), .val (.int many), .val (.int p), .no, .no], M1⟩ = .ok (.rt (.val (.int (z.fmod many)))) ⟨[.val (.loc 1), .val (.int many), .val (.int p), .val (.int m), .val (.int z)], M1.set 0 (.lst B)⟩ := by
  have hemp : A.isEmpty = false := by rw [List.isEmpty_eq_false_iff]; exact hne
  simp [evSs, evS, evX, evXs, evEs, evA, evAg, evT, evTB, evB, evG, evGs, evI, Tgs.len, varD, R.bind, biD, bi1, bi2_gcd, lif, toVal, setName_def, isRo_no, isRo_val, isRo_own, cmpD, truD, negD, binD, intOp, retD, ofBody, callD, call_CN, callkD, slots, Ar.slot, lend, ofCall, subD, seq, lis, G.atI, isTys, isTy, eqD, D.eqv, pure60, D.pure, D.deep, List.set, setD, putL, cell, methD, mtD, strI, ofSeq, plcC, plcV, unl, lock, unlock, rngD, forL, Itm.ok, stays, List.all_nil, fit0, fit1, fit2, fit3, fit4, fit5, fit6, fit7, fit8, fit9, fit10, fit11, fit12, fit13, fit14, fit15, fit16, dctOf, u1, u0, g_gr, g_turn, hm, hemp, hne, hat, hix, hset, sdm, n0, hq, w0, w1, hat2, q0]
theorem scoop_gr0 {C : Cn} {M1 : List Cell} {A B : List D} {m : Nat} {mx ow : D} {tn many p z : Int} (u0 : M1[0]? = some (.lst A)) (u1 : M1[1]? = some (.dct [(kMix, mx), (kGr, .loc 0), (kTurn, .int tn), (kOwn, ow)])) (hne : ¬ A = []) (hm : tn.fmod (A.length : Int) = (m : Int)) (hat : L2.atI A (m : Int) = some (.int z)) (hix : L2.ixN A.length (m : Int) = some m)
    (hq : z.fdiv many = 0) (hset : A.set m (.int 0) = B) (w0 : (M1.set 0 (.lst B))[0]? = some (.lst B)) (w1 : (M1.set 0 (.lst B))[1]? = some (.dct [(kMix, mx), (kGr, .loc 0), (kTurn, .int tn), (kOwn, ow)])) (hat2 : L2.atI B (m : Int) = some (.int 0)) (sdm : Sd many = true) (n0 : many ≠ 0)
    (b1 : (-(2 ^ 63) : Int) ≤ (m : Int)) (b2 : (m : Int) < 2 ^ 63) (hsx : seqIndex? (m : Int) B.length = some m) (gA : B[m]? = some (.int 0)) :
    evS C l_scoop_1 ⟨[.val (.loc 1), .val (.int many), .val (.int p), .no, .no], M1⟩ = .ok (.rt (.val (.int (z.fmod many)))) ⟨[.val (.loc 1), .val (.int many), .val (.int p), .val (.int m), .val (.int z)], M1.set 0 (.lst (B.eraseIdx m))⟩ := by
  have hemp : A.isEmpty = false := by rw [List.isEmpty_eq_false_iff]; exact hne
  have b3 : (m : Int) < 9223372036854775808 := by omega
  have b4 : m < 9223372036854775808 := by omega
  simp [evSs, evS, evX, evXs, evEs, evA, evAg, evT, evTB, evB, evG, evGs, evI, Tgs.len, varD, R.bind, biD, bi1, bi2_gcd, lif, toVal, setName_def, isRo_no, isRo_val, isRo_own, cmpD, truD, negD, binD, intOp, retD, ofBody, callD, call_CN, callkD, slots, Ar.slot, lend, ofCall, subD, seq, lis, G.atI, isTys, isTy, eqD, D.eqv, pure60, D.pure, D.deep, List.set, setD, putL, cell, methD, mtD, strI, ofSeq, plcC, plcV, unl, lock, unlock, rngD, forL, Itm.ok, stays, List.all_nil, fit0, fit1, fit2, fit3, fit4, fit5, fit6, fit7, fit8, fit9, fit10, fit11, fit12, fit13, fit14, fit15, fit16, dctOf, u1, u0, g_gr, g_turn, hm, hemp, hne, hat, hix, hset, sdm, n0, hq, w0, w1, hat2, b3, hsx, gA]
theorem scoop_body (n : Nat) (M : List Cell) (T : Nat) (many p : Int) (B : Basin T M) (hm : 1 ≤ many) (hm2 : many < 2 ^ 60) (hT : T < 2 ^ 30) (hp : 0 ≤ p) (hp2 : p < 100) :
    ∃ v M', ofBody (evSs (CN n) bl_scoop ⟨[.val (.loc 1), .val (.int many), .val (.int p), .no, .no], M⟩) = .ok (.val (.int v)) M' ∧ 0 ≤ v ∧ v < many ∧ Basin (T + 1) M' ∧ Ls M M' ∧ M'.length = M.length := by
  obtain ⟨C, hC, hg⟩ := opq n
  rw [← hC]
  obtain ⟨zs, mx, tn, ow, m0, m1, pz, lz, x0, x1, t0, t1, o0, o1⟩ := B
  have h0 : 0 < M.length := lt_get m0
  have h1 : 1 < M.length := lt_get m1
  have m1' : M[1]? = some (.dct [(kMix, .int mx), (kGr, .loc 0), (kTurn, .int tn), (kOwn, .int ow)]) := m1
  have n0 : many ≠ 0 := by omega
  have sdm : Sd many = true := Sd64 (by omega) n0
  have fm := fun a => fmod_nn (a := a) (b := many) (by omega)
  have i0 : evS C l_scoop_0 ⟨[.val (.loc 1), .val (.int many), .val (.int p), .no, .no], M⟩ = .ok .nx ⟨[.val (.loc 1), .val (.int many), .val (.int p), .no, .no], M.set 1 (.dct (dBas mx (tn + 1) ow))⟩ := by
    simp [evSs, evS, evX, evXs, evEs, evA, evAg, evT, evTB, evB, evG, evGs, evI, Tgs.len, varD, R.bind, biD, bi1, bi2_gcd, lif, toVal, setName_def, isRo_no, isRo_val, isRo_own, cmpD, truD, negD, binD, intOp, retD, ofBody, callD, call_CN, callkD, slots, Ar.slot, lend, ofCall, subD, seq, lis, G.atI, isTys, isTy, eqD, D.eqv, pure60, D.pure, D.deep, List.set, setD, putL, cell, methD, mtD, strI, ofSeq, plcC, plcV, unl, lock, unlock, rngD, forL, Itm.ok, stays, List.all_nil, fit0, fit1, fit2, fit3, fit4, fit5, fit6, fit7, fit8, fit9, fit10, fit11, fit12, fit13, fit14, fit15, fit16, dctOf, m1', g_turn, p_turn, sl4, dBas]
  have u0 : (M.set 1 (.dct (dBas mx (tn + 1) ow)))[0]? = some (.lst (zs.map D.int)) := by rw [List.getElem?_set_ne (by decide)]; exact m0
  have u1 : (M.set 1 (.dct (dBas mx (tn + 1) ow)))[1]? = some (.dct [(kMix, .int mx), (kGr, .loc 0), (kTurn, .int (tn + 1)), (kOwn, .int ow)]) := List.getElem?_set_self h1
  have X1 : Ls M (M.set 1 (.dct (dBas mx (tn + 1) ow))) := Ls.setD m1
  have N1 : (M.set 1 (.dct (dBas mx (tn + 1) ow))).length = M.length := List.length_set
  generalize M.set 1 (.dct (dBas mx (tn + 1) ow)) = M1 at *
  have l0 : 0 < M1.length := by omega
  have l1 : 1 < M1.length := by omega
  unfold bl_scoop
  rw [seq_nx i0]
  by_cases hz : zs.length = 0
  · have hz : zs = [] := List.eq_nil_of_length_eq_zero hz
    subst hz
    have u0 : M1[0]? = some (.lst []) := u0
    have i1 : evS C l_scoop_1 ⟨[.val (.loc 1), .val (.int many), .val (.int p), .no, .no], M1⟩ = .ok .nx ⟨[.val (.loc 1), .val (.int many), .val (.int p), .no, .no], M1⟩ := by
      simp [evSs, evS, evX, evXs, evEs, evA, evAg, evT, evTB, evB, evG, evGs, evI, Tgs.len, varD, R.bind, biD, bi1, bi2_gcd, lif, toVal, setName_def, isRo_no, isRo_val, isRo_own, cmpD, truD, negD, binD, intOp, retD, ofBody, callD, call_CN, callkD, slots, Ar.slot, lend, ofCall, subD, seq, lis, G.atI, isTys, isTy, eqD, D.eqv, pure60, D.pure, D.deep, List.set, setD, putL, cell, methD, mtD, strI, ofSeq, plcC, plcV, unl, lock, unlock, rngD, forL, Itm.ok, stays, List.all_nil, fit0, fit1, fit2, fit3, fit4, fit5, fit6, fit7, fit8, fit9, fit10, fit11, fit12, fit13, fit14, fit15, fit16, dctOf, u1, u0, g_gr]
    have c1 : Sm mx = true := Sm64 (by omega)
    have c2 : Sm 48271 = true := Sm64 (by decide)
    obtain ⟨q1, q2⟩ := fmod_nn (a := mx * 48271 + (tn + 1)) (b := 2147483647) (by decide)
    have i2 : evS C l_scoop_2 ⟨[.val (.loc 1), .val (.int many), .val (.int p), .no, .no], M1⟩ = .ok .nx ⟨[.val (.loc 1), .val (.int many), .val (.int p), .no, .no], M1.set 1 (.dct (dBas ((mx * 48271 + (tn + 1)).fmod 2147483647) (tn + 1) ow))⟩ := by
      simp [evSs, evS, evX, evXs, evEs, evA, evAg, evT, evTB, evB, evG, evGs, evI, Tgs.len, varD, R.bind, biD, bi1, bi2_gcd, lif, toVal, setName_def, isRo_no, isRo_val, isRo_own, cmpD, truD, negD, binD, intOp, retD, ofBody, callD, call_CN, callkD, slots, Ar.slot, lend, ofCall, subD, seq, lis, G.atI, isTys, isTy, eqD, D.eqv, pure60, D.pure, D.deep, List.set, setD, putL, cell, methD, mtD, strI, ofSeq, plcC, plcV, unl, lock, unlock, rngD, forL, Itm.ok, stays, List.all_nil, fit0, fit1, fit2, fit3, fit4, fit5, fit6, fit7, fit8, fit9, fit10, fit11, fit12, fit13, fit14, fit15, fit16, dctOf, u1, g_mix, g_turn, p_mix, c1, c2, sl4, dBas]
    generalize (mx * 48271 + (tn + 1)).fmod 2147483647 = mx' at *
    have v0 : (M1.set 1 (.dct (dBas mx' (tn + 1) ow)))[0]? = some (.lst (([] : List Int).map D.int)) := by rw [List.getElem?_set_ne (by decide)]; exact u0
    have v1 : (M1.set 1 (.dct (dBas mx' (tn + 1) ow)))[1]? = some (.dct [(kMix, .int mx'), (kGr, .loc 0), (kTurn, .int (tn + 1)), (kOwn, .int ow)]) := List.getElem?_set_self l1
    have X2 : Ls M (M1.set 1 (.dct (dBas mx' (tn + 1) ow))) := X1.trans (Ls.setD u1)
    have N2 : (M1.set 1 (.dct (dBas mx' (tn + 1) ow))).length = M.length := by rw [List.length_set]; exact N1
    generalize M1.set 1 (.dct (dBas mx' (tn + 1) ow)) = M2 at *
    have B2 : Basin (T + 1) M2 := ⟨[], mx', tn + 1, ow, v0, v1, pz, lz, q1, q2, by omega, by omega, o0, o1⟩
    rw [seq_nx i1, seq_nx i2]
    have d5 : Sd (p + 5) = true := Sd64 (by omega) (by omega)
    have n5 : ¬ p + 5 = 0 := by omega
    have d601 : Sd 601 = true := by decide
    by_cases hp0 : 0 < p
    · by_cases k1 : (ow.fdiv (p + 5)).fmod 8 = 1
      · refine ⟨many - 1, M2, ?_, by omega, by omega, B2, X2, N2⟩
        simp [evSs, evS, evX, evXs, evEs, evA, evAg, evT, evTB, evB, evG, evGs, evI, Tgs.len, varD, R.bind, biD, bi1, bi2_gcd, lif, toVal, setName_def, isRo_no, isRo_val, isRo_own, cmpD, truD, negD, binD, intOp, retD, ofBody, callD, call_CN, callkD, slots, Ar.slot, lend, ofCall, subD, seq, lis, G.atI, isTys, isTy, eqD, D.eqv, pure60, D.pure, D.deep, List.set, setD, putL, cell, methD, mtD, strI, ofSeq, plcC, plcV, unl, lock, unlock, rngD, forL, Itm.ok, stays, List.all_nil, fit0, fit1, fit2, fit3, fit4, fit5, fit6, fit7, fit8, fit9, fit10, fit11, fit12, fit13, fit14, fit15, fit16, dctOf, v1, g_own, d5, n5, hp0, k1]
      · by_cases k2 : (ow.fdiv (p + 5)).fmod 8 = 2
        · refine ⟨0, M2, ?_, by omega, by omega, B2, X2, N2⟩
          simp [evSs, evS, evX, evXs, evEs, evA, evAg, evT, evTB, evB, evG, evGs, evI, Tgs.len, varD, R.bind, biD, bi1, bi2_gcd, lif, toVal, setName_def, isRo_no, isRo_val, isRo_own, cmpD, truD, negD, binD, intOp, retD, ofBody, callD, call_CN, callkD, slots, Ar.slot, lend, ofCall, subD, seq, lis, G.atI, isTys, isTy, eqD, D.eqv, pure60, D.pure, D.deep, List.set, setD, putL, cell, methD, mtD, strI, ofSeq, plcC, plcV, unl, lock, unlock, rngD, forL, Itm.ok, stays, List.all_nil, fit0, fit1, fit2, fit3, fit4, fit5, fit6, fit7, fit8, fit9, fit10, fit11, fit12, fit13, fit14, fit15, fit16, dctOf, v1, g_own, d5, n5, hp0, k2]
        · refine ⟨(mx'.fdiv 601).fmod many, M2, ?_, (fm _).1, (fm _).2, B2, X2, N2⟩
          simp [evSs, evS, evX, evXs, evEs, evA, evAg, evT, evTB, evB, evG, evGs, evI, Tgs.len, varD, R.bind, biD, bi1, bi2_gcd, lif, toVal, setName_def, isRo_no, isRo_val, isRo_own, cmpD, truD, negD, binD, intOp, retD, ofBody, callD, call_CN, callkD, slots, Ar.slot, lend, ofCall, subD, seq, lis, G.atI, isTys, isTy, eqD, D.eqv, pure60, D.pure, D.deep, List.set, setD, putL, cell, methD, mtD, strI, ofSeq, plcC, plcV, unl, lock, unlock, rngD, forL, Itm.ok, stays, List.all_nil, fit0, fit1, fit2, fit3, fit4, fit5, fit6, fit7, fit8, fit9, fit10, fit11, fit12, fit13, fit14, fit15, fit16, dctOf, v1, g_own, g_mix, d5, n5, hp0, k1, k2, d601, n0]
    · refine ⟨(mx'.fdiv 601).fmod many, M2, ?_, (fm _).1, (fm _).2, B2, X2, N2⟩
      simp [evSs, evS, evX, evXs, evEs, evA, evAg, evT, evTB, evB, evG, evGs, evI, Tgs.len, varD, R.bind, biD, bi1, bi2_gcd, lif, toVal, setName_def, isRo_no, isRo_val, isRo_own, cmpD, truD, negD, binD, intOp, retD, ofBody, callD, call_CN, callkD, slots, Ar.slot, lend, ofCall, subD, seq, lis, G.atI, isTys, isTy, eqD, D.eqv, pure60, D.pure, D.deep, List.set, setD, putL, cell, methD, mtD, strI, ofSeq, plcC, plcV, unl, lock, unlock, rngD, forL, Itm.ok, stays, List.all_nil, fit0, fit1, fit2, fit3, fit4, fit5, fit6, fit7, fit8, fit9, fit10, fit11, fit12, fit13, fit14, fit15, fit16, dctOf, v1, g_mix, hp0, d601, n0]
  · have zpos : (0 : Int) < (zs.length : Int) := by omega
    have zne : ¬ (zs.length : Int) = 0 := by omega
    have hzn : ¬ zs = [] := fun e => hz (by rw [e]; rfl)
    obtain ⟨a0, a1⟩ := fmod_nn (a := tn + 1) zpos
    obtain ⟨m, hm'⟩ := Int.eq_ofNat_of_zero_le a0
    have hml : m < zs.length := by omega
    have hz1 : zs[m]? = some zs[m] := List.getElem?_eq_getElem hml
    have hzp : 0 ≤ zs[m] := pz _ (List.getElem_mem hml)
    generalize zs[m] = z at *
    have q0 : 0 ≤ z.fdiv many := Int.fdiv_nonneg hzp (by omega)
    have hat : L2.atI (zs.map D.int) (m : Int) = some (.int z) := atI_nat (by rw [List.getElem?_map, hz1]; rfl)
    have hlm : (zs.map D.int).length = zs.length := List.length_map _
    have hix := ix_nat hml
    have hsx := sx_nat hml
    have hset : (zs.map D.int).set m (.int (z.fdiv many)) = (zs.set m (z.fdiv many)).map D.int := List.map_set.symm
    have b1 : (-(2 ^ 63) : Int) ≤ (m : Int) := by omega
    have b2 : (m : Int) < 2 ^ 63 := by omega
    have w0 : (M1.set 0 (.lst ((zs.set m (z.fdiv many)).map D.int)))[0]? = some (.lst ((zs.set m (z.fdiv many)).map D.int)) := List.getElem?_set_self l0
    have w1 : (M1.set 0 (.lst ((zs.set m (z.fdiv many)).map D.int)))[1]? = some (.dct [(kMix, .int mx), (kGr, .loc 0), (kTurn, .int (tn + 1)), (kOwn, .int ow)]) := by rw [List.getElem?_set_ne (by decide)]; exact u1
    have hat2 : L2.atI ((zs.set m (z.fdiv many)).map D.int) (m : Int) = some (.int (z.fdiv many)) := atI_nat (by rw [List.getElem?_map, List.getElem?_set_self hml]; rfl)
    have hne : zs.map D.int ≠ [] := by
      intro e
      have := congrArg List.length e
      rw [hlm] at this
      exact hz this
    have hemp : (zs.map D.int).isEmpty = false := by rw [List.isEmpty_eq_false_iff]; exact hne
    have lset : ((zs.set m (z.fdiv many)).map D.int).length = zs.length := by rw [List.length_map, List.length_set]
    have hdrop : ((zs.set m (z.fdiv many)).map D.int).eraseIdx m = ((zs.set m (z.fdiv many)).eraseIdx m).map D.int := map_erase _ _ _
    have gA : ((zs.set m (z.fdiv many)).map D.int)[m]? = some (.int (z.fdiv many)) := by rw [List.getElem?_map, List.getElem?_set_self hml]; rfl
    have p1 : ∀ w ∈ zs.set m (z.fdiv many), 0 ≤ w := fun w hw => by
      rcases List.mem_or_eq_of_mem_set hw with h | h
      · exact pz w h
      · rw [h]; exact q0
    have p2 : ∀ w ∈ (zs.set m (z.fdiv many)).eraseIdx m, 0 ≤ w := fun w hw => p1 w (List.mem_of_mem_eraseIdx hw)
    have le1 : (zs.set m (z.fdiv many)).length < 1000 := by rw [List.length_set]; exact lz
    have le2 : ((zs.set m (z.fdiv many)).eraseIdx m).length < 1000 := Nat.lt_of_le_of_lt (List.length_eraseIdx_le _ _) le1
    have Y1 : Ls M (M1.set 0 (.lst ((zs.set m (z.fdiv many)).map D.int))) := X1.trans (Ls.set _)
    have Y2 : Ls M (M1.set 0 (.lst (((zs.set m (z.fdiv many)).eraseIdx m).map D.int))) := X1.trans (Ls.set _)
    have z0 : (M1.set 0 (.lst (((zs.set m (z.fdiv many)).eraseIdx m).map D.int)))[0]? = some (.lst (((zs.set m (z.fdiv many)).eraseIdx m).map D.int)) := List.getElem?_set_self l0
    have z1 : (M1.set 0 (.lst (((zs.set m (z.fdiv many)).eraseIdx m).map D.int)))[1]? = some (.dct [(kMix, .int mx), (kGr, .loc 0), (kTurn, .int (tn + 1)), (kOwn, .int ow)]) := by rw [List.getElem?_set_ne (by decide)]; exact u1
    by_cases hq : z.fdiv many = 0
    · refine ⟨z.fmod many, M1.set 0 (.lst (((zs.set m (z.fdiv many)).eraseIdx m).map D.int)), ?_, (fm _).1, (fm _).2, ⟨_, mx, tn + 1, ow, z0, z1, p2, le2, x0, x1, by omega, by omega, o0, o1⟩, Y2, by rw [List.length_set]; exact N1⟩
      have i1 : evS C l_scoop_1 ⟨[.val (.loc 1), .val (.int many), .val (.int p), .no, .no], M1⟩ = .ok (.rt (.val (.int (z.fmod many)))) ⟨[.val (.loc 1), .val (.int many), .val (.int p), .val (.int m), .val (.int z)], M1.set 0 (.lst (((zs.set m (z.fdiv many)).eraseIdx m).map D.int))⟩ := by
        rw [← hdrop]
        rw [hq] at hset w0 w1 hat2 gA lset ⊢
        exact scoop_gr0 u0 u1 hne (by rw [hlm]; exact hm') hat (by rw [hlm]; exact hix) hq hset w0 w1 hat2 sdm n0 b1 b2 (by rw [lset]; exact hsx) gA
      rw [seq_rt i1]
      rfl
    · refine ⟨z.fmod many, M1.set 0 (.lst ((zs.set m (z.fdiv many)).map D.int)), ?_, (fm _).1, (fm _).2, ⟨_, mx, tn + 1, ow, w0, w1, p1, le1, x0, x1, by omega, by omega, o0, o1⟩, Y1, by rw [List.length_set]; exact N1⟩
      have i1 : evS C l_scoop_1 ⟨[.val (.loc 1), .val (.int many), .val (.int p), .no, .no], M1⟩ = .ok (.rt (.val (.int (z.fmod many)))) ⟨[.val (.loc 1), .val (.int many), .val (.int p), .val (.int m), .val (.int z)], M1.set 0 (.lst ((zs.set m (z.fdiv many)).map D.int))⟩ := by
        exact scoop_gr u0 u1 hne (by rw [hlm]; exact hm') hat (by rw [hlm]; exact hix) rfl hset w0 w1 hat2 sdm n0 hq
      rw [seq_rt i1]
      rfl
theorem s_scoop2 (n : Nat) (M : List Cell) (T : Nat) (many : Int) (B : Basin T M) (hm : 1 ≤ many) (hm2 : many < 2 ^ 60) (hT : T < 2 ^ 30) :
    ∃ v M', RN (n+1) (Str.ofString "_law_scoop") [.val (.loc 1), .val (.int many)] M = .ok (.val (.int v)) M' ∧ 0 ≤ v ∧ v < many ∧ Basin (T + 1) M' ∧ Ls M M' ∧ M'.length = M.length := by
  rw [c_scoop2]
  exact scoop_body n M T many 0 B hm hm2 hT (by decide) (by decide)
theorem s_scoop3 (n : Nat) (M : List Cell) (T : Nat) (many p : Int) (B : Basin T M) (hm : 1 ≤ many) (hm2 : many < 2 ^ 60) (hT : T < 2 ^ 30) (hp : 0 ≤ p) (hp2 : p < 100) :
    ∃ v M', RN (n+1) (Str.ofString "_law_scoop") [.val (.loc 1), .val (.int many), .val (.int p)] M = .ok (.val (.int v)) M' ∧ 0 ≤ v ∧ v < many ∧ Basin (T + 1) M' ∧ Ls M M' ∧ M'.length = M.length := by
  rw [c_scoop3]
  exact scoop_body n M T many p B hm hm2 hT hp hp2
end G

/-! ## V15 -/
set_option Elab.async false
set_option linter.all false
set_option maxRecDepth 100000
set_option maxHeartbeats 8000000
namespace G
open PySem
/-! ### the basin filled -/
theorem c_basin (n : Nat) (a : Slot) (M : List Cell) : RN (n+1) (Str.ofString "_law_basin") [a] M = ofBody (evSs (CN n) bl_basin ⟨[a, .no, .no, .no, .no], M⟩) := rfl
def BIG : Int := 2 ^ 1600
theorem shl1600 : intOp .LShift 1 1600 = some BIG := by
  have : powOk 1 1600 = true := by decide
  simp only [intOp, this, if_true]
  unfold BIG
  rw [Int.one_mul]; rfl
theorem BIG_pos : 0 < BIG := by unfold BIG; exact Int.pow_pos (by decide)
theorem pow16 : intOp .Pow 10 16 = some 10000000000000000 := by decide
theorem ioR {i j : Int} (h : j ≠ 0) : intOp .Mod i j = some (i.fmod j) := by simp [intOp, h]
theorem s_basin (n : Nat) (ns : List Int) : ∃ M', RN (n+1) (Str.ofString "_law_basin") [.ro (ns.map D.int)] [] = .ok (.val (.loc 1)) M' ∧ Basin 0 M' := by
  rw [c_basin]
  obtain ⟨C, hC, hg⟩ := opq n
  rw [← hC]
  have i0 : evS C l_basin_0 ⟨[.ro (ns.map D.int), .no, .no, .no, .no], []⟩ = .ok .nx ⟨[.ro (ns.map D.int), .val (.int 5003), .val (.loc 0), .no, .no], [.lst []]⟩ := by
    simp [evSs, evS, evX, evXs, evEs, evA, evAg, evT, evTB, evB, evG, evGs, evI, Tgs.len, varD, R.bind, biD, bi1, bi2_gcd, lif, toVal, setName_def, isRo_no, isRo_val, isRo_own, cmpD, truD, negD, binD, intOp, retD, ofBody, callD, call_CN, callkD, slots, Ar.slot, lend, ofCall, subD, seq, lis, G.atI, isTys, isTy, eqD, D.eqv, pure60, D.pure, D.deep, List.set, setD, putL, cell, methD, mtD, strI, ofSeq, plcC, plcV, unl, lock, unlock, rngD, forL, Itm.ok, stays, List.all_nil, fit0, fit1, fit2, fit3, fit4, fit5, fit6, fit7, fit8, fit9, fit10, fit11, fit12, fit13, fit14, fit15, fit16]
  have hi : evI C (.q (.slc (.var 0) .no (.yes (.cst (.int 63))))) ⟨[.ro (ns.map D.int), .val (.int 5003), .val (.loc 0), .no, .no], [.lst []]⟩ = .ok ⟨cut (ns.map D.int) none (some 63), [], []⟩ ⟨[.ro (ns.map D.int), .val (.int 5003), .val (.loc 0), .no, .no], [.lst []]⟩ := by
    simp [evSs, evS, evX, evXs, evEs, evA, evAg, evT, evTB, evB, evG, evGs, evI, Tgs.len, varD, R.bind, biD, bi1, bi2_gcd, lif, toVal, setName, cmpD, truD, negD, binD, intOp, retD, ofBody, fits, sizeLine, callD, call_CN, callkD, slots, Ar.slot, lend, ofCall, subD, seq, lis, L2.atI, L2.ixN, G.atI, isTys, isTy, eqD, D.eqv, pure60, D.pure, D.deep, List.set, setD, putL, cell, methD, mtD, strI, ofSeq, plcC, plcV, unl, lock, unlock, rngD, forL, Itm.ok, stays, List.all_nil, evO, optI, slcD]
  have hc : (∀ d ∈ cut (ns.map D.int) none (some 63), ∃ t : Int, d = .int t) ∧ (cut (ns.map D.int) none (some 63)).length ≤ 99 := by
    unfold cut
    refine ⟨fun d h => ?_, ?_⟩
    · have h := List.mem_of_mem_drop (List.mem_of_mem_take h)
      obtain ⟨t, _, rfl⟩ := List.mem_map.mp h
      exact ⟨t, rfl⟩
    · rw [List.length_take]
      have : HT.sIx (ns.map D.int).length (ns.map D.int).length (some 63) ≤ 63 := by
        show (if (63 : Int) < 0 then ((63 : Int) + ((ns.map D.int).length : Int)).toNat else min (63 : Int).toNat (ns.map D.int).length) ≤ 63
        rw [if_neg (by decide)]
        exact Nat.min_le_left _ _
      omega
  generalize cut (ns.map D.int) none (some 63) = its at *
  generalize ns.map D.int = xs at *
  obtain ⟨s', i1, sd, zs, x3, x4, n3, n4, es, q1, q2, pz, lz⟩ := fors_inv l_basin_1 rfl hi rfl rfl (fun k s => ∃ (sd : Int) (zs : List Int) (x3 x4 : Slot), isRo x3 = false ∧ isRo x4 = false ∧ s = ⟨[.ro xs, .val (.int sd), .val (.loc 0), x3, x4], [.lst (zs.map D.int)]⟩ ∧ 0 ≤ sd ∧ sd < 2147483647 ∧ (∀ z ∈ zs, 0 ≤ z) ∧ zs.length ≤ k) ⟨5003, [], _, _, rfl, rfl, rfl, by decide, by decide, fun z h => absurd h List.not_mem_nil, Nat.le_refl _⟩ (by
    rintro k x s hx ⟨sd, zs, x3, x4, n3, n4, rfl, h1, h2, h3, h4⟩
    obtain ⟨t, rfl⟩ := hc.1 x (List.mem_of_getElem? hx)
    have hk : k < 100 := by have := lt_get hx; dsimp only at this; have := hc.2; omega
    have hB := BIG_pos
    have B0 : BIG ≠ 0 := by omega
    obtain ⟨z1, z2⟩ := fmod_nn (a := (if t < 0 then -t else t)) hB
    have j0 : evG C (.name 3) (.int t) ⟨[.ro xs, .val (.int sd), .val (.loc 0), x3, x4], [.lst (zs.map D.int)]⟩ = .ok () ⟨[.ro xs, .val (.int sd), .val (.loc 0), .val (.int t), x4], [.lst (zs.map D.int)]⟩ := by
      simp [evSs, evS, evX, evXs, evEs, evA, evAg, evT, evTB, evB, evG, evGs, evI, Tgs.len, varD, R.bind, biD, bi1, bi2_gcd, lif, toVal, setName_def, isRo_no, isRo_val, isRo_own, cmpD, truD, negD, binD, intOp, retD, ofBody, callD, call_CN, callkD, slots, Ar.slot, lend, ofCall, subD, seq, lis, G.atI, isTys, isTy, eqD, D.eqv, pure60, D.pure, D.deep, List.set, setD, putL, cell, methD, mtD, strI, ofSeq, plcC, plcV, unl, lock, unlock, rngD, forL, Itm.ok, stays, List.all_nil, fit0, fit1, fit2, fit3, fit4, fit5, fit6, fit7, fit8, fit9, fit10, fit11, fit12, fit13, fit14, fit15, fit16, n3]
    have j1 : evS C l_basin_1b_0 ⟨[.ro xs, .val (.int sd), .val (.loc 0), .val (.int t), x4], [.lst (zs.map D.int)]⟩ = .ok .nx ⟨[.ro xs, .val (.int sd), .val (.loc 0), .val (.int t), .val (.int ((if t < 0 then -t else t).fmod BIG))], [.lst (zs.map D.int)]⟩ := by
      simp [evSs, evS, evX, evXs, evEs, evA, evAg, evT, evTB, evB, evG, evGs, evI, Tgs.len, varD, R.bind, biD, bi1, bi2_gcd, lif, toVal, setName_def, isRo_no, isRo_val, isRo_own, cmpD, truD, negD, binD, retD, ofBody, callD, call_CN, callkD, slots, Ar.slot, lend, ofCall, subD, seq, lis, G.atI, isTys, isTy, eqD, D.eqv, pure60, D.pure, D.deep, List.set, setD, putL, cell, methD, mtD, strI, ofSeq, plcC, plcV, unl, lock, unlock, rngD, forL, Itm.ok, stays, List.all_nil, fit0, fit1, fit2, fit3, fit4, fit5, fit6, fit7, fit8, fit9, fit10, fit11, fit12, fit13, fit14, fit15, fit16, shl1600, ioR B0, n4]
    generalize (if t < 0 then -t else t).fmod BIG = z at *
    have sms : Sm sd = true := Sm64 (by omega)
    have smc : Sm 62089911 = true := Sm64 (by decide)
    obtain ⟨q1, q2⟩ := fmod_nn (a := sd * 62089911 + z.fmod 999999929 + 13) (b := 2147483647) (by decide)
    have j2 : evS C l_basin_1b_1 ⟨[.ro xs, .val (.int sd), .val (.loc 0), .val (.int t), .val (.int z)], [.lst (zs.map D.int)]⟩ = .ok .nx ⟨[.ro xs, .val (.int ((sd * 62089911 + z.fmod 999999929 + 13).fmod 2147483647)), .val (.loc 0), .val (.int t), .val (.int z)], [.lst (zs.map D.int)]⟩ := by
      simp [evSs, evS, evX, evXs, evEs, evA, evAg, evT, evTB, evB, evG, evGs, evI, Tgs.len, varD, R.bind, biD, bi1, bi2_gcd, lif, toVal, setName_def, isRo_no, isRo_val, isRo_own, cmpD, truD, negD, binD, intOp, retD, ofBody, callD, call_CN, callkD, slots, Ar.slot, lend, ofCall, subD, seq, lis, G.atI, isTys, isTy, eqD, D.eqv, pure60, D.pure, D.deep, List.set, setD, putL, cell, methD, mtD, strI, ofSeq, plcC, plcV, unl, lock, unlock, rngD, forL, Itm.ok, stays, List.all_nil, fit0, fit1, fit2, fit3, fit4, fit5, fit6, fit7, fit8, fit9, fit10, fit11, fit12, fit13, fit14, fit15, fit16, sms, smc]
    generalize (sd * 62089911 + z.fmod 999999929 + 13).fmod 2147483647 = sd' at *
    rw [j0]
    have hzl : zs.length < sizeLine := lt_sizeLine (by omega)
    by_cases hcz : 10000000000000000 ≤ z
    · have j3 : evS C l_basin_1b_2 ⟨[.ro xs, .val (.int sd'), .val (.loc 0), .val (.int t), .val (.int z)], [.lst (zs.map D.int)]⟩ = .ok .nx ⟨[.ro xs, .val (.int sd'), .val (.loc 0), .val (.int t), .val (.int z)], [.lst ((zs ++ [z]).map D.int)]⟩ := by
        simp [evSs, evS, evX, evXs, evEs, evA, evAg, evT, evTB, evB, evG, evGs, evI, Tgs.len, varD, R.bind, biD, bi1, bi2_gcd, lif, toVal, setName_def, isRo_no, isRo_val, isRo_own, cmpD, truD, negD, binD, retD, ofBody, callD, call_CN, callkD, slots, Ar.slot, lend, ofCall, subD, seq, lis, G.atI, isTys, isTy, eqD, D.eqv, pure60, D.pure, D.deep, List.set, setD, putL, cell, methD, mtD, strI, ofSeq, plcC, plcV, unl, lock, unlock, rngD, forL, Itm.ok, stays, List.all_nil, fit0, fit1, fit2, fit3, fit4, fit5, fit6, fit7, fit8, fit9, fit10, fit11, fit12, fit13, fit14, fit15, fit16, pow16, hcz, hzl]
      refine ⟨⟨[.ro xs, .val (.int sd'), .val (.loc 0), .val (.int t), .val (.int z)], [.lst ((zs ++ [z]).map D.int)]⟩, ?_, sd', zs ++ [z], _, _, rfl, rfl, rfl, q1, q2, fun w hw => ?_, by rw [List.length_append, List.length_singleton]; omega⟩
      · show evSs C l_basin_1b _ = _
        rw [seq_nx j1, seq_nx j2, seq_nx j3, evSs]
      · rcases List.mem_append.mp hw with hw | hw
        · exact h3 w hw
        · rw [List.mem_singleton.mp hw]; exact z1
    · have j3 : evS C l_basin_1b_2 ⟨[.ro xs, .val (.int sd'), .val (.loc 0), .val (.int t), .val (.int z)], [.lst (zs.map D.int)]⟩ = .ok .nx ⟨[.ro xs, .val (.int sd'), .val (.loc 0), .val (.int t), .val (.int z)], [.lst (zs.map D.int)]⟩ := by
        simp [evSs, evS, evX, evXs, evEs, evA, evAg, evT, evTB, evB, evG, evGs, evI, Tgs.len, varD, R.bind, biD, bi1, bi2_gcd, lif, toVal, setName_def, isRo_no, isRo_val, isRo_own, cmpD, truD, negD, binD, retD, ofBody, callD, call_CN, callkD, slots, Ar.slot, lend, ofCall, subD, seq, lis, G.atI, isTys, isTy, eqD, D.eqv, pure60, D.pure, D.deep, List.set, setD, putL, cell, methD, mtD, strI, ofSeq, plcC, plcV, unl, lock, unlock, rngD, forL, Itm.ok, stays, List.all_nil, fit0, fit1, fit2, fit3, fit4, fit5, fit6, fit7, fit8, fit9, fit10, fit11, fit12, fit13, fit14, fit15, fit16, pow16, hcz]
      refine ⟨⟨[.ro xs, .val (.int sd'), .val (.loc 0), .val (.int t), .val (.int z)], [.lst (zs.map D.int)]⟩, ?_, sd', zs, _, _, rfl, rfl, rfl, q1, q2, h3, by omega⟩
      show evSs C l_basin_1b _ = _
      rw [seq_nx j1, seq_nx j2, seq_nx j3, evSs])
  subst es
  have hc2 := hc.2
  dsimp only at lz
  refine ⟨[.lst (zs.map D.int), .dct (dBas sd 0 sd)], ?_, zs, sd, 0, sd, rfl, rfl, pz, by omega, q1, q2, by decide, by decide, q1, q2⟩
  unfold bl_basin
  rw [seq_nx i0, seq_nx i1]
  generalize zs.map D.int = A at *
  simp [evSs, evS, evX, evXs, evEs, evA, evAg, evT, evTB, evB, evG, evGs, evI, Tgs.len, varD, R.bind, biD, bi1, bi2_gcd, lif, toVal, setName_def, isRo_no, isRo_val, isRo_own, cmpD, truD, negD, binD, intOp, retD, ofBody, callD, call_CN, callkD, slots, Ar.slot, lend, ofCall, subD, seq, lis, G.atI, isTys, isTy, eqD, D.eqv, pure60, D.pure, D.deep, List.set, setD, putL, cell, methD, mtD, strI, ofSeq, plcC, plcV, unl, lock, unlock, rngD, forL, Itm.ok, stays, List.all_nil, fit0, fit1, fit2, fit3, fit4, fit5, fit6, fit7, fit8, fit9, fit10, fit11, fit12, fit13, fit14, fit15, fit16, dBas]
end G

/-! ## V16 -/
set_option Elab.async false
set_option linter.all false
set_option maxRecDepth 100000
set_option maxHeartbeats 8000000
namespace G
open PySem
/-! ### settings drawn -/
/-- a comprehension whose name was used before -/
theorem comp_invW {c : Cn} (X : Ex) {elt : Ex} {tg : Tg} {it : It} {ifs : Tes} {own : List Nat} {s : S} {m : Itm} {v u : List Slot} {M : List Cell} (hX : X = .comp elt tg it ifs own) (hi : evI c it s = .ok m ⟨v, M⟩) (hl : m.lks = []) (hc : m.chk = []) (hw : wipes v own = u) (hr : restor v u own = v)
    (hf : fits m.xs.length = true) (P : Nat → List Cell → Prop) (Q : Nat → D → Prop) (h0 : P 0 M)
    (step : ∀ j x M, m.xs[j]? = some x → P j M → ∃ d v' M', turnC (evG c tg) (evTB c true ifs) (evX c elt) x ⟨u, M⟩ = .ok (some d) ⟨v', M'⟩ ∧ wipes v' own = u ∧ P (j + 1) M' ∧ Q j d) :
    ∃ ds M', evX c X s = .ok (.new ds) ⟨v, M'⟩ ∧ P m.xs.length M' ∧ ds.length = m.xs.length ∧ ∀ j d, ds[j]? = some d → Q j d := by
  subst hX
  obtain ⟨xs, chk, lks⟩ := m
  dsimp only at hl hc step hf
  subst hl hc
  obtain ⟨ds, s', e, ⟨hv, hP⟩, hlen, hq⟩ := compL_inv (ok := Itm.ok ⟨xs, [], []⟩) (body := fun x s => (turnC (evG c tg) (evTB c true ifs) (evX c elt) x s).bind fun o s' => .ok o (wiped own s')) (fun _ => rfl) (fun j s => s.v = u ∧ P j s.M) Q xs 0 (fun j x s hx hp => by
    rw [Nat.zero_add] at hp ⊢
    obtain ⟨v2, M2⟩ := s
    obtain ⟨e1, hp⟩ := hp
    dsimp only at e1 hp
    subst e1
    obtain ⟨d, v', M', e, e2, p, q⟩ := step j x M2 hx hp
    refine ⟨d, wiped own ⟨v', M'⟩, ?_, ⟨e2, p⟩, q⟩
    rw [e]
    rfl) ⟨u, M⟩ ⟨rfl, h0⟩
  obtain ⟨v2, M2⟩ := s'
  dsimp only at hv hP
  subst hv
  rw [Nat.zero_add] at hP
  refine ⟨ds, M2, ?_, hP, hlen, fun j d h => by have := hq j d h; rw [Nat.zero_add] at this; exact this⟩
  rw [evX, hi]
  show compD _ _ _ _ = _
  unfold compD
  have hwd : wiped own ⟨lock v [], M⟩ = ⟨v2, M⟩ := by unfold wiped; exact congrArg (fun w => (⟨w, M⟩ : S)) hw
  rw [hwd, e]
  show noX (if fits ds.length = true then _ else _) = _
  rw [hlen, if_pos hf]
  show R.ok _ _ = _
  unfold unlock lock
  rw [hr]
theorem sl_app (a b : Str) : (a ++ b).length = a.length + b.length := by
  show (a.cps ++ b.cps).size = _
  rw [Array.size_append]
  rfl
theorem sadd {x y : Str} (h : x.length + y.length < 1000000) : strOp .Add x y = some (x ++ y) := by
  have : St' x y = true := fits_lt h
  simp only [strOp, this, if_true]
def ts (i : Int) : Str := Str.ofString (toString i)
theorem ts_len : ∀ i : Int, 0 ≤ i → i ≤ 9 → (ts i).length ≤ 5 := by
  have h1 : ∀ n : Fin 10, (ts ((n : Nat) : Int)).length ≤ 5 := by decide +kernel
  intro i h0 hi
  obtain ⟨m, rfl⟩ := Int.eq_ofNat_of_zero_le h0
  exact h1 ⟨m, by omega⟩
theorem ts_str (i : Int) (h : i.natAbs < 2 ^ 30) : strI i = some (.val (.str (ts i))) := by
  have : Nat.blt i.natAbs.log2 1920 = true := by
    rw [Nat.blt_eq]
    by_cases h0 : i.natAbs = 0
    · rw [h0]; decide
    · exact (Nat.log2_lt h0).mpr (Nat.lt_of_lt_of_le h (Nat.pow_le_pow_right (by decide) (by decide)))
  simp only [strI, this, if_true]
  rfl
def RdOk (m : Nat) (ds : List D) : Prop := ∀ d ∈ ds, ∃ (nm : Str) (k : Int), d = .tup [.str nm, .int k] ∧ 0 ≤ k ∧ k < m
theorem fl_at {v : Int} (h0 : 0 ≤ v) (h1 : v < 2) : L2.atI [D.str (Str.ofString "told"), .str (Str.ofString "free")] v = some (flD (decide (v = 1))) := by
  have : v = 0 ∨ v = 1 := by omega
  rcases this with rfl | rfl <;> rfl
theorem kht_at {j : Nat} (h : j < 3) : ∃ z, L2.atI [D.str (Str.ofString "k"), .str (Str.ofString "h"), .str (Str.ofString "t")] (j : Int) = some (.str z) := by
  have : j = 0 ∨ j = 1 ∨ j = 2 := by omega
  rcases this with rfl | rfl | rfl <;> exact ⟨_, rfl⟩
theorem c_setting (n : Nat) (a : Slot) (M : List Cell) : RN (n+1) (Str.ofString "_law_setting") [a] M = ofBody (evSs (CN n) bl_setting ⟨[a, .no, .no, .no, .no], M⟩) := rfl
theorem s_setting (n : Nat) (M : List Cell) (T : Nat) (B : Basin T M) (hT : T < 2 ^ 29) :
    ∃ (ks : List Kd) (RS : List D) (M' : List Cell), RN (n+2) (Str.ofString "_law_setting") [.val (.loc 1)] M = .ok (.val (KD ks RS)) M' ∧ ks.length ≤ 3 ∧ RS.length ≤ 4 ∧ 1 ≤ ks.length ∧ 1 ≤ RS.length ∧ RdOk ks.length RS ∧ Basin (T + 20) M' ∧ Ls M M' := by
  rw [c_setting]
  obtain ⟨C, hC, hg⟩ := opq (n+1)
  rw [← hC]
  obtain ⟨w, M1, e1, w0, w1, B1, X1, N1⟩ := s_scoop3 n M _ 3 1 B (by decide) (by decide) (by omega) (by decide) (by decide)
  have e1 := hg e1
  obtain ⟨m, hm⟩ : ∃ m : Nat, 1 + w = (m : Int) := ⟨(1 + w).toNat, by omega⟩
  have hm3 : m ≤ 3 := by omega
  have i0 : evS C l_setting_0 ⟨[.val (.loc 1), .no, .no, .no, .no], M⟩ = .ok .nx ⟨[.val (.loc 1), .val (.int m), .no, .no, .no], M1⟩ := by
    rw [← hm]
    simp [evSs, evS, evX, evXs, evEs, evA, evAg, evT, evTB, evB, evG, evGs, evI, Tgs.len, varD, R.bind, biD, bi1, bi2_gcd, lif, toVal, setName_def, isRo_no, isRo_val, isRo_own, cmpD, truD, negD, binD, intOp, retD, ofBody, callD, call_CN, callkD, slots, Ar.slot, lend, ofCall, subD, seq, lis, G.atI, isTys, isTy, eqD, D.eqv, pure60, D.pure, D.deep, List.set, setD, putL, cell, methD, mtD, strI, ofSeq, plcC, plcV, unl, lock, unlock, rngD, forL, Itm.ok, stays, List.all_nil, fit0, fit1, fit2, fit3, fit4, fit5, fit6, fit7, fit8, fit9, fit10, fit11, fit12, fit13, fit14, fit15, fit16, e1]
  have i1 : evS C l_setting_1 ⟨[.val (.loc 1), .val (.int m), .no, .no, .no], M1⟩ = .ok .nx ⟨[.val (.loc 1), .val (.int m), .own [], .no, .no], M1⟩ := by
    simp [evSs, evS, evX, evXs, evEs, evA, evAg, evT, evTB, evB, evG, evGs, evI, Tgs.len, varD, R.bind, biD, bi1, bi2_gcd, lif, toVal, setName_def, isRo_no, isRo_val, isRo_own, cmpD, truD, negD, binD, intOp, retD, ofBody, callD, call_CN, callkD, slots, Ar.slot, lend, ofCall, subD, seq, lis, G.atI, isTys, isTy, eqD, D.eqv, pure60, D.pure, D.deep, List.set, setD, putL, cell, methD, mtD, strI, ofSeq, plcC, plcV, unl, lock, unlock, rngD, forL, Itm.ok, stays, List.all_nil, fit0, fit1, fit2, fit3, fit4, fit5, fit6, fit7, fit8, fit9, fit10, fit11, fit12, fit13, fit14, fit15, fit16]
  have hi : evI C (.rng (.cons (.var 1) .nil)) ⟨[.val (.loc 1), .val (.int m), .own [], .no, .no], M1⟩ = .ok ⟨rngL 0 m, [], []⟩ ⟨[.val (.loc 1), .val (.int m), .own [], .no, .no], M1⟩ := evI_rngZ (z := (m : Int)) (by simp [evSs, evS, evX, evXs, evEs, evA, evAg, evT, evTB, evB, evG, evGs, evI, Tgs.len, varD, R.bind, biD, bi1, bi2_gcd, lif, toVal, setName_def, isRo_no, isRo_val, isRo_own, cmpD, truD, negD, binD, intOp, retD, ofBody, callD, call_CN, callkD, slots, Ar.slot, lend, ofCall, subD, seq, lis, G.atI, isTys, isTy, eqD, D.eqv, pure60, D.pure, D.deep, List.set, setD, putL, cell, methD, mtD, strI, ofSeq, plcC, plcV, unl, lock, unlock, rngD, forL, Itm.ok, stays, List.all_nil, fit0, fit1, fit2, fit3, fit4, fit5, fit6, fit7, fit8, fit9, fit10, fit11, fit12, fit13, fit14, fit15, fit16]) (len62 (by omega)) (Int.toNat_natCast _)
  obtain ⟨s', i2, ks, x3, M2, n3, es, lk, B2, X2⟩ := fors_inv l_setting_2 rfl hi rfl rfl (fun j s => ∃ (ks : List Kd) (x3 : Slot) (M' : List Cell), isRo x3 = false ∧ s = ⟨[.val (.loc 1), .val (.int m), .own (ks.map kD), x3, .no], M'⟩ ∧ ks.length = j ∧ Basin (T + 1 + 2 * j) M' ∧ Ls M M')
    ⟨[], _, _, rfl, rfl, rfl, B1, X1⟩ (by
    rintro j x s hx ⟨ks, x3, M', n3, rfl, lk, B2, X2⟩
    obtain ⟨rfl, hj⟩ := rngL_get hx
    obtain ⟨v, M3, e3, v0, v1, B3, X3, N3⟩ := s_scoop3 n M' _ 2 2 B2 (by decide) (by decide) (by omega) (by decide) (by decide)
    have e3 := hg e3
    obtain ⟨u, M4, e4, u0, u1, B4, X4, N4⟩ := s_scoop3 n M3 _ 2 3 B3 (by decide) (by decide) (by omega) (by decide) (by decide)
    have e4 := hg e4
    obtain ⟨z, hz⟩ := kht_at (j := j) (by omega)
    have f1 := fl_at v0 v1
    have f2 := fl_at u0 u1
    have hl : ks.length < sizeLine := lt_sizeLine (by omega)
    have hap : (ks ++ [Kd.mk z (decide (v = 1)) (decide (u = 1))]).map kD = ks.map kD ++ [.tup [.str z, flD (decide (v = 1)), flD (decide (u = 1))]] := by rw [List.map_append]; rfl
    refine ⟨⟨[.val (.loc 1), .val (.int m), .own ((ks ++ [Kd.mk z (decide (v = 1)) (decide (u = 1))]).map kD), .val (.int j), .no], M4⟩, ?_, _, _, _, rfl, rfl, by simp [lk], B4.up _ (by omega), (X2.trans X3).trans X4⟩
    rw [hap]
    have hlk : (ks.map kD).length = ks.length := List.length_map _
    generalize ks.map kD = KS at *
    generalize flD (decide (v = 1)) = fv at *
    generalize flD (decide (u = 1)) = fu at *
    simp [evSs, evS, evX, evXs, evEs, evA, evAg, evT, evTB, evB, evG, evGs, evI, Tgs.len, varD, R.bind, biD, bi1, bi2_gcd, lif, toVal, setName_def, isRo_no, isRo_val, isRo_own, cmpD, truD, negD, binD, intOp, retD, ofBody, callD, call_CN, callkD, slots, Ar.slot, lend, ofCall, subD, seq, lis, G.atI, isTys, isTy, eqD, D.eqv, pure60, D.pure, D.deep, List.set, setD, putL, cell, methD, mtD, strI, ofSeq, plcC, plcV, unl, lock, unlock, rngD, forL, Itm.ok, stays, List.all_nil, fit0, fit1, fit2, fit3, fit4, fit5, fit6, fit7, fit8, fit9, fit10, fit11, fit12, fit13, fit14, fit15, fit16, n3, e3, e4, hz, f1, f2, hlk, hl])
  subst es
  dsimp only at lk B2
  rw [rngL_len] at lk B2
  obtain ⟨y, M3, e3, y0, y1, B3, X3, N3⟩ := s_scoop3 n M2 _ 4 4 B2 (by decide) (by decide) (by omega) (by decide) (by decide)
  have e3 := hg e3
  have X3 := X2.trans X3
  have hi2 : evI C (.rng (.cons (.bin .Add (.cst (.int 1)) (.call (Str.ofString "_law_scoop") (.cons (.v (.var 0)) (.cons (.v (.cst (.int 4))) (.cons (.v (.cst (.int 4))) (.nil)))))) .nil)) ⟨[.val (.loc 1), .val (.int m), .own (ks.map kD), x3, .no], M2⟩ = .ok ⟨rngL 0 (1 + y).toNat, [], []⟩ ⟨[.val (.loc 1), .val (.int m), .own (ks.map kD), x3, .no], M3⟩ := evI_rngZ (z := 1 + y) (by
      generalize ks.map kD = KS at *
      simp [evSs, evS, evX, evXs, evEs, evA, evAg, evT, evTB, evB, evG, evGs, evI, Tgs.len, varD, R.bind, biD, bi1, bi2_gcd, lif, toVal, setName_def, isRo_no, isRo_val, isRo_own, cmpD, truD, negD, binD, intOp, retD, ofBody, callD, call_CN, callkD, slots, Ar.slot, lend, ofCall, subD, seq, lis, G.atI, isTys, isTy, eqD, D.eqv, pure60, D.pure, D.deep, List.set, setD, putL, cell, methD, mtD, strI, ofSeq, plcC, plcV, unl, lock, unlock, rngD, forL, Itm.ok, stays, List.all_nil, fit0, fit1, fit2, fit3, fit4, fit5, fit6, fit7, fit8, fit9, fit10, fit11, fit12, fit13, fit14, fit15, fit16, e3]) (by unfold in62; rw [Bool.and_eq_true, decide_eq_true_eq, decide_eq_true_eq]; omega) rfl
  obtain ⟨ds, M5, ec, ⟨B5, X5⟩, ld, hd⟩ := comp_invW l_setting_C0 (u := [.val (.loc 1), .val (.int m), .own (ks.map kD), .no, .no]) rfl hi2 rfl rfl rfl rfl (fits_lt (by dsimp only; rw [rngL_len]; omega)) (fun j M' => Basin (T + 8 + j) M' ∧ Ls M M') (fun j d => ∃ (nm : Str) (k : Int), d = .tup [.str nm, .int k] ∧ 0 ≤ k ∧ k < m) ⟨B3.up _ (by omega), X3⟩ (by
    rintro j x M' hx ⟨B', X'⟩
    obtain ⟨rfl, hj⟩ := rngL_get hx
    obtain ⟨v, M7, e7, v0, v1, B7, X7, N7⟩ := s_scoop2 n M' _ m B' (by omega) (by omega) (by omega)
    have e7 := hg e7
    have hts := ts_str (j : Int) (by omega)
    have lts := ts_len (j : Int) (by omega) (by omega)
    have lr : (Str.ofString "r").length = 1 := by decide
    have a3 := sadd (x := Str.ofString "r") (y := ts j) (by omega)
    refine ⟨.tup [.str (Str.ofString "r" ++ ts j), .int v], [.val (.loc 1), .val (.int m), .own (ks.map kD), .val (.int j), .no], M7, ?_, rfl, ⟨B7, X'.trans X7⟩, _, v, rfl, v0, v1⟩
    generalize ts j = tj at *
    generalize Str.ofString "r" ++ tj = rt at *
    generalize ks.map kD = KS at *
    simp [turnC, evSs, evS, evX, evXs, evEs, evA, evAg, evT, evTB, evB, evG, evGs, evI, Tgs.len, varD, R.bind, biD, bi1, bi2_gcd, lif, toVal, setName_def, isRo_no, isRo_val, isRo_own, cmpD, truD, negD, binD, intOp, retD, ofBody, callD, call_CN, callkD, slots, Ar.slot, lend, ofCall, subD, seq, lis, G.atI, isTys, isTy, eqD, D.eqv, pure60, D.pure, D.deep, List.set, setD, putL, cell, methD, mtD, ofSeq, plcC, plcV, unl, lock, unlock, rngD, forL, Itm.ok, stays, List.all_nil, fit0, fit1, fit2, fit3, fit4, fit5, fit6, fit7, fit8, fit9, fit10, fit11, fit12, fit13, fit14, fit15, fit16, hts, a3, e7])
  dsimp only at ld B5
  rw [rngL_len] at ld B5
  refine ⟨ks, ds, M5, ?_, by omega, by omega, by omega, by omega, fun d hdm => ?_, B5.up _ (by omega), X5⟩
  · have hm' : m = ks.length := lk.symm
    have i3 : evS C l_setting_3 ⟨[.val (.loc 1), .val (.int m), .own (ks.map kD), x3, .no], M2⟩ = .ok .nx ⟨[.val (.loc 1), .val (.int m), .own (ks.map kD), x3, .own ds], M5⟩ := by
      show evS C (.own 4 l_setting_C0) _ = _
      rw [evS, ec]
      simp [evSs, evS, evX, evXs, evEs, evA, evAg, evT, evTB, evB, evG, evGs, evI, Tgs.len, varD, R.bind, biD, bi1, bi2_gcd, lif, toVal, setName_def, isRo_no, isRo_val, isRo_own, cmpD, truD, negD, binD, intOp, retD, ofBody, callD, call_CN, callkD, slots, Ar.slot, lend, ofCall, subD, seq, lis, G.atI, isTys, isTy, eqD, D.eqv, pure60, D.pure, D.deep, List.set, setD, putL, cell, methD, mtD, strI, ofSeq, plcC, plcV, unl, lock, unlock, rngD, forL, Itm.ok, stays, List.all_nil, fit0, fit1, fit2, fit3, fit4, fit5, fit6, fit7, fit8, fit9, fit10, fit11, fit12, fit13, fit14, fit15, fit16]
    unfold bl_setting
    rw [seq_nx i0, seq_nx i1, seq_nx i2, seq_nx i3]
    unfold KD
    generalize ks.map kD = KS at *
    simp [evSs, evS, evX, evXs, evEs, evA, evAg, evT, evTB, evB, evG, evGs, evI, Tgs.len, varD, R.bind, biD, bi1, bi2_gcd, lif, toVal, setName_def, isRo_no, isRo_val, isRo_own, cmpD, truD, negD, binD, intOp, retD, ofBody, callD, call_CN, callkD, slots, Ar.slot, lend, ofCall, subD, seq, lis, G.atI, isTys, isTy, eqD, D.eqv, pure60, D.pure, D.deep, List.set, setD, putL, cell, methD, mtD, strI, ofSeq, plcC, plcV, unl, lock, unlock, rngD, forL, Itm.ok, stays, List.all_nil, fit0, fit1, fit2, fit3, fit4, fit5, fit6, fit7, fit8, fit9, fit10, fit11, fit12, fit13, fit14, fit15, fit16]
  · obtain ⟨j, hj⟩ := List.mem_iff_getElem?.mp hdm
    obtain ⟨nm, k, h1, h2, h3⟩ := hd j d hj
    exact ⟨nm, k, h1, h2, by rw [lk]; exact h3⟩
end G

/-! ## V17 -/
set_option Elab.async false
set_option linter.all false
set_option maxRecDepth 100000
set_option maxHeartbeats 8000000
namespace G
open PySem
/-! ### quotients, values, choices drawn -/
theorem qd_mk {a b : Int} {k : Nat} (hb : 0 < b) (hg : Nat.gcd a.natAbs b.natAbs = 1) (ha : a.natAbs < 2 ^ k) (hb2 : b.natAbs < 2 ^ k) : ∃ r : Rat, T2 a b = qd r ∧ Bd k r := by
  obtain ⟨m, rfl⟩ := Int.eq_ofNat_of_zero_le (show 0 ≤ b by omega)
  refine ⟨⟨a, m, by omega, by simpa using hg⟩, rfl, ha, by simpa using hb2⟩
theorem gcd2 {x : Nat} (h : x % 2 = 1) : Nat.gcd x 2 = 1 := by
  rw [Nat.gcd_comm, Nat.gcd_rec, h]
  rfl
theorem gcd4 {x : Nat} (h : x % 2 = 1) : Nat.gcd x 4 = 1 := by
  rw [Nat.gcd_comm, Nat.gcd_rec]
  have : x % 4 = 1 ∨ x % 4 = 3 := by omega
  rcases this with e | e <;> rw [e] <;> rfl
theorem c_quotient (n : Nat) (a b : Slot) (M : List Cell) : RN (n+1) (Str.ofString "_law_quotient") [a, b] M = ofBody (evSs (CN n) bl_quotient ⟨[a, b, .no, .no, .no], M⟩) := rfl
theorem q5_at {v : Int} (h0 : 0 ≤ v) (h1 : v < 5) : ∃ r : Rat, L2.atI [T2 1 2, T2 2 3, T2 7 5, T2 999999 1000, T2 1000000 1] v = some (qd r) ∧ Bd 30 r := by
  have : v = 0 ∨ v = 1 ∨ v = 2 ∨ v = 3 ∨ v = 4 := by omega
  rcases this with rfl | rfl | rfl | rfl | rfl
  · obtain ⟨r, e, h⟩ := qd_mk (a := 1) (b := 2) (k := 30) (by decide) (by decide) (by decide) (by decide)
    exact ⟨r, by rw [← e]; rfl, h⟩
  · obtain ⟨r, e, h⟩ := qd_mk (a := 2) (b := 3) (k := 30) (by decide) (by decide) (by decide) (by decide)
    exact ⟨r, by rw [← e]; rfl, h⟩
  · obtain ⟨r, e, h⟩ := qd_mk (a := 7) (b := 5) (k := 30) (by decide) (by decide) (by decide) (by decide)
    exact ⟨r, by rw [← e]; rfl, h⟩
  · obtain ⟨r, e, h⟩ := qd_mk (a := 999999) (b := 1000) (k := 30) (by decide) (by decide) (by decide) (by decide)
    exact ⟨r, by rw [← e]; rfl, h⟩
  · obtain ⟨r, e, h⟩ := qd_mk (a := 1000000) (b := 1) (k := 30) (by decide) (by decide) (by decide) (by decide)
    exact ⟨r, by rw [← e]; rfl, h⟩
theorem s_quotient (n : Nat) (M : List Cell) (T : Nat) (low : Int) (B : Basin T M) (hT : T < 2 ^ 29) (hl : low.natAbs ≤ 9) :
    ∃ (r : Rat) (M' : List Cell), RN (n+2) (Str.ofString "_law_quotient") [.val (.loc 1), .val (.int low)] M = .ok (.val (qd r)) M' ∧ Bd 30 r ∧ Basin (T + 2) M' ∧ Ls M M' := by
  rw [c_quotient]
  obtain ⟨C, hC, hg⟩ := opq (n+1)
  rw [← hC]
  obtain ⟨w, M1, e1, w0, w1, B1, X1, N1⟩ := s_scoop2 n M _ 4 B (by decide) (by decide) (by omega)
  have e1 := hg e1
  have i0 : evS C l_quotient_0 ⟨[.val (.loc 1), .val (.int low), .no, .no, .no], M⟩ = .ok .nx ⟨[.val (.loc 1), .val (.int low), .val (.int w), .no, .no], M1⟩ := by
    simp [evSs, evS, evX, evXs, evEs, evA, evAg, evT, evTB, evB, evG, evGs, evI, Tgs.len, varD, R.bind, biD, bi1, bi2_gcd, lif, toVal, setName_def, isRo_no, isRo_val, isRo_own, cmpD, truD, negD, binD, intOp, retD, ofBody, callD, call_CN, callkD, slots, Ar.slot, lend, ofCall, subD, seq, lis, G.atI, isTys, isTy, eqD, D.eqv, pure60, D.pure, D.deep, List.set, setD, putL, cell, methD, mtD, strI, ofSeq, plcC, plcV, unl, lock, unlock, rngD, forL, Itm.ok, stays, List.all_nil, fit0, fit1, fit2, fit3, fit4, fit5, fit6, fit7, fit8, fit9, fit10, fit11, fit12, fit13, fit14, fit15, fit16, e1]
  unfold bl_quotient
  rw [seq_nx i0]
  by_cases hw0 : w = 0
  · subst hw0
    obtain ⟨v, M2, e2, v0, v1, B2, X2, N2⟩ := s_scoop2 n M1 _ 12 B1 (by decide) (by decide) (by omega)
    have e2 := hg e2
    obtain ⟨r, hr, hb⟩ := qd_mk (a := low + v) (b := 1) (k := 30) (by decide) (by simp) (by omega) (by decide)
    refine ⟨r, M2, ?_, hb, B2, X1.trans X2⟩
    rw [← hr]
    have i1 : evS C l_quotient_1 ⟨[.val (.loc 1), .val (.int low), .val (.int 0), .no, .no], M1⟩ = .ok (.rt (.val (T2 (low + v) 1))) ⟨[.val (.loc 1), .val (.int low), .val (.int 0), .no, .no], M2⟩ := by
      simp [evSs, evS, evX, evXs, evEs, evA, evAg, evT, evTB, evB, evG, evGs, evI, Tgs.len, varD, R.bind, biD, bi1, bi2_gcd, lif, toVal, setName_def, isRo_no, isRo_val, isRo_own, cmpD, truD, negD, binD, intOp, retD, ofBody, callD, call_CN, callkD, slots, Ar.slot, lend, ofCall, subD, seq, lis, G.atI, isTys, isTy, eqD, D.eqv, pure60, D.pure, D.deep, List.set, setD, putL, cell, methD, mtD, strI, ofSeq, plcC, plcV, unl, lock, unlock, rngD, forL, Itm.ok, stays, List.all_nil, fit0, fit1, fit2, fit3, fit4, fit5, fit6, fit7, fit8, fit9, fit10, fit11, fit12, fit13, fit14, fit15, fit16, e2]
    rw [seq_rt i1]
    rfl
  · have i1 : evS C l_quotient_1 ⟨[.val (.loc 1), .val (.int low), .val (.int w), .no, .no], M1⟩ = .ok .nx ⟨[.val (.loc 1), .val (.int low), .val (.int w), .no, .no], M1⟩ := by
      simp [evSs, evS, evX, evXs, evEs, evA, evAg, evT, evTB, evB, evG, evGs, evI, Tgs.len, varD, R.bind, biD, bi1, bi2_gcd, lif, toVal, setName_def, isRo_no, isRo_val, isRo_own, cmpD, truD, negD, binD, intOp, retD, ofBody, callD, call_CN, callkD, slots, Ar.slot, lend, ofCall, subD, seq, lis, G.atI, isTys, isTy, eqD, D.eqv, pure60, D.pure, D.deep, List.set, setD, putL, cell, methD, mtD, strI, ofSeq, plcC, plcV, unl, lock, unlock, rngD, forL, Itm.ok, stays, List.all_nil, fit0, fit1, fit2, fit3, fit4, fit5, fit6, fit7, fit8, fit9, fit10, fit11, fit12, fit13, fit14, fit15, fit16, hw0]
    rw [seq_nx i1]
    by_cases hw1 : w = 1
    · subst hw1
      obtain ⟨v, M2, e2, v0, v1, B2, X2, N2⟩ := s_scoop2 n M1 _ 5 B1 (by decide) (by decide) (by omega)
      have e2 := hg e2
      obtain ⟨r, hr, hb⟩ := q5_at v0 v1
      refine ⟨r, M2, ?_, hb, B2, X1.trans X2⟩
      have i2 : evS C l_quotient_2 ⟨[.val (.loc 1), .val (.int low), .val (.int 1), .no, .no], M1⟩ = .ok (.rt (.val (qd r))) ⟨[.val (.loc 1), .val (.int low), .val (.int 1), .no, .no], M2⟩ := by
        generalize qd r = q at *
        simp [evSs, evS, evX, evXs, evEs, evA, evAg, evT, evTB, evB, evG, evGs, evI, Tgs.len, varD, R.bind, biD, bi1, bi2_gcd, lif, toVal, setName_def, isRo_no, isRo_val, isRo_own, cmpD, truD, negD, binD, intOp, retD, ofBody, callD, call_CN, callkD, slots, Ar.slot, lend, ofCall, subD, seq, lis, G.atI, isTys, isTy, eqD, D.eqv, pure60, D.pure, D.deep, List.set, setD, putL, cell, methD, mtD, strI, ofSeq, plcC, plcV, unl, lock, unlock, rngD, forL, Itm.ok, stays, List.all_nil, fit0, fit1, fit2, fit3, fit4, fit5, fit6, fit7, fit8, fit9, fit10, fit11, fit12, fit13, fit14, fit15, fit16, e2, hr]
      rw [seq_rt i2]
      rfl
    · have i2 : evS C l_quotient_2 ⟨[.val (.loc 1), .val (.int low), .val (.int w), .no, .no], M1⟩ = .ok .nx ⟨[.val (.loc 1), .val (.int low), .val (.int w), .no, .no], M1⟩ := by
        simp [evSs, evS, evX, evXs, evEs, evA, evAg, evT, evTB, evB, evG, evGs, evI, Tgs.len, varD, R.bind, biD, bi1, bi2_gcd, lif, toVal, setName_def, isRo_no, isRo_val, isRo_own, cmpD, truD, negD, binD, intOp, retD, ofBody, callD, call_CN, callkD, slots, Ar.slot, lend, ofCall, subD, seq, lis, G.atI, isTys, isTy, eqD, D.eqv, pure60, D.pure, D.deep, List.set, setD, putL, cell, methD, mtD, strI, ofSeq, plcC, plcV, unl, lock, unlock, rngD, forL, Itm.ok, stays, List.all_nil, fit0, fit1, fit2, fit3, fit4, fit5, fit6, fit7, fit8, fit9, fit10, fit11, fit12, fit13, fit14, fit15, fit16, hw1]
      rw [seq_nx i2]
      obtain ⟨v, M2, e2, v0, v1, B2, X2, N2⟩ := s_scoop2 n M1 _ 40 B1 (by decide) (by decide) (by omega)
      have e2 := hg e2
      have c1 : Sm 2 = true := Sm64 (by decide)
      have c2 : Sm v = true := Sm64 (by omega)
      have i3 : evS C l_quotient_3 ⟨[.val (.loc 1), .val (.int low), .val (.int w), .no, .no], M1⟩ = .ok .nx ⟨[.val (.loc 1), .val (.int low), .val (.int w), .val (.int (low + 2 * v)), .val (.int 2)], M2⟩ := by
        simp [evSs, evS, evX, evXs, evEs, evA, evAg, evT, evTB, evB, evG, evGs, evI, Tgs.len, varD, R.bind, biD, bi1, bi2_gcd, lif, toVal, setName_def, isRo_no, isRo_val, isRo_own, cmpD, truD, negD, binD, intOp, retD, ofBody, callD, call_CN, callkD, slots, Ar.slot, lend, ofCall, subD, seq, lis, G.atI, isTys, isTy, eqD, D.eqv, pure60, D.pure, D.deep, List.set, setD, putL, cell, methD, mtD, strI, ofSeq, plcC, plcV, unl, lock, unlock, rngD, forL, Itm.ok, stays, List.all_nil, fit0, fit1, fit2, fit3, fit4, fit5, fit6, fit7, fit8, fit9, fit10, fit11, fit12, fit13, fit14, fit15, fit16, e2, c1, c2]
      rw [seq_nx i3]
      obtain ⟨num, hnum⟩ : ∃ num, num = low + 2 * v := ⟨_, rfl⟩
      rw [← hnum]
      by_cases hl1 : low < 1
      · by_cases he : num.fmod 2 = 0
        · have he' : num % 2 = 0 := by rw [← Int.fmod_eq_emod_of_nonneg _ (by decide : (0 : Int) ≤ 2)]; exact he
          obtain ⟨r, hr, hb⟩ := qd_mk (a := num + 1) (b := 2) (k := 30) (by decide) (gcd2 (by omega)) (by omega) (by decide)
          refine ⟨r, M2, ?_, hb, B2, X1.trans X2⟩
          rw [← hr]
          have i4 : evS C l_quotient_4 ⟨[.val (.loc 1), .val (.int low), .val (.int w), .val (.int num), .val (.int 2)], M2⟩ = .ok (.rt (.val (T2 (num + 1) 2))) ⟨[.val (.loc 1), .val (.int low), .val (.int w), .val (.int num), .val (.int 2)], M2⟩ := by
            simp [evSs, evS, evX, evXs, evEs, evA, evAg, evT, evTB, evB, evG, evGs, evI, Tgs.len, varD, R.bind, biD, bi1, bi2_gcd, lif, toVal, setName_def, isRo_no, isRo_val, isRo_own, cmpD, truD, negD, binD, intOp, retD, ofBody, callD, call_CN, callkD, slots, Ar.slot, lend, ofCall, subD, seq, lis, G.atI, isTys, isTy, eqD, D.eqv, pure60, D.pure, D.deep, List.set, setD, putL, cell, methD, mtD, strI, ofSeq, plcC, plcV, unl, lock, unlock, rngD, forL, Itm.ok, stays, List.all_nil, fit0, fit1, fit2, fit3, fit4, fit5, fit6, fit7, fit8, fit9, fit10, fit11, fit12, fit13, fit14, fit15, fit16, hl1, he]
          rw [seq_rt i4]
          rfl
        · have he' : ¬ num % 2 = 0 := by rw [← Int.fmod_eq_emod_of_nonneg _ (by decide : (0 : Int) ≤ 2)]; exact he
          obtain ⟨r, hr, hb⟩ := qd_mk (a := num) (b := 2) (k := 30) (by decide) (gcd2 (by omega)) (by omega) (by decide)
          refine ⟨r, M2, ?_, hb, B2, X1.trans X2⟩
          rw [← hr]
          have i4 : evS C l_quotient_4 ⟨[.val (.loc 1), .val (.int low), .val (.int w), .val (.int num), .val (.int 2)], M2⟩ = .ok (.rt (.val (T2 num 2))) ⟨[.val (.loc 1), .val (.int low), .val (.int w), .val (.int num), .val (.int 2)], M2⟩ := by
            simp [evSs, evS, evX, evXs, evEs, evA, evAg, evT, evTB, evB, evG, evGs, evI, Tgs.len, varD, R.bind, biD, bi1, bi2_gcd, lif, toVal, setName_def, isRo_no, isRo_val, isRo_own, cmpD, truD, negD, binD, intOp, retD, ofBody, callD, call_CN, callkD, slots, Ar.slot, lend, ofCall, subD, seq, lis, G.atI, isTys, isTy, eqD, D.eqv, pure60, D.pure, D.deep, List.set, setD, putL, cell, methD, mtD, strI, ofSeq, plcC, plcV, unl, lock, unlock, rngD, forL, Itm.ok, stays, List.all_nil, fit0, fit1, fit2, fit3, fit4, fit5, fit6, fit7, fit8, fit9, fit10, fit11, fit12, fit13, fit14, fit15, fit16, hl1, he]
          rw [seq_rt i4]
          rfl
      · obtain ⟨r, hr, hb⟩ := qd_mk (a := 2 * num + 1) (b := 4) (k := 30) (by decide) (gcd4 (by omega)) (by omega) (by decide)
        refine ⟨r, M2, ?_, hb, B2, X1.trans X2⟩
        rw [← hr]
        have i4 : evS C l_quotient_4 ⟨[.val (.loc 1), .val (.int low), .val (.int w), .val (.int num), .val (.int 2)], M2⟩ = .ok .nx ⟨[.val (.loc 1), .val (.int low), .val (.int w), .val (.int num), .val (.int 2)], M2⟩ := by
          simp [evSs, evS, evX, evXs, evEs, evA, evAg, evT, evTB, evB, evG, evGs, evI, Tgs.len, varD, R.bind, biD, bi1, bi2_gcd, lif, toVal, setName_def, isRo_no, isRo_val, isRo_own, cmpD, truD, negD, binD, intOp, retD, ofBody, callD, call_CN, callkD, slots, Ar.slot, lend, ofCall, subD, seq, lis, G.atI, isTys, isTy, eqD, D.eqv, pure60, D.pure, D.deep, List.set, setD, putL, cell, methD, mtD, strI, ofSeq, plcC, plcV, unl, lock, unlock, rngD, forL, Itm.ok, stays, List.all_nil, fit0, fit1, fit2, fit3, fit4, fit5, fit6, fit7, fit8, fit9, fit10, fit11, fit12, fit13, fit14, fit15, fit16, hl1]
        rw [seq_nx i4]
        have c3 : Sm num = true := Sm64 (by omega)
        simp [evSs, evS, evX, evXs, evEs, evA, evAg, evT, evTB, evB, evG, evGs, evI, Tgs.len, varD, R.bind, biD, bi1, bi2_gcd, lif, toVal, setName_def, isRo_no, isRo_val, isRo_own, cmpD, truD, negD, binD, intOp, retD, ofBody, callD, call_CN, callkD, slots, Ar.slot, lend, ofCall, subD, seq, lis, G.atI, isTys, isTy, eqD, D.eqv, pure60, D.pure, D.deep, List.set, setD, putL, cell, methD, mtD, strI, ofSeq, plcC, plcV, unl, lock, unlock, rngD, forL, Itm.ok, stays, List.all_nil, fit0, fit1, fit2, fit3, fit4, fit5, fit6, fit7, fit8, fit9, fit10, fit11, fit12, fit13, fit14, fit15, fit16, c1, c3]
theorem maps_of {α : Type} {f : α → D} {Q : α → Prop} : ∀ {ds : List D}, (∀ (j : Nat) d, ds[j]? = some d → ∃ r, d = f r ∧ Q r) → ∃ rs : List α, ds = rs.map f ∧ ∀ r ∈ rs, Q r
  | [], _ => ⟨[], rfl, fun r h => absurd h List.not_mem_nil⟩
  | d :: ds, h => by
    obtain ⟨r, rfl, hq⟩ := h 0 d rfl
    obtain ⟨rs, rfl, hs⟩ := maps_of (ds := ds) fun j d hd => h (j + 1) d hd
    exact ⟨r :: rs, rfl, fun x hx => by
      rcases List.mem_cons.mp hx with rfl | hx
      · exact hq
      · exact hs x hx⟩
theorem c_values (n : Nat) (a b : Slot) (M : List Cell) : RN (n+1) (Str.ofString "_law_values") [a, b] M = ofBody (evSs (CN n) bl_values ⟨[a, b, .no], M⟩) := rfl
theorem s_values (n : Nat) (M : List Cell) (T : Nat) (ks : List Kd) (RS : List D) (B : Basin T M) (hT : T < 2 ^ 28) (hl : RS.length < 1000) :
    ∃ (rs : List Rat) (M' : List Cell), RN (n+3) (Str.ofString "_law_values") [.val (.loc 1), .val (KD ks RS)] M = .ok (.val (.tup (rs.map qd))) M' ∧ rs.length = RS.length ∧ (∀ r ∈ rs, Bd 30 r) ∧ Basin (T + 2 * RS.length) M' ∧ Ls M M' := by
  rw [c_values]
  obtain ⟨C, hC, hg⟩ := opq (n+2)
  rw [← hC]
  unfold KD
  have g1 : L2.atI [D.tup (ks.map kD), D.tup RS] 1 = some (.tup RS) := rfl
  generalize D.tup (ks.map kD) = KS at *
  have hi : evI C (.q (.sub (.var 1) (.cst (.int 1)))) ⟨[.val (.loc 1), .val (.tup [KS, .tup RS]), .no], M⟩ = .ok ⟨RS, [], []⟩ ⟨[.val (.loc 1), .val (.tup [KS, .tup RS]), .no], M⟩ := by
    simp [evSs, evS, evX, evXs, evEs, evA, evAg, evT, evTB, evB, evG, evGs, evI, Tgs.len, varD, R.bind, biD, bi1, bi2_gcd, lif, toVal, setName_def, isRo_no, isRo_val, isRo_own, cmpD, truD, negD, binD, intOp, retD, ofBody, callD, call_CN, callkD, slots, Ar.slot, lend, ofCall, subD, seq, lis, G.atI, isTys, isTy, eqD, D.eqv, pure60, D.pure, D.deep, List.set, setD, putL, cell, methD, mtD, strI, ofSeq, plcC, plcV, unl, lock, unlock, rngD, forL, Itm.ok, stays, List.all_nil, fit0, fit1, fit2, fit3, fit4, fit5, fit6, fit7, fit8, fit9, fit10, fit11, fit12, fit13, fit14, fit15, fit16, g1]
  obtain ⟨ds, M5, ec, ⟨B5, X5⟩, ld, hd⟩ := comp_inv l_values_C0 rfl hi rfl rfl rfl rfl (fits_lt (by dsimp only; omega)) (fun j M' => Basin (T + 2 * j) M' ∧ Ls M M') (fun j d => ∃ r : Rat, d = qd r ∧ Bd 30 r) ⟨B, Ls.refl _⟩ (by
    rintro j x M' hx ⟨B', X'⟩
    have hj := lt_get hx
    dsimp only at hj
    obtain ⟨r, M7, e7, br, B7, X7⟩ := s_quotient n M' _ (-9) B' (by omega) (by decide)
    have e7 := hg e7
    refine ⟨qd r, [.val (.loc 1), .val (.tup [KS, .tup RS]), .val x], M7, ?_, rfl, ⟨B7, X'.trans X7⟩, r, rfl, br⟩
    generalize qd r = q at *
    simp [turnC, evSs, evS, evX, evXs, evEs, evA, evAg, evT, evTB, evB, evG, evGs, evI, Tgs.len, varD, R.bind, biD, bi1, bi2_gcd, lif, toVal, setName_def, isRo_no, isRo_val, isRo_own, cmpD, truD, negD, binD, intOp, retD, ofBody, callD, call_CN, callkD, slots, Ar.slot, lend, ofCall, subD, seq, lis, G.atI, isTys, isTy, eqD, D.eqv, pure60, D.pure, D.deep, List.set, setD, putL, cell, methD, mtD, strI, ofSeq, plcC, plcV, unl, lock, unlock, rngD, forL, Itm.ok, stays, List.all_nil, fit0, fit1, fit2, fit3, fit4, fit5, fit6, fit7, fit8, fit9, fit10, fit11, fit12, fit13, fit14, fit15, fit16, e7])
  dsimp only at ld B5
  obtain ⟨rs, rfl, hb⟩ := maps_of hd
  rw [List.length_map] at ld
  refine ⟨rs, M5, ?_, ld, hb, B5, X5⟩
  unfold bl_values
  rw [ret_tup ec]
  rfl
def pD (p : Rat × Rat) : D := .tup [qd p.1, qd p.2]
theorem c_choice (n : Nat) (a b : Slot) (M : List Cell) : RN (n+1) (Str.ofString "_law_choice") [a, b] M = ofBody (evSs (CN n) bl_choice ⟨[a, b, .no, .no, .no, .no], M⟩) := rfl
theorem s_choice (n : Nat) (M : List Cell) (T : Nat) (ks : List Kd) (RS : List D) (B : Basin T M) (hT : T < 2 ^ 28) (hl : ks.length < 1000) :
    ∃ (cs : List (Rat × Rat)) (M' : List Cell), RN (n+3) (Str.ofString "_law_choice") [.val (.loc 1), .val (KD ks RS)] M = .ok (.val (.tup (cs.map pD))) M' ∧ cs.length = ks.length ∧ (∀ p ∈ cs, Bd 30 p.1 ∧ Bd 30 p.2) ∧ Basin (T + 4 * ks.length) M' ∧ Ls M M' := by
  rw [c_choice]
  obtain ⟨C, hC, hg⟩ := opq (n+2)
  rw [← hC]
  unfold KD
  have g1 : L2.atI [D.tup (ks.map kD), D.tup RS] 0 = some (.tup (ks.map kD)) := rfl
  obtain ⟨r0, hr0, b0⟩ := qd_mk (a := 0) (b := 1) (k := 30) (by decide) (by decide) (by decide) (by decide)
  obtain ⟨r1, hr1, b1⟩ := qd_mk (a := 1) (b := 1) (k := 30) (by decide) (by decide) (by decide) (by decide)
  have i0 : evS C l_choice_0 ⟨[.val (.loc 1), .val (.tup [.tup (ks.map kD), .tup RS]), .no, .no, .no, .no], M⟩ = .ok .nx ⟨[.val (.loc 1), .val (.tup [.tup (ks.map kD), .tup RS]), .own [], .no, .no, .no], M⟩ := by
    generalize D.tup [.tup (ks.map kD), .tup RS] = ST at *
    simp [evSs, evS, evX, evXs, evEs, evA, evAg, evT, evTB, evB, evG, evGs, evI, Tgs.len, varD, R.bind, biD, bi1, bi2_gcd, lif, toVal, setName_def, isRo_no, isRo_val, isRo_own, cmpD, truD, negD, binD, intOp, retD, ofBody, callD, call_CN, callkD, slots, Ar.slot, lend, ofCall, subD, seq, lis, G.atI, isTys, isTy, eqD, D.eqv, pure60, D.pure, D.deep, List.set, setD, putL, cell, methD, mtD, strI, ofSeq, plcC, plcV, unl, lock, unlock, rngD, forL, Itm.ok, stays, List.all_nil, fit0, fit1, fit2, fit3, fit4, fit5, fit6, fit7, fit8, fit9, fit10, fit11, fit12, fit13, fit14, fit15, fit16]
  have hi : evI C (.q (.sub (.var 1) (.cst (.int 0)))) ⟨[.val (.loc 1), .val (.tup [.tup (ks.map kD), .tup RS]), .own [], .no, .no, .no], M⟩ = .ok ⟨ks.map kD, [], []⟩ ⟨[.val (.loc 1), .val (.tup [.tup (ks.map kD), .tup RS]), .own [], .no, .no, .no], M⟩ := by
    generalize ks.map kD = KS at *
    simp [evSs, evS, evX, evXs, evEs, evA, evAg, evT, evTB, evB, evG, evGs, evI, Tgs.len, varD, R.bind, biD, bi1, bi2_gcd, lif, toVal, setName_def, isRo_no, isRo_val, isRo_own, cmpD, truD, negD, binD, intOp, retD, ofBody, callD, call_CN, callkD, slots, Ar.slot, lend, ofCall, subD, seq, lis, G.atI, isTys, isTy, eqD, D.eqv, pure60, D.pure, D.deep, List.set, setD, putL, cell, methD, mtD, strI, ofSeq, plcC, plcV, unl, lock, unlock, rngD, forL, Itm.ok, stays, List.all_nil, fit0, fit1, fit2, fit3, fit4, fit5, fit6, fit7, fit8, fit9, fit10, fit11, fit12, fit13, fit14, fit15, fit16, g1]
  obtain ⟨s', i1, cs, x3, x4, x5, M', n3, n4, n5, es, lc, bc, B', X'⟩ := fors_inv l_choice_1 rfl hi rfl rfl (fun j s => ∃ (cs : List (Rat × Rat)) (x3 x4 x5 : Slot) (M' : List Cell), isRo x3 = false ∧ isRo x4 = false ∧ isRo x5 = false ∧ s = ⟨[.val (.loc 1), .val (.tup [.tup (ks.map kD), .tup RS]), .own (cs.map pD), x3, x4, x5], M'⟩ ∧ cs.length = j ∧ (∀ p ∈ cs, Bd 30 p.1 ∧ Bd 30 p.2) ∧ Basin (T + 4 * j) M' ∧ Ls M M')
    ⟨[], _, _, _, _, rfl, rfl, rfl, rfl, rfl, fun p h => absurd h List.not_mem_nil, B, Ls.refl _⟩ (by
    rintro j x s hx ⟨cs, x3, x4, x5, M', n3, n4, n5, rfl, lc, bc, B', X'⟩
    have hj := lt_get hx
    dsimp only at hj hx
    rw [List.length_map] at hj
    obtain ⟨k, hk, rfl⟩ := get_map hx
    generalize D.tup [.tup (ks.map kD), .tup RS] = ST at *
    -- the two quotients
    obtain ⟨p, M2, ep, bp1, bp2, B2, X2⟩ : ∃ (p : Rat × Rat) (M2 : List Cell), ((evG C (.tup (.cons (.name 3) (.cons (.name 4) (.cons (.name 5) (.nil))))) (kD k) ⟨[.val (.loc 1), .val ST, .own (cs.map pD), x3, x4, x5], M'⟩).bind fun _ s2 => evSs C l_choice_1b s2) = .ok .nx ⟨[.val (.loc 1), .val ST, .own (cs.map pD ++ [.tup [qd p.1, qd p.2]]), .val (.str k.nm), .val (flD k.z), .val (flD k.u)], M2⟩ ∧ Bd 30 p.1 ∧ Bd 30 p.2 ∧ Basin (T + 4 * j + 4) M2 ∧ Ls M' M2 := by
      have hlc : (cs.map pD).length = cs.length := List.length_map _
      have hsl : cs.length < sizeLine := lt_sizeLine (by omega)
      generalize cs.map pD = CS at *
      obtain ⟨_, z2⟩ := eqD_fl k.z
      obtain ⟨_, u2⟩ := eqD_fl k.u
      have hkd : kD k = .tup [.str k.nm, flD k.z, flD k.u] := rfl
      rw [hkd]
      cases hz : k.z with
      | false =>
        rw [hz] at z2
        cases hu : k.u with
        | false =>
          rw [hu] at u2
          refine ⟨(r0, r1), M', ?_, b0, b1, B'.up _ (by omega), Ls.refl _⟩
          dsimp only
          rw [← hr0, ← hr1]
          generalize flD false = fl at *
          simp [evSs, evS, evX, evXs, evEs, evA, evAg, evT, evTB, evB, evG, evGs, evI, Tgs.len, varD, R.bind, biD, bi1, bi2_gcd, lif, toVal, setName_def, isRo_no, isRo_val, isRo_own, cmpD, truD, negD, binD, intOp, retD, ofBody, callD, call_CN, callkD, slots, Ar.slot, lend, ofCall, subD, seq, lis, G.atI, isTys, isTy, D.pure, D.deep, List.set, setD, putL, cell, methD, mtD, strI, ofSeq, plcC, plcV, unl, lock, unlock, rngD, forL, Itm.ok, stays, List.all_nil, fit0, fit1, fit2, fit3, fit4, fit5, fit6, fit7, fit8, fit9, fit10, fit11, fit12, fit13, fit14, fit15, fit16, n3, n4, n5, z2, u2, hlc, hsl]
        | true =>
          rw [hu] at u2
          obtain ⟨r, M7, e7, br, B7, X7⟩ := s_quotient n M' _ 1 B' (by omega) (by decide)
          have e7 := hg e7
          refine ⟨(r0, r), M7, ?_, b0, br, B7.up _ (by omega), X7⟩
          dsimp only
          rw [← hr0]
          generalize flD false = fl at *
          generalize flD true = fu at *
          generalize qd r = q at *
          simp [evSs, evS, evX, evXs, evEs, evA, evAg, evT, evTB, evB, evG, evGs, evI, Tgs.len, varD, R.bind, biD, bi1, bi2_gcd, lif, toVal, setName_def, isRo_no, isRo_val, isRo_own, cmpD, truD, negD, binD, intOp, retD, ofBody, callD, call_CN, callkD, slots, Ar.slot, lend, ofCall, subD, seq, lis, G.atI, isTys, isTy, D.pure, D.deep, List.set, setD, putL, cell, methD, mtD, strI, ofSeq, plcC, plcV, unl, lock, unlock, rngD, forL, Itm.ok, stays, List.all_nil, fit0, fit1, fit2, fit3, fit4, fit5, fit6, fit7, fit8, fit9, fit10, fit11, fit12, fit13, fit14, fit15, fit16, n3, n4, n5, z2, u2, hlc, hsl, e7]
      | true =>
        rw [hz] at z2
        obtain ⟨r, M7, e7, br, B7, X7⟩ := s_quotient n M' _ (-9) B' (by omega) (by decide)
        have e7 := hg e7
        cases hu : k.u with
        | false =>
          rw [hu] at u2
          refine ⟨(r, r1), M7, ?_, br, b1, B7.up _ (by omega), X7⟩
          dsimp only
          rw [← hr1]
          generalize flD false = fl at *
          generalize flD true = fu at *
          generalize qd r = q at *
          simp [evSs, evS, evX, evXs, evEs, evA, evAg, evT, evTB, evB, evG, evGs, evI, Tgs.len, varD, R.bind, biD, bi1, bi2_gcd, lif, toVal, setName_def, isRo_no, isRo_val, isRo_own, cmpD, truD, negD, binD, intOp, retD, ofBody, callD, call_CN, callkD, slots, Ar.slot, lend, ofCall, subD, seq, lis, G.atI, isTys, isTy, D.pure, D.deep, List.set, setD, putL, cell, methD, mtD, strI, ofSeq, plcC, plcV, unl, lock, unlock, rngD, forL, Itm.ok, stays, List.all_nil, fit0, fit1, fit2, fit3, fit4, fit5, fit6, fit7, fit8, fit9, fit10, fit11, fit12, fit13, fit14, fit15, fit16, n3, n4, n5, z2, u2, hlc, hsl, e7]
        | true =>
          rw [hu] at u2
          obtain ⟨r2, M8, e8, br2, B8, X8⟩ := s_quotient n M7 _ 1 B7 (by omega) (by decide)
          have e8 := hg e8
          refine ⟨(r, r2), M8, ?_, br, br2, B8, X7.trans X8⟩
          dsimp only
          generalize flD true = fu at *
          generalize qd r = q at *
          generalize qd r2 = q2 at *
          simp [evSs, evS, evX, evXs, evEs, evA, evAg, evT, evTB, evB, evG, evGs, evI, Tgs.len, varD, R.bind, biD, bi1, bi2_gcd, lif, toVal, setName_def, isRo_no, isRo_val, isRo_own, cmpD, truD, negD, binD, intOp, retD, ofBody, callD, call_CN, callkD, slots, Ar.slot, lend, ofCall, subD, seq, lis, G.atI, isTys, isTy, D.pure, D.deep, List.set, setD, putL, cell, methD, mtD, strI, ofSeq, plcC, plcV, unl, lock, unlock, rngD, forL, Itm.ok, stays, List.all_nil, fit0, fit1, fit2, fit3, fit4, fit5, fit6, fit7, fit8, fit9, fit10, fit11, fit12, fit13, fit14, fit15, fit16, n3, n4, n5, z2, u2, hlc, hsl, e7, e8]
    have hap : cs.map pD ++ [.tup [qd p.1, qd p.2]] = (cs ++ [p]).map pD := by rw [List.map_append]; rfl
    rw [hap] at ep
    refine ⟨_, ep, _, _, _, _, _, rfl, rfl, rfl, rfl, by simp [lc], fun q hq => ?_, B2.up _ (by omega), X'.trans X2⟩
    rcases List.mem_append.mp hq with hq | hq
    · exact bc q hq
    · rw [List.mem_singleton.mp hq]; exact ⟨bp1, bp2⟩)
  subst es
  dsimp only at lc B'
  rw [List.length_map] at lc B'
  refine ⟨cs, M', ?_, lc, bc, B', X'⟩
  unfold bl_choice
  rw [seq_nx i0, seq_nx i1]
  generalize cs.map pD = CS at *
  generalize D.tup [.tup (ks.map kD), .tup RS] = ST at *
  simp [evSs, evS, evX, evXs, evEs, evA, evAg, evT, evTB, evB, evG, evGs, evI, Tgs.len, varD, R.bind, biD, bi1, bi2_gcd, lif, toVal, setName_def, isRo_no, isRo_val, isRo_own, cmpD, truD, negD, binD, intOp, retD, ofBody, callD, call_CN, callkD, slots, Ar.slot, lend, ofCall, subD, seq, lis, G.atI, isTys, isTy, eqD, D.eqv, pure60, D.pure, D.deep, List.set, setD, putL, cell, methD, mtD, strI, ofSeq, plcC, plcV, unl, lock, unlock, rngD, forL, Itm.ok, stays, List.all_nil, fit0, fit1, fit2, fit3, fit4, fit5, fit6, fit7, fit8, fit9, fit10, fit11, fit12, fit13, fit14, fit15, fit16]
end G

/-! ## V18 -/
set_option Elab.async false
set_option linter.all false
set_option maxRecDepth 100000
set_option maxHeartbeats 8000000
namespace G
open PySem
/-! ### bent things -/
def SmI (i : Int) : Prop := i.natAbs < 2 ^ 9000
mutual
/-- all numbers are small enough -/
def Bn : D → Prop
  | .int i => SmI i
  | .tup xs => Bns xs
  | _ => True
def Bns : List D → Prop
  | [] => True
  | d :: ds => Bn d ∧ Bns ds
end
theorem Bns.mem : ∀ {ds : List D}, Bns ds → ∀ d ∈ ds, Bn d
  | [], _, d, h => absurd h List.not_mem_nil
  | x :: xs, w, d, h => by
    simp only [Bns] at w
    rcases List.mem_cons.mp h with rfl | h
    · exact w.1
    · exact Bns.mem w.2 d h
theorem Bns.of : ∀ {ds : List D}, (∀ d ∈ ds, Bn d) → Bns ds
  | [], _ => trivial
  | x :: xs, w => by
    simp only [Bns]
    exact ⟨w x List.mem_cons_self, Bns.of fun d h => w d (List.mem_cons_of_mem _ h)⟩
theorem Wds.mem {M : List Cell} : ∀ {ds : List D}, Wds M ds → ∀ d ∈ ds, Wd M d
  | [], _, d, h => absurd h List.not_mem_nil
  | x :: xs, w, d, h => by
    simp only [Wds] at w
    rcases List.mem_cons.mp h with rfl | h
    · exact w.1
    · exact Wds.mem w.2 d h
theorem Wds.of {M : List Cell} : ∀ {ds : List D}, (∀ d ∈ ds, Wd M d) → Wds M ds
  | [], _ => trivial
  | x :: xs, w => by
    simp only [Wds]
    exact ⟨w x List.mem_cons_self, Wds.of fun d h => w d (List.mem_cons_of_mem _ h)⟩
theorem Bn.Sb {d : D} (h : Bn d) : Sb d := by
  unfold G.Sb
  split
  · simp only [Bn, Bns] at h
    exact h.2.1
  · trivial
theorem Bn.Sbs {d : D} (h : Bn d) : Sbs d := by
  cases d with
  | tup xs =>
    simp only [Bn] at h
    exact fun x hx => (Bns.mem h x hx).Sb
  | _ => trivial
/-- a thing that may be asked about -/
def Gd (M : List Cell) (d : D) : Prop := Wd M d ∧ Bn d
theorem Gd.ask {M : List Cell} {d : D} (h : Gd M d) : Ask M d := by
  refine ⟨h.1, ?_, ?_⟩
  · cases d with
    | tup xs =>
      have := h.2
      simp only [Bn] at this
      exact fun x hx => (Bns.mem this x hx).Sb
    | _ => trivial
  · cases d with
    | tup xs =>
      have := h.2
      simp only [Bn] at this
      exact fun x hx => (Bns.mem this x hx).Sbs
    | _ => trivial
theorem Gd.up {M M' : List Cell} {d : D} (h : Gd M d) (l : Ls M M') : Gd M' d := ⟨h.1.up l, h.2⟩
theorem Gd.tup {M : List Cell} {ds : List D} (h : ∀ d ∈ ds, Gd M d) : Gd M (.tup ds) := by
  constructor
  · simp only [Wd]
    exact Wds.of fun d hd => (h d hd).1
  · simp only [Bn]
    exact Bns.of fun d hd => (h d hd).2
theorem SmI40 {i : Int} (h : i.natAbs < 2 ^ 40) : SmI i := Nat.lt_of_lt_of_le h (Nat.pow_le_pow_right (by decide) (by decide))
theorem qd_T2 {r : Rat} (h : Bd 30 r) : ∃ a b : Int, qd r = T2 a b ∧ a.natAbs < 2 ^ 30 ∧ b.natAbs < 2 ^ 30 := ⟨r.num, r.den, rfl, h.1, by simpa using h.2⟩
theorem gd_at {L : List D} {v : Int} (h0 : 0 ≤ v) (h1 : v < L.length) : ∃ d ∈ L, L2.atI L v = some d := by
  obtain ⟨m, rfl⟩ := Int.eq_ofNat_of_zero_le h0
  have hm : m < L.length := by omega
  exact ⟨L[m], List.getElem_mem hm, atI_nat (List.getElem?_eq_getElem hm)⟩
theorem fit17 : fits 17 = true := by decide
theorem c_odd (n : Nat) (a b : Slot) (M : List Cell) : RN (n+1) (Str.ofString "_law_odd") [a, b] M = ofBody (evSs (CN n) bl_odd ⟨[a, b, .no, .no, .no], M⟩) := rfl
theorem s_odd (n : Nat) (M : List Cell) (T : Nat) (r : Rat) (hr : Bd 30 r) (B : Basin T M) (hT : T < 2 ^ 29) :
    ∃ (d : D) (M' : List Cell), RN (n+2) (Str.ofString "_law_odd") [.val (.loc 1), .val (qd r)] M = .ok (.val d) M' ∧ Gd M' d ∧ Basin (T + 1) M' ∧ Ls M M' := by
  rw [c_odd]
  obtain ⟨C, hC, hg⟩ := opq (n+1)
  rw [← hC]
  obtain ⟨a, b, e, ha, hb⟩ := qd_T2 hr
  rw [e]
  have i0 : evS C l_odd_0 ⟨[.val (.loc 1), .val (T2 a b), .no, .no, .no], M⟩ = .ok .nx ⟨[.val (.loc 1), .val (T2 a b), .val (.int a), .val (.int b), .no], M⟩ := by
    simp [evSs, evS, evX, evXs, evEs, evA, evAg, evT, evTB, evB, evG, evGs, evI, Tgs.len, varD, R.bind, biD, bi1, bi2_gcd, lif, toVal, setName_def, isRo_no, isRo_val, isRo_own, cmpD, truD, negD, binD, intOp, retD, ofBody, callD, call_CN, callkD, slots, Ar.slot, lend, ofCall, subD, seq, lis, G.atI, isTys, isTy, eqD, D.eqv, pure60, D.pure, D.deep, List.set, setD, putL, cell, methD, mtD, strI, ofSeq, plcC, plcV, unl, lock, unlock, rngD, forL, Itm.ok, stays, List.all_nil, fit0, fit1, fit2, fit3, fit4, fit5, fit6, fit7, fit8, fit9, fit10, fit11, fit12, fit13, fit14, fit15, fit16]
  have c1 : Sm 2 = true := Sm64 (by decide)
  have c2 : Sm a = true := Sm64 (by omega)
  have c3 : Sm b = true := Sm64 (by omega)
  have hts := ts_str a ha
  obtain ⟨L, hL⟩ : ∃ L : List D, L = [T2 (2 * a) (2 * b), T2 a (0 - b), .loc M.length, .tup [.int a, .int b, .int 1], .tup [.int a], .tup [.int a, .bl true], .tup [.bl true, .int b], .tup [.int a, .non], .int a, .non, .str (Str.ofString "1"), T2 0 2, T2 a 0, .tup [.str (ts a), .int b], .tup [T2 a b, .int 1], T2 0 0, .tup []] := ⟨_, rfl⟩
  have i1 : evS C l_odd_1 ⟨[.val (.loc 1), .val (T2 a b), .val (.int a), .val (.int b), .no], M⟩ = .ok .nx ⟨[.val (.loc 1), .val (T2 a b), .val (.int a), .val (.int b), .own L], M ++ [.lst [.int a, .int b]]⟩ := by
    rw [hL]
    generalize ts a = z at *
    simp [evSs, evS, evX, evXs, evEs, evA, evAg, evT, evTB, evB, evG, evGs, evI, Tgs.len, varD, R.bind, biD, bi1, bi2_gcd, lif, toVal, setName_def, isRo_no, isRo_val, isRo_own, cmpD, truD, negD, binD, intOp, retD, ofBody, callD, call_CN, callkD, slots, Ar.slot, lend, ofCall, subD, seq, lis, G.atI, isTys, isTy, eqD, D.eqv, pure60, D.pure, D.deep, List.set, setD, putL, cell, methD, mtD, ofSeq, plcC, plcV, unl, lock, unlock, rngD, forL, Itm.ok, stays, List.all_nil, fit0, fit1, fit2, fit3, fit4, fit5, fit6, fit7, fit8, fit9, fit10, fit11, fit12, fit13, fit14, fit15, fit16, c1, c2, c3, hts, fit17]
  have hlen : L.length = 17 := by rw [hL]; rfl
  have B1 : Basin T (M ++ [.lst [.int a, .int b]]) := B.app
  have X1 : Ls M (M ++ [.lst [.int a, .int b]]) := Ls.app _ _
  have hloc : (M ++ [Cell.lst [.int a, .int b]])[M.length]? = some (.lst [.int a, .int b]) := by simp
  have hgood : ∀ d ∈ L, Gd (M ++ [.lst [.int a, .int b]]) d := by
    rw [hL]
    have s1 : SmI a := SmI40 (by omega)
    have s2 : SmI b := SmI40 (by omega)
    have s3 : SmI (2 * a) := SmI40 (by omega)
    have s4 : SmI (2 * b) := SmI40 (by omega)
    have s5 : SmI (0 - b) := SmI40 (by omega)
    have s5' : SmI (-b) := SmI40 (by omega)
    have s6 : SmI 0 := SmI40 (by decide)
    have s7 : SmI 1 := SmI40 (by decide)
    have s8 : SmI 2 := SmI40 (by decide)
    generalize M ++ [Cell.lst [.int a, .int b]] = M1 at *
    simp [Gd, Wd, Wds, Bn, Bns, s1, s2, s3, s4, s5, s5', s6, s7, s8, hloc]
  generalize M ++ [Cell.lst [.int a, .int b]] = M1 at *
  obtain ⟨v, M2, e2, v0, v1, B2, X2, N2⟩ := s_scoop2 n M1 _ 17 B1 (by decide) (by decide) (by omega)
  have e2 := hg e2
  obtain ⟨d, hd, hat⟩ := gd_at (L := L) v0 (by rw [hlen]; exact v1)
  refine ⟨d, M2, ?_, (hgood d hd).up X2, B2, X1.trans X2⟩
  unfold bl_odd
  rw [seq_nx i0, seq_nx i1]
  clear hL hgood
  simp [evSs, evS, evX, evXs, evEs, evA, evAg, evT, evTB, evB, evG, evGs, evI, Tgs.len, varD, R.bind, biD, bi1, bi2_gcd, lif, toVal, setName_def, isRo_no, isRo_val, isRo_own, cmpD, truD, negD, binD, intOp, retD, ofBody, callD, call_CN, callkD, slots, Ar.slot, lend, ofCall, subD, seq, lis, G.atI, isTys, isTy, eqD, D.eqv, pure60, D.pure, D.deep, List.set, setD, putL, cell, methD, mtD, strI, ofSeq, plcC, plcV, unl, lock, unlock, rngD, forL, Itm.ok, stays, List.all_nil, fit0, fit1, fit2, fit3, fit4, fit5, fit6, fit7, fit8, fit9, fit10, fit11, fit12, fit13, fit14, fit15, fit16, hlen, e2, hat]
theorem c_bent (n : Nat) (a b : Slot) (M : List Cell) : RN (n+1) (Str.ofString "_law_bent_pair") [a, b] M = ofBody (evSs (CN n) bl_bent_pair ⟨[a, b, .no, .no, .no], M⟩) := rfl
theorem s_bent (n : Nat) (M : List Cell) (T : Nat) (p : Rat × Rat) (hp : Bd 30 p.1 ∧ Bd 30 p.2) (B : Basin T M) (hT : T < 2 ^ 28) :
    ∃ (d : D) (M' : List Cell), RN (n+3) (Str.ofString "_law_bent_pair") [.val (.loc 1), .val (pD p)] M = .ok (.val d) M' ∧ Gd M' d ∧ Basin (T + 3) M' ∧ Ls M M' := by
  rw [c_bent]
  obtain ⟨C, hC, hg⟩ := opq (n+2)
  rw [← hC]
  obtain ⟨d1, M1, e1, g1, B1, X1⟩ := s_odd n M _ p.2 hp.2 B (by omega)
  have e1 := hg e1
  obtain ⟨d2, M2, e2, g2, B2, X2⟩ := s_odd n M1 _ p.1 hp.1 B1 (by omega)
  have e2 := hg e2
  unfold pD
  obtain ⟨a, b, e, ha, hb⟩ := qd_T2 hp.1
  obtain ⟨c, u, e', hc, hu⟩ := qd_T2 hp.2
  rw [e] at e2 ⊢
  rw [e'] at e1 ⊢
  have i0 : evS C l_bent_pair_0 ⟨[.val (.loc 1), .val (.tup [T2 a b, T2 c u]), .no, .no, .no], M⟩ = .ok .nx ⟨[.val (.loc 1), .val (.tup [T2 a b, T2 c u]), .val (T2 a b), .val (T2 c u), .no], M⟩ := by
    simp [evSs, evS, evX, evXs, evEs, evA, evAg, evT, evTB, evB, evG, evGs, evI, Tgs.len, varD, R.bind, biD, bi1, bi2_gcd, lif, toVal, setName_def, isRo_no, isRo_val, isRo_own, cmpD, truD, negD, binD, intOp, retD, ofBody, callD, call_CN, callkD, slots, Ar.slot, lend, ofCall, subD, seq, lis, G.atI, isTys, isTy, eqD, D.eqv, pure60, D.pure, D.deep, List.set, setD, putL, cell, methD, mtD, strI, ofSeq, plcC, plcV, unl, lock, unlock, rngD, forL, Itm.ok, stays, List.all_nil, fit0, fit1, fit2, fit3, fit4, fit5, fit6, fit7, fit8, fit9, fit10, fit11, fit12, fit13, fit14, fit15, fit16]
  have t0 : L2.atI [D.int c, D.int u] 0 = some (.int c) := rfl
  have t1 : L2.atI [D.int c, D.int u] 1 = some (.int u) := rfl
  obtain ⟨L, hL⟩ : ∃ L : List D, L = [.tup [T2 a b, d1], .tup [d2, T2 c u], .tup [T2 a b, T2 0 1], .tup [T2 a b, T2 (-1) 1], .tup [T2 a b, T2 (0 - c) u], .loc M2.length, .tup [T2 a b], .tup [T2 a b, T2 c u, T2 c u]] := ⟨_, rfl⟩
  have i1 : evS C l_bent_pair_1 ⟨[.val (.loc 1), .val (.tup [T2 a b, T2 c u]), .val (T2 a b), .val (T2 c u), .no], M⟩ = .ok .nx ⟨[.val (.loc 1), .val (.tup [T2 a b, T2 c u]), .val (T2 a b), .val (T2 c u), .own L], M2 ++ [.lst [T2 a b, T2 c u]]⟩ := by
    rw [hL]
    simp [evSs, evS, evX, evXs, evEs, evA, evAg, evT, evTB, evB, evG, evGs, evI, Tgs.len, varD, R.bind, biD, bi1, bi2_gcd, lif, toVal, setName_def, isRo_no, isRo_val, isRo_own, cmpD, truD, negD, binD, intOp, retD, ofBody, callD, call_CN, callkD, slots, Ar.slot, lend, ofCall, subD, seq, lis, G.atI, isTys, isTy, eqD, D.eqv, pure60, D.pure, D.deep, List.set, setD, putL, cell, methD, mtD, strI, ofSeq, plcC, plcV, unl, lock, unlock, rngD, forL, Itm.ok, stays, List.all_nil, fit0, fit1, fit2, fit3, fit4, fit5, fit6, fit7, fit8, fit9, fit10, fit11, fit12, fit13, fit14, fit15, fit16, e1, e2, t0, t1]
  obtain ⟨K, hK⟩ : ∃ K : List D, K = [.tup [T2 c u, T2 a b], T2 a b, .non, .bl true, .tup [T2 1 1, T2 c u], .tup [T2 a b, T2 2 1], .tup [T2 0 1, T2 c u], .tup [T2 a b, T2 1 1], .tup [T2 1 2, T2 1 2], .tup [.int a, .int b, .int c, .int u]] := ⟨_, rfl⟩
  have hlen : L.length = 8 := by rw [hL]; rfl
  have hlen2 : (L ++ K).length = 18 := by rw [hL, hK]; rfl
  have hcat : catOk L K = true := by rw [hL, hK]; exact (by decide : fits (8 + 10) = true)
  have hc2 : catOk [D.int a, .int b] [.int c, .int u] = true := (by decide : fits (2 + 2) = true)
  have B3 : Basin (T + 2) (M2 ++ [.lst [T2 a b, T2 c u]]) := B2.app
  have X3 : Ls M2 (M2 ++ [.lst [T2 a b, T2 c u]]) := Ls.app _ _
  have hloc : (M2 ++ [Cell.lst [T2 a b, T2 c u]])[M2.length]? = some (.lst [T2 a b, T2 c u]) := by simp
  have g1 := (g1.up X2).up X3
  have g2 := g2.up X3
  have i2 : evS C l_bent_pair_2 ⟨[.val (.loc 1), .val (.tup [T2 a b, T2 c u]), .val (T2 a b), .val (T2 c u), .own L], M2 ++ [.lst [T2 a b, T2 c u]]⟩ = .ok .nx ⟨[.val (.loc 1), .val (.tup [T2 a b, T2 c u]), .val (T2 a b), .val (T2 c u), .own (L ++ K)], M2 ++ [.lst [T2 a b, T2 c u]]⟩ := by
    rw [hK] at hcat ⊢
    clear hL hK
    generalize M2 ++ [Cell.lst [T2 a b, T2 c u]] = M3 at *
    simp [evSs, evS, evX, evXs, evEs, evA, evAg, evT, evTB, evB, evG, evGs, evI, Tgs.len, varD, R.bind, biD, bi1, bi2_gcd, lif, toVal, setName_def, isRo_no, isRo_val, isRo_own, cmpD, truD, negD, binD, intOp, retD, ofBody, callD, call_CN, callkD, slots, Ar.slot, lend, ofCall, subD, seq, lis, G.atI, isTys, isTy, eqD, D.eqv, pure60, D.pure, D.deep, List.set, setD, putL, cell, methD, mtD, strI, ofSeq, plcC, plcV, unl, lock, unlock, rngD, forL, Itm.ok, stays, List.all_nil, fit0, fit1, fit2, fit3, fit4, fit5, fit6, fit7, fit8, fit9, fit10, fit11, fit12, fit13, fit14, fit15, fit16, hcat, hc2]
  have hgood : ∀ d ∈ L ++ K, Gd (M2 ++ [.lst [T2 a b, T2 c u]]) d := by
    rw [hL, hK]
    obtain ⟨w1, b1⟩ := g1
    obtain ⟨w2, b2⟩ := g2
    have s1 : SmI a := SmI40 (by omega)
    have s2 : SmI b := SmI40 (by omega)
    have s3 : SmI c := SmI40 (by omega)
    have s4 : SmI u := SmI40 (by omega)
    have s5 : SmI (0 - c) := SmI40 (by omega)
    have s5' : SmI (-c) := SmI40 (by omega)
    have s6 : SmI 0 := SmI40 (by decide)
    have s7 : SmI 1 := SmI40 (by decide)
    have s8 : SmI 2 := SmI40 (by decide)
    have s9 : SmI (-1) := SmI40 (by decide)
    generalize M2 ++ [Cell.lst [T2 a b, T2 c u]] = M3 at *
    simp [Gd, Wd, Wds, Bn, Bns, s1, s2, s3, s4, s5, s5', s6, s7, s8, s9, hloc, w1, b1, w2, b2]
  generalize M2 ++ [Cell.lst [T2 a b, T2 c u]] = M3 at *
  generalize L ++ K = A at *
  obtain ⟨v, M4, e4, v0, v1, B4, X4, N4⟩ := s_scoop2 (n+1) M3 _ 18 B3 (by decide) (by decide) (by omega)
  have e4 := hg e4
  obtain ⟨d, hd, hat⟩ := gd_at (L := A) v0 (by rw [hlen2]; exact v1)
  refine ⟨d, M4, ?_, (hgood d hd).up X4, B4, ((X1.trans X2).trans X3).trans X4⟩
  unfold bl_bent_pair
  rw [seq_nx i0, seq_nx i1, seq_nx i2]
  clear hgood
  simp [evSs, evS, evX, evXs, evEs, evA, evAg, evT, evTB, evB, evG, evGs, evI, Tgs.len, varD, R.bind, biD, bi1, bi2_gcd, lif, toVal, setName_def, isRo_no, isRo_val, isRo_own, cmpD, truD, negD, binD, intOp, retD, ofBody, callD, call_CN, callkD, slots, Ar.slot, lend, ofCall, subD, seq, lis, G.atI, isTys, isTy, eqD, D.eqv, pure60, D.pure, D.deep, List.set, setD, putL, cell, methD, mtD, strI, ofSeq, plcC, plcV, unl, lock, unlock, rngD, forL, Itm.ok, stays, List.all_nil, fit0, fit1, fit2, fit3, fit4, fit5, fit6, fit7, fit8, fit9, fit10, fit11, fit12, fit13, fit14, fit15, fit16, hlen2, e4, hat]
end G

/-! ## V19 -/
set_option Elab.async false
set_option linter.all false
set_option maxRecDepth 100000
set_option maxHeartbeats 8000000
namespace G
open PySem
/-! ### the things that are asked about -/
theorem cut_mem {xs : List D} {a b : Option Int} {d : D} (h : d ∈ cut xs a b) : d ∈ xs := by
  unfold cut at h
  exact List.mem_of_mem_drop (List.mem_of_mem_take h)
theorem cut_len {xs : List D} {a b : Option Int} : (cut xs a b).length ≤ xs.length := by
  unfold cut
  rw [List.length_take, List.length_drop]
  omega
theorem mem_set {α : Type} {xs : List α} {m : Nat} {d x : α} (h : x ∈ xs.set m d) : x ∈ xs ∨ x = d := List.mem_or_eq_of_mem_set h
abbrev ifeT : Ex := .ife (.x (.cmp .Eq (.var 1) (.cst (.int 0)))) (.call (Str.ofString "_law_odd") (.cons (.v (.var 0)) (.cons (.v (.var 9)) (.nil)))) (.call (Str.ofString "_law_bent_pair") (.cons (.v (.var 0)) (.cons (.v (.var 9)) (.nil))))
/-- what a bent part is -/
def Bent (C : Cn) (w : Int) (xs : List D) : Prop := ∀ (x : D) (v : List Slot) (M : List Cell) (T : Nat), x ∈ xs → v[0]? = some (.val (.loc 1)) → v[1]? = some (.val (.int w)) → v[9]? = some (.val x) → Basin T M → T < 2 ^ 20 →
  ∃ (d : D) (M' : List Cell), evX C ifeT ⟨v, M⟩ = .ok (.val d) ⟨v, M'⟩ ∧ Gd M' d ∧ Basin (T + 3) M' ∧ Ls M M'
theorem things_in {n : Nat} {C : Cn} (hg : ∀ {f : Str} {vs : List Slot} {M : List Cell} {r : RF}, RN (n+1) f vs M = r → C.call f vs M = r) {w : Int} {ST : D} {xs : List D} (hb : Bent C w xs) (h1 : 1 ≤ xs.length) (hl : xs.length < 1000)
    {A : List D} {j : Nat} {ys : List D} {x7 x8 x9 : Slot} {M : List Cell} {T : Nat} (hj : j < 4) (n7 : isRo x7 = false) (n8 : isRo x8 = false) (n9 : isRo x9 = false) (hy : ys.length = xs.length) (gy : ∀ d ∈ ys, Gd M d) (B : Basin T M) (hT : T < 2 ^ 19) :
    ∃ (zs : List D) (y7 y8 y9 : Slot) (M' : List Cell), evS C l_things_1b_1 ⟨[.val (.loc 1), .val (.int w), .val ST, .val (.tup xs), .own A, .val (.int j), .own ys, x7, x8, x9, .no], M⟩ = .ok .nx ⟨[.val (.loc 1), .val (.int w), .val ST, .val (.tup xs), .own A, .val (.int j), .own zs, y7, y8, y9, .no], M'⟩ ∧
      isRo y7 = false ∧ isRo y8 = false ∧ isRo y9 = false ∧ zs.length = xs.length ∧ (∀ d ∈ zs, Gd M' d) ∧ Basin (T + 8) M' ∧ Ls M M' := by
  have hf : ((j : Int)).fdiv 3 = ((j / 3 : Nat) : Int) := by rw [Int.fdiv_eq_ediv_of_nonneg _ (by decide)]; rfl
  have d3 : Sd 3 = true := by decide
  have hi : evI C (.rng (.cons (.bin .Add (.cst (.int 1)) (.bin .FloorDiv (.var 5) (.cst (.int 3)))) .nil)) ⟨[.val (.loc 1), .val (.int w), .val ST, .val (.tup xs), .own A, .val (.int j), .own ys, x7, x8, x9, .no], M⟩ = .ok ⟨rngL 0 (1 + j / 3), [], []⟩ ⟨[.val (.loc 1), .val (.int w), .val ST, .val (.tup xs), .own A, .val (.int j), .own ys, x7, x8, x9, .no], M⟩ :=
    evI_rngZ (z := ((1 + j / 3 : Nat) : Int)) (by simp [evSs, evS, evX, evXs, evEs, evA, evAg, evT, evTB, evB, evG, evGs, evI, Tgs.len, varD, R.bind, biD, bi1, bi2_gcd, lif, toVal, setName_def, isRo_no, isRo_val, isRo_own, cmpD, truD, negD, binD, intOp, retD, ofBody, callD, call_CN, callkD, slots, Ar.slot, lend, ofCall, subD, seq, lis, G.atI, isTys, isTy, eqD, D.eqv, pure60, D.pure, D.deep, List.set, setD, putL, cell, methD, mtD, strI, ofSeq, plcC, plcV, unl, lock, unlock, rngD, forL, Itm.ok, stays, List.all_nil, fit0, fit1, fit2, fit3, fit4, fit5, fit6, fit7, fit8, fit9, fit10, fit11, fit12, fit13, fit14, fit15, fit16, d3, hf]) (len62 (by omega)) (Int.toNat_natCast _)
  obtain ⟨s', i1, zs, y7, y8, y9, M', m7, m8, m9, es, hz, gz, B', X'⟩ := fors_inv l_things_1b_1 rfl hi rfl rfl (fun i s => ∃ (zs : List D) (y7 y8 y9 : Slot) (M' : List Cell), isRo y7 = false ∧ isRo y8 = false ∧ isRo y9 = false ∧ s = ⟨[.val (.loc 1), .val (.int w), .val ST, .val (.tup xs), .own A, .val (.int j), .own zs, y7, y8, y9, .no], M'⟩ ∧ zs.length = xs.length ∧ (∀ d ∈ zs, Gd M' d) ∧ Basin (T + 4 * i) M' ∧ Ls M M')
    ⟨ys, _, _, _, _, n7, n8, n9, rfl, hy, gy, B, Ls.refl _⟩ (by
    rintro i x s hx ⟨zs, y7, y8, y9, M', m7, m8, m9, rfl, hz, gz, B', X'⟩
    obtain ⟨rfl, hi⟩ := rngL_get hx
    obtain ⟨v, M1, e1, v0, v1, B1, X1, N1⟩ := s_scoop2 n M' _ xs.length B' (by omega) (by omega) (by omega)
    have e1 := hg e1
    obtain ⟨m, rfl⟩ := Int.eq_ofNat_of_zero_le v0
    have hm : m < xs.length := by omega
    have hxm : xs[m]? = some xs[m] := List.getElem?_eq_getElem hm
    have hmem : xs[m] ∈ xs := List.getElem_mem hm
    generalize xs[m] = one at *
    have hat : L2.atI xs (m : Int) = some one := atI_nat hxm
    have hix : L2.ixN zs.length (m : Int) = some m := ix_nat (by omega)
    obtain ⟨d, M2, e2, g2, B2, X2⟩ := hb one [.val (.loc 1), .val (.int w), .val ST, .val (.tup xs), .own A, .val (.int j), .own zs, .val (.int i), .val (.int m), .val one, .no] M1 _ hmem rfl rfl rfl B1 (by omega)
    have j0 : evG C (.name 7) (.int (i : Int)) ⟨[.val (.loc 1), .val (.int w), .val ST, .val (.tup xs), .own A, .val (.int j), .own zs, y7, y8, y9, .no], M'⟩ = .ok () ⟨[.val (.loc 1), .val (.int w), .val ST, .val (.tup xs), .own A, .val (.int j), .own zs, .val (.int i), y8, y9, .no], M'⟩ := by
      simp [evSs, evS, evX, evXs, evEs, evA, evAg, evT, evTB, evB, evG, evGs, evI, Tgs.len, varD, R.bind, biD, bi1, bi2_gcd, lif, toVal, setName_def, isRo_no, isRo_val, isRo_own, cmpD, truD, negD, binD, intOp, retD, ofBody, callD, call_CN, callkD, slots, Ar.slot, lend, ofCall, subD, seq, lis, G.atI, isTys, isTy, eqD, D.eqv, pure60, D.pure, D.deep, List.set, setD, putL, cell, methD, mtD, strI, ofSeq, plcC, plcV, unl, lock, unlock, rngD, forL, Itm.ok, stays, List.all_nil, fit0, fit1, fit2, fit3, fit4, fit5, fit6, fit7, fit8, fit9, fit10, fit11, fit12, fit13, fit14, fit15, fit16, m7]
    have j1 : evS C l_things_1b_1b_0 ⟨[.val (.loc 1), .val (.int w), .val ST, .val (.tup xs), .own A, .val (.int j), .own zs, .val (.int i), y8, y9, .no], M'⟩ = .ok .nx ⟨[.val (.loc 1), .val (.int w), .val ST, .val (.tup xs), .own A, .val (.int j), .own zs, .val (.int i), .val (.int m), y9, .no], M1⟩ := by
      simp [evSs, evS, evX, evXs, evEs, evA, evAg, evT, evTB, evB, evG, evGs, evI, Tgs.len, varD, R.bind, biD, bi1, bi2_gcd, lif, toVal, setName_def, isRo_no, isRo_val, isRo_own, cmpD, truD, negD, binD, intOp, retD, ofBody, callD, call_CN, callkD, slots, Ar.slot, lend, ofCall, subD, seq, lis, G.atI, isTys, isTy, eqD, D.eqv, pure60, D.pure, D.deep, List.set, setD, putL, cell, methD, mtD, strI, ofSeq, plcC, plcV, unl, lock, unlock, rngD, forL, Itm.ok, stays, List.all_nil, fit0, fit1, fit2, fit3, fit4, fit5, fit6, fit7, fit8, fit9, fit10, fit11, fit12, fit13, fit14, fit15, fit16, hz, e1, m8]
    have j2 : evS C l_things_1b_1b_1 ⟨[.val (.loc 1), .val (.int w), .val ST, .val (.tup xs), .own A, .val (.int j), .own zs, .val (.int i), .val (.int m), y9, .no], M1⟩ = .ok .nx ⟨[.val (.loc 1), .val (.int w), .val ST, .val (.tup xs), .own A, .val (.int j), .own zs, .val (.int i), .val (.int m), .val one, .no], M1⟩ := by
      simp [evSs, evS, evX, evXs, evEs, evA, evAg, evT, evTB, evB, evG, evGs, evI, Tgs.len, varD, R.bind, biD, bi1, bi2_gcd, lif, toVal, setName_def, isRo_no, isRo_val, isRo_own, cmpD, truD, negD, binD, intOp, retD, ofBody, callD, call_CN, callkD, slots, Ar.slot, lend, ofCall, subD, seq, lis, G.atI, isTys, isTy, eqD, D.eqv, pure60, D.pure, D.deep, List.set, setD, putL, cell, methD, mtD, strI, ofSeq, plcC, plcV, unl, lock, unlock, rngD, forL, Itm.ok, stays, List.all_nil, fit0, fit1, fit2, fit3, fit4, fit5, fit6, fit7, fit8, fit9, fit10, fit11, fit12, fit13, fit14, fit15, fit16, hat, m9]
    have j3 : evS C l_things_1b_1b_2 ⟨[.val (.loc 1), .val (.int w), .val ST, .val (.tup xs), .own A, .val (.int j), .own zs, .val (.int i), .val (.int m), .val one, .no], M1⟩ = .ok .nx ⟨[.val (.loc 1), .val (.int w), .val ST, .val (.tup xs), .own A, .val (.int j), .own (zs.set m d), .val (.int i), .val (.int m), .val one, .no], M2⟩ := by
      show evS C (.asg (.sub (.var 6) (.var 8)) ifeT) _ = _
      rw [evS, e2]
      simp [evSs, evS, evX, evXs, evEs, evA, evAg, evT, evTB, evB, evG, evGs, evI, Tgs.len, varD, R.bind, biD, bi1, bi2_gcd, lif, toVal, setName_def, isRo_no, isRo_val, isRo_own, cmpD, truD, negD, binD, intOp, retD, ofBody, callD, call_CN, callkD, slots, Ar.slot, lend, ofCall, subD, seq, lis, G.atI, isTys, isTy, eqD, D.eqv, pure60, D.pure, D.deep, List.set, setD, putL, cell, methD, mtD, strI, ofSeq, plcC, plcV, unl, lock, unlock, rngD, forL, Itm.ok, stays, List.all_nil, fit0, fit1, fit2, fit3, fit4, fit5, fit6, fit7, fit8, fit9, fit10, fit11, fit12, fit13, fit14, fit15, fit16, hix]
    refine ⟨⟨[.val (.loc 1), .val (.int w), .val ST, .val (.tup xs), .own A, .val (.int j), .own (zs.set m d), .val (.int i), .val (.int m), .val one, .no], M2⟩, ?_, zs.set m d, _, _, _, _, rfl, rfl, rfl, rfl, by rw [List.length_set]; exact hz, fun y hy => ?_, B2.up _ (by omega), (X'.trans X1).trans X2⟩
    · rw [j0]
      refine bind_ok ?_
      show evSs C l_things_1b_1b _ = _
      rw [seq_nx j1, seq_nx j2, seq_nx j3, evSs]
    · rcases mem_set hy with h | h
      · exact ((gz y h).up X1).up X2
      · rw [h]; exact g2)
  subst es
  dsimp only at B'
  rw [rngL_len] at B'
  exact ⟨zs, y7, y8, y9, M', i1, m7, m8, m9, hz, gz, B'.up _ (by omega), X'⟩
theorem c_things (n : Nat) (a b c d : Slot) (M : List Cell) : RN (n+1) (Str.ofString "_law_things") [a, b, c, d] M = ofBody (evSs (CN n) bl_things ⟨[a, b, c, d, .no, .no, .no, .no, .no, .no, .no], M⟩) := rfl
theorem things_all {n : Nat} {C : Cn} (hg : ∀ {f : Str} {vs : List Slot} {M : List Cell} {r : RF}, RN (n+1) f vs M = r → C.call f vs M = r) {w : Int} {ST : D} {xs : List D} {M : List Cell} {T : Nat} (hb : Bent C w xs) (h1 : 1 ≤ xs.length) (hl : xs.length < 1000) (gx : ∀ d ∈ xs, Gd M d) (B : Basin T M) (hT : T < 2 ^ 18) :
    ∃ (ts : List D) (M' : List Cell), ofBody (evSs C bl_things ⟨[.val (.loc 1), .val (.int w), .val ST, .val (.tup xs), .no, .no, .no, .no, .no, .no, .no], M⟩) = .ok (.own ts) M' ∧ (∀ d ∈ ts, Gd M' d) ∧ Basin (T + 34) M' ∧ Ls M M' := by
  have i0 : evS C l_things_0 ⟨[.val (.loc 1), .val (.int w), .val ST, .val (.tup xs), .no, .no, .no, .no, .no, .no, .no], M⟩ = .ok .nx ⟨[.val (.loc 1), .val (.int w), .val ST, .val (.tup xs), .own [.tup xs], .no, .no, .no, .no, .no, .no], M⟩ := by
    simp [evSs, evS, evX, evXs, evEs, evA, evAg, evT, evTB, evB, evG, evGs, evI, Tgs.len, varD, R.bind, biD, bi1, bi2_gcd, lif, toVal, setName_def, isRo_no, isRo_val, isRo_own, cmpD, truD, negD, binD, intOp, retD, ofBody, callD, call_CN, callkD, slots, Ar.slot, lend, ofCall, subD, seq, lis, G.atI, isTys, isTy, eqD, D.eqv, pure60, D.pure, D.deep, List.set, setD, putL, cell, methD, mtD, strI, ofSeq, plcC, plcV, unl, lock, unlock, rngD, forL, Itm.ok, stays, List.all_nil, fit0, fit1, fit2, fit3, fit4, fit5, fit6, fit7, fit8, fit9, fit10, fit11, fit12, fit13, fit14, fit15, fit16]
  have h4 : in62 4 = true := by decide
  have hi : evI C (.rng (.cons (.cst (.int 4)) .nil)) ⟨[.val (.loc 1), .val (.int w), .val ST, .val (.tup xs), .own [.tup xs], .no, .no, .no, .no, .no, .no], M⟩ = .ok ⟨rngL 0 4, [], []⟩ ⟨[.val (.loc 1), .val (.int w), .val ST, .val (.tup xs), .own [.tup xs], .no, .no, .no, .no, .no, .no], M⟩ := evI_rngZ (z := 4) (by simp [evSs, evS, evX, evXs, evEs, evA, evAg, evT, evTB, evB, evG, evGs, evI, Tgs.len, varD, R.bind, biD, bi1, bi2_gcd, lif, toVal, setName_def, isRo_no, isRo_val, isRo_own, cmpD, truD, negD, binD, intOp, retD, ofBody, callD, call_CN, callkD, slots, Ar.slot, lend, ofCall, subD, seq, lis, G.atI, isTys, isTy, eqD, D.eqv, pure60, D.pure, D.deep, List.set, setD, putL, cell, methD, mtD, strI, ofSeq, plcC, plcV, unl, lock, unlock, rngD, forL, Itm.ok, stays, List.all_nil, fit0, fit1, fit2, fit3, fit4, fit5, fit6, fit7, fit8, fit9, fit10, fit11, fit12, fit13, fit14, fit15, fit16]) h4 rfl
  obtain ⟨s', i1, ts, x5, x6, x7, x8, x9, M', n5, n6, n7, n8, n9, es, lt, gt, B', X'⟩ := fors_inv l_things_1 rfl hi rfl rfl (fun j s => ∃ (ts : List D) (x5 x6 x7 x8 x9 : Slot) (M' : List Cell), isRo x5 = false ∧ isRo x6 = false ∧ isRo x7 = false ∧ isRo x8 = false ∧ isRo x9 = false ∧ s = ⟨[.val (.loc 1), .val (.int w), .val ST, .val (.tup xs), .own ts, x5, x6, x7, x8, x9, .no], M'⟩ ∧ ts.length = 1 + j ∧ (∀ d ∈ ts, Gd M' d) ∧ Basin (T + 8 * j) M' ∧ Ls M M')
    ⟨_, _, _, _, _, _, _, rfl, rfl, rfl, rfl, rfl, rfl, rfl, fun d hd => by rw [List.mem_singleton.mp hd]; exact Gd.tup gx, B, Ls.refl _⟩ (by
    rintro j x s hx ⟨ts, x5, x6, x7, x8, x9, M', n5, n6, n7, n8, n9, rfl, lt, gt, B', X'⟩
    obtain ⟨rfl, hj⟩ := rngL_get hx
    have j0 : evG C (.name 5) (.int (j : Int)) ⟨[.val (.loc 1), .val (.int w), .val ST, .val (.tup xs), .own ts, x5, x6, x7, x8, x9, .no], M'⟩ = .ok () ⟨[.val (.loc 1), .val (.int w), .val ST, .val (.tup xs), .own ts, .val (.int j), x6, x7, x8, x9, .no], M'⟩ := by
      simp [evSs, evS, evX, evXs, evEs, evA, evAg, evT, evTB, evB, evG, evGs, evI, Tgs.len, varD, R.bind, biD, bi1, bi2_gcd, lif, toVal, setName_def, isRo_no, isRo_val, isRo_own, cmpD, truD, negD, binD, intOp, retD, ofBody, callD, call_CN, callkD, slots, Ar.slot, lend, ofCall, subD, seq, lis, G.atI, isTys, isTy, eqD, D.eqv, pure60, D.pure, D.deep, List.set, setD, putL, cell, methD, mtD, strI, ofSeq, plcC, plcV, unl, lock, unlock, rngD, forL, Itm.ok, stays, List.all_nil, fit0, fit1, fit2, fit3, fit4, fit5, fit6, fit7, fit8, fit9, fit10, fit11, fit12, fit13, fit14, fit15, fit16, n5]
    have j1 : evS C l_things_1b_0 ⟨[.val (.loc 1), .val (.int w), .val ST, .val (.tup xs), .own ts, .val (.int j), x6, x7, x8, x9, .no], M'⟩ = .ok .nx ⟨[.val (.loc 1), .val (.int w), .val ST, .val (.tup xs), .own ts, .val (.int j), .own xs, x7, x8, x9, .no], M'⟩ := by
      simp [evSs, evS, evX, evXs, evEs, evA, evAg, evT, evTB, evB, evG, evGs, evI, Tgs.len, varD, R.bind, biD, bi1, bi2_gcd, lif, toVal, setName_def, isRo_no, isRo_val, isRo_own, cmpD, truD, negD, binD, intOp, retD, ofBody, callD, call_CN, callkD, slots, Ar.slot, lend, ofCall, subD, seq, lis, G.atI, isTys, isTy, eqD, D.eqv, pure60, D.pure, D.deep, List.set, setD, putL, cell, methD, mtD, strI, ofSeq, plcC, plcV, unl, lock, unlock, rngD, forL, Itm.ok, stays, List.all_nil, fit0, fit1, fit2, fit3, fit4, fit5, fit6, fit7, fit8, fit9, fit10, fit11, fit12, fit13, fit14, fit15, fit16, n6]
    obtain ⟨zs, y7, y8, y9, M2, j2, m7, m8, m9, hz, gz, B2, X2⟩ := things_in hg (ST := ST) (A := ts) hb h1 hl hj n7 n8 n9 rfl (fun d hd => (gx d hd).up X') B' (by omega)
    have hsl : ts.length < sizeLine := lt_sizeLine (by omega)
    have j3 : evS C l_things_1b_2 ⟨[.val (.loc 1), .val (.int w), .val ST, .val (.tup xs), .own ts, .val (.int j), .own zs, y7, y8, y9, .no], M2⟩ = .ok .nx ⟨[.val (.loc 1), .val (.int w), .val ST, .val (.tup xs), .own (ts ++ [.tup zs]), .val (.int j), .own zs, y7, y8, y9, .no], M2⟩ := by
      simp [evSs, evS, evX, evXs, evEs, evA, evAg, evT, evTB, evB, evG, evGs, evI, Tgs.len, varD, R.bind, biD, bi1, bi2_gcd, lif, toVal, setName_def, isRo_no, isRo_val, isRo_own, cmpD, truD, negD, binD, intOp, retD, ofBody, callD, call_CN, callkD, slots, Ar.slot, lend, ofCall, subD, seq, lis, G.atI, isTys, isTy, eqD, D.eqv, pure60, D.pure, D.deep, List.set, setD, putL, cell, methD, mtD, strI, ofSeq, plcC, plcV, unl, lock, unlock, rngD, forL, Itm.ok, stays, List.all_nil, fit0, fit1, fit2, fit3, fit4, fit5, fit6, fit7, fit8, fit9, fit10, fit11, fit12, fit13, fit14, fit15, fit16, hsl]
    refine ⟨⟨[.val (.loc 1), .val (.int w), .val ST, .val (.tup xs), .own (ts ++ [.tup zs]), .val (.int j), .own zs, y7, y8, y9, .no], M2⟩, ?_, _, _, _, _, _, _, _, rfl, rfl, m7, m8, m9, rfl, by rw [List.length_append, List.length_singleton]; omega, fun d hd => ?_, B2.up _ (by omega), X'.trans X2⟩
    · rw [j0]
      refine bind_ok ?_
      show evSs C l_things_1b _ = _
      rw [seq_nx j1, seq_nx j2, seq_nx j3, evSs]
    · rcases List.mem_append.mp hd with h | h
      · exact (gt d h).up X2
      · rw [List.mem_singleton.mp h]; exact Gd.tup gz)
  subst es
  dsimp only at lt B'
  rw [rngL_len] at lt B'
  obtain ⟨K, hK⟩ : ∃ K : List D, K = [.loc M'.length, .tup (xs ++ cut xs none (some 1)), .tup (cut xs none (some (-1))), .non, .bl true, .int xs.length, .str (Str.ofString "x"), .tup [.tup xs], .loc (M'.length + 1), .tup []] := ⟨_, rfl⟩
  have hcat : catOk xs (cut xs none (some 1)) = true := fits_lt (by have := cut_len (xs := xs) (a := none) (b := some 1); omega)
  have i2 : evS C l_things_2 ⟨[.val (.loc 1), .val (.int w), .val ST, .val (.tup xs), .own ts, x5, x6, x7, x8, x9, .no], M'⟩ = .ok .nx ⟨[.val (.loc 1), .val (.int w), .val ST, .val (.tup xs), .own ts, x5, x6, x7, x8, x9, .own K], M' ++ [.lst xs] ++ [.lst []]⟩ := by
    rw [hK]
    simp [evSs, evS, evX, evXs, evEs, evA, evAg, evT, evTB, evB, evG, evGs, evI, Tgs.len, varD, R.bind, biD, bi1, bi2_gcd, lif, toVal, setName_def, isRo_no, isRo_val, isRo_own, cmpD, truD, negD, binD, intOp, retD, ofBody, callD, call_CN, callkD, slots, Ar.slot, lend, ofCall, subD, seq, lis, G.atI, isTys, isTy, eqD, D.eqv, pure60, D.pure, D.deep, List.set, setD, putL, cell, methD, mtD, strI, ofSeq, plcC, plcV, unl, lock, unlock, rngD, forL, Itm.ok, stays, List.all_nil, fit0, fit1, fit2, fit3, fit4, fit5, fit6, fit7, fit8, fit9, fit10, fit11, fit12, fit13, fit14, fit15, fit16, evO, optI, slcD, hcat]
  have B3 : Basin (T + 32) (M' ++ [.lst xs] ++ [.lst []]) := (B'.up _ (by omega)).app.app
  have X3 : Ls M' (M' ++ [.lst xs] ++ [.lst []]) := (Ls.app _ _).trans (Ls.app _ _)
  have hl1 : (M' ++ [Cell.lst xs] ++ [Cell.lst []])[M'.length]? = some (.lst xs) := by simp
  have hl2 : (M' ++ [Cell.lst xs] ++ [Cell.lst []])[M'.length + 1]? = some (.lst []) := by simp
  have gx3 : ∀ d ∈ xs, Gd (M' ++ [Cell.lst xs] ++ [Cell.lst []]) d := fun d hd => ((gx d hd).up X').up X3
  have gt3 : ∀ d ∈ ts, Gd (M' ++ [Cell.lst xs] ++ [Cell.lst []]) d := fun d hd => (gt d hd).up X3
  have hlK : K.length = 10 := by rw [hK]; rfl
  generalize M' ++ [Cell.lst xs] ++ [Cell.lst []] = M3 at *
  have hgood : ∀ d ∈ K, Gd M3 d := by
    rw [hK]
    have t1 : Gd M3 (.tup xs) := Gd.tup gx3
    have t2 : Gd M3 (.tup (xs ++ cut xs none (some 1))) := Gd.tup fun d hd => by
      rcases List.mem_append.mp hd with h | h
      · exact gx3 d h
      · exact gx3 d (cut_mem h)
    have t3 : Gd M3 (.tup (cut xs none (some (-1)))) := Gd.tup fun d hd => gx3 d (cut_mem hd)
    have t4 : Gd M3 (.tup [.tup xs]) := Gd.tup fun d hd => by rw [List.mem_singleton.mp hd]; exact t1
    have t5 : SmI (xs.length : Int) := SmI40 (by omega)
    have t6 : Gd M3 (.loc M'.length) := ⟨⟨_, hl1⟩, trivial⟩
    have t7 : Gd M3 (.loc (M'.length + 1)) := ⟨⟨_, hl2⟩, trivial⟩
    have t8 : Gd M3 (.int xs.length) := ⟨trivial, t5⟩
    have t9 : Gd M3 (.tup []) := Gd.tup fun d hd => absurd hd List.not_mem_nil
    intro d hd
    simp only [List.mem_cons, List.not_mem_nil, or_false] at hd
    rcases hd with rfl | rfl | rfl | rfl | rfl | rfl | rfl | rfl | rfl | rfl
    · exact t6
    · exact t2
    · exact t3
    · exact ⟨trivial, trivial⟩
    · exact ⟨trivial, trivial⟩
    · exact t8
    · exact ⟨trivial, trivial⟩
    · exact t4
    · exact t7
    · exact t9
  obtain ⟨v, M4, e4, v0, v1, B4, X4, N4⟩ := s_scoop2 n M3 _ 10 B3 (by decide) (by decide) (by omega)
  have e4 := hg e4
  obtain ⟨u, M5, e5, u0, u1, B5, X5, N5⟩ := s_scoop2 n M4 _ 4 B4 (by decide) (by decide) (by omega)
  have e5 := hg e5
  obtain ⟨d1, h1', at1⟩ := gd_at (L := K) v0 (by rw [hlK]; exact v1)
  obtain ⟨d2, h2', at2⟩ := gd_at (L := K) u0 (by rw [hlK]; omega)
  have hcat2 : ∀ a b : D, catOk ts [a, b] = true := fun a b => fits_lt (by rw [lt]; simp)
  refine ⟨ts ++ [d1, d2], M5, ?_, fun d hd => ?_, B5, ((X'.trans X3).trans X4).trans X5⟩
  · unfold bl_things
    rw [seq_nx i0, seq_nx i1, seq_nx i2]
    clear hgood hK
    simp [evSs, evS, evX, evXs, evEs, evA, evAg, evT, evTB, evB, evG, evGs, evI, Tgs.len, varD, R.bind, biD, bi1, bi2_gcd, lif, toVal, setName_def, isRo_no, isRo_val, isRo_own, cmpD, truD, negD, binD, intOp, retD, ofBody, callD, call_CN, callkD, slots, Ar.slot, lend, ofCall, subD, seq, lis, G.atI, isTys, isTy, eqD, D.eqv, pure60, D.pure, D.deep, List.set, setD, putL, cell, methD, mtD, strI, ofSeq, plcC, plcV, unl, lock, unlock, rngD, forL, Itm.ok, stays, List.all_nil, fit0, fit1, fit2, fit3, fit4, fit5, fit6, fit7, fit8, fit9, fit10, fit11, fit12, fit13, fit14, fit15, fit16, e4, e5, at1, at2, hcat2]
  · rcases List.mem_append.mp hd with h | h
    · exact ((gt3 d h).up X4).up X5
    · simp only [List.mem_cons, List.not_mem_nil, or_false] at h
      rcases h with rfl | rfl
      · exact ((hgood _ h1').up X4).up X5
      · exact ((hgood _ h2').up X4).up X5
theorem qd_Gd {r : Rat} (h : Bd 30 r) (M : List Cell) : Gd M (qd r) := by
  obtain ⟨a, b, e, ha, hb⟩ := qd_T2 h
  rw [e]
  have s1 : SmI a := SmI40 (by omega)
  have s2 : SmI b := SmI40 (by omega)
  simp [Gd, Wd, Wds, Bn, Bns, s1, s2]
theorem pD_Gd {p : Rat × Rat} (h : Bd 30 p.1 ∧ Bd 30 p.2) (M : List Cell) : Gd M (pD p) := Gd.tup fun d hd => by
  simp only [List.mem_cons, List.not_mem_nil, or_false] at hd
  rcases hd with rfl | rfl
  · exact qd_Gd h.1 M
  · exact qd_Gd h.2 M
theorem s_things0 (n : Nat) (M : List Cell) (T : Nat) (ST : D) (rs : List Rat) (h1 : 1 ≤ rs.length) (hl : rs.length < 1000) (hb : ∀ r ∈ rs, Bd 30 r) (B : Basin T M) (hT : T < 2 ^ 18) :
    ∃ (ts : List D) (M' : List Cell), RN (n+4) (Str.ofString "_law_things") [.val (.loc 1), .val (.int 0), .val ST, .val (.tup (rs.map qd))] M = .ok (.own ts) M' ∧ (∀ d ∈ ts, Gd M' d) ∧ Basin (T + 34) M' ∧ Ls M M' := by
  rw [c_things]
  obtain ⟨C, hC, hg⟩ := opq (n+3)
  rw [← hC]
  refine things_all hg ?_ (by rw [List.length_map]; exact h1) (by rw [List.length_map]; exact hl) (fun d hd => ?_) B hT
  · intro x v M T hx h0 h1 h9 B hT
    obtain ⟨r, hr, rfl⟩ := List.mem_map.mp hx
    obtain ⟨d, M', e, g, B', X'⟩ := s_odd (n+1) M T r (hb r hr) B (by omega)
    have e := hg e
    refine ⟨d, M', ?_, g, B'.up _ (by omega), X'⟩
    generalize qd r = q at *
    simp [evSs, evS, evX, evXs, evEs, evA, evAg, evT, evTB, evB, evG, evGs, evI, Tgs.len, varD, R.bind, biD, bi1, bi2_gcd, lif, toVal, setName_def, isRo_no, isRo_val, isRo_own, cmpD, truD, negD, binD, intOp, retD, ofBody, callD, call_CN, callkD, slots, Ar.slot, lend, ofCall, subD, seq, lis, G.atI, isTys, isTy, eqD, D.eqv, pure60, D.pure, D.deep, List.set, setD, putL, cell, methD, mtD, strI, ofSeq, plcC, plcV, unl, lock, unlock, rngD, forL, Itm.ok, stays, List.all_nil, fit0, fit1, fit2, fit3, fit4, fit5, fit6, fit7, fit8, fit9, fit10, fit11, fit12, fit13, fit14, fit15, fit16, h0, h1, h9, e]
  · obtain ⟨r, hr, rfl⟩ := List.mem_map.mp hd
    exact qd_Gd (hb r hr) M
theorem s_things1 (n : Nat) (M : List Cell) (T : Nat) (ST : D) (cs : List (Rat × Rat)) (h1 : 1 ≤ cs.length) (hl : cs.length < 1000) (hb : ∀ p ∈ cs, Bd 30 p.1 ∧ Bd 30 p.2) (B : Basin T M) (hT : T < 2 ^ 18) :
    ∃ (ts : List D) (M' : List Cell), RN (n+4) (Str.ofString "_law_things") [.val (.loc 1), .val (.int 1), .val ST, .val (.tup (cs.map pD))] M = .ok (.own ts) M' ∧ (∀ d ∈ ts, Gd M' d) ∧ Basin (T + 34) M' ∧ Ls M M' := by
  rw [c_things]
  obtain ⟨C, hC, hg⟩ := opq (n+3)
  rw [← hC]
  refine things_all hg ?_ (by rw [List.length_map]; exact h1) (by rw [List.length_map]; exact hl) (fun d hd => ?_) B hT
  · intro x v M T hx h0 h1 h9 B hT
    obtain ⟨p, hp, rfl⟩ := List.mem_map.mp hx
    obtain ⟨d, M', e, g, B', X'⟩ := s_bent n M T p (hb p hp) B (by omega)
    have e := hg e
    refine ⟨d, M', ?_, g, B', X'⟩
    generalize pD p = q at *
    simp [evSs, evS, evX, evXs, evEs, evA, evAg, evT, evTB, evB, evG, evGs, evI, Tgs.len, varD, R.bind, biD, bi1, bi2_gcd, lif, toVal, setName_def, isRo_no, isRo_val, isRo_own, cmpD, truD, negD, binD, intOp, retD, ofBody, callD, call_CN, callkD, slots, Ar.slot, lend, ofCall, subD, seq, lis, G.atI, isTys, isTy, eqD, D.eqv, pure60, D.pure, D.deep, List.set, setD, putL, cell, methD, mtD, strI, ofSeq, plcC, plcV, unl, lock, unlock, rngD, forL, Itm.ok, stays, List.all_nil, fit0, fit1, fit2, fit3, fit4, fit5, fit6, fit7, fit8, fit9, fit10, fit11, fit12, fit13, fit14, fit15, fit16, h0, h1, h9, e]
  · obtain ⟨p, hp, rfl⟩ := List.mem_map.mp hd
    exact pD_Gd (hb p hp) M
end G

/-! ## V20 -/
set_option Elab.async false
set_option linter.all false
set_option maxRecDepth 100000
set_option maxHeartbeats 8000000
namespace G
open PySem
/-! ### the plain choice moves nothing -/
abbrev P01 : D := .tup [T2 0 1, T2 1 1]
theorem c_plain (n : Nat) (a : Slot) (M : List Cell) : RN (n+1) (Str.ofString "plain_choice") [a] M = ofBody (evSs (CN n) bf_plain_choice ⟨[a, .no], M⟩) := rfl
theorem s_plain (n : Nat) (M : List Cell) (ks : List Kd) (RS : List D) (hl : ks.length < 1000) : RN (n+1) (Str.ofString "plain_choice") [.val (KD ks RS)] M = .ok (.val (.tup (List.replicate ks.length P01))) M := by
  rw [c_plain]
  obtain ⟨C, hC, hg⟩ := opq n
  rw [← hC]
  have gZ : ∀ s, globD C (Str.ofString "ZERO") s = .ok (.val (T2 0 1)) s := fun s => by rw [hC]; rfl
  have gO : ∀ s, globD C (Str.ofString "ONE") s = .ok (.val (T2 1 1)) s := fun s => by rw [hC]; rfl
  unfold KD
  have g1 : L2.atI [D.tup (ks.map kD), D.tup RS] 0 = some (.tup (ks.map kD)) := rfl
  have hi : evI C (.q (.sub (.var 0) (.cst (.int 0)))) ⟨[.val (.tup [.tup (ks.map kD), .tup RS]), .no], M⟩ = .ok ⟨ks.map kD, [], []⟩ ⟨[.val (.tup [.tup (ks.map kD), .tup RS]), .no], M⟩ := by
    generalize ks.map kD = KS at *
    simp [evSs, evS, evX, evXs, evEs, evA, evAg, evT, evTB, evB, evG, evGs, evI, Tgs.len, varD, R.bind, biD, bi1, bi2_gcd, lif, toVal, setName_def, isRo_no, isRo_val, isRo_own, cmpD, truD, negD, binD, intOp, retD, ofBody, callD, call_CN, callkD, slots, Ar.slot, lend, ofCall, subD, seq, lis, G.atI, isTys, isTy, eqD, D.eqv, pure60, D.pure, D.deep, List.set, setD, putL, cell, methD, mtD, strI, ofSeq, plcC, plcV, unl, lock, unlock, rngD, forL, Itm.ok, stays, List.all_nil, fit0, fit1, fit2, fit3, fit4, fit5, fit6, fit7, fit8, fit9, fit10, fit11, fit12, fit13, fit14, fit15, fit16, g1]
  have e := comp_map f_plain_choice_C0 rfl (List.replicate ks.length P01) hi rfl rfl rfl rfl (fits_lt (by dsimp only; rw [List.length_map]; omega)) (by rw [List.length_map, List.length_replicate]) (by
    intro j x d hx hd
    rw [List.eq_of_mem_replicate (List.mem_of_getElem? hd)]
    refine ⟨[.val (.tup [.tup (ks.map kD), .tup RS]), .val x], ?_, rfl⟩
    generalize D.tup [.tup (ks.map kD), .tup RS] = ST at *
    simp [turnC, evSs, evS, evX, evXs, evEs, evA, evAg, evT, evTB, evB, evG, evGs, evI, Tgs.len, varD, R.bind, biD, bi1, bi2_gcd, lif, toVal, setName_def, isRo_no, isRo_val, isRo_own, cmpD, truD, negD, binD, intOp, retD, ofBody, callD, call_CN, callkD, slots, Ar.slot, lend, ofCall, subD, seq, lis, G.atI, isTys, isTy, eqD, D.eqv, pure60, D.pure, D.deep, List.set, setD, putL, cell, methD, mtD, strI, ofSeq, plcC, plcV, unl, lock, unlock, rngD, forL, Itm.ok, stays, List.all_nil, fit0, fit1, fit2, fit3, fit4, fit5, fit6, fit7, fit8, fit9, fit10, fit11, fit12, fit13, fit14, fit15, fit16, gZ, gO])
  unfold bf_plain_choice
  rw [ret_tup e]
  rfl
theorem tk1 {α β : Type} {f : α → β} {xs : List α} {j : Nat} {y : α} (h : xs[j]? = some y) : (xs.map f).take (j + 1) = (xs.map f).take j ++ [f y] := by
  have hj := lt_get h
  rw [List.take_add_one, List.getElem?_map, h]
  rfl
theorem c_moved (n : Nat) (a b c : Slot) (M : List Cell) : RN (n+1) (Str.ofString "moved") [a, b, c] M = ofBody (evSs (CN n) bf_moved ⟨[a, b, c, .no, .no, .no, .no, .no, .no], M⟩) := rfl
theorem s_moved (n : Nat) (M : List Cell) (ks : List Kd) (RS : List D) (rs : List Rat) (hR : RdOk ks.length RS) (hv : ∀ r ∈ rs, Bd 30 r) (hl : rs.length = RS.length) (hl2 : rs.length < 100) :
    RN (n+3) (Str.ofString "moved") [.val (KD ks RS), .val (.tup (rs.map qd)), .val (.tup (List.replicate ks.length P01))] M = .ok (.val (.tup (rs.map qd))) M := by
  rw [c_moved]
  obtain ⟨C, hC, hg⟩ := opq (n+2)
  rw [← hC]
  unfold KD
  have g1 : L2.atI [D.tup (ks.map kD), D.tup RS] 1 = some (.tup RS) := rfl
  generalize D.tup (ks.map kD) = KS at *
  have i0 : evS C f_moved_0 ⟨[.val (.tup [KS, .tup RS]), .val (.tup (rs.map qd)), .val (.tup (List.replicate ks.length P01)), .no, .no, .no, .no, .no, .no], M⟩ = .ok .nx ⟨[.val (.tup [KS, .tup RS]), .val (.tup (rs.map qd)), .val (.tup (List.replicate ks.length P01)), .own [], .no, .no, .no, .no, .no], M⟩ := by
    simp [evSs, evS, evX, evXs, evEs, evA, evAg, evT, evTB, evB, evG, evGs, evI, Tgs.len, varD, R.bind, biD, bi1, bi2_gcd, lif, toVal, setName_def, isRo_no, isRo_val, isRo_own, cmpD, truD, negD, binD, intOp, retD, ofBody, callD, call_CN, callkD, slots, Ar.slot, lend, ofCall, subD, seq, lis, G.atI, isTys, isTy, eqD, D.eqv, pure60, D.pure, D.deep, List.set, setD, putL, cell, methD, mtD, strI, ofSeq, plcC, plcV, unl, lock, unlock, rngD, forL, Itm.ok, stays, List.all_nil, fit0, fit1, fit2, fit3, fit4, fit5, fit6, fit7, fit8, fit9, fit10, fit11, fit12, fit13, fit14, fit15, fit16]
  have hi : evI C (.zip (.sub (.var 0) (.cst (.int 1))) (.var 1)) ⟨[.val (.tup [KS, .tup RS]), .val (.tup (rs.map qd)), .val (.tup (List.replicate ks.length P01)), .own [], .no, .no, .no, .no, .no], M⟩ = .ok ⟨zips RS (rs.map qd), [], []⟩ ⟨[.val (.tup [KS, .tup RS]), .val (.tup (rs.map qd)), .val (.tup (List.replicate ks.length P01)), .own [], .no, .no, .no, .no, .no], M⟩ := by
    generalize rs.map qd = VS at *
    simp [evSs, evS, evX, evXs, evEs, evA, evAg, evT, evTB, evB, evG, evGs, evI, Tgs.len, varD, R.bind, biD, bi1, bi2_gcd, lif, toVal, setName, cmpD, truD, negD, binD, intOp, retD, ofBody, fits, sizeLine, callD, call_CN, callkD, slots, Ar.slot, lend, ofCall, subD, seq, lis, L2.atI, L2.ixN, G.atI, isTys, isTy, eqD, D.eqv, pure60, D.pure, D.deep, List.set, setD, putL, cell, methD, mtD, strI, ofSeq, plcC, plcV, unl, lock, unlock, rngD, forL, Itm.ok, stays, List.all_nil, isTup, plcV]
  obtain ⟨s', e1, x4, x5, x6, x7, x8, h4, h5, h6, h7, h8, es⟩ := fors_inv f_moved_1 rfl hi rfl rfl (fun j s => ∃ x4 x5 x6 x7 x8, isRo x4 = false ∧ isRo x5 = false ∧ isRo x6 = false ∧ isRo x7 = false ∧ isRo x8 = false ∧
      s = ⟨[.val (.tup [KS, .tup RS]), .val (.tup (rs.map qd)), .val (.tup (List.replicate ks.length P01)), .own ((rs.map qd).take j), x4, x5, x6, x7, x8], M⟩) ⟨_, _, _, _, _, rfl, rfl, rfl, rfl, rfl, rfl⟩ (by
    rintro j x s hx ⟨x4, x5, x6, x7, x8, h4, h5, h6, h7, h8, rfl⟩
    obtain ⟨a, b, ha, hb, rfl⟩ := zp_get hx
    obtain ⟨nm, k, rfl, k0, k1⟩ := hR a (List.mem_of_getElem? ha)
    obtain ⟨v, gb, rfl⟩ := get_map hb
    obtain ⟨m, rfl⟩ := Int.eq_ofNat_of_zero_le k0
    have ek : L2.atI (List.replicate ks.length P01) (m : Int) = some P01 := atI_nat (by rw [List.getElem?_replicate, if_pos (by omega)])
    have hbv := hv v (List.mem_of_getElem? gb)
    obtain ⟨_, hq1, b1⟩ : ∃ r : Rat, T2 1 1 = qd r ∧ Bd 1 (1 : Rat) := ⟨1, rfl, ⟨by decide, by decide⟩⟩
    have b0 : Bd 1 (0 : Rat) := ⟨by decide, by decide⟩
    have t1 := (r_times n M b1 hbv (by decide)).1
    rw [Rat.one_mul] at t1
    have t2 := (r_plus n M b0 hbv (by decide)).1
    rw [Rat.zero_add] at t2
    have t1 : C.call (Str.ofString "times") [.val (T2 1 1), .val (qd v)] M = .ok (.val (qd v)) M := hg t1
    have t2 : C.call (Str.ofString "plus") [.val (T2 0 1), .val (qd v)] M = .ok (.val (qd v)) M := hg t2
    rw [tk1 gb]
    have hj : ((rs.map qd).take j).length < sizeLine := lt_sizeLine (by rw [List.length_take, List.length_map]; omega)
    generalize (rs.map qd).take j = fl at *
    generalize rs.map qd = VS at *
    generalize List.replicate ks.length P01 = CH at *
    refine ⟨⟨[.val (.tup [KS, .tup RS]), .val (.tup VS), .val (.tup CH), .own (fl ++ [qd v]), .val (.str nm), .val (.int m), .val (qd v), .val (T2 0 1), .val (T2 1 1)], M⟩, ?_, ⟨_, _, _, _, _, rfl, rfl, rfl, rfl, rfl, rfl⟩⟩
    generalize qd v = q at *
    simp [evSs, evS, evX, evXs, evEs, evA, evAg, evT, evTB, evB, evG, evGs, evI, Tgs.len, varD, R.bind, biD, bi1, bi2_gcd, lif, toVal, setName_def, isRo_no, isRo_val, isRo_own, cmpD, truD, negD, binD, intOp, retD, ofBody, callD, call_CN, callkD, slots, Ar.slot, lend, ofCall, subD, seq, lis, G.atI, isTys, isTy, eqD, D.eqv, pure60, D.pure, D.deep, List.set, setD, putL, cell, methD, mtD, strI, ofSeq, plcC, plcV, unl, lock, unlock, rngD, forL, Itm.ok, stays, List.all_nil, fit0, fit1, fit2, fit3, fit4, fit5, fit6, fit7, fit8, fit9, fit10, fit11, fit12, fit13, fit14, fit15, fit16, ek, h4, h5, h6, h7, h8, t1, t2, hj])
  subst es
  unfold bf_moved
  rw [seq_nx i0, seq_nx e1]
  have : (rs.map qd).take (zips RS (rs.map qd)).length = rs.map qd := List.take_of_length_le (by
    rw [zp_len, List.length_map]; omega)
  dsimp only
  rw [this]
  generalize rs.map qd = VS at *
  simp [evSs, evS, evX, evXs, evEs, evA, evAg, evT, evTB, evB, evG, evGs, evI, Tgs.len, varD, R.bind, biD, bi1, bi2_gcd, lif, toVal, setName_def, isRo_no, isRo_val, isRo_own, cmpD, truD, negD, binD, intOp, retD, ofBody, callD, call_CN, callkD, slots, Ar.slot, lend, ofCall, subD, seq, lis, G.atI, isTys, isTy, eqD, D.eqv, pure60, D.pure, D.deep, List.set, setD, putL, cell, methD, mtD, strI, ofSeq, plcC, plcV, unl, lock, unlock, rngD, forL, Itm.ok, stays, List.all_nil, fit0, fit1, fit2, fit3, fit4, fit5, fit6, fit7, fit8, fit9, fit10, fit11, fit12, fit13, fit14, fit15, fit16]
end G

/-! ## V21 -/
set_option Elab.async false
set_option linter.all false
set_option maxRecDepth 100000
set_option maxHeartbeats 8000000
namespace G
open PySem
/-! ### one scene -/
theorem evX_bin {c : Cn} {a b : Ex} {s s1 s2 : S} {x y r : SV} {op : Operator} (ha : evX c a s = .ok x s1) (hb : evX c b s1 = .ok y s2) (h : binD op x y s2 = some r) : evX c (.bin op a b) s = .ok r s2 := by
  rw [evX, ha]
  show (evX c b s1).bind _ = _
  rw [hb]
  show lif (binD op x y s2) s2 = _
  rw [h]
  rfl
theorem mulL (z : Int) (x : D) (s : S) (h0 : 0 ≤ z) (h1 : z ≤ 1000) : binD .Mult (.new [x]) (.val (.int z)) s = some (.new (List.replicate z.toNat [x]).flatten) := by
  have hf : fits ([x].length * z.toNat) = true := fits_lt (by rw [List.length_singleton]; omega)
  have h2 : decide (-(2 ^ 63) ≤ z) = true := decide_eq_true (by omega)
  have h3 : decide (z < 2 ^ 63) = true := decide_eq_true (by omega)
  show (if decide (-(2 ^ 63) ≤ z) && decide (z < 2 ^ 63) && fits ([x].length * z.toNat) then _ else _) = _
  rw [h2, h3, hf]; rfl
theorem rep_flat (k : Nat) (x : D) : (List.replicate k [x]).flatten = List.replicate k x := by
  induction k with
  | zero => rfl
  | succ k ih => rw [List.replicate_succ, List.flatten_cons, ih, List.replicate_succ]; rfl
theorem NPs_of : ∀ {xs : List D}, (∀ x ∈ xs, NP x = true) → NPs xs = true
  | [], _ => rfl
  | x :: xs, h => by
    rw [NPs, h x List.mem_cons_self, NPs_of fun y hy => h y (List.mem_cons_of_mem _ hy)]
    rfl
theorem deeps_of {k : Nat} : ∀ {xs : List D}, (∀ x ∈ xs, x.deep ≤ k) → D.deeps xs ≤ k
  | [], _ => Nat.zero_le _
  | x :: xs, h => by
    rw [D.deeps]
    exact Nat.max_le.mpr ⟨h x List.mem_cons_self, deeps_of fun y hy => h y (List.mem_cons_of_mem _ hy)⟩
theorem NP_tup {xs : List D} (hl : xs.length < 1000) (h : ∀ x ∈ xs, NP x = true) : NP (.tup xs) = true := by
  rw [NP, NPs_of h, Bool.and_true, Nat.blt_eq]
  exact hl
theorem deep_tup {k : Nat} {xs : List D} (h : ∀ x ∈ xs, x.deep ≤ k) : (D.tup xs).deep ≤ k + 1 := by
  rw [D.deep]
  have := deeps_of h
  omega
theorem qd_NP (r : Rat) : NP (qd r) = true ∧ (qd r).deep ≤ 1 := ⟨rfl, Nat.le_refl _⟩
theorem c_scene (n : Nat) (a : Slot) (M : List Cell) : RN (n+1) (Str.ofString "_law_scene") [a] M = ofBody (evSs (CN n) bl_scene ⟨[a, .no, .no, .no, .no, .no, .no, .no], M⟩) := rfl
abbrev lookB (w : Int) : Stms := .cons (.ite (.b false (.cons (.n (.x (.call (Str.ofString "_law_looked") (.cons (.v (.cst (.int w))) (.cons (.v (.var 1)) (.cons (.v (.var 5)) (.nil))))))) (.cons (.n (.x (.call (Str.ofString "_law_looked") (.cons (.v (.cst (.int w))) (.cons (.v (.var 2)) (.cons (.v (.var 5)) (.nil))))))) (.nil)))) (.cons (.ret (.cst (.bl false))) .nil) (.nil)) .nil
/-- the loop over things, for either check -/
theorem scene_loop {C : Cn} {w : Int} {S1 S2 d3 d4 : D} {ts : List D} {M : List Cell} {x5 : Slot} (h5 : isRo x5 = false) (hlook : ∀ d ∈ ts, C.call (Str.ofString "_law_looked") [.val (.int w), .val S1, .val d] M = .ok (.val (.bl true)) M ∧ C.call (Str.ofString "_law_looked") [.val (.int w), .val S2, .val d] M = .ok (.val (.bl true)) M) :
    ∃ y5, isRo y5 = false ∧ forL (Itm.ok ⟨ts, [], []⟩) (fun x s2 => (evG C (.name 5) x s2).bind fun _ s3 => evSs C (lookB w) s3) ts ⟨[.val (.loc 1), .val S1, .val S2, .val d3, .val d4, x5, .no, .no], M⟩ = .ok .nx ⟨[.val (.loc 1), .val S1, .val S2, .val d3, .val d4, y5, .no, .no], M⟩ := by
  obtain ⟨s', e, y5, h, rfl⟩ := forL_inv (ok := Itm.ok ⟨ts, [], []⟩) (body := fun x s2 => (evG C (.name 5) x s2).bind fun _ s3 => evSs C (lookB w) s3) (fun _ => rfl) (fun _ s => ∃ y5, isRo y5 = false ∧ s = ⟨[.val (.loc 1), .val S1, .val S2, .val d3, .val d4, y5, .no, .no], M⟩) ts 0 (by
    rintro j x s hx ⟨y5, h, rfl⟩
    obtain ⟨e1, e2⟩ := hlook x (List.mem_of_getElem? hx)
    refine ⟨⟨[.val (.loc 1), .val S1, .val S2, .val d3, .val d4, .val x, .no, .no], M⟩, ?_, _, rfl, rfl⟩
    simp [evSs, evS, evX, evXs, evEs, evA, evAg, evT, evTB, evB, evG, evGs, evI, Tgs.len, varD, R.bind, biD, bi1, bi2_gcd, lif, toVal, setName_def, isRo_no, isRo_val, isRo_own, cmpD, truD, negD, binD, intOp, retD, ofBody, callD, call_CN, callkD, slots, Ar.slot, lend, ofCall, subD, seq, lis, G.atI, isTys, isTy, eqD, D.eqv, pure60, D.pure, D.deep, List.set, setD, putL, cell, methD, mtD, strI, ofSeq, plcC, plcV, unl, lock, unlock, rngD, forL, Itm.ok, stays, List.all_nil, fit0, fit1, fit2, fit3, fit4, fit5, fit6, fit7, fit8, fit9, fit10, fit11, fit12, fit13, fit14, fit15, fit16, h, e1, e2]) ⟨[.val (.loc 1), .val S1, .val S2, .val d3, .val d4, x5, .no, .no], M⟩ ⟨x5, h5, rfl⟩
  exact ⟨y5, h, e⟩
theorem s_scene (n : Nat) (M : List Cell) (T : Nat) (B : Basin T M) (hT : T < 2 ^ 16) : ∃ M', RN (n+8) (Str.ofString "_law_scene") [.val (.loc 1)] M = .ok (.val (.bl true)) M' ∧ Basin (T + 200) M' := by
  rw [c_scene]
  obtain ⟨C, hC, hg⟩ := opq (n+7)
  rw [← hC]
  obtain ⟨ks, RS, M1, e1, lk, lr, pk, pr, ok, B1, X1⟩ := s_setting (n+5) M T B (by omega)
  obtain ⟨ks2, RS2, M2, e2, lk2, lr2, pk2, pr2, ok2, B2, X2⟩ := s_setting (n+5) M1 _ B1 (by omega)
  obtain ⟨rs, M3, e3, lrs, brs, B3, X3⟩ := s_values (n+4) M2 _ ks RS B2 (by omega) (by omega)
  obtain ⟨cs, M4, e4, lcs, bcs, B4, X4⟩ := s_choice (n+4) M3 _ ks RS B3 (by omega) (by omega)
  have e1 := hg e1
  have e2 := hg e2
  have e3 := hg e3
  have e4 := hg e4
  have B4 := B4.up (T + 70) (by omega)
  obtain ⟨ts, M5, e5, gt, B5, X5⟩ := s_things0 (n+3) M4 _ (KD ks RS) rs (by omega) (by omega) brs B4 (by omega)
  have e5 := hg e5
  obtain ⟨us, M6, e6, gu, B6, X6⟩ := s_things1 (n+3) M5 _ (KD ks RS) cs (by omega) (by omega) bcs B5 (by omega)
  have e6 := hg e6
  have hl1 : ∀ d ∈ ts, C.call (Str.ofString "_law_looked") [.val (.int 0), .val (KD ks RS), .val d] M5 = .ok (.val (.bl true)) M5 ∧ C.call (Str.ofString "_law_looked") [.val (.int 0), .val (KD ks2 RS2), .val d] M5 = .ok (.val (.bl true)) M5 := fun d hd =>
    ⟨hg (s_looked0 n M5 ks RS d (gt d hd).ask (by omega)), hg (s_looked0 n M5 ks2 RS2 d (gt d hd).ask (by omega))⟩
  have hl2 : ∀ d ∈ us, C.call (Str.ofString "_law_looked") [.val (.int 1), .val (KD ks RS), .val d] M6 = .ok (.val (.bl true)) M6 ∧ C.call (Str.ofString "_law_looked") [.val (.int 1), .val (KD ks2 RS2), .val d] M6 = .ok (.val (.bl true)) M6 := fun d hd =>
    ⟨hg (s_looked1 n M6 ks RS d (gu d hd).ask (by omega)), hg (s_looked1 n M6 ks2 RS2 d (gu d hd).ask (by omega))⟩
  have e7 := hg (s_plain (n+6) M6 ks RS (by omega))
  have e8 := hg (s_moved (n+4) M6 ks RS rs ok brs lrs (by omega))
  have gP : Gd M6 P01 := Gd.tup fun d hd => by
    simp only [List.mem_cons, List.not_mem_nil, or_false] at hd
    rcases hd with rfl | rfl
    · exact (qd_Gd (r := 0) ⟨by decide, by decide⟩ M6)
    · exact (qd_Gd (r := 1) ⟨by decide, by decide⟩ M6)
  have gD : Gd M6 (.tup (List.replicate ks.length P01)) := Gd.tup fun d hd => by rw [List.eq_of_mem_replicate hd]; exact gP
  have gC : Gd M6 (.tup (cs.map pD)) := Gd.tup fun d hd => by
    obtain ⟨p, hp, rfl⟩ := List.mem_map.mp hd
    exact pD_Gd (bcs p hp) M6
  have f1 := hg (s_looked1 n M6 ks RS _ gD.ask (by omega))
  have f2 := hg (s_looked1 n M6 ks2 RS2 _ gD.ask (by omega))
  have f3 := hg (s_looked1 n M6 ks2 RS2 _ gC.ask (by omega))
  have f4 := hg (s_looked0 n M6 ks RS _ gC.ask (by omega))
  have nP : NP P01 = true ∧ P01.deep ≤ 2 := ⟨by decide, by decide⟩
  have same := hg (s_same 4 (.tup [.tup (List.replicate ks.length P01), .tup (rs.map qd)]) (deep_tup fun x hx => by
    simp only [List.mem_cons, List.not_mem_nil, or_false] at hx
    rcases hx with rfl | rfl
    · exact deep_tup fun y hy => by rw [List.eq_of_mem_replicate hy]; exact nP.2
    · refine Nat.le_trans (deep_tup (k := 1) fun y hy => ?_) (by decide)
      obtain ⟨r, _, rfl⟩ := List.mem_map.mp hy
      exact (qd_NP r).2) (NP_tup (by show 2 < 1000; decide) fun x hx => by
    simp only [List.mem_cons, List.not_mem_nil, or_false] at hx
    rcases hx with rfl | rfl
    · exact NP_tup (by rw [List.length_replicate]; omega) fun y hy => by rw [List.eq_of_mem_replicate hy]; exact nP.1
    · refine NP_tup (by rw [List.length_map]; omega) fun y hy => ?_
      obtain ⟨r, _, rfl⟩ := List.mem_map.mp hy
      exact (qd_NP r).1) (n+6) M6 (by omega))
  have glen : ∃ KS RD, KD ks RS = .tup [.tup KS, RD] ∧ KS.length = ks.length := ⟨_, _, rfl, List.length_map _⟩
  have hk1000 : ks.length ≤ 1000 := by omega
  generalize ks.length = kl at *
  generalize KD ks RS = S1 at *
  generalize KD ks2 RS2 = S2 at *
  generalize D.tup (rs.map qd) = VV at *
  generalize D.tup (cs.map pD) = CC at *
  have i0 : evS C l_scene_0 ⟨[.val (.loc 1), .no, .no, .no, .no, .no, .no, .no], M⟩ = .ok .nx ⟨[.val (.loc 1), .val S1, .val S2, .no, .no, .no, .no, .no], M2⟩ := by
    simp [evSs, evS, evX, evXs, evEs, evA, evAg, evT, evTB, evB, evG, evGs, evI, Tgs.len, varD, R.bind, biD, bi1, bi2_gcd, lif, toVal, setName_def, isRo_no, isRo_val, isRo_own, cmpD, truD, negD, binD, intOp, retD, ofBody, callD, call_CN, callkD, slots, Ar.slot, lend, ofCall, subD, seq, lis, G.atI, isTys, isTy, eqD, D.eqv, pure60, D.pure, D.deep, List.set, setD, putL, cell, methD, mtD, strI, ofSeq, plcC, plcV, unl, lock, unlock, rngD, forL, Itm.ok, stays, List.all_nil, fit0, fit1, fit2, fit3, fit4, fit5, fit6, fit7, fit8, fit9, fit10, fit11, fit12, fit13, fit14, fit15, fit16, e1, e2]
  have i1 : evS C l_scene_1 ⟨[.val (.loc 1), .val S1, .val S2, .no, .no, .no, .no, .no], M2⟩ = .ok .nx ⟨[.val (.loc 1), .val S1, .val S2, .val VV, .val CC, .no, .no, .no], M4⟩ := by
    simp [evSs, evS, evX, evXs, evEs, evA, evAg, evT, evTB, evB, evG, evGs, evI, Tgs.len, varD, R.bind, biD, bi1, bi2_gcd, lif, toVal, setName_def, isRo_no, isRo_val, isRo_own, cmpD, truD, negD, binD, intOp, retD, ofBody, callD, call_CN, callkD, slots, Ar.slot, lend, ofCall, subD, seq, lis, G.atI, isTys, isTy, eqD, D.eqv, pure60, D.pure, D.deep, List.set, setD, putL, cell, methD, mtD, strI, ofSeq, plcC, plcV, unl, lock, unlock, rngD, forL, Itm.ok, stays, List.all_nil, fit0, fit1, fit2, fit3, fit4, fit5, fit6, fit7, fit8, fit9, fit10, fit11, fit12, fit13, fit14, fit15, fit16, e3, e4]
  have t1 : evI C (.q (.call (Str.ofString "_law_things") (.cons (.v (.var 0)) (.cons (.v (.cst (.int 0))) (.cons (.v (.var 1)) (.cons (.v (.var 3)) (.nil))))))) ⟨[.val (.loc 1), .val S1, .val S2, .val VV, .val CC, .no, .no, .no], M4⟩ = .ok ⟨ts, [], []⟩ ⟨[.val (.loc 1), .val S1, .val S2, .val VV, .val CC, .no, .no, .no], M5⟩ := by
    simp [evSs, evS, evX, evXs, evEs, evA, evAg, evT, evTB, evB, evG, evGs, evI, Tgs.len, varD, R.bind, biD, bi1, bi2_gcd, lif, toVal, setName_def, isRo_no, isRo_val, isRo_own, cmpD, truD, negD, binD, intOp, retD, ofBody, callD, call_CN, callkD, slots, Ar.slot, lend, ofCall, subD, seq, lis, G.atI, isTys, isTy, eqD, D.eqv, pure60, D.pure, D.deep, List.set, setD, putL, cell, methD, mtD, strI, ofSeq, plcC, plcV, unl, lock, unlock, rngD, forL, Itm.ok, stays, List.all_nil, fit0, fit1, fit2, fit3, fit4, fit5, fit6, fit7, fit8, fit9, fit10, fit11, fit12, fit13, fit14, fit15, fit16, e5]
  obtain ⟨y5, n5, el⟩ := scene_loop (C := C) (w := 0) (d3 := VV) (d4 := CC) (x5 := .no) rfl hl1
  have i2 : evS C l_scene_2 ⟨[.val (.loc 1), .val S1, .val S2, .val VV, .val CC, .no, .no, .no], M4⟩ = .ok .nx ⟨[.val (.loc 1), .val S1, .val S2, .val VV, .val CC, y5, .no, .no], M5⟩ := by
    show evS C (.fors _ _ _) _ = _
    rw [evS, t1]
    exact (congrArg (unl []) el).trans rfl
  have t2 : evI C (.q (.call (Str.ofString "_law_things") (.cons (.v (.var 0)) (.cons (.v (.cst (.int 1))) (.cons (.v (.var 1)) (.cons (.v (.var 4)) (.nil))))))) ⟨[.val (.loc 1), .val S1, .val S2, .val VV, .val CC, y5, .no, .no], M5⟩ = .ok ⟨us, [], []⟩ ⟨[.val (.loc 1), .val S1, .val S2, .val VV, .val CC, y5, .no, .no], M6⟩ := by
    simp [evSs, evS, evX, evXs, evEs, evA, evAg, evT, evTB, evB, evG, evGs, evI, Tgs.len, varD, R.bind, biD, bi1, bi2_gcd, lif, toVal, setName_def, isRo_no, isRo_val, isRo_own, cmpD, truD, negD, binD, intOp, retD, ofBody, callD, call_CN, callkD, slots, Ar.slot, lend, ofCall, subD, seq, lis, G.atI, isTys, isTy, eqD, D.eqv, pure60, D.pure, D.deep, List.set, setD, putL, cell, methD, mtD, strI, ofSeq, plcC, plcV, unl, lock, unlock, rngD, forL, Itm.ok, stays, List.all_nil, fit0, fit1, fit2, fit3, fit4, fit5, fit6, fit7, fit8, fit9, fit10, fit11, fit12, fit13, fit14, fit15, fit16, e6]
  obtain ⟨z5, k5, el2⟩ := scene_loop (C := C) (w := 1) (d3 := VV) (d4 := CC) n5 hl2
  have i3 : evS C l_scene_3 ⟨[.val (.loc 1), .val S1, .val S2, .val VV, .val CC, y5, .no, .no], M5⟩ = .ok .nx ⟨[.val (.loc 1), .val S1, .val S2, .val VV, .val CC, z5, .no, .no], M6⟩ := by
    show evS C (.fors _ _ _) _ = _
    rw [evS, t2]
    exact (congrArg (unl []) el2).trans rfl
  have i5 : ∀ x6, evS C l_scene_5 ⟨[.val (.loc 1), .val S1, .val S2, .val VV, .val CC, z5, x6, .no], M6⟩ = .ok .nx ⟨[.val (.loc 1), .val S1, .val S2, .val VV, .val CC, z5, x6, .val (.tup (List.replicate kl P01))], M6⟩ := fun x6 => by
    have ha : evX C (.lst (.cons (.tup (.cons (.tup (.cons (.cst (.int 0)) (.cons (.cst (.int 1)) .nil))) (.cons (.tup (.cons (.cst (.int 1)) (.cons (.cst (.int 1)) .nil))) .nil))) .nil)) ⟨[.val (.loc 1), .val S1, .val S2, .val VV, .val CC, z5, x6, .no], M6⟩ = .ok (.new [P01]) ⟨[.val (.loc 1), .val S1, .val S2, .val VV, .val CC, z5, x6, .no], M6⟩ := by
      simp [evSs, evS, evX, evXs, evEs, evA, evAg, evT, evTB, evB, evG, evGs, evI, Tgs.len, varD, R.bind, biD, bi1, bi2_gcd, lif, toVal, setName_def, isRo_no, isRo_val, isRo_own, cmpD, truD, negD, binD, intOp, retD, ofBody, callD, call_CN, callkD, slots, Ar.slot, lend, ofCall, subD, seq, lis, G.atI, isTys, isTy, eqD, D.eqv, pure60, D.pure, D.deep, List.set, setD, putL, cell, methD, mtD, strI, ofSeq, plcC, plcV, unl, lock, unlock, rngD, forL, Itm.ok, stays, List.all_nil, fit0, fit1, fit2, fit3, fit4, fit5, fit6, fit7, fit8, fit9, fit10, fit11, fit12, fit13, fit14, fit15, fit16]
    have hb : evX C (.bi .len (.cons (.sub (.var 1) (.cst (.int 0))) .nil)) ⟨[.val (.loc 1), .val S1, .val S2, .val VV, .val CC, z5, x6, .no], M6⟩ = .ok (.val (.int (kl : Int))) ⟨[.val (.loc 1), .val S1, .val S2, .val VV, .val CC, z5, x6, .no], M6⟩ := by
      obtain ⟨KS, RD, rfl, hks⟩ := glen
      have a4 : L2.atI [D.tup KS, RD] 0 = some (.tup KS) := rfl
      simp [evSs, evS, evX, evXs, evEs, evA, evAg, evT, evTB, evB, evG, evGs, evI, Tgs.len, varD, R.bind, biD, bi1, bi2_gcd, lif, toVal, setName_def, isRo_no, isRo_val, isRo_own, cmpD, truD, negD, binD, intOp, retD, ofBody, callD, call_CN, callkD, slots, Ar.slot, lend, ofCall, subD, seq, lis, G.atI, isTys, isTy, eqD, D.eqv, pure60, D.pure, D.deep, List.set, setD, putL, cell, methD, mtD, strI, ofSeq, plcC, plcV, unl, lock, unlock, rngD, forL, Itm.ok, stays, List.all_nil, fit0, fit1, fit2, fit3, fit4, fit5, fit6, fit7, fit8, fit9, fit10, fit11, fit12, fit13, fit14, fit15, fit16, a4, hks]
    have hm := mulL (kl : Int) P01 ⟨[.val (.loc 1), .val S1, .val S2, .val VV, .val CC, z5, x6, .no], M6⟩ (by omega) (by omega)
    rw [Int.toNat_natCast, rep_flat] at hm
    have ht := evX_tup (evX_bin ha hb hm)
    show evS C (.asg (.name 7) (.bi .tuple (.cons (.bin .Mult _ _) .nil))) _ = _
    rw [evS, ht]
    simp [evSs, evS, evX, evXs, evEs, evA, evAg, evT, evTB, evB, evG, evGs, evI, Tgs.len, varD, R.bind, biD, bi1, bi2_gcd, lif, toVal, setName_def, isRo_no, isRo_val, isRo_own, cmpD, truD, negD, binD, intOp, retD, ofBody, callD, call_CN, callkD, slots, Ar.slot, lend, ofCall, subD, seq, lis, G.atI, isTys, isTy, eqD, D.eqv, pure60, D.pure, D.deep, List.set, setD, putL, cell, methD, mtD, strI, ofSeq, plcC, plcV, unl, lock, unlock, rngD, forL, Itm.ok, stays, List.all_nil, fit0, fit1, fit2, fit3, fit4, fit5, fit6, fit7, fit8, fit9, fit10, fit11, fit12, fit13, fit14, fit15, fit16]
  generalize D.tup (List.replicate kl P01) = PP at *
  have i4 : evS C l_scene_4 ⟨[.val (.loc 1), .val S1, .val S2, .val VV, .val CC, z5, .no, .no], M6⟩ = .ok .nx ⟨[.val (.loc 1), .val S1, .val S2, .val VV, .val CC, z5, .val PP, .no], M6⟩ := by
    simp [evSs, evS, evX, evXs, evEs, evA, evAg, evT, evTB, evB, evG, evGs, evI, Tgs.len, varD, R.bind, biD, bi1, bi2_gcd, lif, toVal, setName_def, isRo_no, isRo_val, isRo_own, cmpD, truD, negD, binD, intOp, retD, ofBody, callD, call_CN, callkD, slots, Ar.slot, lend, ofCall, subD, seq, lis, G.atI, isTys, isTy, eqD, D.eqv, pure60, D.pure, D.deep, List.set, setD, putL, cell, methD, mtD, strI, ofSeq, plcC, plcV, unl, lock, unlock, rngD, forL, Itm.ok, stays, List.all_nil, fit0, fit1, fit2, fit3, fit4, fit5, fit6, fit7, fit8, fit9, fit10, fit11, fit12, fit13, fit14, fit15, fit16, e7]
  have i6 : evS C l_scene_6 ⟨[.val (.loc 1), .val S1, .val S2, .val VV, .val CC, z5, .val PP, .val PP], M6⟩ = .ok .nx ⟨[.val (.loc 1), .val S1, .val S2, .val VV, .val CC, z5, .val PP, .val PP], M6⟩ := by
    simp [evSs, evS, evX, evXs, evEs, evA, evAg, evT, evTB, evB, evG, evGs, evI, Tgs.len, varD, R.bind, biD, bi1, bi2_gcd, lif, toVal, setName_def, isRo_no, isRo_val, isRo_own, cmpD, truD, negD, binD, intOp, retD, ofBody, callD, call_CN, callkD, slots, Ar.slot, lend, ofCall, subD, seq, lis, G.atI, isTys, isTy, eqD, D.eqv, pure60, D.pure, D.deep, List.set, setD, putL, cell, methD, mtD, strI, ofSeq, plcC, plcV, unl, lock, unlock, rngD, forL, Itm.ok, stays, List.all_nil, fit0, fit1, fit2, fit3, fit4, fit5, fit6, fit7, fit8, fit9, fit10, fit11, fit12, fit13, fit14, fit15, fit16, e8, same]
  refine ⟨M6, ?_, B6.up _ (by omega)⟩
  unfold bl_scene
  rw [seq_nx i0, seq_nx i1, seq_nx i2, seq_nx i3, seq_nx i4, seq_nx (i5 _), seq_nx i6]
  simp [evSs, evS, evX, evXs, evEs, evA, evAg, evT, evTB, evB, evG, evGs, evI, Tgs.len, varD, R.bind, biD, bi1, bi2_gcd, lif, toVal, setName_def, isRo_no, isRo_val, isRo_own, cmpD, truD, negD, binD, intOp, retD, ofBody, callD, call_CN, callkD, slots, Ar.slot, lend, ofCall, subD, seq, lis, G.atI, isTys, isTy, eqD, D.eqv, pure60, D.pure, D.deep, List.set, setD, putL, cell, methD, mtD, strI, ofSeq, plcC, plcV, unl, lock, unlock, rngD, forL, Itm.ok, stays, List.all_nil, fit0, fit1, fit2, fit3, fit4, fit5, fit6, fit7, fit8, fit9, fit10, fit11, fit12, fit13, fit14, fit15, fit16, f1, f2, f3, f4]
end G

/-! ## V22 -/
set_option Elab.async false
set_option linter.all false
set_option maxRecDepth 100000
set_option maxHeartbeats 8000000
namespace G
open PySem
/-! ### each of the four kinds of flags -/
theorem c_told_kinds (n : Nat) (a : Slot) (M : List Cell) : RN (n+1) (Str.ofString "_law_told_kinds") [a] M = ofBody (evSs (CN n) bl_told_kinds ⟨[a, .no, .no, .no, .no], M⟩) := rfl
abbrev sKa : Str := Str.ofString "a"
abbrev sKb : Str := Str.ofString "b"
abbrev sRx : Str := Str.ofString "x"
def tkD (z u : Bool) : D := KD [⟨sKa, true, true⟩, ⟨sKb, z, u⟩] [.tup [.str sRx, .int 1]]
def six : List D := [.tup [T2 0 1, T2 1 1], .tup [T2 5 2, T2 1 1], .tup [T2 0 1, T2 3 2], .tup [T2 (-1) 1, T2 2 1], .tup [T2 0 1, T2 0 1], .tup [T2 1 1, T2 (-1) 2]]
def four : List D := [.tup [flD false, flD false], .tup [flD false, flD true], .tup [flD true, flD false], .tup [flD true, flD true]]
theorem six_Gd (M : List Cell) : ∀ d ∈ six, Gd M d := by
  have s6 : SmI 0 := SmI40 (by decide)
  have s7 : SmI 1 := SmI40 (by decide)
  have s8 : SmI 2 := SmI40 (by decide)
  have s9 : SmI (-1) := SmI40 (by decide)
  have s1 : SmI 5 := SmI40 (by decide)
  have s2 : SmI 3 := SmI40 (by decide)
  unfold six
  simp [Gd, Wd, Wds, Bn, Bns, s1, s2, s6, s7, s8, s9]
theorem four_get {d : D} (h : d ∈ four) : ∃ z u, d = .tup [flD z, flD u] := by
  unfold four at h
  simp only [List.mem_cons, List.not_mem_nil, or_false] at h
  rcases h with rfl | rfl | rfl | rfl <;> exact ⟨_, _, rfl⟩
abbrev P7 : D := .tup [T2 7 1, T2 1 7]
theorem tk_in {C : Cn} {z u : Bool} {d0 d1 : D} {x4 : Slot} {M : List Cell} (h4 : isRo x4 = false) (hlook : ∀ d ∈ six, C.call (Str.ofString "_law_looked") [.val (.int 1), .val (tkD z u), .val (.tup [P7, d])] M = .ok (.val (.bl true)) M) :
    ∃ y4, isRo y4 = false ∧ evS C l_told_kinds_0b_1 ⟨[.val (.loc 1), .val d0, .val d1, .val (tkD z u), x4], M⟩ = .ok .nx ⟨[.val (.loc 1), .val d0, .val d1, .val (tkD z u), y4], M⟩ := by
  generalize tkD z u = ST at *
  have hi : evI C (.q (.tup (.cons (.tup (.cons (.tup (.cons (.cst (.int 0)) (.cons (.cst (.int 1)) .nil))) (.cons (.tup (.cons (.cst (.int 1)) (.cons (.cst (.int 1)) .nil))) .nil))) (.cons (.tup (.cons (.tup (.cons (.cst (.int 5)) (.cons (.cst (.int 2)) .nil))) (.cons (.tup (.cons (.cst (.int 1)) (.cons (.cst (.int 1)) .nil))) .nil))) (.cons (.tup (.cons (.tup (.cons (.cst (.int 0)) (.cons (.cst (.int 1)) .nil))) (.cons (.tup (.cons (.cst (.int 3)) (.cons (.cst (.int 2)) .nil))) .nil))) (.cons (.tup (.cons (.tup (.cons (.neg (.cst (.int 1))) (.cons (.cst (.int 1)) .nil))) (.cons (.tup (.cons (.cst (.int 2)) (.cons (.cst (.int 1)) .nil))) .nil))) (.cons (.tup (.cons (.tup (.cons (.cst (.int 0)) (.cons (.cst (.int 1)) .nil))) (.cons (.tup (.cons (.cst (.int 0)) (.cons (.cst (.int 1)) .nil))) .nil))) (.cons (.tup (.cons (.tup (.cons (.cst (.int 1)) (.cons (.cst (.int 1)) .nil))) (.cons (.tup (.cons (.neg (.cst (.int 1))) (.cons (.cst (.int 2)) .nil))) .nil))) .nil)))))))) ⟨[.val (.loc 1), .val d0, .val d1, .val ST, x4], M⟩ = .ok ⟨six, [], []⟩ ⟨[.val (.loc 1), .val d0, .val d1, .val ST, x4], M⟩ := by
    simp [evSs, evS, evX, evXs, evEs, evA, evAg, evT, evTB, evB, evG, evGs, evI, Tgs.len, varD, R.bind, biD, bi1, bi2_gcd, lif, toVal, setName_def, isRo_no, isRo_val, isRo_own, cmpD, truD, negD, binD, intOp, retD, ofBody, callD, call_CN, callkD, slots, Ar.slot, lend, ofCall, subD, seq, lis, G.atI, isTys, isTy, eqD, D.eqv, pure60, D.pure, D.deep, List.set, setD, putL, cell, methD, mtD, strI, ofSeq, plcC, plcV, unl, lock, unlock, rngD, forL, Itm.ok, stays, List.all_nil, fit0, fit1, fit2, fit3, fit4, fit5, fit6, fit7, fit8, fit9, fit10, fit11, fit12, fit13, fit14, fit15, fit16, six]
  obtain ⟨s', e, y4, h, rfl⟩ := fors_inv l_told_kinds_0b_1 rfl hi rfl rfl (fun _ s => ∃ y4, isRo y4 = false ∧ s = ⟨[.val (.loc 1), .val d0, .val d1, .val ST, y4], M⟩) ⟨x4, h4, rfl⟩ (by
    rintro j x s hx ⟨y4, h, rfl⟩
    have e1 := hlook x (List.mem_of_getElem? hx)
    refine ⟨⟨[.val (.loc 1), .val d0, .val d1, .val ST, .val x], M⟩, ?_, _, rfl, rfl⟩
    simp [evSs, evS, evX, evXs, evEs, evA, evAg, evT, evTB, evB, evG, evGs, evI, Tgs.len, varD, R.bind, biD, bi1, bi2_gcd, lif, toVal, setName_def, isRo_no, isRo_val, isRo_own, cmpD, truD, negD, binD, intOp, retD, ofBody, callD, call_CN, callkD, slots, Ar.slot, lend, ofCall, subD, seq, lis, G.atI, isTys, isTy, eqD, D.eqv, pure60, D.pure, D.deep, List.set, setD, putL, cell, methD, mtD, strI, ofSeq, plcC, plcV, unl, lock, unlock, rngD, forL, Itm.ok, stays, List.all_nil, fit0, fit1, fit2, fit3, fit4, fit5, fit6, fit7, fit8, fit9, fit10, fit11, fit12, fit13, fit14, fit15, fit16, h, e1])
  exact ⟨y4, h, e⟩
theorem s_told_kinds (n : Nat) (M : List Cell) : RN (n+8) (Str.ofString "_law_told_kinds") [.val (.loc 1)] M = .ok (.val (.bl true)) M := by
  rw [c_told_kinds]
  obtain ⟨C, hC, hg⟩ := opq (n+7)
  rw [← hC]
  have s7 : SmI 7 := SmI40 (by decide)
  have s1 : SmI 1 := SmI40 (by decide)
  have hP : Gd M P7 := by simp [Gd, Wd, Wds, Bn, Bns, s7, s1]
  have hlook : ∀ z u, ∀ d ∈ six, C.call (Str.ofString "_law_looked") [.val (.int 1), .val (tkD z u), .val (.tup [P7, d])] M = .ok (.val (.bl true)) M := fun z u d hd => by
    have g : Gd M (.tup [P7, d]) := Gd.tup fun x hx => by
      simp only [List.mem_cons, List.not_mem_nil, or_false] at hx
      rcases hx with rfl | rfl
      · exact hP
      · exact six_Gd M _ hd
    exact hg (s_looked1 n M [⟨sKa, true, true⟩, ⟨sKb, z, u⟩] [.tup [.str sRx, .int 1]] _ g.ask (by show 2 < 1000; decide))
  have hi : evI C (.q (.tup (.cons (.tup (.cons (.cst (.str (Str.ofString "told"))) (.cons (.cst (.str (Str.ofString "told"))) .nil))) (.cons (.tup (.cons (.cst (.str (Str.ofString "told"))) (.cons (.cst (.str (Str.ofString "free"))) .nil))) (.cons (.tup (.cons (.cst (.str (Str.ofString "free"))) (.cons (.cst (.str (Str.ofString "told"))) .nil))) (.cons (.tup (.cons (.cst (.str (Str.ofString "free"))) (.cons (.cst (.str (Str.ofString "free"))) .nil))) .nil)))))) ⟨[.val (.loc 1), .no, .no, .no, .no], M⟩ = .ok ⟨four, [], []⟩ ⟨[.val (.loc 1), .no, .no, .no, .no], M⟩ := by
    simp [evSs, evS, evX, evXs, evEs, evA, evAg, evT, evTB, evB, evG, evGs, evI, Tgs.len, varD, R.bind, biD, bi1, bi2_gcd, lif, toVal, setName_def, isRo_no, isRo_val, isRo_own, cmpD, truD, negD, binD, intOp, retD, ofBody, callD, call_CN, callkD, slots, Ar.slot, lend, ofCall, subD, seq, lis, G.atI, isTys, isTy, eqD, D.eqv, pure60, D.pure, D.deep, List.set, setD, putL, cell, methD, mtD, strI, ofSeq, plcC, plcV, unl, lock, unlock, rngD, forL, Itm.ok, stays, List.all_nil, fit0, fit1, fit2, fit3, fit4, fit5, fit6, fit7, fit8, fit9, fit10, fit11, fit12, fit13, fit14, fit15, fit16, four, flD]
  obtain ⟨s', i0, x1, x2, x3, x4, h1, h2, h3, h4, rfl⟩ := fors_inv l_told_kinds_0 rfl hi rfl rfl (fun _ s => ∃ x1 x2 x3 x4, isRo x1 = false ∧ isRo x2 = false ∧ isRo x3 = false ∧ isRo x4 = false ∧ s = ⟨[.val (.loc 1), x1, x2, x3, x4], M⟩) ⟨_, _, _, _, rfl, rfl, rfl, rfl, rfl⟩ (by
    rintro j x s hx ⟨x1, x2, x3, x4, h1, h2, h3, h4, rfl⟩
    obtain ⟨z, u, rfl⟩ := four_get (List.mem_of_getElem? hx)
    obtain ⟨y4, k4, e4⟩ := tk_in (d0 := flD z) (d1 := flD u) h4 (hlook z u)
    have htk : tkD z u = .tup [.tup [.tup [.str sKa, flD true, flD true], .tup [.str sKb, flD z, flD u]], .tup [.tup [.str sRx, .int 1]]] := rfl
    refine ⟨_, ?_, .val (flD z), .val (flD u), .val (tkD z u), y4, rfl, rfl, rfl, k4, rfl⟩
    have j0 : evG C (.tup (.cons (.name 1) (.cons (.name 2) (.nil)))) (.tup [flD z, flD u]) ⟨[.val (.loc 1), x1, x2, x3, x4], M⟩ = .ok () ⟨[.val (.loc 1), .val (flD z), .val (flD u), x3, x4], M⟩ := by
      generalize flD z = fz at *
      generalize flD u = fu at *
      simp [evSs, evS, evX, evXs, evEs, evA, evAg, evT, evTB, evB, evG, evGs, evI, Tgs.len, varD, R.bind, biD, bi1, bi2_gcd, lif, toVal, setName_def, isRo_no, isRo_val, isRo_own, cmpD, truD, negD, binD, intOp, retD, ofBody, callD, call_CN, callkD, slots, Ar.slot, lend, ofCall, subD, seq, lis, G.atI, isTys, isTy, eqD, D.eqv, pure60, D.pure, D.deep, List.set, setD, putL, cell, methD, mtD, strI, ofSeq, plcC, plcV, unl, lock, unlock, rngD, forL, Itm.ok, stays, List.all_nil, fit0, fit1, fit2, fit3, fit4, fit5, fit6, fit7, fit8, fit9, fit10, fit11, fit12, fit13, fit14, fit15, fit16, h1, h2]
    have j1 : evS C l_told_kinds_0b_0 ⟨[.val (.loc 1), .val (flD z), .val (flD u), x3, x4], M⟩ = .ok .nx ⟨[.val (.loc 1), .val (flD z), .val (flD u), .val (tkD z u), x4], M⟩ := by
      rw [htk]
      have : flD true = .str (Str.ofString "free") := rfl
      rw [this]
      generalize flD z = fz at *
      generalize flD u = fu at *
      simp [evSs, evS, evX, evXs, evEs, evA, evAg, evT, evTB, evB, evG, evGs, evI, Tgs.len, varD, R.bind, biD, bi1, bi2_gcd, lif, toVal, setName_def, isRo_no, isRo_val, isRo_own, cmpD, truD, negD, binD, intOp, retD, ofBody, callD, call_CN, callkD, slots, Ar.slot, lend, ofCall, subD, seq, lis, G.atI, isTys, isTy, eqD, D.eqv, pure60, D.pure, D.deep, List.set, setD, putL, cell, methD, mtD, strI, ofSeq, plcC, plcV, unl, lock, unlock, rngD, forL, Itm.ok, stays, List.all_nil, fit0, fit1, fit2, fit3, fit4, fit5, fit6, fit7, fit8, fit9, fit10, fit11, fit12, fit13, fit14, fit15, fit16, h3]
    rw [j0]
    refine bind_ok ?_
    show evSs C l_told_kinds_0b _ = _
    rw [seq_nx j1, seq_nx e4, evSs])
  unfold bl_told_kinds
  rw [seq_nx i0]
  simp [evSs, evS, evX, evXs, evEs, evA, evAg, evT, evTB, evB, evG, evGs, evI, Tgs.len, varD, R.bind, biD, bi1, bi2_gcd, lif, toVal, setName_def, isRo_no, isRo_val, isRo_own, cmpD, truD, negD, binD, intOp, retD, ofBody, callD, call_CN, callkD, slots, Ar.slot, lend, ofCall, subD, seq, lis, G.atI, isTys, isTy, eqD, D.eqv, pure60, D.pure, D.deep, List.set, setD, putL, cell, methD, mtD, strI, ofSeq, plcC, plcV, unl, lock, unlock, rngD, forL, Itm.ok, stays, List.all_nil, fit0, fit1, fit2, fit3, fit4, fit5, fit6, fit7, fit8, fit9, fit10, fit11, fit12, fit13, fit14, fit15, fit16]
/-! ### by hand -/
theorem c_hand (n : Nat) (M : List Cell) : RN (n+1) (Str.ofString "_law_hand") [] M = ofBody (evSs (CN n) bl_hand ⟨[.no, .no, .no, .no], M⟩) := rfl
def hKs : List Kd := [⟨Str.ofString "time", true, false⟩, ⟨Str.ofString "heat", true, true⟩]
def hRs : List D := [.tup [.str (Str.ofString "start"), .int 0], .tup [.str (Str.ofString "stop"), .int 0], .tup [.str (Str.ofString "in"), .int 1], .tup [.str (Str.ofString "out"), .int 1]]
def hN3 : List D := [T2 8 1, T2 12 1, T2 21 1]
def hN : List D := [T2 8 1, T2 12 1, T2 21 1, T2 35 2]
def hN4 : List D := [T2 8 1, T2 12 1, T2 21 1, T2 70 4]
theorem kb_pc (n : Nat) (a : Slot) : kbOf prog (Str.ofString "plain_choice") 0 [Str.ofString "setting"] [a] = some [a] := rfl
theorem kb_ic (n : Nat) (a b : Slot) : kbOf prog (Str.ofString "is_choice") 0 [Str.ofString "setting", Str.ofString "thing"] [a, b] = some [a, b] := rfl
theorem kb_av (n : Nat) (a b : Slot) : kbOf prog (Str.ofString "are_values") 0 [Str.ofString "setting", Str.ofString "thing"] [a, b] = some [a, b] := rfl
theorem v1 : ckV isQ hRs.length (.tup hN) = .ok 4 := rfl
theorem v2 : ckC hKs (.tup [.tup [T2 1 2, T2 2 1], P01]) = .error 0 := rfl
theorem v3 : ckC hKs (.tup [P01, .tup [T2 3 2, T2 0 1]]) = .error 1 := rfl
theorem v4 : ckC hKs (.tup [P01, .tup [T2 3 2, T2 1 9]]) = .ok 2 := rfl
theorem v5 : ckV isQ hRs.length (.tup hN3) = .error (-1) := rfl
theorem v6 : ckV isQ hRs.length (.tup hN4) = .error 3 := rfl
theorem s_hand (n : Nat) (M : List Cell) : RN (n+8) (Str.ofString "_law_hand") [] M = .ok (.val (.bl true)) M := by
  rw [c_hand]
  obtain ⟨C, hC, hg⟩ := opq (n+7)
  rw [← hC]
  have k1 : ∀ a, C.kb (Str.ofString "plain_choice") 0 [Str.ofString "setting"] [a] = some [a] := fun a => by rw [hC]; exact kb_pc 0 _
  have k2 : ∀ a b, C.kb (Str.ofString "is_choice") 0 [Str.ofString "setting", Str.ofString "thing"] [a, b] = some [a, b] := fun a b => by rw [hC]; exact kb_ic 0 _ _
  have k3 : ∀ a b, C.kb (Str.ofString "are_values") 0 [Str.ofString "setting", Str.ofString "thing"] [a, b] = some [a, b] := fun a b => by rw [hC]; exact kb_av 0 _ _
  have l1 : hRs.length < 1000 := by decide
  have l2 : hKs.length < 1000 := by decide
  have w1 : Wd M (.tup hN) := by simp [hN, Wd, Wds]
  have w2 : Wd M (.tup [.tup [T2 1 2, T2 2 1], P01]) := by simp [Wd, Wds]
  have w3 : Wd M (.tup [P01, .tup [T2 3 2, T2 0 1]]) := by simp [Wd, Wds]
  have w4 : Wd M (.tup [P01, .tup [T2 3 2, T2 1 9]]) := by simp [Wd, Wds]
  have w5 : Wd M (.tup hN3) := by simp [hN3, Wd, Wds]
  have w6 : Wd M (.tup hN4) := by simp [hN4, Wd, Wds]
  have c1 := hg (s_checked0 (n+2) M (.tup (hKs.map kD)) hRs _ w1 l1)
  rw [v1] at c1
  have c2 := hg (s_plain (n+6) M hKs hRs l2)
  have c3 := hg (s_is_choice (n+2) M hKs (.tup hRs) _ w2 l2)
  rw [v2] at c3
  have c4 := hg (s_are_values (n+3) M (.tup (hKs.map kD)) hRs _ w1 l1)
  rw [v1] at c4
  have c5 := hg (s_checked1 (n+1) M hKs (.tup hRs) _ w3 l2)
  rw [v3] at c5
  have c6 := hg (s_checked1 (n+1) M hKs (.tup hRs) _ w4 l2)
  rw [v4] at c6
  have c7 := hg (s_checked0 (n+2) M (.tup (hKs.map kD)) hRs _ w5 l1)
  rw [v5] at c7
  have c8 := hg (s_checked0 (n+2) M (.tup (hKs.map kD)) hRs _ w6 l1)
  rw [v6] at c8
  have q1 := hg (s_same 4 (.tup [.tup [.str sTold, .int 4], .tup [P01, P01], .bl false, .bl true]) (by decide) (by decide) (n+6) M (by omega))
  have q2 := hg (s_same 4 (.tup [.tup [.str sBad, .int 1], .tup [.str sTold, .int 2], .tup [.str sBad, .int (-1)], .tup [.str sBad, .int 3]]) (by decide) (by decide) (n+6) M (by omega))
  have i0 : evS C l_hand_0 ⟨[.no, .no, .no, .no], M⟩ = .ok .nx ⟨[.val (KD hKs hRs), .no, .no, .no], M⟩ := by
    simp [evSs, evS, evX, evXs, evEs, evA, evAg, evT, evTB, evB, evG, evGs, evI, Tgs.len, varD, R.bind, biD, bi1, bi2_gcd, lif, toVal, setName_def, isRo_no, isRo_val, isRo_own, cmpD, truD, negD, binD, intOp, retD, ofBody, callD, call_CN, callkD, slots, Ar.slot, lend, ofCall, subD, seq, lis, G.atI, isTys, isTy, eqD, D.eqv, pure60, D.pure, D.deep, List.set, setD, putL, cell, methD, mtD, strI, ofSeq, plcC, plcV, unl, lock, unlock, rngD, forL, Itm.ok, stays, List.all_nil, fit0, fit1, fit2, fit3, fit4, fit5, fit6, fit7, fit8, fit9, fit10, fit11, fit12, fit13, fit14, fit15, fit16]
    rfl
  have i1 : evS C l_hand_1 ⟨[.val (KD hKs hRs), .no, .no, .no], M⟩ = .ok .nx ⟨[.val (KD hKs hRs), .val (.tup hN), .no, .no], M⟩ := by
    simp [evSs, evS, evX, evXs, evEs, evA, evAg, evT, evTB, evB, evG, evGs, evI, Tgs.len, varD, R.bind, biD, bi1, bi2_gcd, lif, toVal, setName_def, isRo_no, isRo_val, isRo_own, cmpD, truD, negD, binD, intOp, retD, ofBody, callD, call_CN, callkD, slots, Ar.slot, lend, ofCall, subD, seq, lis, G.atI, isTys, isTy, eqD, D.eqv, pure60, D.pure, D.deep, List.set, setD, putL, cell, methD, mtD, strI, ofSeq, plcC, plcV, unl, lock, unlock, rngD, forL, Itm.ok, stays, List.all_nil, fit0, fit1, fit2, fit3, fit4, fit5, fit6, fit7, fit8, fit9, fit10, fit11, fit12, fit13, fit14, fit15, fit16]
    rfl
  have i2 : evS C l_hand_2 ⟨[.val (KD hKs hRs), .val (.tup hN), .no, .no], M⟩ = .ok .nx ⟨[.val (KD hKs hRs), .val (.tup hN), .val P01, .no], M⟩ := by
    simp [evSs, evS, evX, evXs, evEs, evA, evAg, evT, evTB, evB, evG, evGs, evI, Tgs.len, varD, R.bind, biD, bi1, bi2_gcd, lif, toVal, setName_def, isRo_no, isRo_val, isRo_own, cmpD, truD, negD, binD, intOp, retD, ofBody, callD, call_CN, callkD, slots, Ar.slot, lend, ofCall, subD, seq, lis, G.atI, isTys, isTy, eqD, D.eqv, pure60, D.pure, D.deep, List.set, setD, putL, cell, methD, mtD, strI, ofSeq, plcC, plcV, unl, lock, unlock, rngD, forL, Itm.ok, stays, List.all_nil, fit0, fit1, fit2, fit3, fit4, fit5, fit6, fit7, fit8, fit9, fit10, fit11, fit12, fit13, fit14, fit15, fit16]
  have c1 : C.call (Str.ofString "_law_checked") [.val (.int 0), .val (KD hKs hRs), .val (.tup hN)] M = .ok (.val (.tup [.str sTold, .int 4])) M := c1
  have c2 : C.call (Str.ofString "plain_choice") [.val (KD hKs hRs)] M = .ok (.val (.tup [P01, P01])) M := c2
  have c3 : C.call (Str.ofString "is_choice") [.val (KD hKs hRs), .val (.tup [.tup [T2 1 2, T2 2 1], P01])] M = .ok (.val (.bl false)) M := c3
  have c4 : C.call (Str.ofString "are_values") [.val (KD hKs hRs), .val (.tup hN)] M = .ok (.val (.bl true)) M := c4
  have c5 : C.call (Str.ofString "_law_checked") [.val (.int 1), .val (KD hKs hRs), .val (.tup [P01, .tup [T2 3 2, T2 0 1]])] M = .ok (.val (.tup [.str sBad, .int 1])) M := c5
  have c6 : C.call (Str.ofString "_law_checked") [.val (.int 1), .val (KD hKs hRs), .val (.tup [P01, .tup [T2 3 2, T2 1 9]])] M = .ok (.val (.tup [.str sTold, .int 2])) M := c6
  have c7 : C.call (Str.ofString "_law_checked") [.val (.int 0), .val (KD hKs hRs), .val (.tup hN3)] M = .ok (.val (.tup [.str sBad, .int (-1)])) M := c7
  have c8 : C.call (Str.ofString "_law_checked") [.val (.int 0), .val (KD hKs hRs), .val (.tup hN4)] M = .ok (.val (.tup [.str sBad, .int 3])) M := c8
  have t3 : cut hN none (some 3) = hN3 := rfl
  have t4 : hN3 ++ [T2 70 4] = hN4 := rfl
  have t5 : catOk hN3 [T2 70 4] = true := (by decide : fits (3 + 1) = true)
  generalize KD hKs hRs = SD at *
  generalize hN = NN at *
  generalize hN3 = N3 at *
  generalize hN4 = N4 at *
  have i3 : evS C l_hand_3 ⟨[.val SD, .val (.tup NN), .val P01, .no], M⟩ = .ok .nx ⟨[.val SD, .val (.tup NN), .val P01, .val (.tup [.tup [.str sTold, .int 4], .tup [P01, P01], .bl false, .bl true])], M⟩ := by
    simp [evSs, evS, evX, evXs, evEs, evA, evAg, evT, evTB, evB, evG, evGs, evI, Tgs.len, varD, R.bind, biD, bi1, bi2_gcd, lif, toVal, setName_def, isRo_no, isRo_val, isRo_own, cmpD, truD, negD, binD, intOp, retD, ofBody, callD, call_CN, callkD, slots, Ar.slot, lend, ofCall, subD, seq, lis, G.atI, isTys, isTy, eqD, D.eqv, pure60, D.pure, D.deep, List.set, setD, putL, cell, methD, mtD, strI, ofSeq, plcC, plcV, unl, lock, unlock, rngD, forL, Itm.ok, stays, List.all_nil, fit0, fit1, fit2, fit3, fit4, fit5, fit6, fit7, fit8, fit9, fit10, fit11, fit12, fit13, fit14, fit15, fit16, k1, k2, k3, c1, c2, c3, c4]
  have i4 : evS C l_hand_4 ⟨[.val SD, .val (.tup NN), .val P01, .val (.tup [.tup [.str sTold, .int 4], .tup [P01, P01], .bl false, .bl true])], M⟩ = .ok .nx ⟨[.val SD, .val (.tup NN), .val P01, .val (.tup [.tup [.str sTold, .int 4], .tup [P01, P01], .bl false, .bl true])], M⟩ := by
    simp [evSs, evS, evX, evXs, evEs, evA, evAg, evT, evTB, evB, evG, evGs, evI, Tgs.len, varD, R.bind, biD, bi1, bi2_gcd, lif, toVal, setName_def, isRo_no, isRo_val, isRo_own, cmpD, truD, negD, binD, intOp, retD, ofBody, callD, call_CN, callkD, slots, Ar.slot, lend, ofCall, subD, seq, lis, G.atI, isTys, isTy, eqD, D.eqv, pure60, D.pure, D.deep, List.set, setD, putL, cell, methD, mtD, strI, ofSeq, plcC, plcV, unl, lock, unlock, rngD, forL, Itm.ok, stays, List.all_nil, fit0, fit1, fit2, fit3, fit4, fit5, fit6, fit7, fit8, fit9, fit10, fit11, fit12, fit13, fit14, fit15, fit16, q1]
  have i5 : evS C l_hand_5 ⟨[.val SD, .val (.tup NN), .val P01, .val (.tup [.tup [.str sTold, .int 4], .tup [P01, P01], .bl false, .bl true])], M⟩ = .ok .nx ⟨[.val SD, .val (.tup NN), .val P01, .val (.tup [.tup [.str sBad, .int 1], .tup [.str sTold, .int 2], .tup [.str sBad, .int (-1)], .tup [.str sBad, .int 3]])], M⟩ := by
    simp [evSs, evS, evX, evXs, evEs, evA, evAg, evT, evTB, evB, evG, evGs, evI, Tgs.len, varD, R.bind, biD, bi1, bi2_gcd, lif, toVal, setName_def, isRo_no, isRo_val, isRo_own, cmpD, truD, negD, binD, intOp, retD, ofBody, callD, call_CN, callkD, slots, Ar.slot, lend, ofCall, subD, seq, lis, G.atI, isTys, isTy, eqD, D.eqv, pure60, D.pure, D.deep, List.set, setD, putL, cell, methD, mtD, strI, ofSeq, plcC, plcV, unl, lock, unlock, rngD, forL, Itm.ok, stays, List.all_nil, fit0, fit1, fit2, fit3, fit4, fit5, fit6, fit7, fit8, fit9, fit10, fit11, fit12, fit13, fit14, fit15, fit16, evO, optI, slcD, t3, t4, t5, c5, c6, c7, c8]
  unfold bl_hand
  rw [seq_nx i0, seq_nx i1, seq_nx i2, seq_nx i3, seq_nx i4, seq_nx i5]
  simp [evSs, evS, evX, evXs, evEs, evA, evAg, evT, evTB, evB, evG, evGs, evI, Tgs.len, varD, R.bind, biD, bi1, bi2_gcd, lif, toVal, setName_def, isRo_no, isRo_val, isRo_own, cmpD, truD, negD, binD, intOp, retD, ofBody, callD, call_CN, callkD, slots, Ar.slot, lend, ofCall, subD, seq, lis, G.atI, isTys, isTy, eqD, D.eqv, pure60, D.pure, D.deep, List.set, setD, putL, cell, methD, mtD, strI, ofSeq, plcC, plcV, unl, lock, unlock, rngD, forL, Itm.ok, stays, List.all_nil, fit0, fit1, fit2, fit3, fit4, fit5, fit6, fit7, fit8, fit9, fit10, fit11, fit12, fit13, fit14, fit15, fit16, q2]
theorem c_law (n : Nat) (a : Slot) (M : List Cell) : RN (n+1) (Str.ofString "law") [a] M = ofBody (evSs (CN n) bf_law ⟨[a, .no], M⟩) := rfl
theorem s_law (n : Nat) (ns : List Int) : ∃ M, RN (n+9) (Str.ofString "law") [.ro (ns.map D.int)] [] = .ok (.val (.bl true)) M := by
  rw [c_law]
  obtain ⟨C, hC, hg⟩ := opq (n+8)
  rw [← hC]
  obtain ⟨M0, e0, B0⟩ := s_basin (n+7) ns
  have e0 := hg e0
  have e1 := hg (s_hand n M0)
  have e2 := hg (s_told_kinds n M0)
  obtain ⟨M1, e3, B1⟩ := s_scene n M0 _ B0 (by decide)
  have e3 := hg e3
  obtain ⟨M2, e4, B2⟩ := s_scene n M1 _ B1 (by decide)
  have e4 := hg e4
  generalize ns.map D.int = xs at *
  have i0 : evS C f_law_0 ⟨[.ro xs, .no], []⟩ = .ok .nx ⟨[.ro xs, .val (.loc 1)], M0⟩ := by
    simp [evSs, evS, evX, evXs, evEs, evA, evAg, evT, evTB, evB, evG, evGs, evI, Tgs.len, varD, R.bind, biD, bi1, bi2_gcd, lif, toVal, setName_def, isRo_no, isRo_val, isRo_own, cmpD, truD, negD, binD, intOp, retD, ofBody, callD, call_CN, callkD, slots, Ar.slot, lend, ofCall, subD, seq, lis, G.atI, isTys, isTy, eqD, D.eqv, pure60, D.pure, D.deep, List.set, setD, putL, cell, methD, mtD, strI, ofSeq, plcC, plcV, unl, lock, unlock, rngD, forL, Itm.ok, stays, List.all_nil, fit0, fit1, fit2, fit3, fit4, fit5, fit6, fit7, fit8, fit9, fit10, fit11, fit12, fit13, fit14, fit15, fit16, e0]
  refine ⟨M2, ?_⟩
  unfold bf_law
  rw [seq_nx i0]
  simp [evSs, evS, evX, evXs, evEs, evA, evAg, evT, evTB, evB, evG, evGs, evI, Tgs.len, varD, R.bind, biD, bi1, bi2_gcd, lif, toVal, setName_def, isRo_no, isRo_val, isRo_own, cmpD, truD, negD, binD, intOp, retD, ofBody, callD, call_CN, callkD, slots, Ar.slot, lend, ofCall, subD, seq, lis, G.atI, isTys, isTy, eqD, D.eqv, pure60, D.pure, D.deep, List.set, setD, putL, cell, methD, mtD, strI, ofSeq, plcC, plcV, unl, lock, unlock, rngD, forL, Itm.ok, stays, List.all_nil, fit0, fit1, fit2, fit3, fit4, fit5, fit6, fit7, fit8, fit9, fit10, fit11, fit12, fit13, fit14, fit15, fit16, e1, e2, e3, e4]
end G

theorem PySem.Challenge.cw_whateverzero_k05_values_and_choices_chec_holds : PySem.Challenge.rw_whateverzero_k05_values_and_choices_chec.Holds :=
  G.holds fun ns _ => G.s_law 142 ns
