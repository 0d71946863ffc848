import PyProof.Rows.All
import PySem.Challenge.RW_downcorners_k25_whole_steady_or_two
import HandS.Head2
import HandS.HeadHook2
import HandS.HeadEnd
import Wide.All
import OpenK.AllK
import Wide.FinOn
import HandS.List
import HandS.ForMost
import HandS.ForExc
import HandS.Lambda
import HandS.Nested
import KE.GoesEnum
import KE.GoesComp2
import KE.GoesCell
import KE.GoesMore
import HandS.Wide
import HandS.IsInst
import HandS.Deep
import HandS.SortInts
import HandS.More
import KE.KUnpack
import KE.GoesRev
import PyProof.Rows.Range3
import HandS.Comp
import HandS.Call
import HandS.Ends
set_option Elab.async false
set_option linter.all false
set_option maxRecDepth 100000
set_option maxHeartbeats 0
set_option exponentiation.threshold 20000
/-! Mini: a small total language: values, a heap of lists and cells, expressions, statements, their meaning. -/
namespace Mp
abbrev Txt := PySem.Str

/-- a value: lst, dct are lists and dicts that nobody writes any more; ref a: what stands in the small heap -/
inductive Val where
  | none | bool (b : Bool) | int (i : Int) | str (s : Txt)
  | tup (xs : List Val) | lst (xs : List Val) | dct (ks vs : List Val)
  | ref (a : Nat) | fn (i : Nat) | clo (i : Nat) (cs : List Nat) | exc (c : Nat) (fs : List Val)
  deriving Inhabited, BEq

mutual
def Val.eqb : Val → Val → Bool
  | .none, .none => true
  | .bool a, .bool b => a == b
  | .int a, .int b => a == b
  | .str a, .str b => decide (a = b)
  | .tup a, .tup b => Val.eqbL a b
  | .lst a, .lst b => Val.eqbL a b
  | .dct a c, .dct b d => Val.eqbL a b && Val.eqbL c d
  | .ref a, .ref b => a == b
  | .fn a, .fn b => a == b
  | .clo a c, .clo b d => a == b && c == d
  | .exc a c, .exc b d => a == b && Val.eqbL c d
  | _, _ => false
def Val.eqbL : List Val → List Val → Bool
  | [], [] => true
  | a :: r, b :: t => Val.eqb a b && Val.eqbL r t
  | _, _ => false
end

inductive Ob where
  | lst (xs : List Val)
  | lck (xs : List Val)
  | dct (ks vs : List Val)
  | cel (v : Option Val)
  deriving Inhabited
abbrev Hp := List (Option Ob)
def Hp.at (h : Hp) (a : Nat) : Option Ob := (h[a]?).join
def Hp.put (h : Hp) (a : Nat) (o : Ob) : Hp := h.set a (some o)

/-- what an expression, a statement ends in -/
inductive R (α : Type) where
  | ok (a : α) (h : Hp)
  | err (c : Nat) (fs : List Val) (h : Hp)
  | no
def R.bind {α β : Type} (r : R α) (f : α → Hp → R β) : R β := match r with
  | .ok a h => f a h
  | .err c fs h => .err c fs h
  | .no => .no
@[simp] theorem R.bind_ok {α β : Type} (a : α) (h : Hp) (f : α → Hp → R β) : (R.ok a h).bind f = f a h := rfl
@[simp] theorem R.bind_err {α β : Type} (c : Nat) (fs : List Val) (h : Hp) (f : α → Hp → R β) : (R.err c fs h : R α).bind f = R.err c fs h := rfl
@[simp] theorem R.bind_no {α β : Type} (f : α → Hp → R β) : (R.no : R α).bind f = R.no := rfl

/-! ### built-in operations -/
inductive Ty where
  | list | tuple | int | bool | str | dict
  deriving DecidableEq, Inhabited
inductive Prim where
  | add (m : Bool) | sub | mul (m : Bool) | fdiv | mod | pow | neg | not
  | eq | ne | lt | le | gt | ge | isN | isnN | inn | nin
  | len | abs | ix | sl (m a b c : Bool)
  | list (m : Bool) | tuple | int | all | any | sorted (m : Bool) | min2 | max2 | minL | maxL | sum
  | isi (ts : List Ty)
  | append | extend | insert | pop | popAt | index | setix
  | range1L | items | dictL
  deriving DecidableEq, Inhabited

def Val.isL : Hp → Val → Bool
  | _, .lst _ => true
  | h, .ref a => match h.at a with | some (.lst _) | some (.lck _) => true | _ => false
  | _, _ => false
/-- the items of a list or a tuple -/
def Val.seq (h : Hp) : Val → Option (List Val)
  | .lst xs => some xs
  | .tup xs => some xs
  | .ref a => match h.at a with | some (.lst xs) | some (.lck xs) => some xs | _ => Option.none
  | _ => Option.none
/-- the items of a list -/
def Val.items (h : Hp) : Val → Option (List Val)
  | .lst xs => some xs
  | .ref a => match h.at a with | some (.lst xs) | some (.lck xs) => some xs | _ => Option.none
  | _ => Option.none
def bools : List Val → Option (List Bool)
  | [] => some []
  | .bool b :: r => (bools r).map (b :: ·)
  | _ :: _ => Option.none
def Ty.name : Ty → String
  | .list => "list" | .tuple => "tuple" | .int => "int" | .bool => "bool" | .str => "str" | .dict => "dict"
def Val.kind (h : Hp) : Val → Option String
  | .none => some "NoneType"
  | .bool _ => some "bool"
  | .int _ => some "int"
  | .str _ => some "str"
  | .tup _ => some "tuple"
  | .lst _ => some "list"
  | .ref a => match h.at a with | some (.lst _) | some (.lck _) => some "list" | _ => Option.none
  | _ => Option.none
def Ty.has (k : String) (t : Ty) : Bool := k == t.name || (k == "bool" && t.name == "int")
/-- truth -/
def Val.tru (h : Hp) : Val → Option Bool
  | .none => some false
  | .bool b => some b
  | .int i => some (i != 0)
  | .tup xs => some (!xs.isEmpty)
  | .lst xs => some (!xs.isEmpty)
  | .ref a => match h.at a with | some (.lst xs) | some (.lck xs) => some (!xs.isEmpty) | _ => Option.none
  | _ => Option.none

/-- data of a value, as far as it is read down -/
abbrev PD := PySem.PyData
def mapO {α β : Type} (f : α → Option β) : List α → Option (List β)
  | [] => some []
  | x :: r => match f x, mapO f r with | some d, some t => some (d :: t) | _, _ => none
def Val.dat (h : Hp) : Nat → Val → Option PD
  | _, .none => some .none
  | _, .bool b => some (.bool b)
  | _, .int i => some (.int i)
  | _, .str s => if PySem.PyData.strOk s then some (.str s) else Option.none
  | k + 1, .tup xs => (mapO (Val.dat h k) xs).map .tuple
  | k + 1, .lst xs => (mapO (Val.dat h k) xs).map .list
  | k + 1, .ref a => match h.at a with
    | some (.lst xs) | some (.lck xs) => (mapO (Val.dat h k) xs).map .list
    | _ => Option.none
  | _, _ => Option.none
/-- == -/
def pyEq (h : Hp) (a b : Val) : Option Bool := match a.dat h 30, b.dat h 30 with
  | some x, some y => some (PySem.PyData.eqv x y)
  | _, _ => Option.none
/-- x in the items -/
def pyIn (h : Hp) (x : Val) (xs : List Val) : Option Bool := match x.dat h 30, mapO (Val.dat h 29) xs with
  | some d, some ds => some (ds.any fun y => PySem.PyData.eqv y d)
  | _, _ => Option.none
def pyIndex (h : Hp) (x : Val) (xs : List Val) : Option Nat := match x.dat h 30, mapO (Val.dat h 29) xs with
  | some d, some ds => ds.findIdx? fun y => PySem.PyData.eqv y d
  | _, _ => Option.none
/-- the place that an index means -/
def place (n : Nat) (i : Int) : Option Nat := if 0 ≤ i then (if i < n then some i.toNat else Option.none) else if 0 ≤ i + n then some (i + n).toNat else Option.none
def slice {α : Type} (xs : List α) (lo hi st : Option Int) : List α := match st with
  | Option.none => (xs.drop (HT.sIx xs.length 0 lo)).take (HT.sIx xs.length xs.length hi - HT.sIx xs.length 0 lo)
  | some _ => (PySem.sliceRange (PySem.sliceBounds lo hi st xs.length).1 (PySem.sliceBounds lo hi st xs.length).2.1 (PySem.sliceBounds lo hi st xs.length).2.2).filterMap (xs[·]?)

mutual
/-- no reference to the small heap from n on -/
def Val.low (n : Nat) : Val → Bool
  | .tup xs => Val.lowL n xs
  | .lst xs => Val.lowL n xs
  | .dct ks vs => Val.lowL n ks && Val.lowL n vs
  | .ref a => decide (a < n)
  | .clo _ cs => cs.all fun a => decide (a < n)
  | .exc _ fs => Val.lowL n fs
  | _ => true
def Val.lowL (n : Nat) : List Val → Bool
  | [] => true
  | x :: r => Val.low n x && Val.lowL n r
end
mutual
/-- what was new becomes a value that nobody writes any more -/
def Val.frz (D : Nat → Option Val) : Val → Option Val
  | .tup xs => (Val.frzL D xs).map .tup
  | .lst xs => (Val.frzL D xs).map .lst
  | .ref a => D a
  | .none => some .none
  | .bool b => some (.bool b)
  | .int i => some (.int i)
  | .str s => some (.str s)
  | .fn i => some (.fn i)
  | .dct ks vs => match Val.frzL D ks, Val.frzL D vs with | some a, some b => some (.dct a b) | _, _ => Option.none
  | .clo i cs => some (.clo i cs)
  | .exc c fs => (Val.frzL D fs).map (.exc c)
def Val.frzL (D : Nat → Option Val) : List Val → Option (List Val)
  | [] => some []
  | x :: r => match Val.frz D x, Val.frzL D r with | some d, some t => some (d :: t) | _, _ => Option.none
end
def Hp.frz (n : Nat) (h : Hp) : Nat → Nat → Option Val
  | 0, a => if a < n then some (.ref a) else Option.none
  | k + 1, a => if a < n then some (.ref a) else match h.at a with
    | some (.lst xs) => (Val.frzL (Hp.frz n h k) xs).map .lst
    | some (.dct ks vs) => match Val.frzL (Hp.frz n h k) ks, Val.frzL (Hp.frz n h k) vs with | some a, some b => some (.dct a b) | _, _ => Option.none
    | _ => Option.none
def freeze (n : Nat) (h : Hp) (v : Val) : Option Val := match Val.frz (h.frz n 6) v with
  | some w => if w.low n then some w else Option.none
  | Option.none => Option.none

/-- may the list at a take the value? -/
def wok (base a : Nat) (v : Val) : Bool := decide (base ≤ a) || v.low 0

def newL (m : Bool) (xs : List Val) (h : Hp) : R Val := if m then .ok (.ref h.length) (h ++ [some (.lst xs)]) else .ok (.lst xs) h
def ofO {α : Type} (o : Option α) (h : Hp) : R α := match o with
  | some a => .ok a h
  | Option.none => .no
@[simp] theorem ofO_some {α : Type} (a : α) (h : Hp) : ofO (some a) h = .ok a h := rfl
@[simp] theorem ofO_none {α : Type} (h : Hp) : ofO (Option.none : Option α) h = .no := rfl
def intsOf : List Val → Option (List Int)
  | [] => some []
  | .int i :: r => (intsOf r).map (i :: ·)
  | _ :: _ => Option.none
def insOrd (x : Int) : List Int → List Int
  | [] => [x]
  | y :: r => if x < y then x :: y :: r else y :: insOrd x r
def sortI (xs : List Int) : List Int := xs.mergeSort (fun a b => decide (a ≤ b))
def key1 : Val → Bool
  | .int _ => true
  | .str _ => true
  | .tup xs => xs.all fun x => match x with | .int _ => true | .str _ => true | _ => false
  | _ => false
def dget (k : Val) : List Val → List Val → Option Val
  | a :: r, b :: t => if Val.eqb a k then some b else dget k r t
  | _, _ => Option.none
def dput (k v : Val) : List Val → List Val → List Val × List Val
  | a :: r, b :: t => if Val.eqb a k then (a :: r, v :: t) else ((a :: (dput k v r t).1), (b :: (dput k v r t).2))
  | _, _ => ([k], [v])

def okI (i : Int) : Bool := decide (i.natAbs.log2 < 500000)
def okD (i : Int) : Bool := decide (0 < i) && decide (i.natAbs.log2 < 9000)

def slGet (u : Bool) (l : List Val) : Option (Option Int × List Val) := if u then (match l with | .int i :: r => some (some i, r) | _ => Option.none) else some (Option.none, l)
def slParts (a b c : Bool) (ps : List Val) : Option (Option Int × Option Int × Option Int) := match slGet a ps with
  | Option.none => Option.none
  | some (lo, p1) => match slGet b p1 with
    | Option.none => Option.none
    | some (hi, p2) => match slGet c p2 with
      | some (st, []) => if st = some 0 then Option.none else some (lo, hi, st)
      | _ => Option.none
def slOp (m : Bool) (v : Val) (lo hi st : Option Int) (h : Hp) : R Val := match v with
  | .tup xs => if st.isSome || decide (HT.sIx xs.length 0 lo = 0 ∧ HT.sIx xs.length xs.length hi = xs.length) then .no else .ok (.tup (slice xs lo hi Option.none)) h
  | v => match v.items h with
    | some xs => if (slice xs lo hi st).length ≤ xs.length then newL m (slice xs lo hi st) h else .no
    | Option.none => .no
def prim (base : Nat) : Prim → List Val → Hp → R Val
  | .add _, [.int a, .int b], h => .ok (.int (a + b)) h
  | .add m, [v, w], h => match v, w with
    | .tup a, .tup b => if a.isEmpty || b.isEmpty || decide (100000 < a.length + b.length) then .no else .ok (.tup (a ++ b)) h
    | v, w => match v.items h, w.items h with
      | some a, some b => if a.length + b.length ≤ 100000 then newL m (a ++ b) h else .no
      | _, _ => .no
  | .sub, [.int a, .int b], h => .ok (.int (a - b)) h
  | .mul _, [.int a, .int b], h => if okI a && okI b then .ok (.int (a * b)) h else .no
  | .mul m, [v, .int k], h => match v.items h with
    | some a => if decide (0 ≤ k) && decide (k ≤ 1000) && decide (a.length ≤ 100) then newL m (List.replicate k.toNat a).flatten h else .no
    | Option.none => .no
  | .fdiv, [.int a, .int b], h => if okD b then .ok (.int (a.fdiv b)) h else .no
  | .mod, [.int a, .int b], h => if b = 0 then .no else .ok (.int (a.fmod b)) h
  | .pow, [.int a, .int b], h => if decide (0 ≤ b) && decide (b ≤ 30) && decide (a.natAbs.log2 < 100000) then .ok (.int (a ^ b.toNat)) h else .no
  | .neg, [.int a], h => .ok (.int (-a)) h
  | .not, [v], h => (ofO (v.tru h) h).bind fun b h => .ok (.bool (!b)) h
  | .eq, [a, b], h => (ofO (pyEq h a b) h).bind fun b h => .ok (.bool b) h
  | .ne, [a, b], h => (ofO (pyEq h a b) h).bind fun b h => .ok (.bool (!b)) h
  | .lt, [.int a, .int b], h => .ok (.bool (decide (a < b))) h
  | .le, [.int a, .int b], h => .ok (.bool (decide (a ≤ b))) h
  | .gt, [.int a, .int b], h => .ok (.bool (decide (b < a))) h
  | .ge, [.int a, .int b], h => .ok (.bool (decide (b ≤ a))) h
  | .isN, [v], h => .ok (.bool (match v with | .none => true | _ => false)) h
  | .isnN, [v], h => .ok (.bool (match v with | .none => false | _ => true)) h
  | .inn, [x, y], h => match y.seq h with
    | some xs => (ofO (pyIn h x xs) h).bind fun b h => .ok (.bool b) h
    | Option.none => .no
  | .nin, [x, y], h => match y.seq h with
    | some xs => (ofO (pyIn h x xs) h).bind fun b h => .ok (.bool (!b)) h
    | Option.none => .no
  | .len, [.str s], h => if s.length ≤ 100000 then .ok (.int s.length) h else .no
  | .len, [.dct ks _], h => .ok (.int ks.length) h
  | .len, [v], h => match v.seq h with
    | some xs => .ok (.int xs.length) h
    | Option.none => .no
  | .abs, [.int a], h => .ok (.int (if a < 0 then -a else a)) h
  | .ix, [v, .int i], h => match v.seq h with
    | some xs => (ofO ((place xs.length i).bind fun k => xs[k]?) h)
    | Option.none => .no
  | .list m, [v], h => match v.seq h with
    | some xs => newL m xs h
    | Option.none => .no
  | .tuple, [v], h => match v.seq h with
    | some xs => .ok (.tup xs) h
    | Option.none => .no
  | .int, [.int a], h => .ok (.int a) h
  | .int, [.bool b], h => .ok (.int (if b then 1 else 0)) h
  | .isi ts, [v], h => (ofO (v.kind h) h).bind fun k h => .ok (.bool (ts.any fun t => t.has k)) h
  | .append, [.ref a, v], h => match h.at a with
    | some (.lst xs) => if wok base a v && decide (xs.length < 100000) then .ok .none (h.put a (.lst (xs ++ [v]))) else .no
    | _ => .no
  | .extend, [.ref a, v], h => match h.at a, v.items h with
    | some (.lst xs), some ys => if ys.all (wok base a) && decide (xs.length + ys.length < 100000) && (match v with | .ref b => decide (b ≠ a) | _ => true) then .ok .none (h.put a (.lst (xs ++ ys))) else .no
    | _, _ => .no
  | .popAt, [.ref a, .int i], h => match h.at a with
    | some (.lst xs) => match place xs.length i with
      | some k => match xs[k]? with
        | some v => .ok v (h.put a (.lst (xs.eraseIdx k)))
        | Option.none => .no
      | Option.none => .no
    | _ => .no
  | .index, [v, x], h => match v.items h with
    | some xs => (ofO (pyIndex h x xs) h).bind fun k h => .ok (.int k) h
    | Option.none => .no
  | .setix, [.ref a, .int i, v], h => match h.at a with
    | some (.lst xs) => match place xs.length i with
      | some k => if wok base a v then .ok .none (h.put a (.lst (xs.set k v))) else .no
      | Option.none => .no
    | _ => .no
  | .all, [v], h => match v.items h with
    | some xs => (ofO (bools xs) h).bind fun bs h => .ok (.bool (bs.all id)) h
    | Option.none => .no
  | .any, [v], h => match v.items h with
    | some xs => (ofO (bools xs) h).bind fun bs h => .ok (.bool (bs.any id)) h
    | Option.none => .no
  | .min2, [.int a, .int b], h => .ok (.int (if b < a then b else a)) h
  | .max2, [.int a, .int b], h => .ok (.int (if b > a then b else a)) h
  | .sl m a b c, v :: ps, h => match slParts a b c ps with
    | Option.none => .no
    | some (lo, hi, st) => slOp m v lo hi st h
  | .sorted m, [v], h => match v.items h with
    | some xs => match intsOf xs with
      | some ns => newL m ((sortI ns).map .int) h
      | Option.none => .no
    | Option.none => .no
  | _, _, _ => .no

/-- a test: what follows if the value is true, if it is false -/
def R.test {β : Type} (r : R Val) (f g : Val → Hp → R β) : R β := r.bind fun v h => match v.tru h with
  | some true => f v h
  | some false => g v h
  | Option.none => .no

/-! ### the language -/
mutual
inductive E where
  | bad
  | var (i : Nat)
  | glob (g : Nat)
  | cst (v : Val)
  | prim (p : Prim) (es : Es)
  | meth (p : Prim) (o : E) (es : Es)
  | tup (es : Es)
  | lst (m : Bool) (es : Es)
  | lstS (m : Bool) (es : Es) (st : List Bool)
  | and (a b : E)
  | or (a b : E)
  | ite (c a b : E)
  | chain (p q : Prim) (a b c : E)
  | call (f : Nat) (pm : List Nat) (es : Es)
  | calv (f : E) (es : Es)
  | comp (m : Bool) (elt : E) (os : List Nat) (t : At) (it : It) (c : E)
  | comp2 (m : Bool) (elt : E) (os : List Nat) (t : At) (it : It) (c : E) (t2 : At) (it2 : It) (c2 : E)
  | lam (l : Nat) (caps : List Nat)
  | mk (c : Nat) (es : Es)
  | fld (e : E) (k : Nat)
inductive Es where
  | nil
  | cons (e : E) (es : Es)
inductive It where
  | ev (e : E)
  | rng (es : Es)
  | zip (es : Es)
  | zipS (a : E)
  | enum (a : E)
inductive At where
  | nm (i : Nat)
  | tup (ts : Ats)
  | sub (o i : E)
inductive Ats where
  | nil
  | cons (t : At) (ts : Ats)
end
def Ats.len : Ats → Nat
  | .nil => 0
  | .cons _ r => r.len + 1
mutual
/-- the slots that a target stores to -/
def At.slots : At → List Nat
  | .nm i => [i]
  | .tup ts => ts.slots
  | .sub _ _ => []
def Ats.slots : Ats → List Nat
  | .nil => []
  | .cons t ts => t.slots ++ ts.slots
end
/-- an except clause: its class, what it returns -/
structure Hd where
  cls : Nat
  tag : Txt
  fld : Option Nat
mutual
inductive S where
  | bad
  | expr (e : E)
  | asg (t : At) (e : E)
  | par (ts : Ats) (es : Es)
  | ifs (c : E) (a b : Ss)
  | whil (c : E) (b : Ss)
  | for_ (t : At) (it : It) (b : Ss)
  | ret (e : E)
  | retN
  | raise (c : Nat) (es : Es)
  | try_ (r : Bool) (e : E) (hs : List Hd)
  | pass
  | cont
inductive Ss where
  | nil
  | cons (s : S) (r : Ss)
end

inductive Slot where
  | u
  | v (x : Val)
  | c (a : Nat)
  deriving Inhabited
abbrev Env := List Slot
def Env.get (ρ : Env) (h : Hp) (i : Nat) : Option Val := match ρ[i]? with
  | some (.v x) => some x
  | some (.c a) => match h.at a with | some (.cel (some x)) => some x | _ => Option.none
  | _ => Option.none

structure Cx where
  call : Nat → List Val → Hp → R Val
  calv : Val → List Val → Hp → R Val
  gv : Nat → Option Val
  base : Nat
  w : Nat

/-- the items that are walked, and the lists of the small heap that stand still meanwhile -/
abbrev Walk := List Val × List Nat
def walkOf (h : Hp) (v : Val) : Option Walk := match v with
  | .lst xs => some (xs, [])
  | .tup xs => some (xs, [])
  | .ref a => match h.at a with | some (.lst xs) => some (xs, [a]) | some (.lck xs) => some (xs, []) | _ => Option.none
  | _ => Option.none
def rangeV (a c : Int) (n : Nat) : List Val := (List.range n).map fun (k : Nat) => .int (a + (k : Int) * c)
def rngOp (vs : List Val) (h : Hp) : R Walk := match vs with
  | [.int n] => if n ≤ 100000 ∧ -(2 ^ 62) ≤ n then .ok (rangeV 0 1 n.toNat, []) h else .no
  | [.int a, .int b] => if b - a ≤ 100000 ∧ -(2 ^ 62) ≤ a ∧ a < 2 ^ 62 ∧ -(2 ^ 62) ≤ b ∧ b < 2 ^ 62 then .ok (rangeV a 1 (b - a).toNat, []) h else .no
  | [.int a, .int b, .int c] => if c ≠ 0 ∧ c.natAbs < 1073741824 ∧ PySem.Builtin.Range.small a b c = true ∧ PySem.Builtin.Range.rangeSize a b c = ((PySem.Builtin.Range.rangeSize a b c).toNat : Int) ∧ (PySem.Builtin.Range.rangeSize a b c).toNat ≤ 100000 then .ok (rangeV a c (PySem.Builtin.Range.rangeSize a b c).toNat, []) h else .no
  | _ => .no
def zipV : List Val → List Val → List Val
  | x :: xs, y :: ys => .tup [x, y] :: zipV xs ys
  | _, _ => []
def zipOp (vs : List Val) (h : Hp) : R Walk := match vs with
  | [v, u] => match walkOf h v, walkOf h u with
    | some p, some q => .ok (zipV p.1 q.1, p.2 ++ q.2) h
    | _, _ => .no
  | _ => .no
def enumV (k : Nat) : List Val → List Val
  | [] => []
  | x :: xs => .tup [.int k, x] :: enumV (k + 1) xs
def enumOp (v : Val) (h : Hp) : R Walk := match v.isL h, walkOf h v with
  | true, some p => .ok (enumV 0 p.1, p.2) h
  | _, _ => .no
def heads : List (List Val) → Option (List Val × List (List Val))
  | [] => some ([], [])
  | (x :: r) :: t => (heads t).map fun p => (x :: p.1, r :: p.2)
  | [] :: _ => Option.none
def zipAll : Nat → List (List Val) → List Val
  | 0, _ => []
  | n + 1, l => match heads l with | some (xs, t) => .tup xs :: zipAll n t | Option.none => []
def lockAll (h : Hp) : List Nat → Hp
  | [] => h
  | a :: r => match h.at a with | some (.lst xs) => lockAll (h.put a (.lck xs)) r | _ => lockAll h r
def unlockAll (h : Hp) : List Nat → Hp
  | [] => h
  | a :: r => match h.at a with | some (.lck xs) => unlockAll (h.put a (.lst xs)) r | _ => unlockAll h r
def R.unlock {α : Type} (r : R α) (l : List Nat) : R α := match r with
  | .ok a h => .ok a (unlockAll h l)
  | .err c fs h => .err c fs (unlockAll h l)
  | .no => .no
def bindSlots (ρ : Env) : List Nat → List Val → Env
  | i :: is, v :: vs => bindSlots (ρ.set i (.v v)) is vs
  | _, _ => ρ
/-- a cell for each of these slots -/
def mkCells (ρ : Env) (h : Hp) : List Nat → Env × Hp
  | [] => (ρ, h)
  | i :: is => mkCells (ρ.set i (.c h.length)) (h ++ [some (.cel (match ρ[i]? with | some (.v x) => some x | _ => Option.none))]) is
/-- a block's own names are not bound yet -/
def wipe (ρ : Env) : List Nat → Env
  | [] => ρ
  | i :: is => wipe (ρ.set i .u) is
def mkCells0 (ρ : Env) (h : Hp) : List Nat → Env × Hp
  | [] => (ρ, h)
  | i :: is => mkCells0 (ρ.set i (.c h.length)) (h ++ [some (.cel Option.none)]) is
def loopC (f : Val → Hp → R (Option Val)) : List Val → Hp → R (List Val)
  | [], h => .ok [] h
  | x :: xs, h => (f x h).bind fun y h => (loopC f xs h).bind fun ys h => .ok (match y with | some v => v :: ys | Option.none => ys) h
def loopC2 (f : Val → Hp → R (List Val)) : List Val → Hp → R (List Val)
  | [], h => .ok [] h
  | x :: xs, h => (f x h).bind fun y h => (loopC2 f xs h).bind fun ys h => .ok (y ++ ys) h
def R.calm {α : Type} (r : R α) : R α := match r with
  | .err _ _ _ => .no
  | x => x
def splice (h : Hp) : List Bool → List Val → Option (List Val)
  | true :: bs, v :: vs => match v.seq h, splice h bs vs with | some xs, some r => some (xs ++ r) | _, _ => Option.none
  | false :: bs, v :: vs => (splice h bs vs).map (v :: ·)
  | [], [] => some []
  | _, _ => Option.none

inductive Fl where
  | nx (ρ : Env) | ct (ρ : Env) | rt (v : Val)

mutual
def ev (C : Cx) (ρ : Env) (h : Hp) : E → R Val
  | .bad => .no
  | .var i => ofO (ρ.get h i) h
  | .glob g => ofO (C.gv g) h
  | .cst v => .ok v h
  | .prim p es => (evs C ρ h es).bind fun vs h => prim C.base p vs h
  | .meth p o es => (ev C ρ h o).bind fun v h => if v.isL h then (evs C ρ h es).bind fun vs h => prim C.base p (v :: vs) h else .no
  | .tup es => (evs C ρ h es).bind fun vs h => .ok (.tup vs) h
  | .lst m es => (evs C ρ h es).bind fun vs h => newL m vs h
  | .lstS m es st => (evs C ρ h es).bind fun vs h => match splice h st vs with
    | some xs => newL m xs h
    | Option.none => .no
  | .and a b => (ev C ρ h a).test (fun _ h => ev C ρ h b) fun v h => .ok v h
  | .or a b => (ev C ρ h a).test (fun v h => .ok v h) fun _ h => ev C ρ h b
  | .ite c a b => (ev C ρ h c).test (fun _ h => ev C ρ h a) fun _ h => ev C ρ h b
  | .chain p q a b c => (ev C ρ h a).bind fun x h => (ev C ρ h b).bind fun y h => (prim C.base p [x, y] h).bind fun t h => match t with
    | .bool true => (ev C ρ h c).bind fun z h => prim C.base q [y, z] h
    | .bool false => .ok (.bool false) h
    | _ => .no
  | .call f pm es => (evs C ρ h es).bind fun vs h => C.call f (pm.map fun k => vs.getD k .none) h
  | .calv f es => (ev C ρ h f).bind fun g h => (evs C ρ h es).bind fun vs h => C.calv g vs h
  | .comp m elt os t it c => (evIt C ρ h it).bind fun w h =>
      (((loopC (fun x h => (bindT C (wipe ρ os) h t x).bind fun ρ2 h => (ev C ρ2 h c).test (fun _ h => (ev C ρ2 h elt).bind fun v h => .ok (some v) h) fun _ h => .ok Option.none h) w.1 (lockAll h w.2)).unlock w.2).calm).bind fun ys h => newL m ys h
  | .comp2 m elt os t it c t2 it2 c2 => (evIt C ρ h it).bind fun w h =>
      (((loopC2 (fun x h => (bindT C (wipe ρ os) h t x).bind fun ρ1 h => (ev C ρ1 h c).test (fun _ h =>
          (evIt C ρ1 h it2).bind fun w2 h => (loopC (fun x h => (bindT C (wipe ρ1 t2.slots) h t2 x).bind fun ρ2 h => (ev C ρ2 h c2).test (fun _ h => (ev C ρ2 h elt).bind fun v h => .ok (some v) h) fun _ h => .ok Option.none h) w2.1 (lockAll h w2.2)).unlock w2.2)
        fun _ h => .ok [] h) w.1 (lockAll h w.2)).unlock w.2).calm).bind fun ys h => if ys.length ≤ 100000 then newL m ys h else .no
  | .lam l caps => match caps.mapM (fun i => match ρ[i]? with | some (.c a) => some a | _ => Option.none) with
    | some cs => .ok (.clo l cs) h
    | Option.none => .no
  | .mk c es => (evs C ρ h es).bind fun vs h => .ok (.exc c vs) h
  | .fld e k => (ev C ρ h e).bind fun v h => match v with
    | .exc _ fs => ofO fs[k]? h
    | _ => .no
def evs (C : Cx) (ρ : Env) (h : Hp) : Es → R (List Val)
  | .nil => .ok [] h
  | .cons e es => (ev C ρ h e).bind fun v h => (evs C ρ h es).bind fun vs h => .ok (v :: vs) h
def evIt (C : Cx) (ρ : Env) (h : Hp) : It → R Walk
  | .ev e => (ev C ρ h e).bind fun v h => ofO (walkOf h v) h
  | .rng es => (evs C ρ h es).bind rngOp
  | .zip es => (evs C ρ h es).bind zipOp
  | .zipS a => (ev C ρ h a).bind fun v h => match v with
    | .lst rows => match rows.mapM (fun r => match r with | .lst xs => some xs | .tup xs => some xs | _ => Option.none) with
      | some l => if l.isEmpty then .no else .ok (zipAll ((l.headD []).length) l, []) h
      | Option.none => .no
    | _ => .no
  | .enum a => (ev C ρ h a).bind enumOp
/-- a target takes a value -/
def bindT (C : Cx) (ρ : Env) (h : Hp) : At → Val → R Env
  | .nm i, v => match ρ[i]? with
    | some (.c a) => if C.base ≤ a then .ok ρ (h.put a (.cel (some v))) else .no
    | some _ => .ok (ρ.set i (.v v)) h
    | Option.none => .no
  | .tup ts, v => match v.seq h with
    | some xs => if xs.length = ts.len then bindTs C ρ h ts xs else .no
    | Option.none => .no
  | .sub o i, v => (ev C ρ h o).bind fun x h => (ev C ρ h i).bind fun k h => (prim C.base .setix [x, k, v] h).bind fun _ h => .ok ρ h
def bindTs (C : Cx) (ρ : Env) (h : Hp) : Ats → List Val → R Env
  | .nil, [] => .ok ρ h
  | .cons t ts, x :: xs => (bindT C ρ h t x).bind fun ρ h => bindTs C ρ h ts xs
  | _, _ => .no
end

def loopF (f : Env → Val → Hp → R Fl) : List Val → Env → Hp → R Fl
  | [], ρ, h => .ok (.nx ρ) h
  | x :: xs, ρ, h => (f ρ x h).bind fun r h => match r with
    | .nx ρ => loopF f xs ρ h
    | .ct ρ => loopF f xs ρ h
    | .rt v => .ok (.rt v) h
def loopW (c : Env → Hp → R Val) (f : Env → Hp → R Fl) : Nat → Env → Hp → R Fl
  | 0, _, _ => .no
  | n + 1, ρ, h => (c ρ h).test (fun _ h => (f ρ h).bind fun r h => match r with
      | .nx ρ => loopW c f n ρ h
      | .ct ρ => loopW c f n ρ h
      | .rt v => .ok (.rt v) h) fun _ h => .ok (.nx ρ) h
def catchBy (c : Nat) (fs : List Val) (h : Hp) : List Hd → R Fl
  | [] => .err c fs h
  | d :: r => if d.cls == c || d.cls == 0 then (match d.fld with
      | Option.none => .ok (.rt (.tup [.str d.tag, .none])) h
      | some k => match fs[k]? with | some v => .ok (.rt (.tup [.str d.tag, v])) h | Option.none => .no)
    else catchBy c fs h r

mutual
def ex (C : Cx) (ρ : Env) (h : Hp) : S → R Fl
  | .bad => .no
  | .expr e => (ev C ρ h e).bind fun _ h => .ok (.nx ρ) h
  | .asg t e => (ev C ρ h e).bind fun v h => (bindT C ρ h t v).bind fun ρ h => .ok (.nx ρ) h
  | .par ts es => (evs C ρ h es).bind fun vs h => (bindTs C ρ h ts vs.reverse).bind fun ρ h => .ok (.nx ρ) h
  | .ifs c a b => (ev C ρ h c).test (fun _ h => exs C ρ h a) fun _ h => exs C ρ h b
  | .whil c b => loopW (fun ρ h => ev C ρ h c) (fun ρ h => exs C ρ h b) C.w ρ h
  | .for_ t it b => (evIt C ρ h it).bind fun w h => (loopF (fun ρ x h => (bindT C ρ h t x).bind fun ρ h => exs C ρ h b) w.1 ρ (lockAll h w.2)).unlock w.2
  | .ret e => (ev C ρ h e).bind fun v h => .ok (.rt v) h
  | .retN => .ok (.rt .none) h
  | .raise c es => (evs C ρ h es).bind fun vs h => .err c vs h
  | .try_ r e hs => match ev C ρ h e with
    | .ok v h => .ok (if r then .rt v else .nx ρ) h
    | .err c fs h => catchBy c fs h hs
    | .no => .no
  | .pass => .ok (.nx ρ) h
  | .cont => .ok (.ct ρ) h
def exs (C : Cx) (ρ : Env) (h : Hp) : Ss → R Fl
  | .nil => .ok (.nx ρ) h
  | .cons s r => (ex C ρ h s).bind fun f h => match f with
    | .nx ρ => exs C ρ h r
    | f => .ok f h
end

/-! ### programs -/
/-- a def: how many parameters, slots; the slots that are cells; whether what it returns is frozen and what it made is forgotten -/
structure Df where
  np : Nat
  ns : Nat
  cs : List Nat
  pure : Bool
  body : Ss
/-- a lambda: parameters, slots, its captured slots in order -/
structure Lm where
  np : Nat
  ns : Nat
  caps : List Nat
  body : E
structure Prog where
  defs : Nat → Option Df
  lams : Nat → Option Lm
  gv : Nat → Option Val

def slots0 (ns : Nat) (vs : List Val) : Env := vs.map Slot.v ++ List.replicate (ns - vs.length) Slot.u
def Fl.val : Fl → Val
  | .rt v => v
  | _ => .none
/-- leaving a def -/
def leave (pure : Bool) (n : Nat) (r : R Fl) : R Val := match r with
  | .ok f h =>
    if pure then (match freeze n h f.val with | some w => .ok w (h.take n) | Option.none => .no) else .ok f.val h
  | .err _ _ _ => .no
  | .no => .no
def setCells (ρ : Env) : List Nat → List Nat → Env
  | i :: is, a :: as => setCells (ρ.set i (.c a)) is as
  | _, _ => ρ
mutual
def run (P : Prog) (W : Nat) : Nat → Nat → Nat → List Val → Hp → R Val
  | 0, _, _, _, _ => .no
  | n + 1, base, f, vs, h => match P.defs f with
    | Option.none => .no
    | some d => if vs.length = d.np then
        let b := if d.pure then h.length else base
        let p := mkCells (slots0 d.ns vs) h d.cs
        leave d.pure h.length (exs ⟨run P W n b, runV P W n b, P.gv, b, W⟩ p.1 p.2 d.body)
      else .no
def runV (P : Prog) (W : Nat) : Nat → Nat → Val → List Val → Hp → R Val
  | 0, _, _, _, _ => .no
  | n + 1, base, g, vs, h => match g with
    | .fn f => run P W n base f vs h
    | .clo l cs => match P.lams l with
      | Option.none => .no
      | some d => if vs.length = d.np then ev ⟨run P W n base, runV P W n base, P.gv, base, W⟩ (setCells (slots0 d.ns vs) d.caps cs) h d.body else .no
    | _ => .no
end
end Mp
/-! W1: the small heap beside the model's heap: what stands at an address (Gh), values (RV), lists and cells (Sim), the state (Inv). -/
namespace Mp
open PySem PySem.Spec PyProof.Rows

/-- what stands at an address of the model's heap -/
inductive Gh where
  | lock (o : Obj)
  | pin (o : Obj)
  | lst (us : List Value)
  | cell (u : Option Value)
  | frame (m : PySem.Str → Option Value)
  | tab (ps : Array Value)
  | exn (c : Value) (d : Option Addr)
abbrev GT := Addr → Option Gh
def GT.set (T : GT) (a : Addr) (g : Gh) : GT := fun b => if b = a then some g else T b
theorem GT.set_same {T : GT} {a : Addr} {g : Gh} : T.set a g a = some g := if_pos rfl
theorem GT.set_ne {T : GT} {a b : Addr} {g : Gh} (h : b ≠ a) : T.set a g b = T b := if_neg h
def listO (us : List Value) (n : Nat) : Obj := { cls := .type "list", data := .seq us.toArray n }

def GOk (h : Heap) (a : Addr) : Gh → Prop
  | .lock o => h.get? a = some o
  | .pin o => h.get? a = some o
  | .lst us => us.length ≤ sizeLine ∧ ∃ n, h.get? a = some (listO us n)
  | .cell u => h.IsCell a u
  | .frame m => h.Ns a m
  | .tab ps => h.get? a = some { cls := .none, data := .fields ps }
  | .exn c d => ∃ o vs, h.get? a = some o ∧ o.cls = c ∧ o.dict = d ∧ o.data = .fields vs
theorem GOk.there {h : Heap} {a : Addr} : ∀ {g : Gh}, GOk h a g → ∃ o, h.get? a = some o
  | .lock _, e => ⟨_, e⟩
  | .pin _, e => ⟨_, e⟩
  | .lst _, ⟨_, _, e⟩ => ⟨_, e⟩
  | .cell _, ⟨_, e, _⟩ => ⟨_, e⟩
  | .frame _, ⟨_, _, _, e, _⟩ => ⟨_, e⟩
  | .tab _, e => ⟨_, e⟩
  | .exn _ _, ⟨_, _, e, _⟩ => ⟨_, e⟩
theorem GOk.lt {h : Heap} {a : Addr} {g : Gh} (x : GOk h a g) : a < h.objs.size := let ⟨_, e⟩ := x.there; Heap.lt_size e
theorem GOk.keep {h h' : Heap} {a : Addr} (k : ∀ o, h.get? a = some o → h'.get? a = some o) : ∀ {g : Gh}, GOk h a g → GOk h' a g
  | .lock _, e => k _ e
  | .pin _, e => k _ e
  | .lst _, ⟨z, n, e⟩ => ⟨z, n, k _ e⟩
  | .cell _, ⟨_, e, d⟩ => ⟨_, k _ e, d⟩
  | .frame _, ⟨_, _, _, e, d⟩ => ⟨_, _, _, k _ e, d⟩
  | .tab _, e => k _ e
  | .exn _ _, ⟨_, _, e, d⟩ => ⟨_, _, k _ e, d⟩

/-- what is fixed through the law -/
structure Glo where
  prog : Program
  w : World
  K : PySem.W.Frag
  mg : PySem.Str → Option Value
  os : OsState
  base : Heap
  /-- the defs' code objects, their tables, the names of what is made in them -/
  tabs : List (Addr × Addr × PySem.Str)
  /-- defs, classes of errors, lambdas by number -/
  fnA : Nat → Option Addr
  exA : Nat → Option Addr
  exF : Nat → List PySem.Str
  lamX : Nat → Option (Arguments × Expr × Scope × PySem.Str × List PySem.Str)
structure Glo.Ok (G : Glo) : Prop where
  kin : G.K.In G.base
  glob : G.base.Ns mainGlobals G.mg
  blt : ∃ mb, G.base.Ns builtinsNs mb ∧ ∀ x : PySem.Str, x ≠ "__name__" → mb x = bootBuiltins x
  nolimit : G.base.NoLimit

def TabOk (T : GT) (P : Addr) (q : PySem.Str) : Prop := ∃ ps : Array Value, T P = some (.tab ps) ∧ TriplesOk ps.toList ∧
  ∀ (pos : Pos) (cv : Value), codeAmong pos ps.toList = some cv → ∃ c o vs t, cv = .ref c ∧ T c = some (.lock o) ∧ o.data = .fields vs ∧ vs[1]? = some (.str q t)

structure Inv (G : Glo) (T : GT) (stk : List PySem.Env) (s : Shared) : Prop where
  g : G.Ok
  os : s.os = G.os
  bare : AllBare s.gens
  base : ∀ b o, G.base.get? b = some o → T b = some (.lock o)
  ok : ∀ a g, T a = some g → GOk s.heap a g
  fr : ∀ e ∈ stk, e.scope.kind = .function ∧ ∃ L m, e.frame = some L ∧ T L = some (.frame m)
  tabs : ∀ t ∈ G.tabs, TabOk T t.2.1 t.2.2

/-- what later steps leave; O: the frame and the cells of the code that runs -/
structure Ext (O : Addr → Prop) (T T' : GT) : Prop where
  lock : ∀ a o, T a = some (.lock o) → T' a = some (.lock o)
  pin : ∀ a o, T a = some (.pin o) → T' a = some (.pin o)
  exn : ∀ a c d, T a = some (.exn c d) → T' a = some (.exn c d)
  frame : ∀ a m, ¬ O a → T a = some (.frame m) → T' a = some (.frame m)
  cell : ∀ a u, ¬ O a → T a = some (.cell u) → T' a = some (.cell u)
  frame' : ∀ a m, T a = some (.frame m) → ∃ m', T' a = some (.frame m')
  cell' : ∀ a u, T a = some (.cell u) → ∃ u', T' a = some (.cell u')
  sm : ∀ a, T a ≠ none → T' a ≠ none
abbrev NoO : Addr → Prop := fun _ => False
theorem Ext.refl {O : Addr → Prop} (T : GT) : Ext O T T := ⟨fun _ _ h => h, fun _ _ h => h, fun _ _ _ h => h, fun _ _ _ h => h, fun _ _ _ h => h, fun _ m h => ⟨m, h⟩, fun _ m h => ⟨m, h⟩, fun _ h => h⟩
theorem Ext.trans {O : Addr → Prop} {T1 T2 T3 : GT} (a : Ext O T1 T2) (b : Ext O T2 T3) : Ext O T1 T3 :=
  ⟨fun x o h => b.lock x o (a.lock x o h), fun x o h => b.pin x o (a.pin x o h), fun x c d h => b.exn x c d (a.exn x c d h), fun x o n h => b.frame x o n (a.frame x o n h), fun x o n h => b.cell x o n (a.cell x o n h),
   fun x m h => let ⟨m', h'⟩ := a.frame' x m h; b.frame' x m' h', fun x m h => let ⟨m', h'⟩ := a.cell' x m h; b.cell' x m' h', fun x h => b.sm x (a.sm x h)⟩
theorem Ext.imp {O O' : Addr → Prop} {T1 T2 : GT} (a : Ext O T1 T2) (h : ∀ x, O x → O' x) : Ext O' T1 T2 :=
  ⟨a.lock, a.pin, a.exn, fun x o n => a.frame x o fun z => n (h x z), fun x o n => a.cell x o fun z => n (h x z), a.frame', a.cell', a.sm⟩
theorem set_some {T : GT} {a : Addr} {g : Gh} (b : Addr) (h : T b ≠ none) : T.set a g b ≠ none := by
  by_cases z : b = a
  · subst z; rw [GT.set_same]; exact fun q => by cases q
  · rw [GT.set_ne z]; exact h
/-- what is known at an address may change: nothing, a list, a table -/
def Loose (g : Option Gh) : Prop := match g with
  | none => True
  | some (.lst _) => True
  | some (.tab _) => True
  | _ => False
theorem Ext.set {O : Addr → Prop} {T : GT} {a : Addr} {g : Gh} (h : Loose (T a)) : Ext O T (T.set a g) := by
  have ne : ∀ b g0, T b = some g0 → ¬ Loose (some g0) → b ≠ a := fun b g0 e n z => by subst z; rw [e] at h; exact n h
  have go : ∀ b g0, T b = some g0 → ¬ Loose (some g0) → T.set a g b = some g0 := fun b g0 e n => by rw [GT.set_ne (ne b g0 e n)]; exact e
  exact ⟨fun b o e => go b _ e id, fun b o e => go b _ e id, fun b c d e => go b _ e id, fun b m _ e => go b _ e id, fun b u _ e => go b _ e id, fun b m e => ⟨m, go b _ e id⟩, fun b u e => ⟨u, go b _ e id⟩, set_some⟩
theorem Ext.new {O : Addr → Prop} {T : GT} {a : Addr} {g : Gh} (h : T a = none) : Ext O T (T.set a g) := Ext.set (by rw [h]; trivial)
theorem Ext.setFrame {O : Addr → Prop} {T : GT} {a : Addr} {m m' : PySem.Str → Option Value} (hO : O a) (h : T a = some (.frame m)) : Ext O T (T.set a (.frame m')) := by
  have ne : ∀ b g0, T b = some g0 → g0 ≠ .frame m → b ≠ a := fun b g0 e n z => by subst z; rw [e] at h; exact n (Option.some.inj h)
  have go : ∀ b g0, T b = some g0 → g0 ≠ .frame m → T.set a (.frame m') b = some g0 := fun b g0 e n => by rw [GT.set_ne (ne b g0 e n)]; exact e
  refine ⟨fun b o e => go b _ e (fun z => by cases z), fun b o e => go b _ e (fun z => by cases z), fun b c d e => go b _ e (fun z => by cases z), fun b m0 n e => ?_, fun b u _ e => go b _ e (fun z => by cases z), fun b m0 e => ?_, fun b u e => ⟨u, go b _ e (fun z => by cases z)⟩, set_some⟩
  · rw [GT.set_ne (fun z => n (by rw [z]; exact hO))]; exact e
  · by_cases z : b = a
    · subst z; exact ⟨m', GT.set_same⟩
    · exact ⟨m0, by rw [GT.set_ne z]; exact e⟩
theorem Ext.setCell {O : Addr → Prop} {T : GT} {a : Addr} {m m' : Option Value} (hO : O a) (h : T a = some (.cell m)) : Ext O T (T.set a (.cell m')) := by
  have ne : ∀ b g0, T b = some g0 → g0 ≠ .cell m → b ≠ a := fun b g0 e n z => by subst z; rw [e] at h; exact n (Option.some.inj h)
  have go : ∀ b g0, T b = some g0 → g0 ≠ .cell m → T.set a (.cell m') b = some g0 := fun b g0 e n => by rw [GT.set_ne (ne b g0 e n)]; exact e
  refine ⟨fun b o e => go b _ e (fun z => by cases z), fun b o e => go b _ e (fun z => by cases z), fun b c d e => go b _ e (fun z => by cases z), fun b u _ e => go b _ e (fun z => by cases z), fun b m0 n e => ?_, fun b u e => ⟨u, go b _ e (fun z => by cases z)⟩, fun b m0 e => ?_, set_some⟩
  · rw [GT.set_ne (fun z => n (by rw [z]; exact hO))]; exact e
  · by_cases z : b = a
    · subst z; exact ⟨m', GT.set_same⟩
    · exact ⟨m0, by rw [GT.set_ne z]; exact e⟩

/-! ### values -/
mutual
def RV (G : Glo) (T : GT) (φ : List Addr) : Val → Value → Prop
  | .none, u => u = .none
  | .bool b, u => u = .bool b
  | .int i, u => ∃ t, u = .int i t
  | .str x, u => ∃ t, u = .str x t
  | .tup xs, u => ∃ a o us n, u = .ref a ∧ T a = some (.lock o) ∧ o.cls = .type "tuple" ∧ o.data = .seq us.toArray n ∧ us.length ≤ sizeLine ∧ RVs G T φ xs us
  | .lst xs, u => ∃ a us n, u = .ref a ∧ T a = some (.lock (listO us n)) ∧ us.length ≤ sizeLine ∧ RVs G T φ xs us
  | .dct _ _, _ => False
  | .ref i, u => ∃ a, φ[i]? = some a ∧ u = .ref a
  | .fn f, u => ∃ a, G.fnA f = some a ∧ u = .ref a
  | .clo l cs, u => ∃ f o ps e sc q ns cl pm cdv ctv, u = .ref f ∧ T f = some (.lock o) ∧ G.lamX l = some (ps, e, sc, q, ns) ∧ o.data = .func (PySem.W.kla_fn "<lambda>" q ps e sc cl pm cdv ctv) ∧
      (∃ c oc vs t, cdv = .ref c ∧ T c = some (.lock oc) ∧ oc.data = .fields vs ∧ vs[1]? = some (.str q t)) ∧ ns.length = cs.length ∧
      (∀ (k : Nat) (n : PySem.Str) (a : Nat), ns[k]? = some n → cs[k]? = some a → ∃ x, φ[a]? = some x ∧ cl.lookup n = some x) ∧ (∀ n x, cl.lookup n = some x → n ∈ ns) ∧ ns.Nodup
  | .exc c fs, u => ∃ a C d o us, u = .ref a ∧ G.exA c = some C ∧ T a = some (.exn (.ref C) (some d)) ∧ T d = some (.lock o) ∧ RVs G T φ fs us ∧ us.length = (G.exF c).length ∧
      (∃ h : Heap, h.get? d = some o ∧ h.Ns1 d fun y => ((G.exF c).zip us).lookup y)
def RVs (G : Glo) (T : GT) (φ : List Addr) : List Val → List Value → Prop
  | [], us => us = []
  | x :: xs, us => ∃ u r, us = u :: r ∧ RV G T φ x u ∧ RVs G T φ xs r
end
theorem pref_at {α : Type} {φ φ' : List α} (p : φ <+: φ') {i : Nat} {a : α} (h : φ[i]? = some a) : φ'[i]? = some a := by
  obtain ⟨t, rfl⟩ := p
  rw [List.getElem?_append_left (List.getElem?_eq_some_iff.mp h).1]
  exact h
/-- what values lean on -/
structure Keep (T T' : GT) : Prop where
  lock : ∀ a o, T a = some (.lock o) → T' a = some (.lock o)
  exn : ∀ a c d, T a = some (.exn c d) → T' a = some (.exn c d)
theorem Keep.trans {T1 T2 T3 : GT} (a : Keep T1 T2) (b : Keep T2 T3) : Keep T1 T3 := ⟨fun x o e => b.lock x o (a.lock x o e), fun x c d e => b.exn x c d (a.exn x c d e)⟩
theorem Ext.kp {O : Addr → Prop} {T T' : GT} (e : Ext O T T') : Keep T T' := ⟨e.lock, e.exn⟩
mutual
theorem RV.kept {G : Glo} {T T' : GT} {φ φ' : List Addr} (e : Keep T T') (p : φ <+: φ') : ∀ (v : Val) (u : Value), RV G T φ v u → RV G T' φ' v u
  | .none, _, h => by simpa [RV] using h
  | .bool _, _, h => by simpa [RV] using h
  | .int _, _, h => by simpa [RV] using h
  | .str _, _, h => by simpa [RV] using h
  | .tup xs, u, h => by
    simp only [RV] at h ⊢
    obtain ⟨a, o, us, n, h1, h2, h3, h4, h5, h6⟩ := h
    exact ⟨a, o, us, n, h1, e.lock _ _ h2, h3, h4, h5, RVs.kept e p xs us h6⟩
  | .lst xs, u, h => by
    simp only [RV] at h ⊢
    obtain ⟨a, us, n, h1, h2, h3, h4⟩ := h
    exact ⟨a, us, n, h1, e.lock _ _ h2, h3, RVs.kept e p xs us h4⟩
  | .dct _ _, _, h => by simp [RV] at h
  | .ref i, u, h => by
    simp only [RV] at h ⊢
    obtain ⟨a, h1, h2⟩ := h
    exact ⟨a, pref_at p h1, h2⟩
  | .fn _, _, h => by simpa [RV] using h
  | .clo l cs, u, h => by
    simp only [RV] at h ⊢
    obtain ⟨f, o, ps, x, sc, q, ns, cl, pm, cdv, ctv, h1, h2, h3, h4, ⟨c, oc, vs, t, h5, h6, h7⟩, h8, h9, h10, h11⟩ := h
    refine ⟨f, o, ps, x, sc, q, ns, cl, pm, cdv, ctv, h1, e.lock _ _ h2, h3, h4, ⟨c, oc, vs, t, h5, e.lock _ _ h6, h7⟩, h8, fun k n a h12 h13 => ?_, h10, h11⟩
    obtain ⟨y, h14, h15⟩ := h9 k n a h12 h13
    exact ⟨y, pref_at p h14, h15⟩
  | .exc c fs, u, h => by
    simp only [RV] at h ⊢
    obtain ⟨a, C, d, o, us, h1, h2, h3, h4, h5, h6⟩ := h
    exact ⟨a, C, d, o, us, h1, h2, e.exn _ _ _ h3, e.lock _ _ h4, RVs.kept e p fs us h5, h6⟩
theorem RVs.kept {G : Glo} {T T' : GT} {φ φ' : List Addr} (e : Keep T T') (p : φ <+: φ') : ∀ (vs : List Val) (us : List Value), RVs G T φ vs us → RVs G T' φ' vs us
  | [], _, h => by simpa [RVs] using h
  | x :: xs, us, h => by
    simp only [RVs] at h ⊢
    obtain ⟨u, r, h1, h2, h3⟩ := h
    exact ⟨u, r, h1, RV.kept e p x u h2, RVs.kept e p xs r h3⟩
end
theorem RV.mono {G : Glo} {T T' : GT} {φ φ' : List Addr} {O : Addr → Prop} (e : Ext O T T') (p : φ <+: φ') (v : Val) (u : Value) (h : RV G T φ v u) : RV G T' φ' v u := RV.kept e.kp p v u h
theorem RVs.mono {G : Glo} {T T' : GT} {φ φ' : List Addr} {O : Addr → Prop} (e : Ext O T T') (p : φ <+: φ') (vs : List Val) (us : List Value) (h : RVs G T φ vs us) : RVs G T' φ' vs us := RVs.kept e.kp p vs us h
theorem RVs.length {G : Glo} {T : GT} {φ : List Addr} : ∀ {vs : List Val} {us : List Value}, RVs G T φ vs us → vs.length = us.length
  | [], us, h => by simp only [RVs] at h; subst h; rfl
  | _ :: xs, us, h => by
    simp only [RVs] at h
    obtain ⟨u, r, rfl, _, h3⟩ := h
    simp [RVs.length h3]
theorem RVs.at {G : Glo} {T : GT} {φ : List Addr} : ∀ {vs : List Val} {us : List Value} {i : Nat} {v : Val}, RVs G T φ vs us → vs[i]? = some v → ∃ u, us[i]? = some u ∧ RV G T φ v u
  | [], _, _, _, _, e => by simp at e
  | x :: xs, us, 0, v, h, e => by
    simp only [RVs] at h
    obtain ⟨u, r, rfl, h2, _⟩ := h
    simp at e; subst e
    exact ⟨u, rfl, h2⟩
  | x :: xs, us, i + 1, v, h, e => by
    simp only [RVs] at h
    obtain ⟨u, r, rfl, _, h3⟩ := h
    exact RVs.at (i := i) h3 (by simpa using e)
theorem RVs.nil {G : Glo} {T : GT} {φ : List Addr} : RVs G T φ [] [] := by simp [RVs]
theorem RVs.cons {G : Glo} {T : GT} {φ : List Addr} {v : Val} {u : Value} {vs us} (h : RV G T φ v u) (t : RVs G T φ vs us) : RVs G T φ (v :: vs) (u :: us) := by
  simp only [RVs]; exact ⟨u, us, rfl, h, t⟩
theorem RVs.append {G : Glo} {T : GT} {φ : List Addr} : ∀ {vs ws : List Val} {us zs : List Value}, RVs G T φ vs us → RVs G T φ ws zs → RVs G T φ (vs ++ ws) (us ++ zs)
  | [], _, _, _, h, k => by simp only [RVs] at h; subst h; exact k
  | _ :: _, _, _, _, h, k => by
    simp only [RVs] at h
    obtain ⟨u, r, rfl, h2, h3⟩ := h
    exact RVs.cons h2 (RVs.append h3 k)

/-! ### the small heap -/
def RO (G : Glo) (T : GT) (φ : List Addr) (a : Addr) : Ob → Prop
  | .lst xs => ∃ us, T a = some (.lst us) ∧ RVs G T φ xs us
  | .lck xs => ∃ us n, T a = some (.pin (listO us n)) ∧ us.length ≤ sizeLine ∧ RVs G T φ xs us
  | .dct _ _ => False
  | .cel none => T a = some (.cell none)
  | .cel (some v) => ∃ u, T a = some (.cell (some u)) ∧ RV G T φ v u
theorem RO.kept {G : Glo} {T T' : GT} {φ φ' : List Addr} {a : Addr} (e : Keep T T') (p : φ <+: φ') (ha : T' a = T a) : ∀ {o : Ob}, RO G T φ a o → RO G T' φ' a o
  | .lst xs, ⟨us, h1, h2⟩ => ⟨us, ha.trans h1, RVs.kept e p _ _ h2⟩
  | .lck xs, ⟨us, n, h1, z, h2⟩ => ⟨us, n, ha.trans h1, z, RVs.kept e p _ _ h2⟩
  | .dct _ _, h => h.elim
  | .cel none, h => ha.trans h
  | .cel (some v), ⟨u, h1, h2⟩ => ⟨u, ha.trans h1, RV.kept e p _ _ h2⟩
theorem RO.mono {G : Glo} {O : Addr → Prop} {T T' : GT} {φ φ' : List Addr} {a : Addr} (e : Ext O T T') (p : φ <+: φ') (ha : T' a = T a) : ∀ {o : Ob}, RO G T φ a o → RO G T' φ' a o
  | .lst xs, ⟨us, h1, h2⟩ => ⟨us, ha.trans h1, RVs.mono e p _ _ h2⟩
  | .lck xs, ⟨us, n, h1, z, h2⟩ => ⟨us, n, ha.trans h1, z, RVs.mono e p _ _ h2⟩
  | .dct _ _, h => h.elim
  | .cel none, h => ha.trans h
  | .cel (some v), ⟨u, h1, h2⟩ => ⟨u, ha.trans h1, RV.mono e p _ _ h2⟩
theorem RO.nf {G : Glo} {T : GT} {φ : List Addr} {a : Addr} : ∀ {o : Ob}, RO G T φ a o → ∀ m, T a ≠ some (.frame m)
  | .lst xs, ⟨us, h1, h2⟩, m, z => by rw [h1] at z; cases z
  | .lck xs, ⟨us, n, h1, _⟩, m, z => by rw [h1] at z; cases z
  | .dct _ _, h, _, _ => h.elim
  | .cel none, h, m, z => by rw [show T a = _ from h] at z; cases z
  | .cel (some v), ⟨u, h1, h2⟩, m, z => by rw [h1] at z; cases z
/-- bs: the small heap's lengths at the entries of the defs that forget what they made -/
structure Sim (G : Glo) (T : GT) (φ : List Addr) (bs : List Nat) (h : Hp) : Prop where
  len : φ.length = h.length
  nd : φ.Nodup
  tr : ∀ a ∈ φ, T a ≠ none
  nf : ∀ a ∈ φ, ∀ m, T a ≠ some (.frame m)
  bl : ∀ b ∈ bs, b ≤ h.length
  ob : ∀ i a o, φ[i]? = some a → h.at i = some o → RO G T φ a o
  low : ∀ b ∈ bs, ∀ i a o, i < b → φ[i]? = some a → h.at i = some o → RO G T (φ.take b) a o
theorem Hp.at_lt {h : Hp} {i : Nat} {o : Ob} (e : h.at i = some o) : i < h.length := by
  unfold Hp.at at e
  cases q : h[i]? with
  | none => rw [q] at e; cases e
  | some x => exact (List.getElem?_eq_some_iff.mp q).1
theorem Sim.adr {G : Glo} {T : GT} {φ : List Addr} {bs : List Nat} {h : Hp} (S : Sim G T φ bs h) {i : Nat} (hi : i < h.length) : ∃ a, φ[i]? = some a := by
  rw [← S.len] at hi
  exact ⟨φ[i], List.getElem?_eq_getElem hi⟩
theorem Sim.kept {G : Glo} {T T' : GT} {φ : List Addr} {bs : List Nat} {h : Hp} (S : Sim G T φ bs h) (e : Keep T T') (ha : ∀ a ∈ φ, T' a = T a) : Sim G T' φ bs h :=
  ⟨S.len, S.nd, fun a m => by rw [ha a m]; exact S.tr a m, fun a m => by rw [ha a m]; exact S.nf a m, S.bl, fun i a o h1 h2 => (S.ob i a o h1 h2).kept e (List.prefix_refl _) (ha a (List.mem_of_getElem? h1)),
   fun b hb i a o hi h1 h2 => (S.low b hb i a o hi h1 h2).kept e (List.prefix_refl _) (ha a (List.mem_of_getElem? h1))⟩
/-- the ghosts of the small heap stand -/
theorem Sim.mono {G : Glo} {O : Addr → Prop} {T T' : GT} {φ : List Addr} {bs : List Nat} {h : Hp} (S : Sim G T φ bs h) (e : Ext O T T') (ha : ∀ a ∈ φ, T' a = T a) : Sim G T' φ bs h :=
  ⟨S.len, S.nd, fun a m => by rw [ha a m]; exact S.tr a m, fun a m => by rw [ha a m]; exact S.nf a m, S.bl, fun i a o h1 h2 => (S.ob i a o h1 h2).mono e (List.prefix_refl _) (ha a (List.mem_of_getElem? h1)),
   fun b hb i a o hi h1 h2 => (S.low b hb i a o hi h1 h2).mono e (List.prefix_refl _) (ha a (List.mem_of_getElem? h1))⟩
theorem nodup_ix {α : Type} {l : List α} (n : l.Nodup) {i j : Nat} {a : α} (h1 : l[i]? = some a) (h2 : l[j]? = some a) : i = j := by
  obtain ⟨k1, e1⟩ := List.getElem?_eq_some_iff.mp h1
  obtain ⟨k2, e2⟩ := List.getElem?_eq_some_iff.mp h2
  exact (List.getElem_inj n).mp (e1.trans e2.symm)
theorem Hp.at_append {h : Hp} {i : Nat} {o : Option Ob} : Hp.at (h ++ [o]) i = if i < h.length then h.at i else if i = h.length then o else none := by
  unfold Hp.at
  by_cases h1 : i < h.length
  · rw [if_pos h1, List.getElem?_append_left h1]
  · rw [if_neg h1, List.getElem?_append_right (by omega)]
    by_cases h2 : i = h.length
    · subst h2; simp
    · rw [if_neg h2]
      have : i - h.length ≠ 0 := by omega
      obtain ⟨k, hk⟩ := Nat.exists_eq_succ_of_ne_zero this
      rw [hk]; simp
/-- a new object of the small heap -/
theorem Sim.push {G : Glo} {O : Addr → Prop} {T : GT} {φ : List Addr} {bs : List Nat} {h : Hp} {a : Addr} {g : Gh} {o : Ob} (S : Sim G T φ bs h) (ha : T a = none) (hr : RO G (T.set a g) (φ ++ [a]) a o) : Sim G (T.set a g) (φ ++ [a]) bs (h ++ [some o]) := by
  have na : a ∉ φ := fun m => S.tr a m ha
  have E : Ext O T (T.set a g) := .new ha
  have ne : ∀ b ∈ φ, T.set a g b = T b := fun b m => GT.set_ne fun z => na (z ▸ m)
  refine ⟨by simp [S.len], ?_, fun b m => ?_, fun b m => ?_, fun b m => by have := S.bl b m; simp; omega, fun i b u h1 h2 => ?_, fun b hb i c u hi h1 h2 => ?_⟩
  · refine List.nodup_append.mpr ⟨S.nd, by simp, fun x hx y hy z => ?_⟩
    have : y = a := by simpa using hy
    subst this; subst z; exact na hx
  · rcases List.mem_append.mp m with m | m
    · rw [ne b m]; exact S.tr b m
    · have : b = a := by simpa using m
      subst this; rw [GT.set_same]; exact fun q => by cases q
  · rcases List.mem_append.mp m with m | m
    · rw [ne b m]; exact S.nf b m
    · have : b = a := by simpa using m
      subst this; exact hr.nf
  · rw [Hp.at_append] at h2
    by_cases hi : i < h.length
    · rw [if_pos hi] at h2
      rw [List.getElem?_append_left (by rw [S.len]; exact hi)] at h1
      exact (S.ob i b u h1 h2).mono E (List.prefix_append _ _) (ne b (List.mem_of_getElem? h1))
    · rw [if_neg hi] at h2
      by_cases hj : i = h.length
      · rw [if_pos hj] at h2
        rw [List.getElem?_append_right (by rw [S.len]; omega), S.len, hj] at h1
        simp at h1
        subst h1; cases h2; exact hr
      · rw [if_neg hj] at h2; cases h2
  · have hb2 := S.bl b hb
    have hi2 : i < h.length := by omega
    rw [Hp.at_append, if_pos hi2] at h2
    rw [List.getElem?_append_left (by rw [S.len]; exact hi2)] at h1
    have e : (φ ++ [a]).take b = φ.take b := by rw [List.take_append_of_le_length (by rw [S.len]; omega)]
    rw [e]
    exact (S.low b hb i c u hi h1 h2).mono E (List.prefix_refl _) (ne c (List.mem_of_getElem? h1))
theorem Hp.at_put {h : Hp} {i j : Nat} {o : Ob} (hi : i < h.length) : (h.put i o).at j = if j = i then some o else h.at j := by
  unfold Hp.put Hp.at
  by_cases e : j = i
  · subst e; rw [if_pos rfl, List.getElem?_set_self hi]; rfl
  · rw [if_neg e, List.getElem?_set_ne (Ne.symm e)]
theorem Hp.len_put {h : Hp} {i : Nat} {o : Ob} : (h.put i o).length = h.length := by unfold Hp.put; simp
mutual
theorem RV.low {G : Glo} {T : GT} {φ : List Addr} {n : Nat} : ∀ (v : Val) (u : Value), v.low n = true → RV G T φ v u → RV G T (φ.take n) v u
  | .none, _, _, h => by simpa [RV] using h
  | .bool _, _, _, h => by simpa [RV] using h
  | .int _, _, _, h => by simpa [RV] using h
  | .str _, _, _, h => by simpa [RV] using h
  | .tup xs, u, l, h => by
    simp only [RV] at h ⊢
    obtain ⟨a, o, us, n, h1, h2, h3, h4, h5, h6⟩ := h
    exact ⟨a, o, us, n, h1, h2, h3, h4, h5, RVs.low xs us (by simpa [Val.low] using l) h6⟩
  | .lst xs, u, l, h => by
    simp only [RV] at h ⊢
    obtain ⟨a, us, n, h1, h2, h3, h4⟩ := h
    exact ⟨a, us, n, h1, h2, h3, RVs.low xs us (by simpa [Val.low] using l) h4⟩
  | .dct _ _, _, _, h => by simp [RV] at h
  | .ref i, u, l, h => by
    simp only [RV] at h ⊢
    obtain ⟨a, h1, h2⟩ := h
    have : i < n := by simpa [Val.low] using l
    exact ⟨a, by rw [List.getElem?_take_of_lt this]; exact h1, h2⟩
  | .fn _, _, _, h => by simpa [RV] using h
  | .clo l cs, u, lw, h => by
    simp only [RV] at h ⊢
    obtain ⟨f, o, ps, x, sc, q, ns, cl, pm, cdv, ctv, h1, h2, h3, h4, h5, h8, h9, h10⟩ := h
    refine ⟨f, o, ps, x, sc, q, ns, cl, pm, cdv, ctv, h1, h2, h3, h4, h5, h8, fun k z a h12 h13 => ?_, h10⟩
    obtain ⟨y, h14, h15⟩ := h9 k z a h12 h13
    have : cs.all (fun a => decide (a < n)) = true := by simpa only [Val.low] using lw
    have := of_decide_eq_true (List.all_eq_true.mp this a (List.mem_of_getElem? h13))
    exact ⟨y, by rw [List.getElem?_take_of_lt this]; exact h14, h15⟩
  | .exc c fs, u, l, h => by
    simp only [RV] at h ⊢
    obtain ⟨a, C, d, o, us, h1, h2, h3, h4, h5, h6⟩ := h
    exact ⟨a, C, d, o, us, h1, h2, h3, h4, RVs.low fs us (by simpa [Val.low] using l) h5, h6⟩
theorem RVs.low {G : Glo} {T : GT} {φ : List Addr} {n : Nat} : ∀ (vs : List Val) (us : List Value), Val.lowL n vs = true → RVs G T φ vs us → RVs G T (φ.take n) vs us
  | [], _, _, h => by simpa [RVs] using h
  | x :: xs, us, l, h => by
    simp only [RVs] at h ⊢
    obtain ⟨u, r, h1, h2, h3⟩ := h
    have l2 : x.low n = true ∧ Val.lowL n xs = true := by simpa [Val.lowL] using l
    exact ⟨u, r, h1, RV.low x u l2.1 h2, RVs.low xs r l2.2 h3⟩
end
theorem lowL_of {n : Nat} : ∀ {vs : List Val}, (∀ v ∈ vs, v.low n = true) → Val.lowL n vs = true
  | [], _ => rfl
  | x :: xs, h => by simp [Val.lowL, h x (by simp), lowL_of (vs := xs) fun v hv => h v (by simp [hv])]
/-- an object of the small heap is written -/
theorem Sim.writeK {G : Glo} {T T' : GT} {φ : List Addr} {bs : List Nat} {h : Hp} {i : Nat} {a : Addr} {o : Ob} (S : Sim G T φ bs h) (hi : φ[i]? = some a) (E : Keep T T') (ho : ∀ b, b ≠ a → T' b = T b) (hn : T' a ≠ none)
    (hr : RO G T' φ a o) (hl : ∀ b ∈ bs, i < b → RO G T' (φ.take b) a o) : Sim G T' φ bs (h.put i o) := by
  have hi' : i < h.length := by rw [← S.len]; exact (List.getElem?_eq_some_iff.mp hi).1
  have ne : ∀ j b, φ[j]? = some b → j ≠ i → T' b = T b := fun j b e n => ho b fun z => n (nodup_ix S.nd e (z ▸ hi))
  refine ⟨by rw [Hp.len_put]; exact S.len, S.nd, fun b m => ?_, fun b m => ?_, fun b m => by rw [Hp.len_put]; exact S.bl b m, fun j b u h1 h2 => ?_, fun b hb j c u hj h1 h2 => ?_⟩
  · by_cases z : b = a
    · subst z; exact hn
    · rw [ho b z]; exact S.tr b m
  · by_cases z : b = a
    · subst z; exact hr.nf
    · rw [ho b z]; exact S.nf b m
  · rw [Hp.at_put hi'] at h2
    by_cases z : j = i
    · subst z
      rw [if_pos rfl] at h2; cases h2
      rw [hi] at h1; cases h1; exact hr
    · rw [if_neg z] at h2
      exact (S.ob j b u h1 h2).kept E (List.prefix_refl _) (ne j b h1 z)
  · rw [Hp.at_put hi'] at h2
    by_cases z : j = i
    · subst z
      rw [if_pos rfl] at h2; cases h2
      rw [hi] at h1; cases h1; exact hl b hb hj
    · rw [if_neg z] at h2
      exact (S.low b hb j c u hj h1 h2).kept E (List.prefix_refl _) (ne j c h1 z)

theorem Sim.write {G : Glo} {O : Addr → Prop} {T T' : GT} {φ : List Addr} {bs : List Nat} {h : Hp} {i : Nat} {a : Addr} {o : Ob} (S : Sim G T φ bs h) (hi : φ[i]? = some a) (E : Ext O T T') (ho : ∀ b, b ≠ a → T' b = T b) (hn : T' a ≠ none)
    (hr : RO G T' φ a o) (hl : ∀ b ∈ bs, i < b → RO G T' (φ.take b) a o) : Sim G T' φ bs (h.put i o) := S.writeK hi E.kp ho hn hr hl

/-! ### the state's steps -/
theorem TabOk.ext {O : Addr → Prop} {T T' : GT} {P : Addr} {q : PySem.Str} (t : TabOk T P q) (E : Ext O T T') (h : T' P = T P) : TabOk T' P q := by
  obtain ⟨ps, h1, h2, h3⟩ := t
  refine ⟨ps, h.trans h1, h2, fun pos cv e => ?_⟩
  obtain ⟨c, o, vs, t, a1, a2, a3⟩ := h3 pos cv e
  exact ⟨c, o, vs, t, a1, E.lock _ _ a2, a3⟩
section
variable {G : Glo} {T T' : GT} {stk : List PySem.Env} {s s' : Shared} {O : Addr → Prop}
theorem Inv.fresh (I : Inv G T stk s) {a : Addr} (h : s.heap.objs.size ≤ a) : T a = none := by
  cases e : T a with
  | none => rfl
  | some g => exact absurd (I.ok a g e).lt (Nat.not_lt.mpr h)
theorem Inv.bk (I : Inv G T stk s) : ∀ b o, G.base.get? b = some o → s.heap.get? b = some o := fun b o e => I.ok b _ (I.base b o e)
theorem Inv.kIn (I : Inv G T stk s) : G.K.In s.heap := I.g.kin.keeps I.bk
theorem Inv.nolimit (I : Inv G T stk s) : s.heap.NoLimit := I.g.nolimit.keeps I.bk
theorem Inv.step (I : Inv G T stk s) (E : Ext O T T') (ok : ∀ a g, T' a = some g → GOk s'.heap a g) (os : s'.os = s.os) (bare : AllBare s'.gens) (ht : ∀ t ∈ G.tabs, TabOk T' t.2.1 t.2.2) : Inv G T' stk s' :=
  ⟨I.g, os.trans I.os, bare, fun b o e => E.lock _ _ (I.base b o e), ok, fun e m => by
    obtain ⟨h1, L, m', h2, h3⟩ := I.fr e m
    obtain ⟨m2, h4⟩ := E.frame' _ _ h3
    exact ⟨h1, L, m2, h2, h4⟩, ht⟩
theorem Inv.tabsN (I : Inv G T stk s) (E : Ext O T T') (h : ∀ P ps, T P = some (.tab ps) → T' P = T P) : ∀ t ∈ G.tabs, TabOk T' t.2.1 t.2.2 := fun t m => by
  obtain ⟨ps, h1, h2⟩ := id (I.tabs t m)
  exact (I.tabs t m).ext E (h _ _ h1)
/-- all that stood stands -/
theorem Inv.kept {h' : Heap} {tk : Tok} (I : Inv G T stk s) (k : ∀ b o, s.heap.get? b = some o → h'.get? b = some o) : Inv G T stk { s with heap := h', toks := tk } :=
  I.step (O := NoO) (.refl T) (fun a g e => (I.ok a g e).keep fun o q => k a o q) rfl I.bare (I.tabsN (O := NoO) (.refl T) fun _ _ _ => rfl)
theorem Inv.tok {tk : Tok} (I : Inv G T stk s) : Inv G T stk { s with toks := tk } := I.kept (h' := s.heap) fun _ _ e => e
/-- a new thing is known -/
theorem Inv.new {h' : Heap} {tk : Tok} {a : Addr} {g : Gh} (I : Inv G T stk s) (k : ∀ b o, s.heap.get? b = some o → h'.get? b = some o) (ha : T a = none) (hg : GOk h' a g) : Inv G (T.set a g) stk { s with heap := h', toks := tk } := by
  refine I.step (O := NoO) (.new ha) (fun b u e => ?_) rfl I.bare (I.tabsN (O := NoO) (.new ha) fun P ps e => GT.set_ne fun z => by rw [z, ha] at e; cases e)
  by_cases z : b = a
  · subst z; rw [GT.set_same] at e; cases e; exact hg
  · rw [GT.set_ne z] at e; exact (I.ok b u e).keep fun o q => k b o q
/-- a thing at a, no table, is changed -/
theorem Inv.put {h' : Heap} {tk : Tok} {a : Addr} {g0 g : Gh} (I : Inv G T stk s) (k : ∀ b o, b ≠ a → s.heap.get? b = some o → h'.get? b = some o) (E : Ext O T (T.set a g)) (ha : T a = some g0) (nt : ∀ ps, g0 ≠ .tab ps) (hg : GOk h' a g) : Inv G (T.set a g) stk { s with heap := h', toks := tk } := by
  refine I.step E (fun b u e => ?_) rfl I.bare (I.tabsN E fun P ps e => GT.set_ne fun z => by rw [z, ha] at e; exact nt ps (Option.some.inj e))
  by_cases z : b = a
  · subst z; rw [GT.set_same] at e; cases e; exact hg
  · rw [GT.set_ne z] at e; exact (I.ok b u e).keep fun o q => k b o z q
/-- the model's state as a whole: heap, tokens changed alone -/
theorem Inv.funs (I : Inv G T stk s) {B : Heap} (hB : ∀ L, L ∈ stk.filterMap (·.frame) → B.get? L = none) : s.heap.FunFrames B stk := by
  have all : ∀ l : List PySem.Env, (∀ e ∈ l, e ∈ stk) → s.heap.FunFrames B l := by
    intro l
    induction l with
    | nil => intro _; trivial
    | cons env r ih =>
      intro hs
      obtain ⟨h1, L, m, h2, h3⟩ := I.fr env (hs _ (by simp))
      have h4 : s.heap.Ns L m := I.ok L _ h3
      obtain ⟨o, es, ep, h5, h6, _⟩ := h4
      exact ⟨by rw [h1]; decide, ⟨L, o, h2, hB L (List.mem_filterMap.mpr ⟨env, hs _ (by simp), h2⟩), h5, fun vs z => by rw [h6] at z; cases z⟩, ih fun e m => hs e (by simp [m])⟩
  exact all stk fun _ m => m
end
end Mp
/-! W2: what an expression's meaning says of the model's run. -/
namespace Mp
open PySem PySem.Spec PyProof.Rows

/-- a scope as it is read off: where names stand, which may be stored, all names with their kinds -/
structure Nm where
  vis : List (PySem.Str × Nat)
  own : List PySem.Str
  kinds : List (PySem.Str × NameKind)
  deriving Inhabited

structure Ctx where
  G : Glo
  A : Around
  stk : List PySem.Env
  env : PySem.Env
  nm : Nm
  bs : List Nat
  C : Mp.Cx
  O : Addr → Prop

def LookV (G : Glo) (T : GT) (φ : List Addr) (env : PySem.Env) (x : PySem.Str) (v : Val) : Prop :=
  (env.kindOf x = some .local ∧ ∃ m u, T env.locals = some (.frame m) ∧ m x = some u ∧ RV G T φ v u) ∨
  ((env.kindOf x = some .cell ∨ env.kindOf x = some .free) ∧ ∃ c u, env.cells.lookup x = some c ∧ T c = some (.cell (some u)) ∧ RV G T φ v u)
def SlotOk (G : Glo) (T : GT) (φ : List Addr) (env : PySem.Env) (x : PySem.Str) : Option Slot → Prop
  | some (.v v) => LookV G T φ env x v
  | some (.c a) => (env.kindOf x = some .cell ∨ env.kindOf x = some .free) ∧ ∃ c, env.cells.lookup x = some c ∧ φ[a]? = some c
  | _ => True
/-- the names of the running code -/
structure ER (X : Ctx) (T : GT) (φ : List Addr) (ρ : Mp.Env) : Prop where
  slot : ∀ x i, X.nm.vis.lookup x = some i → SlotOk X.G T φ X.env x ρ[i]?
  frame : ∃ m, T X.env.locals = some (.frame m)
  cell : ∀ x c, X.env.cells.lookup x = some c → ∃ u, T c = some (.cell u)
  byv : ∀ x i c, X.nm.vis.lookup x = some i → (∀ a, ρ[i]? ≠ some (.c a)) → X.env.cells.lookup x = some c → c ∉ φ
structure Ctx.Ok (X : Ctx) : Prop where
  kind : X.env.scope.kind = .function
  names : X.env.scope.names = X.nm.kinds
  globals : X.env.globals = mainGlobals
  builtins : X.env.builtins = builtinsNs
  frames : X.A.frames = some X.stk
  hd : X.A.handled = none
  dp : X.A.depth + 5 < recursionLimit
  un : X.A.units + 200 < cLine
  inj : ∀ x y c, X.env.cells.lookup x = some c → X.env.cells.lookup y = some c → x = y
  has : ∀ x, (X.env.kindOf x = some .cell ∨ X.env.kindOf x = some .free) → ∃ c, X.env.cells.lookup x = some c
  own : ∀ x ∈ X.nm.own, ∃ i, X.nm.vis.lookup x = some i ∧ (X.env.kindOf x = some .local ∨ (X.env.kindOf x = some .cell ∧ ∃ c, X.env.cells.lookup x = some c ∧ X.O c))
  slots : ∀ x y i, X.nm.vis.lookup x = some i → X.nm.vis.lookup y = some i → x = y
  ownF : X.O X.env.locals
  bs : ∀ b ∈ X.bs, b ≤ X.C.base
abbrev Ctx.M (X : Ctx) : Model := model X.G.prog X.G.w
structure St (X : Ctx) (T : GT) (φ : List Addr) (ρ : Mp.Env) (h : Hp) (s : Shared) : Prop where
  inv : Inv X.G T X.stk s
  er : ER X T φ ρ
  sim : Sim X.G T φ X.bs h

/-- behind some steps -/
structure Good (X : Ctx) (O : Addr → Prop) (T : GT) (φ : List Addr) (T' : GT) (φ' : List Addr) (h' : Hp) (s' : Shared) : Prop where
  inv : Inv X.G T' X.stk s'
  ext : Ext O T T'
  pre : φ <+: φ'
  new : ∀ a ∈ φ', a ∈ φ ∨ T a = none
  sim : Sim X.G T' φ' X.bs h'
theorem Good.trans {X : Ctx} {O : Addr → Prop} {T T1 T2 : GT} {φ φ1 φ2 : List Addr} {h1 h2 : Hp} {s1 s2 : Shared} (a : Good X O T φ T1 φ1 h1 s1) (b : Good X O T1 φ1 T2 φ2 h2 s2) : Good X O T φ T2 φ2 h2 s2 :=
  ⟨b.inv, a.ext.trans b.ext, a.pre.trans b.pre, fun x m => (b.new x m).elim (a.new x) fun z => .inr (by
    cases e : T x with
    | none => rfl
    | some g => exact absurd z (a.ext.sm x (by rw [e]; simp))), b.sim⟩
theorem Good.imp {X : Ctx} {O O' : Addr → Prop} {T T1 : GT} {φ φ1 : List Addr} {h1 : Hp} {s1 : Shared} (a : Good X O T φ T1 φ1 h1 s1) (h : ∀ x, O x → O' x) : Good X O' T φ T1 φ1 h1 s1 :=
  ⟨a.inv, a.ext.imp h, a.pre, a.new, a.sim⟩
theorem Good.refl {X : Ctx} {O : Addr → Prop} {T : GT} {φ : List Addr} {h : Hp} {s : Shared} (I : Inv X.G T X.stk s) (S : Sim X.G T φ X.bs h) : Good X O T φ T φ h s := ⟨I, .refl T, List.prefix_refl _, fun _ m => .inl m, S⟩
theorem LookV.mono {G : Glo} {T T' : GT} {φ φ' : List Addr} {env : PySem.Env} {x : PySem.Str} {v : Val} (e : Ext NoO T T') (p : φ <+: φ') (l : LookV G T φ env x v) : LookV G T' φ' env x v := by
  rcases l with ⟨k, m, u, h1, h2, h3⟩ | ⟨k, c, u, h1, h2, h3⟩
  · exact .inl ⟨k, m, u, e.frame _ _ id h1, h2, RV.mono e p _ _ h3⟩
  · exact .inr ⟨k, c, u, h1, e.cell _ _ id h2, RV.mono e p _ _ h3⟩
theorem ER.mono {X : Ctx} {T T' : GT} {φ φ' : List Addr} {ρ : Mp.Env} (R : ER X T φ ρ) (e : Ext NoO T T') (p : φ <+: φ') (new : ∀ a ∈ φ', a ∈ φ ∨ T a = none) : ER X T' φ' ρ := by
  refine ⟨fun x i hv => ?_, ?_, fun x c hc => ?_, fun x i c hv ha hc m => ?_⟩
  · have := R.slot x i hv
    cases q : ρ[i]? with
    | none => trivial
    | some sl =>
      rw [q] at this
      cases sl with
      | u => trivial
      | v w => exact this.mono e p
      | c a =>
        obtain ⟨k, c, h1, h2⟩ := this
        exact ⟨k, c, h1, pref_at p h2⟩
  · obtain ⟨m, h⟩ := R.frame
    exact ⟨m, e.frame _ _ id h⟩
  · obtain ⟨u, h⟩ := R.cell x c hc
    exact ⟨u, e.cell _ _ id h⟩
  · rcases new c m with z | z
    · exact R.byv x i c hv ha hc z
    · obtain ⟨u, h⟩ := R.cell x c hc
      rw [h] at z; cases z
theorem Good.st {X : Ctx} {T T' : GT} {φ φ' : List Addr} {ρ : Mp.Env} {h h' : Hp} {s s' : Shared} (S : St X T φ ρ h s) (g : Good X NoO T φ T' φ' h' s') : St X T' φ' ρ h' s' :=
  ⟨g.inv, S.er.mono g.ext g.pre g.new, g.sim⟩

/-- an exception in the air: its class, its fields -/
def Air (X : Ctx) (O : Addr → Prop) (T : GT) (φ : List Addr) (sky : Heap → Addr → (Obj → Prop) → Heap → Prop) (c : Nat) (fs : List Val) (h' : Hp) (x : Value) (s' : Shared) : Prop :=
  ∃ (a : Addr) (B : Heap) (sI : Shared) (T' : GT) (φ' : List Addr) (C d : Addr) (o : Obj) (us : List Value), x = .ref a ∧ Good X O T φ T' φ' h' sI ∧ (∀ b o, sI.heap.get? b = some o → b ∉ X.stk.filterMap (·.frame) → B.get? b = some o) ∧
    sI.heap.UpToSlots s'.heap ∧ sky B a (L2.Zc (.ref C) (some d)) s'.heap ∧ T' a = none ∧ s'.os = sI.os ∧ AllBare s'.gens ∧ X.G.exA c = some C ∧ T' d = some (.lock o) ∧ RVs X.G T' φ' fs us ∧ us.length = (X.G.exF c).length ∧
    (∃ h : Heap, h.get? d = some o ∧ h.Ns1 d fun y => ((X.G.exF c).zip us).lookup y)
/-- .. over the frames of the context; .. that has left all of them but these -/
def Ctx.L (X : Ctx) : Addr := X.env.frame.getD 0
abbrev SkyIn (X : Ctx) : Heap → Addr → (Obj → Prop) → Heap → Prop := fun B a Z h => L2.Sky B X.stk a Z X.L h
abbrev SkyOut (X : Ctx) : Heap → Addr → (Obj → Prop) → Heap → Prop := fun B a Z h => HandSPX.FlyingZ B X.stk a Z h
theorem Air.imp {X : Ctx} {O : Addr → Prop} {T : GT} {φ : List Addr} {k k' : Heap → Addr → (Obj → Prop) → Heap → Prop} (h : ∀ B a Z hp, k B a Z hp → k' B a Z hp) {c : Nat} {fs : List Val} {h' : Hp} {x : Value} {s' : Shared}
    (a : Air X O T φ k c fs h' x s') : Air X O T φ k' c fs h' x s' := by
  obtain ⟨a, B, sI, T', φ', C, d, o, us, h1, h2, h3, h4, h5, h6⟩ := a
  exact ⟨a, B, sI, T', φ', C, d, o, us, h1, h2, h3, h4, h _ _ _ _ h5, h6⟩
theorem Air.after {X : Ctx} {O : Addr → Prop} {T T1 : GT} {φ φ1 : List Addr} {h1 : Hp} {s1 : Shared} {k : Heap → Addr → (Obj → Prop) → Heap → Prop} {c : Nat} {fs : List Val} {h' : Hp} {x : Value} {s' : Shared}
    (g : Good X O T φ T1 φ1 h1 s1) (a : Air X O T1 φ1 k c fs h' x s') : Air X O T φ k c fs h' x s' := by
  obtain ⟨a, B, sI, T', φ', C, d, o, us, h1, h2, h3⟩ := a
  exact ⟨a, B, sI, T', φ', C, d, o, us, h1, g.trans h2, h3⟩
theorem Air.up {X : Ctx} {O O' : Addr → Prop} {T : GT} {φ : List Addr} {k : Heap → Addr → (Obj → Prop) → Heap → Prop} {c : Nat} {fs : List Val} {h' : Hp} {x : Value} {s' : Shared}
    (hO : ∀ x, O x → O' x) (a : Air X O T φ k c fs h' x s') : Air X O' T φ k c fs h' x s' := by
  obtain ⟨a, B, sI, T', φ', C, d, o, us, h1, h2, h3⟩ := a
  exact ⟨a, B, sI, T', φ', C, d, o, us, h1, h2.imp hO, h3⟩

/-- how a run ends -/
def QV (X : Ctx) (T : GT) (φ : List Addr) (r : R Val) : Value → Shared → Prop := fun u s' => ∃ v h' T' φ', r = .ok v h' ∧ Good X NoO T φ T' φ' h' s' ∧ RV X.G T' φ' v u
def QVs (X : Ctx) (T : GT) (φ : List Addr) (r : R (List Val)) : List Value → Shared → Prop := fun us s' => ∃ vs h' T' φ', r = .ok vs h' ∧ Good X NoO T φ T' φ' h' s' ∧ RVs X.G T' φ' vs us
def QX {α : Type} (X : Ctx) (T : GT) (φ : List Addr) (r : R α) : Value → Shared → Prop := fun x s' => ∃ c fs h', r = .err c fs h' ∧ Air X NoO T φ (SkyIn X) c fs h' x s'

def SE (X : Ctx) (e : E) (e' : Expr) : Prop := ∀ (T : GT) (φ : List Addr) (ρ : Mp.Env) (h : Hp) (s : Shared) (F : Value → Shared → Prop), St X T φ ρ h s → ev X.C ρ h e ≠ .no →
  (∀ x s', QX X T φ (ev X.C ρ h e) x s' → F x s') → wpAny X.M X.A (eval e' X.env) (QV X T φ (ev X.C ρ h e)) F s
def QT (X : Ctx) (T : GT) (φ : List Addr) (r : R Val) : Bool → Shared → Prop := fun b s' => ∃ v h' T' φ', r = .ok v h' ∧ Good X NoO T φ T' φ' h' s' ∧ v.tru h' = some b
/-- the truth can be told -/
def R.tell (r : R Val) : Prop := r ≠ .no ∧ ∀ v h, r = .ok v h → v.tru h ≠ none
def STw (X : Ctx) (e : E) (e' : Expr) (whole : Sem Value) : Prop := ∀ (T : GT) (φ : List Addr) (ρ : Mp.Env) (h : Hp) (s : Shared) (F : Value → Shared → Prop), St X T φ ρ h s → (ev X.C ρ h e).tell →
  (∀ x s', QX X T φ (ev X.C ρ h e) x s' → F x s') → wpAny X.M X.A (isTrue e' X.env whole) (QT X T φ (ev X.C ρ h e)) F s
abbrev ST (X : Ctx) (e : E) (e' : Expr) : Prop := STw X e e' (eval e' X.env)
def SEs (X : Ctx) (es : Es) (es' : List Expr) : Prop := ∀ (pos : Pos) (T : GT) (φ : List Addr) (ρ : Mp.Env) (h : Hp) (s : Shared) (F : Value → Shared → Prop), St X T φ ρ h s → evs X.C ρ h es ≠ .no →
  (∀ x s', QX X T φ (evs X.C ρ h es) x s' → F x s') → wpAny X.M X.A (spliced (backTo pos (starEach es' X.env))) (QVs X T φ (evs X.C ρ h es)) F s

/-! ### sequencing -/
theorem R.bind_no' {α β : Type} {r : R α} {f : α → Hp → R β} (h : r.bind f ≠ .no) : r ≠ .no := fun z => h (by rw [z]; rfl)
theorem R.bind_at {α β : Type} {r : R α} {f : α → Hp → R β} {a : α} {h1 : Hp} (h : r.bind f ≠ .no) (e : r = .ok a h1) : f a h1 ≠ .no := fun z => h (by rw [e]; exact z)
section
variable {X : Ctx}
theorem QX.bind {α β : Type} {T : GT} {φ : List Addr} {r : R α} {f : α → Hp → R β} {F : Value → Shared → Prop} (hF : ∀ x s', QX X T φ (r.bind f) x s' → F x s') : ∀ x s', QX X T φ r x s' → F x s' := fun x s' ⟨c, fs, h', e, a⟩ =>
  hF x s' ⟨c, fs, h', by rw [e]; rfl, a⟩
theorem QX.next {α β : Type} {T T1 : GT} {φ φ1 : List Addr} {r : R α} {f : α → Hp → R β} {a : α} {h1 : Hp} {s1 : Shared} {F : Value → Shared → Prop} (hF : ∀ x s', QX X T φ (r.bind f) x s' → F x s') (e : r = .ok a h1) (g : Good X NoO T φ T1 φ1 h1 s1) :
    ∀ x s', QX X T1 φ1 (f a h1) x s' → F x s' := fun x s' ⟨c, fs, h', e2, ar⟩ => hF x s' ⟨c, fs, h', by rw [e]; exact e2, ar.after g⟩
theorem QV.next {α : Type} {T T1 : GT} {φ φ1 : List Addr} {r : R α} {f : α → Hp → R Val} {a : α} {h1 : Hp} {s1 : Shared} (e : r = .ok a h1) (g : Good X NoO T φ T1 φ1 h1 s1) : ∀ u s', QV X T1 φ1 (f a h1) u s' → QV X T φ (r.bind f) u s' :=
  fun u s' ⟨v, h', T', φ', e2, g2, rv⟩ => ⟨v, h', T', φ', by rw [e]; exact e2, g.trans g2, rv⟩
/-- first a list of values, then an operation on them -/
theorem wp_vals {es : Es} {es' : List Expr} {T : GT} {φ : List Addr} {ρ : Mp.Env} {h : Hp} {s : Shared} {f : List Val → Hp → R Val} {pos : Pos} {F : Value → Shared → Prop} {Q : List Value → Shared → Prop} (he : SEs X es es') (S : St X T φ ρ h s)
    (hn : ((evs X.C ρ h es).bind f) ≠ .no) (hF : ∀ x s', QX X T φ ((evs X.C ρ h es).bind f) x s' → F x s')
    (hQ : ∀ us s1 vs h1 T1 φ1, evs X.C ρ h es = .ok vs h1 → St X T1 φ1 ρ h1 s1 → RVs X.G T1 φ1 vs us → f vs h1 ≠ .no → (∀ x s', QX X T1 φ1 (f vs h1) x s' → F x s') → (∀ u s', QV X T1 φ1 (f vs h1) u s' → QV X T φ ((evs X.C ρ h es).bind f) u s') → Q us s1) :
    wpAny X.M X.A (spliced (backTo pos (starEach es' X.env))) Q F s := by
  refine wpAny_mono (he pos T φ ρ h s F S (R.bind_no' hn) (QX.bind hF)) (fun us s1 ⟨vs, h1, T1, φ1, e, g, rv⟩ => ?_) fun _ _ z => z
  exact hQ us s1 vs h1 T1 φ1 e (g.st S) rv (R.bind_at hn e) (QX.next hF e g) (QV.next e g)
/-- first a value -/
theorem wp_val {e : E} {e' : Expr} {T : GT} {φ : List Addr} {ρ : Mp.Env} {h : Hp} {s : Shared} {f : Val → Hp → R Val} {F : Value → Shared → Prop} {Q : Value → Shared → Prop} (he : SE X e e') (S : St X T φ ρ h s)
    (hn : ((ev X.C ρ h e).bind f) ≠ .no) (hF : ∀ x s', QX X T φ ((ev X.C ρ h e).bind f) x s' → F x s')
    (hQ : ∀ u s1 v h1 T1 φ1, ev X.C ρ h e = .ok v h1 → St X T1 φ1 ρ h1 s1 → RV X.G T1 φ1 v u → f v h1 ≠ .no → (∀ x s', QX X T1 φ1 (f v h1) x s' → F x s') → (∀ w s', QV X T1 φ1 (f v h1) w s' → QV X T φ ((ev X.C ρ h e).bind f) w s') → Q u s1) :
    wpAny X.M X.A (eval e' X.env) Q F s := by
  refine wpAny_mono (he T φ ρ h s F S (R.bind_no' hn) (QX.bind hF)) (fun u s1 ⟨v, h1, T1, φ1, e, g, rv⟩ => ?_) fun _ _ z => z
  exact hQ u s1 v h1 T1 φ1 e (g.st S) rv (R.bind_at hn e) (QX.next hF e g) (QV.next e g)

/-! ### names, constants, displays -/
theorem QV.here {T : GT} {φ : List Addr} {ρ : Mp.Env} {h : Hp} {s : Shared} {v : Val} {u : Value} (S : St X T φ ρ h s) (r : RV X.G T φ v u) : QV X T φ (.ok v h) u s := ⟨v, h, T, φ, rfl, .refl S.inv S.sim, r⟩
theorem QV.tok {T : GT} {φ : List Addr} {ρ : Mp.Env} {h : Hp} {s : Shared} {v : Val} {u : Value} {tk : Tok} (S : St X T φ ρ h s) (r : RV X.G T φ v u) : QV X T φ (.ok v h) u { s with toks := tk } := ⟨v, h, T, φ, rfl, .refl S.inv.tok S.sim, r⟩
theorem se_var {i : Nat} {x : PySem.Str} {pos : Pos} (ok : X.Ok) (hx : X.nm.vis.lookup x = some i) (hd : (x == ("__debug__" : PySem.Str)) = false) (hc : (x == ("__classdict__" : PySem.Str)) = false) : SE X (.var i) (.Name x pos) := by
  intro T φ ρ h s F S hn hF
  simp only [ev] at hn ⊢
  have sl := S.er.slot x i hx
  unfold Mp.Env.get at hn ⊢
  cases q : ρ[i]? with
  | none => rw [q] at hn; exact absurd rfl hn
  | some w =>
    rw [q] at hn sl
    cases w with
    | u => exact absurd rfl hn
    | v w =>
      refine wpAny_Name ?_ hd
      rcases sl with ⟨k, m, u, h1, h2, h3⟩ | ⟨k, c, u, h1, h2, h3⟩
      · exact wpAny_loadName_local ok.kind k (S.inv.ok _ _ h1) h2 (QV.here S h3)
      · rcases k with k | k
        · exact wpAny_loadName_cell ok.kind k h1 (S.inv.ok _ _ h2) (QV.here S h3)
        · exact wpAny_loadName_free ok.kind k h1 (S.inv.ok _ _ h2) (QV.here S h3) hc
    | c a =>
      obtain ⟨k, c, h1, h2⟩ := sl
      simp only at hn ⊢
      cases hq : h.at a with
      | none => rw [hq] at hn; exact absurd rfl hn
      | some ob =>
        rw [hq] at hn
        cases ob with
        | cel vo =>
          cases vo with
          | none => exact absurd rfl hn
          | some v =>
            obtain ⟨u, h3, h4⟩ := S.sim.ob a c _ h2 hq
            refine wpAny_Name ?_ hd
            rcases k with k | k
            · exact wpAny_loadName_cell ok.kind k h1 (S.inv.ok _ _ h3) (QV.here S h4)
            · exact wpAny_loadName_free ok.kind k h1 (S.inv.ok _ _ h3) (QV.here S h4) hc
        | lst _ => exact absurd rfl hn
        | lck _ => exact absurd rfl hn
        | dct _ _ => exact absurd rfl hn
theorem se_none {k pos} : SE X (.cst .none) (.Constant .none k pos) := fun T φ ρ h s F S _ _ => by
  simp only [ev]; exact Constant_none (QV.here S (by simp [RV]))
theorem se_bool {b k pos} : SE X (.cst (.bool b)) (.Constant (.bool b) k pos) := fun T φ ρ h s F S _ _ => by
  simp only [ev]; exact Constant_bool (QV.here S (by simp [RV]))
theorem se_int {i k pos} : SE X (.cst (.int i)) (.Constant (.int i) k pos) := fun T φ ρ h s F S _ _ => by
  simp only [ev]; exact wpAny_Constant_int (QV.tok S (by simp [RV]))
theorem se_str {x k pos} : SE X (.cst (.str x)) (.Constant (.str x) k pos) := fun T φ ρ h s F S _ _ => by
  simp only [ev]; exact Calls.Constant_str (QV.tok S (by simp [RV]))
/-- the module's own value of a name -/
theorem se_glob {g : Nat} {x : PySem.Str} {pos : Pos} {u : Value} (ok : X.Ok) (hk : X.env.kindOf x = some .globalImplicit) (hm : X.G.mg x = some u) (hg : ∀ v, X.C.gv g = some v → ∀ T φ s, Inv X.G T X.stk s → RV X.G T φ v u) (hd : (x == ("__debug__" : PySem.Str)) = false) : SE X (.glob g) (.Name x pos) := by
  intro T φ ρ h s F S hn hF
  simp only [ev] at hn ⊢
  cases q : X.C.gv g with
  | none => rw [q] at hn; exact absurd rfl hn
  | some v => exact Calls.Name_function_global ok.kind hk (Calls.loadGlobal_global (by rw [ok.globals]; exact S.inv.g.glob.keeps S.inv.bk) hm (QV.here S (hg v q T φ s S.inv))) hd
theorem ses_nil : SEs X .nil [] := fun pos T φ ρ h s F S _ _ => by
  simp only [evs]; exact Calls.spliced_nil ⟨[], h, T, φ, rfl, .refl S.inv S.sim, RVs.nil⟩
theorem ses_cons {e : E} {es : Es} {e' : Expr} {es' : List Expr} (he : SE X e e') (hs : SEs X es es') (hp : starEach (e' :: es') X.env = (false, eval e' X.env) :: starEach es' X.env) : SEs X (.cons e es) (e' :: es') := by
  intro pos T φ ρ h s F S hn hF
  simp only [evs] at hn hF ⊢
  rw [hp]
  show wpAny _ _ (spliced ((false, eval e' X.env) :: backTo pos (starEach es' X.env))) _ _ s
  refine Calls.spliced_cons (wpAny_mono (he T φ ρ h s F S (R.bind_no' hn) (QX.bind hF)) (fun u s1 ⟨v, h1, T1, φ1, e1, g1, r1⟩ => ?_) fun _ _ z => z)
  have hn2 := R.bind_at hn e1
  have hF2 := QX.next hF e1 g1
  refine wpAny_mono (hs pos T1 φ1 ρ h1 s1 F (g1.st S) (R.bind_no' hn2) (QX.bind hF2)) (fun us s2 ⟨vs, h2, T2, φ2, e2, g2, r2⟩ => ?_) fun _ _ z => z
  exact ⟨v :: vs, h2, T2, φ2, by rw [e1]; show (evs _ _ _ _).bind _ = _; rw [e2]; rfl, g1.trans g2, RVs.cons (RV.mono g2.ext g2.pre _ _ r1) r2⟩
/-- a new thing that nobody writes -/
theorem Good.lock {T : GT} {φ : List Addr} {ρ : Mp.Env} {h : Hp} {s : Shared} {o : Obj} {tk : Tok} (S : St X T φ ρ h s) (hf : o.isFreed = false) : Good X NoO T φ (T.set s.heap.objs.size (.lock o)) φ h { s with heap := s.heap.push o, toks := tk } :=
  have hn : T s.heap.objs.size = none := S.inv.fresh (Nat.le_refl _)
  ⟨S.inv.new (fun _ _ e => Heap.get?_push_of_some _ e) hn (Heap.get?_push_size _ hf), .new hn, List.prefix_refl _, fun _ m => .inl m, S.sim.mono (O := NoO) (.new hn) fun a m => GT.set_ne fun z => S.sim.tr a m (z ▸ hn)⟩
def Es.len : Es → Nat
  | .nil => 0
  | .cons _ r => r.len + 1
theorem evs_len {C : Mp.Cx} {ρ : Mp.Env} : ∀ {es : Es} {h h' : Hp} {vs : List Val}, evs C ρ h es = .ok vs h' → vs.length = es.len
  | .nil, h, h', vs, e => by simp only [evs] at e; cases e; rfl
  | .cons a r, h, h', vs, e => by
    simp only [evs] at e
    cases q : ev C ρ h a with
    | no => rw [q] at e; cases e
    | err c fs h1 => rw [q] at e; cases e
    | ok v h1 =>
      rw [q] at e
      cases q2 : evs C ρ h1 r with
      | no => simp only [R.bind_ok, q2] at e; cases e
      | err c fs h2 => simp only [R.bind_ok, q2] at e; cases e
      | ok ws h2 =>
        simp only [R.bind_ok, q2] at e
        cases e
        have := evs_len q2
        simp [Es.len, this]
theorem small_line {n : Nat} (h : n ≤ 100000) : n ≤ sizeLine := Nat.le_trans h (by rw [sizeLine_eq]; decide)
theorem RV.tupI {G : Glo} {T : GT} {φ : List Addr} {vs : List Val} {us : List Value} {a : Addr} (h : T a = some (.lock { cls := .type "tuple", data := .seq us.toArray })) (z : us.length ≤ sizeLine) (r : RVs G T φ vs us) : RV G T φ (.tup vs) (.ref a) := by
  simp only [RV]; exact ⟨a, _, us, _, rfl, h, rfl, rfl, z, r⟩
theorem RV.lstI {G : Glo} {T : GT} {φ : List Addr} {vs : List Val} {us : List Value} {a : Addr} {n : Nat} (h : T a = some (.lock (listO us n))) (z : us.length ≤ sizeLine) (r : RVs G T φ vs us) : RV G T φ (.lst vs) (.ref a) := by
  simp only [RV]; exact ⟨a, us, n, rfl, h, z, r⟩
theorem QV.tup {T : GT} {φ : List Addr} {ρ : Mp.Env} {h : Hp} {s : Shared} {vs : List Val} {us : List Value} {tk : Tok} (S : St X T φ ρ h s) (r : RVs X.G T φ vs us) (z : us.length ≤ sizeLine) :
    QV X T φ (.ok (.tup vs) h) (.ref s.heap.objs.size) { s with heap := s.heap.push { cls := .type "tuple", data := .seq us.toArray }, toks := tk } := by
  have g := Good.lock (o := { cls := .type "tuple", data := .seq us.toArray }) (tk := tk) S rfl
  exact ⟨.tup vs, h, _, φ, rfl, g, RV.tupI GT.set_same z (RVs.mono g.ext g.pre _ _ r)⟩
/-- a new list: known to stay, or of the small heap -/
theorem QV.list {m : Bool} {T : GT} {φ : List Addr} {ρ : Mp.Env} {h : Hp} {s : Shared} {vs : List Val} {us : List Value} {tk : Tok} {n : Nat} (S : St X T φ ρ h s) (r : RVs X.G T φ vs us) (z : us.length ≤ sizeLine) :
    QV X T φ (newL m vs h) (.ref s.heap.objs.size) { s with heap := s.heap.push (listO us n), toks := tk } := by
  have hn : T s.heap.objs.size = none := S.inv.fresh (Nat.le_refl _)
  cases m with
  | false =>
    have g := Good.lock (o := listO us n) (tk := tk) S rfl
    exact ⟨.lst vs, h, _, φ, rfl, g, RV.lstI GT.set_same z (RVs.mono g.ext g.pre _ _ r)⟩
  | true =>
    have E : Ext NoO T (T.set s.heap.objs.size (.lst us)) := .new hn
    refine ⟨.ref h.length, h ++ [some (.lst vs)], T.set s.heap.objs.size (.lst us), φ ++ [s.heap.objs.size], rfl, ⟨S.inv.new (fun _ _ e => Heap.get?_push_of_some _ e) hn ⟨z, n, Heap.get?_push_size _ rfl⟩, E, List.prefix_append _ _, fun a m => ?_, ?_⟩, ?_⟩
    · rcases List.mem_append.mp m with q | q
      · exact .inl q
      · have : a = s.heap.objs.size := by simpa using q
        subst this; exact .inr hn
    · exact S.sim.push (O := NoO) hn ⟨us, GT.set_same, RVs.mono E (List.prefix_append _ _) _ _ r⟩
    · simp only [RV]
      exact ⟨s.heap.objs.size, by rw [← S.sim.len]; simp, rfl⟩
theorem se_tup {es : Es} {es' : List Expr} {k pos} (he : SEs X es es') (hl : es.len ≤ 1000) : SE X (.tup es) (.Tuple es' k pos) := by
  intro T φ ρ h s F S hn hF
  simp only [ev] at hn hF ⊢
  refine wpAny_Tuple_spliced (wp_vals he S hn hF fun us s1 vs h1 T1 φ1 e S1 r _ _ hq => ?_)
  have z : us.length ≤ sizeLine := small_line (by rw [← r.length, evs_len e]; omega)
  exact ⟨z, hq _ _ (QV.tup S1 r z)⟩
theorem se_lst {m : Bool} {es : Es} {es' : List Expr} {pos} (he : SEs X es es') (hl : es.len ≤ 1000) : SE X (.lst m es) (.List es' pos) := by
  intro T φ ρ h s F S hn hF
  simp only [ev] at hn hF ⊢
  refine wpAny_List_spliced (wp_vals he S hn hF fun us s1 vs h1 T1 φ1 e S1 r _ _ hq => ?_)
  have z : us.length ≤ sizeLine := small_line (by rw [← r.length, evs_len e]; omega)
  exact ⟨z, hq _ _ (QV.list (n := 0) S1 r z)⟩

/-! ### truth -/
/-- a list, a tuple that a value is -/
theorem RV.seqI {T : GT} {φ : List Addr} {ρ : Mp.Env} {h : Hp} {s : Shared} {v : Val} {u : Value} {xs : List Val} (S : St X T φ ρ h s) (r : RV X.G T φ v u) (e : v.seq h = some xs) :
    ∃ a us, u = .ref a ∧ RVs X.G T φ xs us ∧ us.length ≤ sizeLine ∧ (PlainL s.heap a us.toArray ∨ IsTup s.heap a us.toArray) := by
  cases v with
  | lst ys =>
    simp only [Val.seq, Option.some.injEq] at e; subst e
    simp only [RV] at r
    obtain ⟨a, us, n, h1, h2, h3, h4⟩ := r
    exact ⟨a, us, h1, h4, h3, .inl ⟨_, n, S.inv.ok _ _ h2, rfl, rfl, rfl⟩⟩
  | tup ys =>
    simp only [Val.seq, Option.some.injEq] at e; subst e
    simp only [RV] at r
    obtain ⟨a, o, us, n, h1, h2, h3, h4, h5, h6⟩ := r
    exact ⟨a, us, h1, h6, h5, .inr ⟨o, S.inv.ok _ _ h2, h3, n, h4⟩⟩
  | ref i =>
    simp only [RV] at r
    obtain ⟨a, h1, h2⟩ := r
    simp only [Val.seq] at e
    cases q : h.at i with
    | none => rw [q] at e; cases e
    | some ob =>
      rw [q] at e
      have so := S.sim.ob i a ob h1 q
      cases ob with
      | lst ys =>
        simp only [Option.some.injEq] at e; subst e
        obtain ⟨us, h3, h4⟩ := so
        obtain ⟨z, n, h5⟩ := S.inv.ok _ _ h3
        exact ⟨a, us, h2, h4, z, .inl ⟨_, n, h5, rfl, rfl, rfl⟩⟩
      | lck ys =>
        simp only [Option.some.injEq] at e; subst e
        obtain ⟨us, n, h3, z, h4⟩ := so
        exact ⟨a, us, h2, h4, z, .inl ⟨_, n, S.inv.ok _ _ h3, rfl, rfl, rfl⟩⟩
      | dct _ _ => cases e
      | cel _ => cases e
  | _ => simp [Val.seq] at e
theorem emptyB {xs : List Val} {us : List Value} (h : xs.length = us.length) : (!us.toArray.isEmpty) = !xs.isEmpty := by
  cases xs <;> cases us <;> simp at h <;> simp
theorem truthy_seq {a : Addr} {us : List Value} {s : Shared} {F : Value → Shared → Prop} {Q : Bool → Shared → Prop} (p : PlainL s.heap a us.toArray ∨ IsTup s.heap a us.toArray) (z : us.length ≤ sizeLine) (h : ∀ tk, Q (!us.toArray.isEmpty) { s with toks := tk }) : wpAny X.M X.A (truthy (.ref a)) Q F s := by
  have hl := L2.line63
  rcases p with p | p
  · exact wpAny_truthy_list p.isList (by simp only [List.size_toArray]; omega) (h _)
  · exact truthy_tuple p (by simp only [List.size_toArray]; omega) (h _)
theorem truthy_ok {T : GT} {φ : List Addr} {ρ : Mp.Env} {h : Hp} {s : Shared} {v : Val} {u : Value} {b : Bool} {F : Value → Shared → Prop} {Q : Bool → Shared → Prop} (S : St X T φ ρ h s) (r : RV X.G T φ v u) (e : v.tru h = some b) (hQ : ∀ tk, Q b { s with toks := tk }) :
    wpAny X.M X.A (truthy u) Q F s := by
  have sq : ∀ xs, v.seq h = some xs → b = !xs.isEmpty → wpAny X.M X.A (truthy u) Q F s := fun xs e1 e2 => by
    obtain ⟨a, us, h1, h2, h3, h4⟩ := RV.seqI S r e1
    subst h1
    exact truthy_seq h4 h3 fun tk => by rw [emptyB h2.length, ← e2]; exact hQ tk
  cases v with
  | none => simp only [RV] at r; subst r; simp only [Val.tru, Option.some.injEq] at e; subst e; exact truthy_none (hQ s.toks)
  | bool c => simp only [RV] at r; subst r; simp only [Val.tru, Option.some.injEq] at e; subst e; exact wpAny_truthy_bool (hQ s.toks)
  | int i => simp only [RV] at r; obtain ⟨t, rfl⟩ := r; simp only [Val.tru, Option.some.injEq] at e; subst e; exact PySem.P.truthy_int (hQ s.toks)
  | tup xs => simp only [Val.tru, Option.some.injEq] at e; exact sq xs rfl e.symm
  | lst xs => simp only [Val.tru, Option.some.injEq] at e; exact sq xs rfl e.symm
  | ref a =>
    simp only [Val.tru] at e
    cases q : h.at a with
    | none => rw [q] at e; cases e
    | some ob =>
      rw [q] at e
      cases ob with
      | lst ys => simp only [Option.some.injEq] at e; exact sq ys (by simp only [Val.seq, q]) e.symm
      | lck ys => simp only [Option.some.injEq] at e; exact sq ys (by simp only [Val.seq, q]) e.symm
      | dct _ _ => cases e
      | cel _ => cases e
  | str _ => simp [Val.tru] at e
  | dct _ _ => simp [Val.tru] at e
  | fn _ => simp [Val.tru] at e
  | clo _ _ => simp [Val.tru] at e
  | exc _ _ => simp [Val.tru] at e
theorem Good.tok {O : Addr → Prop} {T T' : GT} {φ φ' : List Addr} {h' : Hp} {s' : Shared} {tk : Tok} (g : Good X O T φ T' φ' h' s') : Good X O T φ T' φ' h' { s' with toks := tk } := ⟨g.inv.tok, g.ext, g.pre, g.new, g.sim⟩
/-- an expression whose test is its value's truth -/
theorem st_plain {e : E} {e' : Expr} (he : SE X e e') (hw : ∀ whole, isTrue e' X.env whole = (do let v ← whole; standAt e'.pos; holding [v] (truthy v))) : ST X e e' := by
  intro T φ ρ h s F S hn hF
  refine isTrue_plain (wpAny_mono (he T φ ρ h s F S hn.1 hF) (fun u s1 ⟨v, h1, T1, φ1, e1, g1, r1⟩ => ?_) fun _ _ z => z) (hw _)
  have ht := hn.2 v h1 e1
  cases q : v.tru h1 with
  | none => exact absurd q ht
  | some b => exact truthy_ok (g1.st S) r1 q fun tk => ⟨v, h1, T1, φ1, e1, g1.tok, q⟩
end
end Mp
/-! W3: the built-in operations by values. -/
namespace Mp
open PySem PySem.Spec PyProof.Rows

/-- the operation f of the model does what p does -/
def POk (X : Ctx) (p : Prim) (n : Nat) (f : List Value → Sem Value) : Prop := ∀ (vs : List Val) (us : List Value) (T : GT) (φ : List Addr) (ρ : Mp.Env) (h : Hp) (s : Shared) (F : Value → Shared → Prop), vs.length = n → St X T φ ρ h s → RVs X.G T φ vs us → prim X.C.base p vs h ≠ .no →
  wpAny X.M X.A (f us) (QV X T φ (prim X.C.base p vs h)) F s
theorem RVs.one {G : Glo} {T : GT} {φ : List Addr} {v : Val} {us : List Value} (r : RVs G T φ [v] us) : ∃ u, us = [u] ∧ RV G T φ v u := by
  simp only [RVs] at r
  obtain ⟨u, r, rfl, h, rfl⟩ := r
  exact ⟨u, rfl, h⟩
theorem RVs.two {G : Glo} {T : GT} {φ : List Addr} {v w : Val} {us : List Value} (r : RVs G T φ [v, w] us) : ∃ u z, us = [u, z] ∧ RV G T φ v u ∧ RV G T φ w z := by
  simp only [RVs] at r
  obtain ⟨u, r, rfl, h, z, _, rfl, h2, rfl⟩ := r
  exact ⟨u, z, rfl, h, h2⟩
theorem RVs.three {G : Glo} {T : GT} {φ : List Addr} {v w x : Val} {us : List Value} (r : RVs G T φ [v, w, x] us) : ∃ u z y, us = [u, z, y] ∧ RV G T φ v u ∧ RV G T φ w z ∧ RV G T φ x y := by
  simp only [RVs] at r
  obtain ⟨u, r, rfl, h, z, _, rfl, h2, y, _, rfl, h3, rfl⟩ := r
  exact ⟨u, z, y, rfl, h, h2, h3⟩
theorem len1 {α : Type} {l : List α} (h : l.length = 1) : ∃ a, l = [a] := by
  match l, h with
  | [a], _ => exact ⟨a, rfl⟩
theorem len2 {α : Type} {l : List α} (h : l.length = 2) : ∃ a b, l = [a, b] := by
  match l, h with
  | [a, b], _ => exact ⟨a, b, rfl⟩
theorem len3 {α : Type} {l : List α} (h : l.length = 3) : ∃ a b c, l = [a, b, c] := by
  match l, h with
  | [a, b, c], _ => exact ⟨a, b, c, rfl⟩
def on1 (f : Value → Sem Value) : List Value → Sem Value
  | [u] => f u
  | _ => unsupported "internal"
def on2 (f : Value → Value → Sem Value) : List Value → Sem Value
  | [u, v] => f u v
  | _ => unsupported "internal"
def on3 (f : Value → Value → Value → Sem Value) : List Value → Sem Value
  | [u, v, w] => f u v w
  | _ => unsupported "internal"
/-- a value that is an int -/
def Val.asInt : Val → Option Int
  | .int i => some i
  | _ => Option.none
theorem Val.asInt_some {v : Val} {i : Int} (h : v.asInt = some i) : v = .int i := by cases v <;> simp [Val.asInt] at h; rw [h]
section
variable {X : Ctx}
/-- two ints -/
theorem pok_int2 {p : Prim} {op : Value → Value → Sem Value} {c : Int → Int → Bool} {g : Int → Int → Val} (hp : ∀ a b h, prim X.C.base p [.int a, .int b] h = if c a b then .ok (g a b) h else .no) (hno : ∀ v w h, (v.asInt = none ∨ w.asInt = none) → prim X.C.base p [v, w] h = .no)
    (hop : ∀ a b t t' s (Q F : Value → Shared → Prop), c a b = true → (∀ tk (u : Value), RV X.G (fun _ => none) [] (g a b) u → Q u { s with toks := tk }) → wpAny X.M X.A (op (.int a t) (.int b t')) Q F s) (hg : ∀ a b G T φ u, RV G (fun _ => none) [] (g a b) u → RV G T φ (g a b) u) : POk X p 2 (on2 op) := by
  intro vs us T φ ρ h s F hl S r hn
  obtain ⟨v, w, rfl⟩ := len2 hl
  obtain ⟨u, z, rfl, r1, r2⟩ := r.two
  cases hv : v.asInt with
  | none => exact absurd (hno v w h (.inl hv)) hn
  | some a =>
    cases hw : w.asInt with
    | none => exact absurd (hno v w h (.inr hw)) hn
    | some b =>
      rw [Val.asInt_some hv] at hn r1 ⊢
      rw [Val.asInt_some hw] at hn r2 ⊢
      rw [hp] at hn ⊢
      cases hc : c a b with
      | false => rw [hc] at hn; exact absurd rfl hn
      | true =>
        simp only [RV] at r1 r2
        obtain ⟨t, rfl⟩ := r1
        obtain ⟨t', rfl⟩ := r2
        exact hop a b t t' s _ F hc fun tk u hu => QV.tok S (hg a b _ _ _ u hu)
theorem rv_int {G : Glo} {T : GT} {φ : List Addr} {i : Int} {t : Tok} : RV G T φ (.int i) (.int i t) := by simp [RV]
theorem rv_bool {G : Glo} {T : GT} {φ : List Addr} {b : Bool} : RV G T φ (.bool b) (.bool b) := by simp [RV]
theorem rv_none {G : Glo} {T : GT} {φ : List Addr} : RV G T φ .none .none := by simp [RV]
theorem rvI {G : Glo} {T T' : GT} {φ φ' : List Addr} {i : Int} {u : Value} (h : RV G T φ (.int i) u) : RV G T' φ' (.int i) u := by simpa [RV] using h
theorem rvB {G : Glo} {T T' : GT} {φ φ' : List Addr} {i : Bool} {u : Value} (h : RV G T φ (.bool i) u) : RV G T' φ' (.bool i) u := by simpa [RV] using h
theorem noInt2 {base : Nat} {p : Prim} (hp : p = .sub ∨ p = .fdiv ∨ p = .mod ∨ p = .pow ∨ p = .lt ∨ p = .le ∨ p = .gt ∨ p = .ge ∨ p = .min2 ∨ p = .max2) : ∀ (v w : Val) (h : Hp), (v.asInt = none ∨ w.asInt = none) → prim base p [v, w] h = .no := by
  intro v w h q
  rcases hp with rfl | rfl | rfl | rfl | rfl | rfl | rfl | rfl | rfl | rfl <;> cases v <;> cases w <;> simp [Val.asInt] at q <;> rfl
theorem p_sub : POk X .sub 2 (on2 (binaryOp .Sub)) := pok_int2 (c := fun _ _ => true) (g := fun a b => .int (a - b)) (fun _ _ _ => rfl) (noInt2 (by simp)) (fun a b t t' s Q F _ hq => sub_int (hq _ _ rv_int)) fun _ _ _ _ _ _ => rvI
theorem p_fdiv : POk X .fdiv 2 (on2 (binaryOp .FloorDiv)) := pok_int2 (c := fun a b => okD b) (g := fun a b => .int (a.fdiv b)) (fun a b h => rfl) (noInt2 (by simp)) (fun a b t t' s Q F hc hq => by
  have h2 : 0 < b ∧ (b.natAbs.log2 < 9000) := by simpa [okD] using hc
  exact floordiv_int (by omega) (hq _ _ rv_int) (.inl (PyProof.noPylong_of_log2 h2.2))) fun _ _ _ _ _ _ => rvI
theorem p_mod : POk X .mod 2 (on2 (binaryOp .Mod)) := pok_int2 (c := fun a b => !decide (b = 0)) (g := fun a b => .int (a.fmod b)) (fun a b h => by
    show (if b = 0 then R.no else R.ok (Val.int (a.fmod b)) h) = _
    by_cases z : b = 0 <;> simp [z]) (noInt2 (by simp)) (fun a b t t' s Q F hc hq => by
  have h2 : b ≠ 0 := by simpa using hc
  exact mod_int' h2 (hq _ _ rv_int)) fun _ _ _ _ _ _ => rvI
theorem p_pow : POk X .pow 2 (on2 (binaryOp .Pow)) := pok_int2 (c := fun a b => decide (0 ≤ b) && decide (b ≤ 30) && decide (a.natAbs.log2 < 100000)) (g := fun a b => .int (a ^ b.toNat)) (fun a b h => rfl) (noInt2 (by simp)) (fun a b t t' s Q F hc hq => by
  have h2 : (0 ≤ b ∧ b ≤ 30) ∧ (a.natAbs.log2 < 100000) := by simpa using hc
  refine pow_int h2.1.1 ?_ (hq _ _ rv_int)
  have : Builtin.Int.intBits a ≤ a.natAbs.log2 + 1 := by unfold Builtin.Int.intBits; split <;> omega
  have h3 : (Builtin.Int.intBits a : Int) ≤ 100000 := by omega
  have h4 : (Builtin.Int.intBits a : Int) * b ≤ 100000 * 30 := Int.mul_le_mul h3 h2.1.2 h2.1.1 (by omega)
  omega) fun _ _ _ _ _ _ => rvI
theorem p_lt : POk X .lt 2 (on2 (compareOp .Lt)) := pok_int2 (c := fun _ _ => true) (g := fun a b => .bool (decide (a < b))) (fun _ _ _ => rfl) (noInt2 (by simp)) (fun a b t t' s Q F _ hq => lt_int (hq s.toks _ rv_bool)) fun _ _ _ _ _ _ => rvB
theorem p_le : POk X .le 2 (on2 (compareOp .LtE)) := pok_int2 (c := fun _ _ => true) (g := fun a b => .bool (decide (a ≤ b))) (fun _ _ _ => rfl) (noInt2 (by simp)) (fun a b t t' s Q F _ hq => le_int (hq s.toks _ rv_bool)) fun _ _ _ _ _ _ => rvB
theorem p_gt : POk X .gt 2 (on2 (compareOp .Gt)) := pok_int2 (c := fun _ _ => true) (g := fun a b => .bool (decide (b < a))) (fun _ _ _ => rfl) (noInt2 (by simp)) (fun a b t t' s Q F _ hq => gt_int (hq s.toks _ rv_bool)) fun _ _ _ _ _ _ => rvB
theorem p_ge : POk X .ge 2 (on2 (compareOp .GtE)) := pok_int2 (c := fun _ _ => true) (g := fun a b => .bool (decide (b ≤ a))) (fun _ _ _ => rfl) (noInt2 (by simp)) (fun a b t t' s Q F _ hq => ge_int (hq s.toks _ rv_bool)) fun _ _ _ _ _ _ => rvB
/-- one value that is told by its kind alone -/
theorem p_neg : POk X .neg 1 (on1 (unaryOp .USub)) := by
  intro vs us T φ ρ h s F hl S r hn
  obtain ⟨v, rfl⟩ := len1 hl
  obtain ⟨u, rfl, r1⟩ := r.one
  cases v with
  | int a => simp only [RV] at r1; obtain ⟨t, rfl⟩ := r1; exact neg_int (QV.tok S rv_int)
  | _ => exact absurd rfl hn
theorem p_abs : POk X .abs 1 (on1 fun u => call (.builtin "abs") [u]) := by
  intro vs us T φ ρ h s F hl S r hn
  obtain ⟨v, rfl⟩ := len1 hl
  obtain ⟨u, rfl, r1⟩ := r.one
  cases v with
  | int a => simp only [RV] at r1; obtain ⟨t, rfl⟩ := r1; exact call_abs_int fun u tk => QV.tok S rv_int
  | _ => exact absurd rfl hn
theorem p_int : POk X .int 1 (on1 fun u => call (.type "int") [u]) := by
  intro vs us T φ ρ h s F hl S r hn
  obtain ⟨v, rfl⟩ := len1 hl
  obtain ⟨u, rfl, r1⟩ := r.one
  cases v with
  | int a => simp only [RV] at r1; obtain ⟨t, rfl⟩ := r1; exact call_int_int (QV.here S rv_int)
  | bool b => simp only [RV] at r1; subst r1; exact call_int_bool (QV.tok S rv_int)
  | _ => exact absurd rfl hn
theorem p_not : POk X .not 1 (on1 (unaryOp .Not)) := by
  intro vs us T φ ρ h s F hl S r hn
  obtain ⟨v, rfl⟩ := len1 hl
  obtain ⟨u, rfl, r1⟩ := r.one
  have e : prim X.C.base .not [v] h = (ofO (v.tru h) h).bind fun b h => .ok (.bool (!b)) h := by cases v <;> rfl
  rw [e] at hn ⊢
  cases q : v.tru h with
  | none => rw [q] at hn; exact absurd rfl hn
  | some b => exact not_of (truthy_ok S r1 q fun tk => QV.tok S rv_bool)
theorem RV.isNone {T : GT} {φ : List Addr} {v : Val} {u : Value} (r : RV X.G T φ v u) : (u == Value.none) = (match v with | .none => true | _ => false) := by
  cases v <;> simp only [RV] at r
  · subst r; rfl
  · subst r; rfl
  · obtain ⟨t, rfl⟩ := r; rfl
  · obtain ⟨t, rfl⟩ := r; rfl
  · obtain ⟨a, o, us, n, rfl, _⟩ := r; rfl
  · obtain ⟨a, us, n, rfl, _⟩ := r; rfl
  · obtain ⟨a, _, rfl⟩ := r; rfl
  · obtain ⟨a, _, rfl⟩ := r; rfl
  · obtain ⟨f, o, ps, e, sc, q, ns, cl, pm, cdv, ctv, rfl, _⟩ := r; rfl
  · obtain ⟨a, C, d, o, us, rfl, _⟩ := r; rfl

/-! ### data -/
theorem mapO_len {α β : Type} {f : α → Option β} : ∀ {xs : List α} {ys : List β}, mapO f xs = some ys → xs.length = ys.length
  | [], ys, h => by simp only [mapO, Option.some.injEq] at h; subst h; rfl
  | x :: r, ys, h => by
    simp only [mapO] at h
    split at h
    · rename_i d t h1 h2; cases h; simp [mapO_len h2]
    · cases h
theorem reads_ok : ∀ (k : Nat) {T : GT} {φ : List Addr} {h : Hp} {s : Shared} (v : Val) (u : Value) (d : PD), Inv X.G T X.stk s → Sim X.G T φ X.bs h → RV X.G T φ v u → v.dat h k = some d → ∃ as, Reads s.heap u d as := by
  intro k
  induction k with
  | zero =>
    intro T φ h s v u d I S r e
    cases v <;> simp only [Val.dat] at e <;> first | (cases e; done) | skip
    · cases e; simp only [RV] at r; subst r; exact ⟨_, .none⟩
    · cases e; simp only [RV] at r; subst r; exact ⟨_, .bool _⟩
    · cases e; simp only [RV] at r; obtain ⟨t, rfl⟩ := r; exact ⟨_, .int _ _⟩
    · split at e <;> cases e; simp only [RV] at r; obtain ⟨t, rfl⟩ := r; exact ⟨_, .str _ _⟩
  | succ k ih =>
    intro T φ h s v u d I S r e
    have all : ∀ (xs : List Val) (us : List Value) (ds : List PD), RVs X.G T φ xs us → mapO (Val.dat h k) xs = some ds → ∃ as, ReadsAll s.heap us ds as := by
      intro xs
      induction xs with
      | nil => intro us ds r e; simp only [RVs] at r; simp only [mapO, Option.some.injEq] at e; subst r; subst e; exact ⟨_, .nil⟩
      | cons x xs ihx =>
        intro us ds r e
        simp only [RVs] at r
        obtain ⟨u, t, rfl, r1, r2⟩ := r
        simp only [mapO] at e
        split at e
        · rename_i d t' h1 h2
          cases e
          obtain ⟨as, q1⟩ := ih x u d I S r1 h1
          obtain ⟨bs, q2⟩ := ihx t t' r2 h2
          exact ⟨_, .cons q1 q2⟩
        · cases e
    cases v with
    | none => simp only [Val.dat] at e; cases e; simp only [RV] at r; subst r; exact ⟨_, .none⟩
    | bool b => simp only [Val.dat] at e; cases e; simp only [RV] at r; subst r; exact ⟨_, .bool _⟩
    | int i => simp only [Val.dat] at e; cases e; simp only [RV] at r; obtain ⟨t, rfl⟩ := r; exact ⟨_, .int _ _⟩
    | str x => simp only [Val.dat] at e; split at e <;> cases e; simp only [RV] at r; obtain ⟨t, rfl⟩ := r; exact ⟨_, .str _ _⟩
    | tup xs =>
      simp only [Val.dat, Option.map_eq_some_iff] at e
      obtain ⟨ds, e1, rfl⟩ := e
      simp only [RV] at r
      obtain ⟨a, o, us, n, rfl, h2, h3, h4, h5, h6⟩ := r
      obtain ⟨as, q⟩ := all xs us ds h6 e1
      exact ⟨_, .tuple (I.ok _ _ h2) h3 h4 (by simpa using q)⟩
    | lst xs =>
      simp only [Val.dat, Option.map_eq_some_iff] at e
      obtain ⟨ds, e1, rfl⟩ := e
      simp only [RV] at r
      obtain ⟨a, us, n, rfl, h2, h5, h6⟩ := r
      obtain ⟨as, q⟩ := all xs us ds h6 e1
      exact ⟨_, .list (I.ok _ _ h2) rfl rfl (by simpa using q)⟩
    | ref i =>
      simp only [RV] at r
      obtain ⟨a, h1, rfl⟩ := r
      simp only [Val.dat] at e
      cases q : h.at i with
      | none => rw [q] at e; cases e
      | some ob =>
        have so := S.ob i a ob h1 q
        rw [q] at e
        cases ob with
        | lst xs =>
          simp only [Option.map_eq_some_iff] at e
          obtain ⟨ds, e1, rfl⟩ := e
          obtain ⟨us, h3, h4⟩ := so
          obtain ⟨z, n, h5⟩ := I.ok _ _ h3
          obtain ⟨as, q⟩ := all xs us ds h4 e1
          exact ⟨_, .list h5 rfl rfl (by simpa using q)⟩
        | lck xs =>
          simp only [Option.map_eq_some_iff] at e
          obtain ⟨ds, e1, rfl⟩ := e
          obtain ⟨us, n, h3, z, h4⟩ := so
          obtain ⟨as, q⟩ := all xs us ds h4 e1
          exact ⟨_, .list (I.ok _ _ h3) rfl rfl (by simpa using q)⟩
        | dct _ _ => cases e
        | cel _ => cases e
    | dct _ _ => simp [Val.dat] at e
    | fn _ => simp [Val.dat] at e
    | clo _ _ => simp [Val.dat] at e
    | exc _ _ => simp [Val.dat] at e
theorem dat_shape : ∀ (k : Nat) (h : Hp) (v : Val) (d : PD), v.dat h k = some d → d.canLay0 = true ∧ d.depth ≤ k + 1 := by
  intro k
  induction k with
  | zero =>
    intro h v d e
    cases v <;> simp only [Val.dat] at e <;> first | (cases e; done) | (cases e; simp [PyData.canLay0, PyData.depth]; done) | (split at e <;> cases e; simp_all [PyData.canLay0, PyData.depth])
  | succ k ih =>
    intro h v d e
    have all : ∀ (xs : List Val) (ds : List PD), mapO (Val.dat h k) xs = some ds → PyData.canLayAll0 ds = true ∧ PyData.depthAll ds ≤ k + 1 := by
      intro xs
      induction xs with
      | nil => intro ds e; simp only [mapO, Option.some.injEq] at e; subst e; simp [PyData.canLayAll0, PyData.depthAll]
      | cons x xs ihx =>
        intro ds e
        simp only [mapO] at e
        split at e
        · rename_i d t' h1 h2
          cases e
          obtain ⟨a1, a2⟩ := ih h x d h1
          obtain ⟨b1, b2⟩ := ihx t' h2
          simp only [PyData.canLayAll0, PyData.depthAll, a1, b1, Bool.and_self, true_and]
          omega
        · cases e
    cases v with
    | tup xs =>
      simp only [Val.dat, Option.map_eq_some_iff] at e
      obtain ⟨ds, e1, rfl⟩ := e
      obtain ⟨a1, a2⟩ := all xs ds e1
      simp only [PyData.canLay0, PyData.depth, a1, true_and]; omega
    | lst xs =>
      simp only [Val.dat, Option.map_eq_some_iff] at e
      obtain ⟨ds, e1, rfl⟩ := e
      obtain ⟨a1, a2⟩ := all xs ds e1
      simp only [PyData.canLay0, PyData.depth, a1, true_and]; omega
    | ref i =>
      simp only [Val.dat] at e
      cases q : h.at i with
      | none => rw [q] at e; cases e
      | some ob =>
        rw [q] at e
        cases ob <;> simp only [Option.map_eq_some_iff] at e <;> first | (cases e; done) | (obtain ⟨ds, e1, rfl⟩ := e; obtain ⟨a1, a2⟩ := all _ ds e1; simp only [PyData.canLay0, PyData.depth, a1, true_and]; omega)
    | _ => simp only [Val.dat] at e; first | (cases e; done) | (cases e; simp [PyData.canLay0, PyData.depth]; done) | (split at e <;> cases e; simp_all [PyData.canLay0, PyData.depth])
theorem dat_shaped {h : Hp} {v : Val} {d : PD} (e : v.dat h 30 = some d) : SeqAt.shaped d = true := by
  obtain ⟨a, b⟩ := dat_shape 30 h v d e
  show (d.canLay0 && decide (d.depth ≤ 64)) = true
  rw [a, Bool.true_and]; exact decide_eq_true (by omega)
theorem pyEq_some {h : Hp} {a b : Val} {c : Bool} (e : pyEq h a b = some c) : ∃ x y, a.dat h 30 = some x ∧ b.dat h 30 = some y ∧ c = PyData.eqv x y := by
  unfold pyEq at e
  split at e
  · rename_i x y h1 h2; cases e; exact ⟨x, y, h1, h2, rfl⟩
  · cases e
theorem p_eq (ok : X.Ok) : POk X .eq 2 (on2 (compareOp .Eq)) := by
  intro vs us T φ ρ h s F hl S r hn
  obtain ⟨v, w, rfl⟩ := len2 hl
  obtain ⟨u, z, rfl, r1, r2⟩ := r.two
  have e : prim X.C.base .eq [v, w] h = (ofO (pyEq h v w) h).bind fun b h => .ok (.bool b) h := by cases v <;> cases w <;> rfl
  rw [e] at hn ⊢
  cases q : pyEq h v w with
  | none => rw [q] at hn; exact absurd rfl hn
  | some b =>
    obtain ⟨x, y, h1, h2, rfl⟩ := pyEq_some q
    obtain ⟨as, q1⟩ := reads_ok 30 v u x S.inv S.sim r1 h1
    obtain ⟨bs, q2⟩ := reads_ok 30 w z y S.inv S.sim r2 h2
    exact SeqAt.compareEq_shaped q1 q2 (dat_shaped h1) (dat_shaped h2) (by have := ok.un; omega) (QV.here S rv_bool)
theorem p_ne (ok : X.Ok) : POk X .ne 2 (on2 (compareOp .NotEq)) := by
  intro vs us T φ ρ h s F hl S r hn
  obtain ⟨v, w, rfl⟩ := len2 hl
  obtain ⟨u, z, rfl, r1, r2⟩ := r.two
  have e : prim X.C.base .ne [v, w] h = (ofO (pyEq h v w) h).bind fun b h => .ok (.bool (!b)) h := by cases v <;> cases w <;> rfl
  rw [e] at hn ⊢
  cases q : pyEq h v w with
  | none => rw [q] at hn; exact absurd rfl hn
  | some b =>
    obtain ⟨x, y, h1, h2, rfl⟩ := pyEq_some q
    obtain ⟨as, q1⟩ := reads_ok 30 v u x S.inv S.sim r1 h1
    obtain ⟨bs, q2⟩ := reads_ok 30 w z y S.inv S.sim r2 h2
    exact SeqAt.compareNe_shaped q1 q2 (dat_shaped h1) (dat_shaped h2) (by have := ok.un; omega) (QV.here S rv_bool)
end
end Mp
/-! W4: operations on lists and tuples. -/
namespace Mp
open PySem PySem.Spec PyProof.Rows
section
variable {X : Ctx}
/-- a list's object -/
theorem RV.itemsI {T : GT} {φ : List Addr} {ρ : Mp.Env} {h : Hp} {s : Shared} {v : Val} {u : Value} {xs : List Val} (S : St X T φ ρ h s) (r : RV X.G T φ v u) (e : v.items h = some xs) :
    ∃ a us n, u = .ref a ∧ RVs X.G T φ xs us ∧ us.length ≤ sizeLine ∧ s.heap.get? a = some (listO us n) := by
  cases v with
  | lst ys =>
    simp only [Val.items, Option.some.injEq] at e; subst e
    simp only [RV] at r
    obtain ⟨a, us, n, h1, h2, h3, h4⟩ := r
    exact ⟨a, us, n, h1, h4, h3, S.inv.ok _ _ h2⟩
  | ref i =>
    simp only [RV] at r
    obtain ⟨a, h1, h2⟩ := r
    simp only [Val.items] at e
    cases q : h.at i with
    | none => rw [q] at e; cases e
    | some ob =>
      rw [q] at e
      have so := S.sim.ob i a ob h1 q
      cases ob with
      | lst ys =>
        simp only [Option.some.injEq] at e; subst e
        obtain ⟨us, h3, h4⟩ := so
        obtain ⟨z, n, h5⟩ := S.inv.ok _ _ h3
        exact ⟨a, us, n, h2, h4, z, h5⟩
      | lck ys =>
        simp only [Option.some.injEq] at e; subst e
        obtain ⟨us, n, h3, z, h4⟩ := so
        exact ⟨a, us, n, h2, h4, z, S.inv.ok _ _ h3⟩
      | dct _ _ => cases e
      | cel _ => cases e
  | _ => simp [Val.items] at e
theorem plain_of {s : Shared} {a : Addr} {us : List Value} {n : Nat} (e : s.heap.get? a = some (listO us n)) : PlainL s.heap a us.toArray := ⟨_, n, e, rfl, rfl, rfl⟩
theorem listO_is {s : Shared} {a : Addr} {us : List Value} {n : Nat} (e : s.heap.get? a = some (listO us n)) : s.heap.IsList a us.toArray := ⟨_, e, rfl, n, rfl⟩
/-! ### len, list(x), tuple(x), in, index -/
theorem p_len : POk X .len 1 (on1 fun u => call (.builtin "len") [u]) := by
  intro vs us T φ ρ h s F hl S r hn
  obtain ⟨v, rfl⟩ := len1 hl
  obtain ⟨u, rfl, r1⟩ := r.one
  have hl := L2.line63
  have go : ∀ xs, v.seq h = some xs → prim X.C.base .len [v] h = .ok (.int xs.length) h → wpAny X.M X.A (on1 (fun u => call (.builtin "len") [u]) [u]) (QV X T φ (prim X.C.base .len [v] h)) F s := fun xs e1 e2 => by
    obtain ⟨a, us, rfl, h2, h3, h4⟩ := RV.seqI S r1 e1
    rw [e2, h2.length]
    rcases h4 with p | p
    · refine Calls.call_len_list p.isList (by simp only [List.size_toArray]; omega) ?_
      rw [List.size_toArray]; exact QV.tok S rv_int
    · refine len_tuple p (by simp only [List.size_toArray]; omega) ?_
      rw [List.size_toArray]; exact QV.tok S rv_int
  cases v with
  | lst xs => exact go xs rfl rfl
  | tup xs => exact go xs rfl rfl
  | ref i =>
    cases q : (Val.ref i).seq h with
    | none => exact absurd (by show (match (Val.ref i).seq h with | some xs => R.ok (Val.int xs.length) h | none => .no) = _; rw [q]) hn
    | some xs => exact go xs q (by show (match (Val.ref i).seq h with | some xs => R.ok (Val.int xs.length) h | none => .no) = _; rw [q])
  | str x =>
    have hn2 : (if x.length ≤ 100000 then R.ok (Val.int x.length) h else R.no) ≠ .no := hn
    by_cases z : x.length ≤ 100000
    · have e : prim X.C.base .len [.str x] h = R.ok (Val.int x.length) h := if_pos z
      rw [e]
      simp only [RV] at r1
      obtain ⟨t, rfl⟩ := r1
      have hz := small_line z
      exact len_str (by omega) (QV.tok S rv_int)
    · rw [if_neg z] at hn2; exact absurd rfl hn2
  | dct _ _ => simp [RV] at r1
  | none => exact absurd rfl hn
  | bool _ => exact absurd rfl hn
  | int _ => exact absurd rfl hn
  | fn _ => exact absurd rfl hn
  | clo _ _ => exact absurd rfl hn
  | exc _ _ => exact absurd rfl hn
theorem QV.listAt {m : Bool} {T : GT} {φ : List Addr} {ρ : Mp.Env} {h : Hp} {s : Shared} {vs : List Val} {us : List Value} {tk : Tok} {a : Addr} {n : Nat} {h' : Heap} (S : St X T φ ρ h s) (r : RVs X.G T φ vs us) (z : us.length ≤ sizeLine)
    (k : ∀ b o, s.heap.get? b = some o → h'.get? b = some o) (ha : T a = none) (e : h'.get? a = some (listO us n)) : QV X T φ (newL m vs h) (.ref a) { s with heap := h', toks := tk } := by
  cases m with
  | false =>
    have E : Ext NoO T (T.set a (.lock (listO us n))) := .new ha
    exact ⟨.lst vs, h, T.set a (.lock (listO us n)), φ, rfl, ⟨S.inv.new k ha e, E, List.prefix_refl _, fun _ m => .inl m, S.sim.mono E fun b m => GT.set_ne fun q => S.sim.tr b m (q ▸ ha)⟩, RV.lstI GT.set_same z (RVs.mono E (List.prefix_refl _) _ _ r)⟩
  | true =>
    have E : Ext NoO T (T.set a (.lst us)) := .new ha
    refine ⟨.ref h.length, h ++ [some (.lst vs)], T.set a (.lst us), φ ++ [a], rfl, ⟨S.inv.new k ha ⟨z, n, e⟩, E, List.prefix_append _ _, fun b m => ?_, ?_⟩, ?_⟩
    · rcases List.mem_append.mp m with q | q
      · exact .inl q
      · have : b = a := by simpa using q
        subst this; exact .inr ha
    · exact S.sim.push (O := NoO) ha ⟨us, GT.set_same, RVs.mono E (List.prefix_append _ _) _ _ r⟩
    · simp only [RV]
      exact ⟨a, by rw [← S.sim.len]; simp, rfl⟩
theorem QV.tupAt {T : GT} {φ : List Addr} {ρ : Mp.Env} {h : Hp} {s : Shared} {vs : List Val} {us : List Value} {tk : Tok} {a : Addr} {h' : Heap} (S : St X T φ ρ h s) (r : RVs X.G T φ vs us) (z : us.length ≤ sizeLine)
    (k : ∀ b o, s.heap.get? b = some o → h'.get? b = some o) (ha : T a = none) (e : h'.get? a = some { cls := .type "tuple", data := .seq us.toArray }) : QV X T φ (.ok (.tup vs) h) (.ref a) { s with heap := h', toks := tk } := by
  have E : Ext NoO T (T.set a (.lock { cls := .type "tuple", data := .seq us.toArray })) := .new ha
  exact ⟨.tup vs, h, _, φ, rfl, ⟨S.inv.new k ha (show GOk h' a (.lock _) from e), E, List.prefix_refl _, fun _ m => .inl m, S.sim.mono E fun b m => GT.set_ne fun q => S.sim.tr b m (q ▸ ha)⟩, RV.tupI GT.set_same z (RVs.mono E (List.prefix_refl _) _ _ r)⟩
theorem p_list {m : Bool} : POk X (.list m) 1 (on1 fun u => call (.type "list") [u]) := by
  intro vs us T φ ρ h s F hl S r hn
  obtain ⟨v, rfl⟩ := len1 hl
  obtain ⟨u, rfl, r1⟩ := r.one
  have e : prim X.C.base (.list m) [v] h = match v.seq h with | some xs => newL m xs h | none => .no := by cases v <;> rfl
  rw [e] at hn ⊢
  cases q : v.seq h with
  | none => rw [q] at hn; exact absurd rfl hn
  | some xs =>
    obtain ⟨a, us, rfl, h2, h3, h4⟩ := RV.seqI S r1 q
    have hf : T s.heap.objs.size = none := S.inv.fresh (Nat.le_refl _)
    have hl := L2.line63
    rcases h4 with p | p
    · obtain ⟨o, ho, hc, n, hd⟩ := p.isList
      exact call_list_seq a (.inl rfl) ho hc hd (fun h' c' kp e => QV.listAt S h2 h3 kp hf e) (by simp only [List.size_toArray]; omega)
    · obtain ⟨o, ho, hc, n, hd⟩ := p
      exact call_list_seq a (.inr rfl) ho hc hd (fun h' c' kp e => QV.listAt S h2 h3 kp hf e) (by simp only [List.size_toArray]; omega)
theorem p_tuple : POk X .tuple 1 (on1 fun u => call (.type "tuple") [u]) := by
  intro vs us T φ ρ h s F hl S r hn
  obtain ⟨v, rfl⟩ := len1 hl
  obtain ⟨u, rfl, r1⟩ := r.one
  have e : prim X.C.base .tuple [v] h = match v.seq h with | some xs => .ok (.tup xs) h | none => .no := by cases v <;> rfl
  rw [e] at hn ⊢
  have hl := L2.line63
  have go : ∀ xs, v.items h = some xs → v.seq h = some xs → wpAny X.M X.A (on1 (fun u => call (.type "tuple") [u]) [u]) (QV X T φ (.ok (.tup xs) h)) F s := fun xs e1 e2 => by
    obtain ⟨a, us, n, rfl, h2, h3, h4⟩ := RV.itemsI S r1 e1
    refine call_tuple_list (listO_is h4) (fun h' kp => ?_) (by simp only [List.size_toArray]; omega)
    have I1 := S.inv.kept (h' := h') (tk := s.toks) kp
    exact QV.tupAt (a := h'.objs.size) S h2 h3 (fun b o e => Heap.get?_push_of_some _ (kp b o e)) (I1.fresh (Nat.le_refl _)) (Heap.get?_push_size _ rfl)
  cases v with
  | tup xs =>
    have r2 := r1
    obtain ⟨a, us, rfl, h2, h3, h4⟩ := RV.seqI S r1 (xs := xs) rfl
    rcases h4 with p | p
    · simp only [RV] at r2
      obtain ⟨a', o, us', n, e1, e2, e3, e4, _⟩ := r2
      cases e1
      obtain ⟨o', n', e5, e6, _⟩ := p
      have := S.inv.ok _ _ e2
      have e7 : some o = some o' := this.symm.trans e5
      cases e7; rw [e3] at e6; exact absurd (Value.type.inj e6) (by decide)
    · exact call_tuple_same (items := us.toArray) p (QV.here S r2)
  | lst xs => exact go xs rfl rfl
  | ref i =>
    have e3 : (Val.ref i).seq h = (Val.ref i).items h := rfl
    cases q : (Val.ref i).seq h with
    | none => rw [q] at hn; exact absurd rfl hn
    | some xs => exact go xs (e3 ▸ q) q
  | _ => exact absurd rfl hn
theorem reads_seq {T : GT} {φ : List Addr} {ρ : Mp.Env} {h : Hp} {s : Shared} (S : St X T φ ρ h s) : ∀ {xs : List Val} {us : List Value} {ds : List PD} (k : Nat), RVs X.G T φ xs us → mapO (Val.dat h k) xs = some ds → ∃ as, ReadsAll s.heap us ds as
  | [], us, ds, k, r, e => by simp only [RVs] at r; simp only [mapO, Option.some.injEq] at e; subst r; subst e; exact ⟨_, .nil⟩
  | x :: xs, us, ds, k, r, e => by
    simp only [RVs] at r
    obtain ⟨u, t, rfl, r1, r2⟩ := r
    simp only [mapO] at e
    split at e
    · rename_i d t' h1 h2
      cases e
      obtain ⟨as, q1⟩ := reads_ok k x u d S.inv S.sim r1 h1
      obtain ⟨bs, q2⟩ := reads_seq S k r2 h2
      exact ⟨_, .cons q1 q2⟩
    · cases e
theorem shape_all {h : Hp} {k : Nat} : ∀ {xs : List Val} {ds : List PD}, mapO (Val.dat h k) xs = some ds → PyData.canLayAll0 ds = true
  | [], ds, e => by simp only [mapO, Option.some.injEq] at e; subst e; simp [PyData.canLayAll0]
  | x :: xs, ds, e => by
    simp only [mapO] at e
    split at e
    · rename_i d t' h1 h2
      cases e
      simp only [PyData.canLayAll0, (dat_shape k h x d h1).1, shape_all h2, Bool.and_self]
    · cases e
theorem p_in (neg : Bool) (ok : X.Ok) : POk X (if neg then .nin else .inn) 2 (on2 (compareOp (if neg then .NotIn else .In))) := by
  intro vs us T φ ρ h s F hl S r hn
  obtain ⟨v, w, rfl⟩ := len2 hl
  obtain ⟨u, z, rfl, r1, r2⟩ := r.two
  have e : prim X.C.base (if neg then .nin else .inn) [v, w] h = match w.seq h with | some xs => (ofO (pyIn h v xs) h).bind fun b h => .ok (.bool (if neg then !b else b)) h | none => .no := by cases neg <;> cases v <;> cases w <;> rfl
  rw [e] at hn ⊢
  cases q : w.seq h with
  | none => rw [q] at hn; exact absurd rfl hn
  | some xs =>
    rw [q] at hn
    simp only at hn ⊢
    cases q2 : pyIn h v xs with
    | none => rw [q2] at hn; exact absurd rfl hn
    | some b =>
      unfold pyIn at q2
      split at q2
      · rename_i d ds h1 h2
        cases q2
        obtain ⟨as, k1⟩ := reads_ok 30 v u d S.inv S.sim r1 h1
        obtain ⟨a, us, rfl, g2, g3, g4⟩ := RV.seqI S r2 q
        obtain ⟨bs, k2⟩ := reads_seq S 29 g2 h2
        have hu := ok.un
        have room := PyProof.Rows.room_in_shaped (A := X.A) (xs := ds) (dat_shaped h1) (by omega)
        have c1 := SeqAt.canLay_of_shaped (dat_shaped h1)
        have c2 := shape_all h2
        rcases g4 with ⟨o, n, p1, p2, _, p3⟩ | ⟨o, p1, p2, n, p3⟩
        · have rd : Reads s.heap (.ref a) (.list ds) (a :: bs) := .list p1 p2 p3 (by simpa using k2)
          cases neg with
          | false => exact SeqAt.in_list_reads rd k1 c2 c1 room (QV.here S rv_bool)
          | true => exact SeqAt.notIn_list_reads rd k1 c2 c1 room (QV.here S rv_bool)
        · have rd : Reads s.heap (.ref a) (.tuple ds) bs := .tuple p1 p2 p3 (by simpa using k2)
          cases neg with
          | false => exact SeqAt.in_tuple_reads rd k1 c2 c1 room (QV.here S rv_bool)
          | true => exact SeqAt.notIn_tuple_reads rd k1 c2 c1 room (QV.here S rv_bool)
      · cases q2
/-! ### items -/
theorem place_seq {n : Nat} {i : Int} {j : Nat} (h : place n i = some j) : seqIndex? i n = some j ∧ j < n ∧ -(n : Int) ≤ i ∧ i < n := by
  refine L2.ixN_seq ?_
  unfold place at h
  unfold L2.ixN
  by_cases h0 : 0 ≤ i
  · rw [if_pos h0] at h ⊢; exact h
  · rw [if_neg h0] at h ⊢
    by_cases h1 : 0 ≤ i + n
    · rw [if_pos h1] at h; rw [if_pos (by omega)]; exact h
    · rw [if_neg h1] at h; cases h
/-- a[i], the model's operation -/
def sub2 (value slice : Expr) (a b : Value) : Sem Value := subscriptTail value slice a b
theorem p_ix {value slice : Expr} (hs : ∀ o i, subscripted slice false o i = operate [o, i] (getItem o i)) : POk X .ix 2 (on2 (sub2 value slice)) := by
  intro vs us T φ ρ h s F hl S r hn
  obtain ⟨v, w, rfl⟩ := len2 hl
  obtain ⟨u, z, rfl, r1, r2⟩ := r.two
  cases hw : w.asInt with
  | none => exact absurd (by cases v <;> cases w <;> simp [Val.asInt] at hw <;> rfl) hn
  | some i =>
    rw [Val.asInt_some hw] at hn r2 ⊢
    have e : prim X.C.base .ix [v, .int i] h = match v.seq h with | some xs => (ofO ((place xs.length i).bind fun k => xs[k]?) h) | none => .no := by cases v <;> rfl
    rw [e] at hn ⊢
    cases q : v.seq h with
    | none => rw [q] at hn; exact absurd rfl hn
    | some xs =>
      rw [q] at hn
      simp only at hn ⊢
      cases q1 : place xs.length i with
      | none => rw [q1] at hn; exact absurd rfl hn
      | some j =>
        rw [q1] at hn
        simp only [Option.bind_some] at hn ⊢
        cases q2 : xs[j]? with
        | none => rw [q2] at hn; exact absurd rfl hn
        | some x =>
          simp only [RV] at r2
          obtain ⟨t, rfl⟩ := r2
          obtain ⟨a, us, rfl, g2, g3, g4⟩ := RV.seqI S r1 q
          obtain ⟨w', ew, rw'⟩ := g2.at q2
          obtain ⟨c1, c2, c3, c4⟩ := place_seq q1
          have hl := g2.length
          have hn63 := L2.line63
          have fin : QV X T φ (ofO (some x) h) w' s := QV.here S rw'
          show wpAny _ _ (subscriptTail value slice (.ref a) (.int i t)) _ _ _
          rcases g4 with p | p
          · by_cases h0 : 0 ≤ i
            · have hj : i.toNat = j := by
                rw [seqIndex_of h0 c4] at c1
                exact Option.some.inj c1
              exact item_listR p.isList h0 (by omega) (by rw [hj]; simpa using ew) fin (hs _ _)
            · have hj : (i + (us.toArray.size : Int)).toNat = j := by
                rw [seqIndex_neg (by omega) c3] at c1
                rw [List.size_toArray, ← hl]
                exact Option.some.inj c1
              exact subscriptTail_builtinR (x := w') p.isList.typeIs slot_list_getitem.lookup
                (wpAny_getItem_list_neg (Q := fun r s' => r = w' ∧ QV X T φ (ofO (some x) h) r s') p.isList (by omega) (by rw [List.size_toArray] <;> omega) (by omega) (by rw [hj]; simpa using ew) ⟨rfl, fin⟩) (hs _ _)
          · exact subscriptTail_builtinR (x := w') p.typeIs slot_tuple_getitem.lookup
              (getItem_tuple (j := j) (Q := fun r s' => r = w' ∧ QV X T φ (ofO (some x) h) r s') p (by omega) (by omega) (by rw [List.size_toArray, ← hl]; exact c1) (by simpa using ew) ⟨rfl, fin⟩) (hs _ _)
/-! ### sums of lists and tuples -/
theorem p_add {m : Bool} : POk X (.add m) 2 (on2 (binaryOp .Add)) := by
  intro vs us T φ ρ h s F hl S r hn
  obtain ⟨v, w, rfl⟩ := len2 hl
  obtain ⟨u, z, rfl, r1, r2⟩ := r.two
  have hI : ∀ a b, v = .int a → w = .int b → wpAny X.M X.A (on2 (binaryOp .Add) [u, z]) (QV X T φ (prim X.C.base (.add m) [v, w] h)) F s := fun a b e1 e2 => by
    subst e1; subst e2
    simp only [RV] at r1 r2
    obtain ⟨t, rfl⟩ := r1
    obtain ⟨t', rfl⟩ := r2
    exact add_int (QV.tok S rv_int)
  have lists : ∀ a b, v.items h = some a → w.items h = some b → prim X.C.base (.add m) [v, w] h = (if a.length + b.length ≤ 100000 then newL m (a ++ b) h else .no) → wpAny X.M X.A (on2 (binaryOp .Add) [u, z]) (QV X T φ (prim X.C.base (.add m) [v, w] h)) F s := fun a b e1 e2 e3 => by
    rw [e3] at hn ⊢
    by_cases hz : a.length + b.length ≤ 100000
    · rw [if_pos hz]
      obtain ⟨p, us1, n1, rfl, a1, a2, a3⟩ := RV.itemsI S r1 e1
      obtain ⟨q, us2, n2, rfl, b1, b2, b3⟩ := RV.itemsI S r2 e2
      have l1 := a1.length
      have l2 := b1.length
      have hs := small_line hz
      refine PySem.P.add_list a3 b3 ?_ (by rw [List.size_toArray, List.size_toArray]; omega)
      have ea : us1.toArray ++ us2.toArray = (us1 ++ us2).toArray := by simp
      rw [ea]
      exact QV.list (n := 0) (tk := s.toks) S (a1.append b1) (by rw [List.length_append]; omega)
    · rw [if_neg hz] at hn; exact absurd rfl hn
  have other : (v.items h = none ∨ w.items h = none) → prim X.C.base (.add m) [v, w] h = (match v.items h, w.items h with | some a, some b => (if a.length + b.length ≤ 100000 then newL m (a ++ b) h else .no) | _, _ => .no) → False := fun e1 e2 => by
    rw [e2] at hn
    rcases e1 with e1 | e1 <;> rw [e1] at hn
    · exact hn rfl
    · cases q : v.items h <;> rw [q] at hn <;> exact hn rfl
  have gen : prim X.C.base (.add m) [v, w] h = (match v.items h, w.items h with | some a, some b => (if a.length + b.length ≤ 100000 then newL m (a ++ b) h else .no) | _, _ => .no) → wpAny X.M X.A (on2 (binaryOp .Add) [u, z]) (QV X T φ (prim X.C.base (.add m) [v, w] h)) F s := fun e => by
    cases q1 : v.items h with
    | none => exact (other (.inl q1) e).elim
    | some a =>
      cases q2 : w.items h with
      | none => exact (other (.inr q2) e).elim
      | some b => exact lists a b q1 q2 (by rw [e, q1, q2])
  by_cases hv : ∃ a, v = .int a
  · obtain ⟨a, e1⟩ := hv
    by_cases hw : ∃ b, w = .int b
    · obtain ⟨b, e2⟩ := hw
      exact hI a b e1 e2
    · refine gen ?_
      subst e1
      cases w <;> first | rfl | exact absurd ⟨_, rfl⟩ hw
  · by_cases ht : ∃ a b, v = .tup a ∧ w = .tup b
    · obtain ⟨a, b, rfl, rfl⟩ := ht
      have e : prim X.C.base (.add m) [.tup a, .tup b] h = if a.isEmpty || b.isEmpty || decide (100000 < a.length + b.length) then .no else .ok (.tup (a ++ b)) h := rfl
      rw [e] at hn ⊢
      by_cases hc : (a.isEmpty || b.isEmpty || decide (100000 < a.length + b.length)) = true
      · rw [if_pos hc] at hn; exact absurd rfl hn
      · rw [if_neg hc]
        have hc2 : a ≠ [] ∧ b ≠ [] ∧ a.length + b.length ≤ 100000 := by
          refine ⟨fun z => hc (by rw [z]; rfl), fun z => hc (by rw [z]; simp), ?_⟩
          by_cases z : a.length + b.length ≤ 100000
          · exact z
          · exact absurd (by rw [decide_eq_true (by omega : 100000 < a.length + b.length)]; simp) hc
        have r1' := r1
        have r2' := r2
        simp only [RV] at r1 r2
        obtain ⟨p, o1, us1, n1, rfl, h2, h3, h4, h5, h6⟩ := r1
        obtain ⟨q, o2, us2, n2, rfl, k2, k3, k4, k5, k6⟩ := r2
        have l1 := h6.length
        have l2 := k6.length
        have hs := small_line hc2.2.2
        have t1 : IsTup s.heap p us1.toArray := ⟨o1, S.inv.ok _ _ h2, h3, n1, h4⟩
        have t2 : IsTup s.heap q us2.toArray := ⟨o2, S.inv.ok _ _ k2, k3, n2, k4⟩
        refine HT.cat_tup t1 t2 (fun z => hc2.1 (by cases a with | nil => rfl | cons _ _ => simp at l1; subst z; simp at l1)) (fun z => absurd (by cases b with | nil => rfl | cons _ _ => subst z; simp at l2) hc2.2.1) (fun z => ?_) (by omega)
        exact QV.tup (tk := s.toks) S (h6.append k6) (by rw [List.length_append]; omega)
    · refine gen ?_
      cases v <;> first | (cases w <;> first | rfl | exact absurd ⟨_, _, rfl, rfl⟩ ht) | exact absurd ⟨_, rfl⟩ hv
end
end Mp
/-! W5: operations that write lists, and the rest. -/
namespace Mp
open PySem PySem.Spec PyProof.Rows
section
variable {X : Ctx}
def notAt (i : Nat) : Val → Bool
  | .ref b => decide (b ≠ i)
  | _ => true
/-- a list of the small heap that may be written -/
theorem St.refI {T : GT} {φ : List Addr} {ρ : Mp.Env} {h : Hp} {s : Shared} {i : Nat} {u : Value} {xs : List Val} (S : St X T φ ρ h s) (r : RV X.G T φ (.ref i) u) (e : h.at i = some (.lst xs)) :
    ∃ a us n, u = .ref a ∧ φ[i]? = some a ∧ T a = some (.lst us) ∧ RVs X.G T φ xs us ∧ us.length ≤ sizeLine ∧ s.heap.get? a = some (listO us n) ∧ ∀ b ∈ X.bs, i < b → RVs X.G T (φ.take b) xs us := by
  simp only [RV] at r
  obtain ⟨a, h1, h2⟩ := r
  obtain ⟨us, h3, h4⟩ := S.sim.ob i a _ h1 e
  obtain ⟨z, n, h5⟩ := S.inv.ok _ _ h3
  refine ⟨a, us, n, h2, h1, h3, h4, z, h5, fun b hb hi => ?_⟩
  obtain ⟨us', k1, k2⟩ := S.sim.low b hb i a _ hi h1 e
  rw [h3] at k1; cases k1; exact k2
theorem Good.write {T : GT} {φ : List Addr} {ρ : Mp.Env} {h : Hp} {s : Shared} {i : Nat} {a : Addr} {us : List Value} {n : Nat} {ys : List Val} {zs : List Value} {tk : Tok} {h' : Heap} (S : St X T φ ρ h s) (hi : φ[i]? = some a) (hT : T a = some (.lst us)) (ho : s.heap.get? a = some (listO us n))
    (r : RVs X.G T φ ys zs) (rl : ∀ b ∈ X.bs, i < b → RVs X.G T (φ.take b) ys zs) (z : zs.length ≤ sizeLine) (k : ∀ b o, b ≠ a → s.heap.get? b = some o → h'.get? b = some o) (e : ∃ m, h'.get? a = some (listO zs m)) :
    Good X NoO T φ (T.set a (.lst zs)) φ (h.put i (.lst ys)) { s with heap := h', toks := tk } := by
  have E : Ext NoO T (T.set a (.lst zs)) := .set (by rw [hT]; trivial)
  refine ⟨S.inv.put k E hT (fun ps q => by cases q) ⟨z, e⟩, E, List.prefix_refl _, fun _ m => .inl m, ?_⟩
  exact S.sim.write hi E (fun b hb => GT.set_ne hb) (by rw [GT.set_same]; simp) ⟨zs, GT.set_same, RVs.mono E (List.prefix_refl _) _ _ r⟩ fun b hb hib => ⟨zs, GT.set_same, RVs.mono E (List.prefix_refl _) _ _ (rl b hb hib)⟩
theorem wok_low {T : GT} {φ : List Addr} {i : Nat} {v : Val} {u : Value} (ok : X.Ok) (w : wok X.C.base i v = true) (r : RV X.G T φ v u) : ∀ b ∈ X.bs, i < b → RV X.G T (φ.take b) v u := fun b hb hib => by
  have h2 : X.C.base ≤ i ∨ v.low 0 = true := by simpa [wok] using w
  rcases h2 with h2 | h2
  · have := ok.bs b hb; omega
  · have := RV.low v u h2 r
    rw [List.take_zero] at this
    exact RV.mono (O := NoO) (.refl T) List.nil_prefix _ _ this
theorem RVs.wok {T : GT} {φ : List Addr} {i : Nat} (ok : X.Ok) : ∀ {vs : List Val} {us : List Value}, vs.all (Mp.wok X.C.base i) = true → RVs X.G T φ vs us → ∀ b ∈ X.bs, i < b → RVs X.G T (φ.take b) vs us
  | [], us, _, r, b, _, _ => by simp only [RVs] at r; subst r; exact .nil
  | v :: vs, us, w, r, b, hb, hib => by
    simp only [RVs] at r
    obtain ⟨u, t, rfl, r1, r2⟩ := r
    simp only [List.all_cons, Bool.and_eq_true] at w
    exact .cons (wok_low ok w.1 r1 b hb hib) (RVs.wok ok w.2 r2 b hb hib)
abbrev listO' (us : Array Value) (n : Nat) : Obj := { cls := .type "list", data := .seq us n }
theorem upd_at {h : Heap} {a : Addr} {us zs : List Value} {n : Nat} {f : Array Value → Array Value} (e : h.get? a = some (listO us n)) (hf : f us.toArray = zs.toArray) : ∃ m, (h.update a (Obj.mapSeq f)).get? a = some (listO zs m) := by
  rw [Heap.get?_update_self (Obj.mapSeq f) e rfl]
  show ∃ m, some (listO' (f us.toArray) _) = _
  rw [hf]; exact ⟨_, rfl⟩
theorem upd_ne {h : Heap} {a b : Addr} {o : Obj} {f : Obj → Obj} (n : b ≠ a) (e : h.get? b = some o) : (h.update a f).get? b = some o := by
  rw [Heap.get?_update_ne _ _ _ _ n]; exact e
theorem RVs.set {G : Glo} {T : GT} {φ : List Addr} {v : Val} {u : Value} (r1 : RV G T φ v u) : ∀ {xs : List Val} {us : List Value} (j : Nat), RVs G T φ xs us → RVs G T φ (xs.set j v) (us.set j u)
  | [], us, j, r => by simp only [RVs] at r; subst r; exact .nil
  | x :: xs, us, 0, r => by
    simp only [RVs] at r
    obtain ⟨w, t, rfl, a, b⟩ := r
    exact .cons r1 b
  | x :: xs, us, j + 1, r => by
    simp only [RVs] at r
    obtain ⟨w, t, rfl, a, b⟩ := r
    exact .cons a (RVs.set r1 j b)
theorem RVs.erase {G : Glo} {T : GT} {φ : List Addr} : ∀ {xs : List Val} {us : List Value} (j : Nat), RVs G T φ xs us → RVs G T φ (xs.eraseIdx j) (us.eraseIdx j)
  | [], us, j, r => by simp only [RVs] at r; subst r; exact .nil
  | x :: xs, us, 0, r => by
    simp only [RVs] at r
    obtain ⟨w, t, rfl, a, b⟩ := r
    exact b
  | x :: xs, us, j + 1, r => by
    simp only [RVs] at r
    obtain ⟨w, t, rfl, a, b⟩ := r
    exact .cons a (RVs.erase j b)
theorem p_append (ok : X.Ok) : POk X .append 2 (fun us => call (.builtin "list.append") us) := by
  intro vs us T φ ρ h s F hl S r hn
  obtain ⟨v, w, rfl⟩ := len2 hl
  obtain ⟨u, z, rfl, r1, r2⟩ := r.two
  cases v with
  | ref i =>
    cases q : h.at i with
    | none => exact absurd (by show (match h.at i with | some (.lst xs) => _ | _ => _) = _; rw [q]) hn
    | some ob =>
      cases ob with
      | lst xs =>
        have e : prim X.C.base .append [.ref i, w] h = if wok X.C.base i w && decide (xs.length < 100000) then .ok .none (h.put i (.lst (xs ++ [w]))) else .no := by
          show (match h.at i with | some (.lst xs) => _ | _ => _) = _; rw [q]
        rw [e] at hn ⊢
        cases hc : wok X.C.base i w && decide (xs.length < 100000) with
        | false => rw [hc] at hn; exact absurd rfl hn
        | true =>
          simp only [Bool.and_eq_true] at hc
          obtain ⟨a, us, n, rfl, g1, g2, g3, g4, g5, g6⟩ := S.refI r1 q
          have hlen := g3.length
          have hz := small_line (Nat.succ_le_of_lt (of_decide_eq_true hc.2))
          refine call_meets PySem.F.slot_list_append ⟨_, g5, rfl⟩ PySem.F.entry_list_append (PySem.F.args_list_append_2 _ _) (PySem.list_append a us.toArray n z (by rw [List.size_toArray]; omega)) ⟨g5, ?_⟩
          exact ⟨.none, _, _, _, rfl, Good.write (zs := us ++ [z]) S g1 g2 g5 (g3.append (.cons r2 .nil)) (fun b hb hi => (g6 b hb hi).append (.cons (wok_low ok hc.1 r2 b hb hi) .nil)) (by simp; omega)
            (fun b o nb eb => upd_ne nb eb) (upd_at g5 (by simp)), rv_none⟩
      | lck _ => exact absurd (by show (match h.at i with | some (.lst xs) => _ | _ => _) = _; rw [q]) hn
      | dct _ _ => exact absurd (by show (match h.at i with | some (.lst xs) => _ | _ => _) = _; rw [q]) hn
      | cel _ => exact absurd (by show (match h.at i with | some (.lst xs) => _ | _ => _) = _; rw [q]) hn
  | _ => exact absurd rfl hn
theorem p_extend (ok : X.Ok) : POk X .extend 2 (fun us => call (.builtin "list.extend") us) := by
  intro vs us T φ ρ h s F hl S r hn
  obtain ⟨v, w, rfl⟩ := len2 hl
  obtain ⟨u, z, rfl, r1, r2⟩ := r.two
  cases v with
  | ref i =>
    have e : prim X.C.base .extend [.ref i, w] h = match h.at i, w.items h with
      | some (.lst xs), some ys => if ys.all (wok X.C.base i) && decide (xs.length + ys.length < 100000) && notAt i w then .ok .none (h.put i (.lst (xs ++ ys))) else .no
      | _, _ => .no := rfl
    rw [e] at hn ⊢
    cases q : h.at i with
    | none => rw [q] at hn; exact absurd rfl hn
    | some ob =>
      rw [q] at hn
      cases ob with
      | lst xs =>
        cases q2 : w.items h with
        | none => rw [q2] at hn; exact absurd rfl hn
        | some ys =>
          rw [q2] at hn
          simp only at hn ⊢
          cases hc : ys.all (wok X.C.base i) && decide (xs.length + ys.length < 100000) && notAt i w with
          | false => rw [hc] at hn; exact absurd rfl hn
          | true =>
            simp only [Bool.and_eq_true] at hc
            obtain ⟨a, us, n, rfl, g1, g2, g3, g4, g5, g6⟩ := S.refI r1 q
            obtain ⟨a2, us2, n2, rfl, k1, k2, k3⟩ := RV.itemsI S r2 q2
            have l1 := g3.length
            have l2 := k1.length
            have hz := small_line (Nat.le_of_lt (of_decide_eq_true hc.1.2))
            have hz2 : us.toArray.size + us2.toArray.size ≤ sizeLine := by rw [List.size_toArray, List.size_toArray]; omega
            have hlong : ¬ (!us.toArray.isEmpty && Builtin.List.listTooLong (us.toArray.size + us2.toArray.size)) = true := by
              rw [L2.notLongL hz2, Bool.and_false]; exact Bool.false_ne_true
            refine call_meets PySem.F.slot_list_extend ⟨_, g5, rfl⟩ PySem.F.entry_list_extend (PySem.F.args_list_extend_2 _ _) (AutoSeq1.list_extend_list_list_0 a us.toArray n a2 us2.toArray n2 hlong (by rw [List.size_toArray]; omega) (by omega)) ⟨g5, k3, ?_⟩
            exact ⟨.none, _, _, _, rfl, Good.write (zs := us ++ us2) S g1 g2 g5 (g3.append k1) (fun b hb hi => (g6 b hb hi).append (RVs.wok ok hc.1.1 k1 b hb hi)) (by simp; omega)
              (fun b o nb eb => upd_ne nb eb) (upd_at g5 (by simp)), rv_none⟩
      | lck _ => exact absurd rfl hn
      | dct _ _ => exact absurd rfl hn
      | cel _ => exact absurd rfl hn
  | _ => exact absurd rfl hn
theorem p_popAt (ok : X.Ok) : POk X .popAt 2 (fun us => call (.builtin "list.pop") us) := by
  intro vs us T φ ρ h s F hl S r hn
  obtain ⟨v, w, rfl⟩ := len2 hl
  obtain ⟨u, z, rfl, r1, r2⟩ := r.two
  cases v with
  | ref i =>
    cases w with
    | int k =>
      have e : prim X.C.base .popAt [.ref i, .int k] h = match h.at i with
        | some (.lst xs) => match place xs.length k with
          | some j => match xs[j]? with
            | some v => .ok v (h.put i (.lst (xs.eraseIdx j)))
            | Option.none => .no
          | Option.none => .no
        | _ => .no := rfl
      rw [e] at hn ⊢
      cases q : h.at i with
      | none => rw [q] at hn; exact absurd rfl hn
      | some ob =>
        rw [q] at hn
        cases ob with
        | lst xs =>
          simp only at hn ⊢
          cases q1 : place xs.length k with
          | none => rw [q1] at hn; exact absurd rfl hn
          | some j =>
            rw [q1] at hn
            simp only at hn ⊢
            cases q2 : xs[j]? with
            | none => rw [q2] at hn; exact absurd rfl hn
            | some x =>
              simp only
              obtain ⟨a, us, n, rfl, g1, g2, g3, g4, g5, g6⟩ := S.refI r1 q
              simp only [RV] at r2
              obtain ⟨t, rfl⟩ := r2
              obtain ⟨c1, c2, c3, c4⟩ := place_seq q1
              have l1 := g3.length
              have h63 := L2.line63
              obtain ⟨y, hy, ry⟩ := g3.at q2
              have hel := List.length_eraseIdx_le us j
              have E : Ext NoO T (T.set a (.lst (us.eraseIdx j))) := .set (by rw [g2]; trivial)
              refine call_meets PySem.F.slot_list_pop ⟨_, g5, rfl⟩ PySem.F.entry_list_pop (PySem.F.args_list_pop_2 _ _)
                (MeetsSeq.list_pop_at a us.toArray n k t j y (fitsIndex_both (by omega) (by omega)) (by rw [List.size_toArray, ← l1]; exact c1) (by simpa using hy) (by rw [List.size_toArray]; omega)) ⟨g5, ?_⟩
              exact ⟨x, _, _, _, rfl, Good.write (zs := us.eraseIdx j) (tk := s.toks) S g1 g2 g5 (g3.erase j) (fun b hb hi => (g6 b hb hi).erase j) (by omega)
                (fun b o nb eb => upd_ne nb eb) (upd_at g5 (by simp)), RV.mono E (List.prefix_refl _) _ _ ry⟩
        | lck _ => exact absurd rfl hn
        | dct _ _ => exact absurd rfl hn
        | cel _ => exact absurd rfl hn
    | _ => exact absurd rfl hn
  | _ => exact absurd rfl hn
/-- o[k] = v -/
theorem p_setix (ok : X.Ok) {T : GT} {φ : List Addr} {ρ : Mp.Env} {h : Hp} {s : Shared} {F : Value → Shared → Prop} {v w x : Val} {u z y : Value} (S : St X T φ ρ h s) (r1 : RV X.G T φ v u) (r2 : RV X.G T φ w z) (r3 : RV X.G T φ x y) (hn : prim X.C.base .setix [v, w, x] h ≠ .no) :
    wpAny X.M X.A (setItem u z y) (fun _ s' => ∃ T' h', prim X.C.base .setix [v, w, x] h = .ok .none h' ∧ Good X NoO T φ T' φ h' s') F s := by
  cases v with
  | ref i =>
    cases w with
    | int k =>
      have e : prim X.C.base .setix [.ref i, .int k, x] h = match h.at i with
        | some (.lst xs) => match place xs.length k with
          | some j => if wok X.C.base i x then .ok .none (h.put i (.lst (xs.set j x))) else .no
          | Option.none => .no
        | _ => .no := rfl
      rw [e] at hn ⊢
      cases q : h.at i with
      | none => rw [q] at hn; exact absurd rfl hn
      | some ob =>
        rw [q] at hn
        cases ob with
        | lst xs =>
          simp only at hn ⊢
          cases q1 : place xs.length k with
          | none => rw [q1] at hn; exact absurd rfl hn
          | some j =>
            rw [q1] at hn
            simp only at hn ⊢
            cases hw : wok X.C.base i x with
            | false => rw [hw] at hn; exact absurd rfl hn
            | true =>
              rw [if_pos rfl]
              obtain ⟨a, us, n, rfl, g1, g2, g3, g4, g5, g6⟩ := S.refI r1 q
              simp only [RV] at r2
              obtain ⟨t, rfl⟩ := r2
              obtain ⟨c1, c2, c3, c4⟩ := place_seq q1
              have l1 := g3.length
              have h63 := L2.line63
              have fin : ∀ jj, jj = j → ∃ T' h', (R.ok Val.none (h.put i (.lst (xs.set j x))) : R Val) = .ok .none h' ∧ Good X NoO T φ T' φ h' { s with heap := s.heap.update a (Obj.mapSeq (·.setIfInBounds jj y)) } := fun jj ej => by
                subst ej
                exact ⟨_, _, rfl, Good.write (zs := us.set jj y) (tk := s.toks) S g1 g2 g5 (g3.set r3 jj) (fun b hb hi => (g6 b hb hi).set (wok_low ok hw r3 b hb hi) jj) (by simpa using g4)
                  (fun b o nb eb => upd_ne nb eb) (upd_at g5 (by simp))⟩
              by_cases h0 : 0 ≤ k
              · refine PySem.W.ki_setAt g5 h0 (by omega) (by rw [List.size_toArray]; omega) (fin _ ?_)
                rw [seqIndex_of h0 c4] at c1
                exact Option.some.inj c1
              · refine PySem.W.ki_setBack g5 (by omega) (by rw [List.size_toArray]; omega) (by omega) (fin _ ?_)
                rw [seqIndex_neg (by omega) c3] at c1
                rw [List.size_toArray, ← l1]
                exact Option.some.inj c1
        | lck _ => exact absurd rfl hn
        | dct _ _ => exact absurd rfl hn
        | cel _ => exact absurd rfl hn
    | _ => exact absurd rfl hn
  | _ => exact absurd rfl hn
end
end Mp
/-! W6: slices, sums of bools, order, kinds. -/
namespace Mp
open PySem PySem.Spec PyProof.Rows
section
variable {X : Ctx}
theorem RVs.none_at {G : Glo} {T : GT} {φ : List Addr} {vs : List Val} {us : List Value} (r : RVs G T φ vs us) {i : Nat} (e : vs[i]? = none) : us[i]? = none := by
  rw [List.getElem?_eq_none_iff] at e ⊢
  rw [← r.length]; exact e
theorem RVs.pick {G : Glo} {T : GT} {φ : List Addr} {vs : List Val} {us : List Value} (r : RVs G T φ vs us) : ∀ (is : List Nat), RVs G T φ (is.filterMap (vs[·]?)) (is.filterMap (us[·]?))
  | [] => .nil
  | i :: is => by
    cases q : vs[i]? with
    | none =>
      rw [List.filterMap_cons_none q, List.filterMap_cons_none (r.none_at q)]
      exact r.pick is
    | some v =>
      obtain ⟨u, hu, ru⟩ := r.at q
      rw [List.filterMap_cons_some q, List.filterMap_cons_some hu]
      exact .cons ru (r.pick is)
theorem RVs.drop {G : Glo} {T : GT} {φ : List Addr} : ∀ {vs : List Val} {us : List Value} (n : Nat), RVs G T φ vs us → RVs G T φ (vs.drop n) (us.drop n)
  | _, _, 0, r => r
  | [], us, n + 1, r => by simp only [RVs] at r; subst r; exact .nil
  | v :: vs, us, n + 1, r => by
    simp only [RVs] at r
    obtain ⟨w, t, rfl, a, b⟩ := r
    exact RVs.drop n b
theorem RVs.take {G : Glo} {T : GT} {φ : List Addr} : ∀ {vs : List Val} {us : List Value} (n : Nat), RVs G T φ vs us → RVs G T φ (vs.take n) (us.take n)
  | [], us, n, r => by simp only [RVs] at r; subst r; simp only [List.take_nil]; exact .nil
  | v :: vs, us, 0, r => by simp only [List.take_zero]; exact .nil
  | v :: vs, us, n + 1, r => by
    simp only [RVs] at r
    obtain ⟨w, t, rfl, a, b⟩ := r
    exact .cons a (RVs.take n b)
/-- the slice of a value -/
theorem sl_op {m : Bool} {T : GT} {φ : List Addr} {ρ : Mp.Env} {h : Hp} {s : Shared} {F : Value → Shared → Prop} {v : Val} {u vl vu vs : Value} {lo hi st : Option Int} {sl : Addr} (S : St X T φ ρ h s) (r1 : RV X.G T φ v u) (hs : s.heap.IsSliceOf sl vl vu vs) (pl : IsPart vl lo) (pu : IsPart vu hi) (ps : IsPart vs st) (h0 : st ≠ some 0)
    (hn : slOp m v lo hi st h ≠ .no) : ∃ Ty id, typeLookup (.type Ty) "__getitem__" = pure (some (.builtin id)) ∧ s.TypeIs u Ty ∧ wpAny X.M X.A (getItem u (.ref sl)) (QV X T φ (slOp m v lo hi st h)) F s := by
  have items : ∀ xs, v.items h = some xs → slOp m v lo hi st h = (if (slice xs lo hi st).length ≤ xs.length then newL m (slice xs lo hi st) h else .no) →
      ∃ Ty id, typeLookup (.type Ty) "__getitem__" = pure (some (.builtin id)) ∧ s.TypeIs u Ty ∧ wpAny X.M X.A (getItem u (.ref sl)) (QV X T φ (slOp m v lo hi st h)) F s := fun xs e1 e2 => by
    rw [e2] at hn ⊢
    by_cases hz : (slice xs lo hi st).length ≤ xs.length
    · rw [if_pos hz]
      obtain ⟨a, us, n, rfl, a1, a2, a3⟩ := RV.itemsI S r1 e1
      have l1 := a1.length
      refine ⟨"list", _, slot_list_getitem.lookup, (listO_is a3).typeIs, ?_⟩
      refine wpAny_getItem_list_slice (listO_is a3) hs pl pu ps h0 ?_ (by rw [List.size_toArray]; exact a2)
      have hr : ∃ zs : List Value, slicePick us.toArray lo hi st = zs.toArray ∧ RVs X.G T φ (slice xs lo hi st) zs := by
        cases st with
        | none =>
          refine ⟨_, L2.slicePick_cut us lo hi, ?_⟩
          show RVs _ _ _ ((xs.drop (HT.sIx xs.length 0 lo)).take (HT.sIx xs.length xs.length hi - HT.sIx xs.length 0 lo)) _
          rw [l1]
          exact (a1.drop _).take _
        | some k =>
          refine ⟨((sliceRange (sliceBounds lo hi (some k) xs.length).1 (sliceBounds lo hi (some k) xs.length).2.1 (sliceBounds lo hi (some k) xs.length).2.2).filterMap (us[·]?)), ?_, a1.pick _⟩
          unfold slicePick
          rw [List.size_toArray, l1]
          simp
      obtain ⟨zs, ez, rz⟩ := hr
      rw [ez]
      exact QV.list (n := 0) (tk := s.toks) S rz (by rw [← rz.length]; omega)
    · rw [if_neg hz] at hn; exact absurd rfl hn
  cases v with
  | tup xs =>
    have e : slOp m (.tup xs) lo hi st h = if st.isSome || decide (HT.sIx xs.length 0 lo = 0 ∧ HT.sIx xs.length xs.length hi = xs.length) then .no else .ok (.tup (slice xs lo hi Option.none)) h := rfl
    rw [e] at hn ⊢
    cases st with
    | some _ => exact absurd rfl hn
    | none =>
      cases ps
      by_cases hw : HT.sIx xs.length 0 lo = 0 ∧ HT.sIx xs.length xs.length hi = xs.length
      · rw [decide_eq_true hw] at hn; exact absurd rfl hn
      · rw [decide_eq_false hw]
        simp only [RV] at r1
        obtain ⟨a, o, us, n, rfl, h2, h3, h4, h5, h6⟩ := r1
        have l1 := h6.length
        have t1 : IsTup s.heap a us.toArray := ⟨o, S.inv.ok _ _ h2, h3, n, h4⟩
        refine ⟨"tuple", _, PyProof.Rows.slot_tuple_getitem.lookup, t1.typeIs, ?_⟩
        have hlen : us.toArray.size = xs.length := by rw [List.size_toArray]; exact l1.symm
        refine HT.getItem_tuple_cut t1 hs pl pu (by rw [hlen]; exact hw) ?_ (by rw [List.size_toArray]; exact h5)
        rw [hlen]
        exact QV.tup (tk := s.toks) S ((h6.drop _).take _) (by simp; omega)
  | lst xs => exact items xs rfl rfl
  | ref i =>
    cases q : (Val.ref i).items h with
    | none => exact absurd (by show (match (Val.ref i).items h with | some xs => _ | none => _) = _; rw [q]) hn
    | some xs => exact items xs q (by show (match (Val.ref i).items h with | some xs => _ | none => _) = _; rw [q])
  | none => exact absurd rfl hn
  | bool _ => exact absurd rfl hn
  | int _ => exact absurd rfl hn
  | str _ => exact absurd rfl hn
  | dct _ _ => exact absurd rfl hn
  | fn _ => exact absurd rfl hn
  | clo _ _ => exact absurd rfl hn
  | exc _ _ => exact absurd rfl hn
/-! ### all, any -/
theorem RVs.bools {G : Glo} {T : GT} {φ : List Addr} : ∀ {vs : List Val} {us : List Value} {bs : List Bool}, RVs G T φ vs us → Mp.bools vs = some bs → us = bs.map Value.bool
  | [], us, bs, r, e => by simp only [RVs] at r; simp only [Mp.bools, Option.some.injEq] at e; subst r; subst e; rfl
  | v :: vs, us, bs, r, e => by
    simp only [RVs] at r
    obtain ⟨w, t, rfl, a, b⟩ := r
    cases v with
    | bool c =>
      simp only [Mp.bools, Option.map_eq_some_iff] at e
      obtain ⟨cs, e1, rfl⟩ := e
      simp only [RV] at a
      subst a
      rw [RVs.bools b e1]; rfl
    | _ => simp [Mp.bools] at e
theorem p_all (ok : X.Ok) : POk X .all 1 (on1 fun u => call (.builtin "all") [u]) := by
  intro vs us T φ ρ h s F hl S r hn
  obtain ⟨v, rfl⟩ := len1 hl
  obtain ⟨u, rfl, r1⟩ := r.one
  have e : prim X.C.base .all [v] h = match v.items h with | some xs => (ofO (bools xs) h).bind fun bs h => .ok (.bool (bs.all id)) h | none => .no := by cases v <;> rfl
  rw [e] at hn ⊢
  cases q : v.items h with
  | none => rw [q] at hn; exact absurd rfl hn
  | some xs =>
    rw [q] at hn
    simp only at hn ⊢
    cases q2 : bools xs with
    | none => rw [q2] at hn; exact absurd rfl hn
    | some bs =>
      obtain ⟨a, us, n, rfl, a1, a2, a3⟩ := RV.itemsI S r1 q
      have hb := a1.bools q2
      show wpAny _ _ (call (.builtin "all") [.ref a]) _ _ s
      refine call_all_walk (L2.iter_any (listO_is a3) fun s₂ e2 st hne => ?_)
      subst e2
      refine ⟨_, _, _, _, _, _, _, rfl, Walks.list (A := X.A.in1) ok.hd _ a hne us.toArray, st, L2.truth_bools hb, fun h' tk hk => ?_⟩
      have I1 := S.inv.kept (h' := h') (tk := tk) fun b o eo => hk b o (fun hmem => by
        rcases List.mem_cons.mp hmem with e1 | hmem
        · exact absurd (e1 ▸ Heap.lt_size eo) (Nat.lt_irrefl _)
        · cases hmem) (Heap.get?_push_of_some _ eo)
      refine ⟨.bool (bs.all id), h, T, φ, rfl, .refl I1 S.sim, ?_⟩
      simp only [RV]
      rw [← L2.all_range, hb, List.size_toArray, List.length_map]
theorem p_any (ok : X.Ok) : POk X .any 1 (on1 fun u => call (.builtin "any") [u]) := by
  intro vs us T φ ρ h s F hl S r hn
  obtain ⟨v, rfl⟩ := len1 hl
  obtain ⟨u, rfl, r1⟩ := r.one
  have e : prim X.C.base .any [v] h = match v.items h with | some xs => (ofO (bools xs) h).bind fun bs h => .ok (.bool (bs.any id)) h | none => .no := by cases v <;> rfl
  rw [e] at hn ⊢
  cases q : v.items h with
  | none => rw [q] at hn; exact absurd rfl hn
  | some xs =>
    rw [q] at hn
    simp only at hn ⊢
    cases q2 : bools xs with
    | none => rw [q2] at hn; exact absurd rfl hn
    | some bs =>
      obtain ⟨a, us, n, rfl, a1, a2, a3⟩ := RV.itemsI S r1 q
      have hb := a1.bools q2
      show wpAny _ _ (call (.builtin "any") [.ref a]) _ _ s
      refine call_any_walk (L2.iter_any (listO_is a3) fun s₂ e2 st hne => ?_)
      subst e2
      refine ⟨_, _, _, _, _, _, _, rfl, Walks.list (A := X.A.in1) ok.hd _ a hne us.toArray, st, L2.truth_bools hb, fun h' tk hk => ?_⟩
      have I1 := S.inv.kept (h' := h') (tk := tk) fun b o eo => hk b o (fun hmem => by
        rcases List.mem_cons.mp hmem with e1 | hmem
        · exact absurd (e1 ▸ Heap.lt_size eo) (Nat.lt_irrefl _)
        · cases hmem) (Heap.get?_push_of_some _ eo)
      refine ⟨.bool (bs.any id), h, T, φ, rfl, .refl I1 S.sim, ?_⟩
      simp only [RV]
      rw [← L2.any_range, hb, List.size_toArray, List.length_map]
/-! ### min, max of two ints -/
theorem p_min2 (ok : X.Ok) : POk X .min2 2 (fun us => call (.builtin "min") us) := by
  intro vs us T φ ρ h s F hl S r hn
  obtain ⟨v, w, rfl⟩ := len2 hl
  obtain ⟨u, z, rfl, r1, r2⟩ := r.two
  cases hv : v.asInt with
  | none => exact absurd (by cases v <;> cases w <;> first | rfl | simp [Val.asInt] at hv) hn
  | some a =>
    cases hw : w.asInt with
    | none => exact absurd (by cases v <;> cases w <;> first | rfl | simp [Val.asInt] at hw) hn
    | some b =>
      rw [Val.asInt_some hv] at hn r1 ⊢
      rw [Val.asInt_some hw] at hn r2 ⊢
      simp only [RV] at r1 r2
      obtain ⟨t, rfl⟩ := r1
      obtain ⟨t', rfl⟩ := r2
      refine min_two_ints ok.hd fun h' tk hk => ⟨_, h, T, φ, rfl, .refl (S.inv.kept hk) S.sim, ?_⟩
      by_cases hc : b < a
      · rw [if_pos hc, if_pos hc]; exact rv_int
      · rw [if_neg hc, if_neg hc]; exact rv_int
theorem p_max2 (ok : X.Ok) : POk X .max2 2 (fun us => call (.builtin "max") us) := by
  intro vs us T φ ρ h s F hl S r hn
  obtain ⟨v, w, rfl⟩ := len2 hl
  obtain ⟨u, z, rfl, r1, r2⟩ := r.two
  cases hv : v.asInt with
  | none => exact absurd (by cases v <;> cases w <;> first | rfl | simp [Val.asInt] at hv) hn
  | some a =>
    cases hw : w.asInt with
    | none => exact absurd (by cases v <;> cases w <;> first | rfl | simp [Val.asInt] at hw) hn
    | some b =>
      rw [Val.asInt_some hv] at hn r1 ⊢
      rw [Val.asInt_some hw] at hn r2 ⊢
      simp only [RV] at r1 r2
      obtain ⟨t, rfl⟩ := r1
      obtain ⟨t', rfl⟩ := r2
      refine max_two_ints ok.hd fun h' tk hk => ⟨_, h, T, φ, rfl, .refl (S.inv.kept hk) S.sim, ?_⟩
      by_cases hc : b > a
      · rw [if_pos hc, if_pos hc]; exact rv_int
      · rw [if_neg hc, if_neg hc]; exact rv_int
/-! ### sorted -/
theorem RVs.intsAre {G : Glo} {T : GT} {φ : List Addr} : ∀ {vs : List Val} {us : List Value} {ns : List Int}, RVs G T φ vs us → intsOf vs = some ns → IntsAre us ns
  | [], us, bs, r, e => by simp only [RVs] at r; simp only [intsOf, Option.some.injEq] at e; subst r; subst e; exact .nil
  | v :: vs, us, bs, r, e => by
    simp only [RVs] at r
    obtain ⟨w, t, rfl, a, b⟩ := r
    cases v with
    | int c =>
      simp only [intsOf, Option.map_eq_some_iff] at e
      obtain ⟨cs, e1, rfl⟩ := e
      simp only [RV] at a
      obtain ⟨tk, rfl⟩ := a
      exact .cons _ _ (RVs.intsAre b e1)
    | _ => simp [intsOf] at e
theorem RVs.ofInts {G : Glo} {T : GT} {φ : List Addr} : ∀ {us : List Value} {ns : List Int}, IntsAre us ns → RVs G T φ (ns.map .int) us
  | _, _, .nil => .nil
  | _, _, .cons n t r => .cons rv_int (RVs.ofInts r)
theorem sortI_eq {xs ys : List Int} (p : ys.Perm xs) (s : ys.Pairwise (· ≤ ·)) : sortI xs = ys := by
  unfold sortI
  have h1 : (xs.mergeSort fun a b => decide (a ≤ b)).Perm ys := (List.mergeSort_perm _ _).trans p.symm
  have h2 : (xs.mergeSort fun a b => decide (a ≤ b)).Pairwise (fun a b => a ≤ b) := by
    have := List.pairwise_mergeSort (le := fun (a b : Int) => decide (a ≤ b)) (fun a b c h1 h2 => by simp at *; omega) (fun a b => by simp; omega) xs
    exact this.imp fun h => by simpa using h
  exact List.Perm.eq_of_pairwise (le := (· ≤ ·)) (fun a b _ _ h1 h2 => Int.le_antisymm h1 h2) h2 s h1
theorem p_sorted {m : Bool} : POk X (.sorted m) 1 (on1 fun u => call (.builtin "sorted") [u]) := by
  intro vs us T φ ρ h s F hl S r hn
  obtain ⟨v, rfl⟩ := len1 hl
  obtain ⟨u, rfl, r1⟩ := r.one
  have e : prim X.C.base (.sorted m) [v] h = match v.items h with | some xs => (match intsOf xs with | some ns => newL m ((sortI ns).map .int) h | none => .no) | none => .no := by cases v <;> rfl
  rw [e] at hn ⊢
  cases q : v.items h with
  | none => rw [q] at hn; exact absurd rfl hn
  | some xs =>
    rw [q] at hn
    simp only at hn ⊢
    cases q2 : intsOf xs with
    | none => rw [q2] at hn; exact absurd rfl hn
    | some ns =>
      simp only
      obtain ⟨a, us, n, rfl, a1, a2, a3⟩ := RV.itemsI S r1 q
      have hi := a1.intsAre q2
      show wpAny _ _ (call (.builtin "sorted") [.ref a]) _ _ s
      refine SrtO.sorted_ord SrtO.swo_int (listO_is a3) a2 (fun h2 h₁ a' _ _ => SrtO.ints_sortable hi h2) fun out h1 h2 => ?_
      obtain ⟨k1, k2, k3⟩ := SrtO.ints_out hi h1 h2
      obtain ⟨ep, he'⟩ := PyProof.Rows.sortedAll_at s.heap us out.toArray
      rw [sortI_eq k2 k3]
      have kp : ∀ b o, s.heap.get? b = some o → (sortedAll s.heap us out.toArray).get? b = some o := fun b o e => PyProof.Rows.sortedAll_old e
      have hlen : out.length ≤ sizeLine := by
        have h3 := k2.length_eq
        have h4 := hi.length
        rw [List.length_map] at h3
        omega
      exact QV.listAt (n := ep) (tk := s.toks) S (RVs.ofInts k1) hlen kp (S.inv.fresh (Nat.le_succ _)) he'
/-! ### index -/
theorem mapO_at {α β : Type} {f : α → Option β} : ∀ {xs : List α} {ys : List β} {i : Nat} {x : α}, mapO f xs = some ys → xs[i]? = some x → ∃ y, ys[i]? = some y ∧ f x = some y
  | [], _, _, _, _, e => by simp at e
  | a :: xs, ys, i, x, h, e => by
    simp only [mapO] at h
    split at h
    · rename_i d t h1 h2
      cases h
      cases i with
      | zero => simp at e; subst e; exact ⟨d, rfl, h1⟩
      | succ i =>
        obtain ⟨y, h3, h4⟩ := mapO_at (i := i) h2 (by simpa using e)
        exact ⟨y, by simpa using h3, h4⟩
    · cases h
/-! ### kinds -/
theorem kit_kinds : ∀ k ∈ ["NoneType", "bool", "int", "str", "tuple", "list"], ∀ t : Ty, L2.kitB k t.name = some (t.has k) := by
  intro k hk t
  simp only [List.mem_cons, List.not_mem_nil, or_false] at hk
  rcases hk with rfl | rfl | rfl | rfl | rfl | rfl <;> cases t <;> decide +kernel
theorem kit_all {K : PySem.W.Frag} {k : String} (hk : k ∈ ["NoneType", "bool", "int", "str", "tuple", "list"]) : ∀ ts : List Ty, PySem.W.kitAny K (.type k) (ts.map fun t => .type t.name) = some (ts.any fun t => t.has k)
  | [] => rfl
  | t :: ts => by
    have h1 : PySem.W.kitOne K (.type k) (.type t.name) = some (t.has k) := L2.kit_ty (kit_kinds k hk t)
    refine L2.kitAny_cons h1 (r := (t :: ts).any fun t => t.has k) (fun e => ?_) (fun e => ?_)
    · rw [kit_all hk ts, List.any_cons, e, Bool.false_or]
    · rw [List.any_cons, e, Bool.true_or]
theorem RV.kit {T : GT} {φ : List Addr} {ρ : Mp.Env} {h : Hp} {s : Shared} {v : Val} {u : Value} {k : String} (S : St X T φ ρ h s) (r : RV X.G T φ v u) (e : v.kind h = some k) :
    k ∈ ["NoneType", "bool", "int", "str", "tuple", "list"] ∧ ∃ P : Heap → Prop, PySem.W.KitX X.G.K u (.type k) P ∧ P s.heap ∧ u ≠ .builtin "__main__.__loader__#opaque" := by
  cases v with
  | none => simp only [RV] at r; subst r; cases e; exact ⟨by simp, _, PySem.W.kitx_none, True.intro, fun z => nomatch z⟩
  | bool b => simp only [RV] at r; subst r; cases e; exact ⟨by simp, _, PySem.W.kitx_bool, True.intro, fun z => nomatch z⟩
  | int i => simp only [RV] at r; obtain ⟨t, rfl⟩ := r; cases e; exact ⟨by simp, _, PySem.W.kitx_int, True.intro, fun z => nomatch z⟩
  | str i => simp only [RV] at r; obtain ⟨t, rfl⟩ := r; cases e; exact ⟨by simp, _, PySem.W.kitx_str, True.intro, fun z => nomatch z⟩
  | tup xs =>
    simp only [RV] at r
    obtain ⟨a, o, us, n, rfl, h2, h3, h4, h5, h6⟩ := r
    cases e
    exact ⟨by simp, _, PySem.W.kitx_tuple, ⟨o, S.inv.ok _ _ h2, h3⟩, fun z => nomatch z⟩
  | lst xs =>
    obtain ⟨a, us, n, rfl, a1, a2, a3⟩ := RV.itemsI S r rfl
    cases e
    exact ⟨by simp, _, PySem.W.kitx_list, ⟨_, a3, rfl⟩, fun z => nomatch z⟩
  | ref i =>
    have : ∃ xs, (Val.ref i).items h = some xs ∧ k = "list" := by
      simp only [Val.kind] at e
      simp only [Val.items]
      cases q : h.at i with
      | none => rw [q] at e; cases e
      | some ob =>
        rw [q] at e
        cases ob <;> first | (cases e; exact ⟨_, rfl, rfl⟩) | cases e
    obtain ⟨xs, e1, rfl⟩ := this
    obtain ⟨a, us, n, rfl, a1, a2, a3⟩ := RV.itemsI S r e1
    exact ⟨by simp, _, PySem.W.kitx_list, ⟨_, a3, rfl⟩, fun z => nomatch z⟩
  | dct _ _ => cases e
  | fn _ => cases e
  | clo _ _ => cases e
  | exc _ _ => cases e
theorem p_isi1 {t : Ty} : POk X (.isi [t]) 1 (on1 fun u => call (.builtin "isinstance") [u, .type t.name]) := by
  intro vs us T φ ρ h s F hl S r hn
  obtain ⟨v, rfl⟩ := len1 hl
  obtain ⟨u, rfl, r1⟩ := r.one
  have e : prim X.C.base (.isi [t]) [v] h = (ofO (v.kind h) h).bind fun k h => .ok (.bool ([t].any fun t => t.has k)) h := by cases v <;> rfl
  rw [e] at hn ⊢
  cases q : v.kind h with
  | none => rw [q] at hn; exact absurd rfl hn
  | some k =>
    obtain ⟨hk, P, Z, p, hx⟩ := RV.kit S r1 q
    refine PySem.W.kia_one Z S.inv.kIn p (L2.kit_ty (kit_kinds k hk t)) hx fun tk => ?_
    have : ([t].any fun t => t.has k) = t.has k := by simp
    show QV X T φ (.ok (.bool ([t].any fun t => t.has k)) h) _ _
    rw [this]
    exact QV.tok S rv_bool
theorem p_isiT {ts : List Ty} {T : GT} {φ : List Addr} {ρ : Mp.Env} {h : Hp} {s : Shared} {F : Value → Shared → Prop} {v : Val} {u : Value} {tp : Addr} (S : St X T φ ρ h s) (r1 : RV X.G T φ v u) (hn : prim X.C.base (.isi ts) [v] h ≠ .no)
    (htp : s.heap.get? tp = some { cls := .type "tuple", data := .seq (ts.map fun t => Value.type t.name).toArray }) : wpAny X.M X.A (call (.builtin "isinstance") [u, .ref tp]) (QV X T φ (prim X.C.base (.isi ts) [v] h)) F s := by
  have e : prim X.C.base (.isi ts) [v] h = (ofO (v.kind h) h).bind fun k h => .ok (.bool (ts.any fun t => t.has k)) h := by cases v <;> rfl
  rw [e] at hn ⊢
  cases q : v.kind h with
  | none => rw [q] at hn; exact absurd rfl hn
  | some k =>
    obtain ⟨hk, P, Z, p, hx⟩ := RV.kit S r1 q
    exact PySem.W.kia_tup Z S.inv.kIn p htp (kit_all hk ts) hx fun tk => QV.tok S rv_bool
end
end Mp
/-! W7: list * int, index. -/
namespace Mp
open PySem PySem.Spec PyProof.Rows
section
variable {X : Ctx}
theorem RVs.rep {G : Glo} {T : GT} {φ : List Addr} {vs : List Val} {us : List Value} (r : RVs G T φ vs us) : ∀ n : Nat, RVs G T φ (List.replicate n vs).flatten (List.replicate n us).flatten
  | 0 => by simp only [List.replicate_zero, List.flatten_nil]; exact .nil
  | n + 1 => by simp only [List.replicate_succ, List.flatten_cons]; exact r.append (r.rep n)
theorem p_mul {m : Bool} : POk X (.mul m) 2 (on2 (binaryOp .Mult)) := by
  intro vs us T φ ρ h s F hl S r hn
  obtain ⟨v, w, rfl⟩ := len2 hl
  obtain ⟨u, z, rfl, r1, r2⟩ := r.two
  by_cases hv : ∃ a, v = .int a
  · obtain ⟨a, rfl⟩ := hv
    by_cases hw : ∃ b, w = .int b
    · obtain ⟨b, rfl⟩ := hw
      have e : prim X.C.base (.mul m) [.int a, .int b] h = if okI a && okI b then .ok (.int (a * b)) h else .no := rfl
      rw [e] at hn ⊢
      cases hc : okI a && okI b with
      | false => rw [hc] at hn; exact absurd rfl hn
      | true =>
        have h2 : (a.natAbs.log2 < 500000) ∧ (b.natAbs.log2 < 500000) := by simpa [okI] using hc
        simp only [RV] at r1 r2
        obtain ⟨t, rfl⟩ := r1
        obtain ⟨t', rfl⟩ := r2
        exact mul_int (QV.tok S rv_int) (L2.CMulW.ok (show a.natAbs.log2 + b.natAbs.log2 < 1000000 by omega))
    · exact absurd (by cases w <;> first | rfl | exact absurd ⟨_, rfl⟩ hw) hn
  · by_cases hw : ∃ b, w = .int b
    · obtain ⟨k, rfl⟩ := hw
      have e : prim X.C.base (.mul m) [v, .int k] h = match v.items h with
        | some a => if decide (0 ≤ k) && decide (k ≤ 1000) && decide (a.length ≤ 100) then newL m (List.replicate k.toNat a).flatten h else .no
        | Option.none => .no := by cases v <;> first | rfl | exact absurd ⟨_, rfl⟩ hv
      rw [e] at hn ⊢
      cases q : v.items h with
      | none => rw [q] at hn; exact absurd rfl hn
      | some xs =>
        rw [q] at hn
        simp only at hn ⊢
        cases hc : decide (0 ≤ k) && decide (k ≤ 1000) && decide (xs.length ≤ 100) with
        | false => rw [hc] at hn; exact absurd rfl hn
        | true =>
          rw [if_pos rfl]
          have h2 : (0 ≤ k ∧ k ≤ 1000) ∧ xs.length ≤ 100 := by simpa using hc
          simp only [RV] at r2
          obtain ⟨t, rfl⟩ := r2
          obtain ⟨l, its, n, rfl, a1, a2, a3⟩ := RV.itemsI S r1 q
          have hl1 := a1.length
          have hz : its.length * k.toNat ≤ 100000 := by
            have : its.length * k.toNat ≤ 100 * 1000 := Nat.mul_le_mul (by omega) (by omega)
            omega
          have hlen : its.toArray.size * k.toNat ≤ sizeLine := by rw [List.size_toArray]; exact small_line hz
          have hcap : ¬ its.toArray.size * k.toNat > (2 ^ 63 - 1) / 8 := by
            rw [List.size_toArray]; omega
          have hfit : ¬ (!Builtin.List.listFitsIndex k) = true := by
            rw [fitsIndex_both (by omega) (by omega)]; exact Bool.false_ne_true
          have hlong : ¬ Builtin.List.listTooLong (its.toArray.size * k.toNat) = true := by
            rw [L2.notLongL hlen]; exact Bool.false_ne_true
          have hnew : List.foldl (fun x1 x2 => x1 ++ x2) #[] (List.replicate (if its.toArray.isEmpty = true then 0 else k.toNat) its.toArray) = (List.replicate k.toNat its).flatten.toArray := by
            have f0 : ∀ m : Nat, List.foldl (fun x1 x2 => x1 ++ x2) #[] (List.replicate m its.toArray) = (List.replicate m its).flatten.toArray := fun m => by
              have := L2.foldl_rep its m []
              rw [List.nil_append] at this
              exact this
            rw [f0]
            cases its with
            | nil => simp
            | cons a r' => rw [if_neg (by simp)]
          refine wpAny_binaryOp_repeat_ref (T := "list") (U := "int") (by decide) ⟨_, a3, rfl⟩ (fun s' => typeIs_int s' k t) noFill_list_mul PySem.F.fills_int_mul PySem.F.slot_int_rmul repeat_list PySem.F.slot_int_index.lookup
            (call_meets PySem.F.slot_int_rmul (typeIs_int s k t) PySem.F.entry_int_rmul (PySem.F.args_int_rmul_2 _ _) (int___rmul___int_list k t l its.toArray n)
              ⟨a3, rfl, ⟨_, a3, rfl⟩, call_meets PySem.F.slot_list_mul ⟨_, a3, rfl⟩ PySem.F.entry_list_mul (PySem.F.args_list_mul_2 _ _) (AutoListH.list___mul___list_int_3 l its.toArray n k t hfit hcap hlong) ⟨a3, ?_⟩⟩)
          rw [hnew]
          exact QV.list (n := 0) (tk := s.toks) S (a1.rep k.toNat) (by rw [PyProof.Rows.lm_len_rep_flat, Nat.mul_comm]; exact small_line hz)
    · exact absurd (by cases w <;> cases v <;> first | rfl | exact absurd ⟨_, rfl⟩ hw) hn
theorem reads_at {T : GT} {φ : List Addr} {ρ : Mp.Env} {h : Hp} {s : Shared} (S : St X T φ ρ h s) : ∀ {xs : List Val} {us : List Value} {ds : List PD} (k : Nat), RVs X.G T φ xs us → mapO (Val.dat h k) xs = some ds → ∀ (m : Nat) (u : Value), us[m]? = some u → ∃ d as, ds[m]? = some d ∧ Reads s.heap u d as
  | [], us, ds, k, r, e, m, u, hu => by simp only [RVs] at r; subst r; simp at hu
  | x :: xs, us, ds, k, r, e, m, u, hu => by
    simp only [RVs] at r
    obtain ⟨w, t, rfl, r1, r2⟩ := r
    simp only [mapO] at e
    split at e
    · rename_i d t' h1 h2
      cases e
      cases m with
      | zero =>
        simp at hu; subst hu
        obtain ⟨as, q1⟩ := reads_ok k x w d S.inv S.sim r1 h1
        exact ⟨d, as, rfl, q1⟩
      | succ m =>
        obtain ⟨d', as, q1, q2⟩ := reads_at S k r2 h2 m u (by simpa using hu)
        exact ⟨d', as, by simpa using q1, q2⟩
    · cases e
theorem p_index (ok : X.Ok) : POk X .index 2 (fun us => call (.builtin "list.index") us) := by
  intro vs us T φ ρ h s F hl S r hn
  obtain ⟨v, w, rfl⟩ := len2 hl
  obtain ⟨u, z, rfl, r1, r2⟩ := r.two
  have e : prim X.C.base .index [v, w] h = match v.items h with | some xs => (ofO (pyIndex h w xs) h).bind fun k h => .ok (.int k) h | none => .no := by cases v <;> rfl
  rw [e] at hn ⊢
  cases q : v.items h with
  | none => rw [q] at hn; exact absurd rfl hn
  | some xs =>
    rw [q] at hn
    simp only at hn ⊢
    cases q2 : pyIndex h w xs with
    | none => rw [q2] at hn; exact absurd rfl hn
    | some j =>
      unfold pyIndex at q2
      split at q2
      · rename_i d ds h1 h2
        obtain ⟨as, k1⟩ := reads_ok 30 w z d S.inv S.sim r2 h1
        obtain ⟨a, its, n, rfl, a1, a2, a3⟩ := RV.itemsI S r1 q
        have c1 := SeqAt.canLay_of_shaped (dat_shaped h1)
        have c2 := shape_all h2
        have ld : its.length = ds.length := by rw [← a1.length]; exact mapO_len h2
        obtain ⟨hj, hje, hno⟩ := List.findIdx?_eq_some_iff_getElem.mp q2
        have hj' : j < its.toArray.size := by rw [List.size_toArray]; omega
        have line := L2.line63
        have hu := ok.un
        have clay : ∀ (l : List PD), PyData.canLayAll0 l = true → ∀ y ∈ l, y.canLay0 = true := by
          intro l
          induction l with
          | nil => intro _ y hy; cases hy
          | cons b l ih =>
            intro hc y hy
            simp only [PyData.canLayAll0, Bool.and_eq_true] at hc
            rcases List.mem_cons.mp hy with rfl | hy
            · exact hc.1
            · exact ih hc.2 y hy
        have dep : ∀ (m : Nat) (hm : m < ds.length), ds[m].depth ≤ 30 := fun m hm => by
          have hm3 : m < xs.length := by rw [mapO_len h2]; exact hm
          have hx : xs[m]? = some xs[m] := List.getElem?_eq_getElem hm3
          obtain ⟨y, h3, h4⟩ := mapO_at h2 hx
          have : ds[m] = y := by rw [List.getElem?_eq_getElem hm] at h3; exact Option.some.inj h3
          rw [this]
          exact (dat_shape 29 h _ _ h4).2
        classical
        let E : Value → Bool := fun y => if hy : ∃ m, ∃ hm : m < ds.length, its[m]? = some y then PyData.eqv (ds[hy.choose]'hy.choose_spec.choose) d else false
        have eE : ∀ (m : Nat) (hm : m < ds.length) (y : Value), its[m]? = some y → E y = PyData.eqv ds[m] d := fun m hm y ey => by
          have hy : ∃ m, ∃ hm : m < ds.length, its[m]? = some y := ⟨m, hm, ey⟩
          show (if hy : ∃ m, ∃ hm : m < ds.length, its[m]? = some y then PyData.eqv (ds[hy.choose]'hy.choose_spec.choose) d else false) = _
          rw [dif_pos hy]
          obtain ⟨d1, as1, g1, g2⟩ := reads_at S 29 a1 h2 hy.choose y hy.choose_spec.choose_spec
          obtain ⟨d2, as2, g3, g4⟩ := reads_at S 29 a1 h2 m y ey
          have e1 : ds[hy.choose]'hy.choose_spec.choose = d1 := by
            rw [List.getElem?_eq_getElem hy.choose_spec.choose] at g1; exact Option.some.inj g1
          have e2 : ds[m] = d2 := by
            rw [List.getElem?_eq_getElem hm] at g3; exact Option.some.inj g3
          rw [e1, e2]
          have : d1 = d2 := SeqAt.Reads.unique d1 d2 y as1 as2 (clay ds c2 d1 (List.mem_of_getElem? g1)) g2 g4
          rw [this]
        have hit : ∀ m (hm : m < its.toArray.size), its[m]? = some its.toArray[m] := fun m hm => by
          have : m < its.length := by simpa using hm
          rw [List.getElem?_eq_getElem this]; simp
        refine call_meets PySem.F.slot_list_index ⟨_, a3, rfl⟩ PySem.F.entry_list_index (PySem.F.args_list_index_2 _ _)
          (SeqAt.list_indexAt a its.toArray n none #[] z E j hj' (by rw [List.size_toArray] at hj'; omega) ?_ ?_) ⟨a3, fun y hy => ?_, ?_⟩
        · rw [eE j hj _ (hit j hj')]; exact hje
        · intro m hm hmj
          have hm2 : m < ds.length := by omega
          rw [eE m hm2 _ (hit m hm)]
          simpa using hno m hmj
        · obtain ⟨m, hm, em⟩ := Array.mem_iff_getElem.mp hy
          have hm2 : m < ds.length := by rw [List.size_toArray] at hm; omega
          have ey : its[m]? = some y := by rw [hit m hm, em]
          rw [eE m hm2 y ey]
          obtain ⟨d2, as2, g3, g4⟩ := reads_at S 29 a1 h2 m y ey
          have e2 : ds[m] = d2 := by
            rw [List.getElem?_eq_getElem hm2] at g3; exact Option.some.inj g3
          rw [e2]
          have hd := dep m hm2
          rw [e2] at hd
          exact SeqAt.eqAt_reads d2 d _ _ y z as2 as g4 k1 (clay ds c2 d2 (List.mem_of_getElem? g3)) c1 (by
            have : min d2.depth d.depth ≤ d2.depth := Nat.min_le_left _ _
            have hu2 : X.A.in1.units = X.A.units + 1 := rfl
            omega)
        · exact QV.tok S rv_int
      · cases q2
end
end Mp
/-! W8: operators, tests, choices. -/
namespace Mp
open PySem PySem.Spec PyProof.Rows
section
variable {X : Ctx}
theorem QV.after {T T1 φ φ1 h1 s1} {r : R Val} (g : Good X NoO T φ T1 φ1 h1 s1) {u : Value} {s' : Shared} (q : QV X T1 φ1 r u s') : QV X T φ r u s' :=
  let ⟨v, h', T', φ', e, g2, rv⟩ := q; ⟨v, h', T', φ', e, g.trans g2, rv⟩
theorem QX.after {α : Type} {T T1 φ φ1 h1 s1} {r : R α} (g : Good X NoO T φ T1 φ1 h1 s1) {u : Value} {s' : Shared} (q : QX X T1 φ1 r u s') : QX X T φ r u s' :=
  let ⟨c, fs, h', e, a⟩ := q; ⟨c, fs, h', e, a.after g⟩
theorem QT.after {T T1 φ φ1 h1 s1} {r : R Val} (g : Good X NoO T φ T1 φ1 h1 s1) {u : Bool} {s' : Shared} (q : QT X T1 φ1 r u s') : QT X T φ r u s' :=
  let ⟨v, h', T', φ', e, g2, rv⟩ := q; ⟨v, h', T', φ', e, g.trans g2, rv⟩
/-- two values -/
theorem wp_two {a b : E} {a' b' : Expr} {T : GT} {φ : List Addr} {ρ : Mp.Env} {h : Hp} {s : Shared} {F : Value → Shared → Prop} {Q : Value → Value → Shared → Prop} (ha : SE X a a') (hb : SE X b b') (S : St X T φ ρ h s)
    (hn : evs X.C ρ h (.cons a (.cons b .nil)) ≠ .no) (hF : ∀ x s', QX X T φ (evs X.C ρ h (.cons a (.cons b .nil))) x s' → F x s')
    (hQ : ∀ u z s1 v w h1 T1 φ1, evs X.C ρ h (.cons a (.cons b .nil)) = .ok [v, w] h1 → Good X NoO T φ T1 φ1 h1 s1 → RVs X.G T1 φ1 [v, w] [u, z] → Q u z s1) :
    wpAny X.M X.A (eval a' X.env) (fun u s1 => wpAny X.M X.A (eval b' X.env) (fun z s2 => Q u z s2) F s1) F s := by
  have e0 : evs X.C ρ h (.cons a (.cons b .nil)) = (ev X.C ρ h a).bind fun v h => (ev X.C ρ h b).bind fun w h => .ok [v, w] h := by
    simp only [evs]
    cases ev X.C ρ h a with
    | no => rfl
    | err c fs h => rfl
    | ok v h1 => simp only [R.bind_ok]; cases ev X.C ρ h1 b <;> rfl
  rw [e0] at hn hF hQ
  refine wpAny_mono (ha T φ ρ h s F S (R.bind_no' hn) (QX.bind hF)) (fun u s1 ⟨v, h1, T1, φ1, e1, g1, r1⟩ => ?_) fun _ _ z => z
  have hn2 := R.bind_at hn e1
  have hF2 := QX.next hF e1 g1
  refine wpAny_mono (hb T1 φ1 ρ h1 s1 F (g1.st S) (R.bind_no' hn2) (QX.bind hF2)) (fun z s2 ⟨w, h2, T2, φ2, e2, g2, r2⟩ => ?_) fun _ _ z => z
  refine hQ u z s2 v w h2 T2 φ2 ?_ (g1.trans g2) (.cons (RV.mono g2.ext g2.pre _ _ r1) (.cons r2 .nil))
  simp only [e1, R.bind_ok, e2]
theorem R.bind_ne {α β : Type} {r : R α} {f : α → Hp → R β} (hn : r.bind f ≠ .no) {a : α} {h : Hp} (e : r = .ok a h) : f a h ≠ .no ∧ r.bind f = f a h := by
  subst e; exact ⟨hn, rfl⟩
/-- an operation on two values -/
theorem op_two {a b : E} {a' b' : Expr} {p : Prim} {op : Value → Value → Sem Value} (hp : POk X p 2 (on2 op)) (ha : SE X a a') (hb : SE X b b') {T : GT} {φ : List Addr} {ρ : Mp.Env} {h : Hp} {s : Shared} {F : Value → Shared → Prop} (S : St X T φ ρ h s)
    (hn : ev X.C ρ h (.prim p (.cons a (.cons b .nil))) ≠ .no) (hF : ∀ x s', QX X T φ (ev X.C ρ h (.prim p (.cons a (.cons b .nil)))) x s' → F x s') :
    wpAny X.M X.A (eval a' X.env) (fun u s1 => wpAny X.M X.A (eval b' X.env) (fun z s2 => wpAny X.M X.A (op u z) (QV X T φ (ev X.C ρ h (.prim p (.cons a (.cons b .nil))))) F s2) F s1) F s := by
  have e0 : ev X.C ρ h (.prim p (.cons a (.cons b .nil))) = (evs X.C ρ h (.cons a (.cons b .nil))).bind fun vs h => prim X.C.base p vs h := by simp only [ev]
  rw [e0] at hn hF ⊢
  refine wp_two ha hb S (R.bind_no' hn) (QX.bind hF) fun u z s1 v w h1 T1 φ1 e g r => ?_
  obtain ⟨hn2, e2⟩ := R.bind_ne hn e
  rw [e2]
  exact wpAny_mono (hp [v, w] [u, z] T1 φ1 ρ h1 s1 F rfl (g.st S) r hn2) (fun y s2 q => QV.after g q) fun _ _ z => z
theorem se_bin {a b : E} {a' b' : Expr} {p : Prim} {op : Operator} {pos : Pos} (hp : POk X p 2 (on2 (binaryOp op))) (ha : SE X a a') (hb : SE X b b') : SE X (.prim p (.cons a (.cons b .nil))) (.BinOp a' op b' pos) :=
  fun T φ ρ h s F S hn hF => wpAny_BinOp (op_two hp ha hb S hn hF)
theorem se_cmp {a b : E} {a' b' : Expr} {p : Prim} {op : CmpOp} {pos : Pos} (hp : POk X p 2 (on2 (compareOp op))) (ha : SE X a a') (hb : SE X b b') (hm : behindInMarks op b' = false) : SE X (.prim p (.cons a (.cons b .nil))) (.Compare a' [op] [b'] pos) :=
  fun T φ ρ h s F S hn hF => wpAny_Compare1 (op_two hp ha hb S hn hF) hm
theorem truthy_QV {T : GT} {φ : List Addr} {ρ : Mp.Env} {h : Hp} {s : Shared} {r : R Val} {u : Value} {s1 : Shared} {F : Value → Shared → Prop} (S : St X T φ ρ h s) (ht : r.tell) (q : QV X T φ r u s1) : wpAny X.M X.A (truthy u) (QT X T φ r) F s1 := by
  obtain ⟨v, h1, T1, φ1, e1, g1, r1⟩ := q
  have ht := ht.2 v h1 e1
  cases q : v.tru h1 with
  | none => exact absurd q ht
  | some b => exact truthy_ok (g1.st S) r1 q fun tk => ⟨v, h1, T1, φ1, e1, g1.tok, q⟩
theorem st_cmp {a b : E} {a' b' : Expr} {p : Prim} {op : CmpOp} {pos : Pos} {whole : Sem Value} (hp : POk X p 2 (on2 (compareOp op))) (ha : SE X a a') (hb : SE X b b') (hm : behindInMarks op b' = false) : STw X (.prim p (.cons a (.cons b .nil))) (.Compare a' [op] [b'] pos) whole :=
  fun T φ ρ h s F S hn hF => wpAny_isTrue_Compare1 (wpAny_mono (op_two hp ha hb S hn.1 hF) (fun u s1 h1 => wpAny_mono h1 (fun z s2 h2 => wpAny_mono h2 (fun y s3 q => truthy_QV S hn q) fun _ _ z => z) fun _ _ z => z) fun _ _ z => z) hm
/-- an operation on one value -/
theorem op_one {a : E} {a' : Expr} {p : Prim} {op : Value → Sem Value} (hp : POk X p 1 (on1 op)) (ha : SE X a a') {T : GT} {φ : List Addr} {ρ : Mp.Env} {h : Hp} {s : Shared} {F : Value → Shared → Prop} (S : St X T φ ρ h s)
    (hn : ev X.C ρ h (.prim p (.cons a .nil)) ≠ .no) (hF : ∀ x s', QX X T φ (ev X.C ρ h (.prim p (.cons a .nil))) x s' → F x s') :
    wpAny X.M X.A (eval a' X.env) (fun u s1 => wpAny X.M X.A (op u) (QV X T φ (ev X.C ρ h (.prim p (.cons a .nil)))) F s1) F s := by
  have e0 : ev X.C ρ h (.prim p (.cons a .nil)) = (ev X.C ρ h a).bind fun v h => prim X.C.base p [v] h := by
    simp only [ev, evs]; cases ev X.C ρ h a <;> rfl
  rw [e0] at hn hF ⊢
  refine wpAny_mono (ha T φ ρ h s F S (R.bind_no' hn) (QX.bind hF)) (fun u s1 ⟨v, h1, T1, φ1, e1, g1, r1⟩ => ?_) fun _ _ z => z
  obtain ⟨hn2, e2⟩ := R.bind_ne hn e1
  rw [e2]
  exact wpAny_mono (hp [v] [u] T1 φ1 ρ h1 s1 F rfl (g1.st S) (.cons r1 .nil) hn2) (fun y s2 q => QV.after g1 q) fun _ _ z => z
theorem se_un {a : E} {a' : Expr} {p : Prim} {op : UnaryOp} {pos : Pos} (hp : POk X p 1 (on1 (unaryOp op))) (ha : SE X a a') : SE X (.prim p (.cons a .nil)) (.UnaryOp op a' pos) :=
  fun T φ ρ h s F S hn hF => UnaryOp_ (op_one hp ha S hn hF)
/-- is None, is not None -/
theorem p_isNone (neg : Bool) : POk X (if neg then .isnN else .isN) 1 (on1 fun u => compareOp (if neg then .IsNot else .Is) u .none) := by
  intro vs us T φ ρ h s F hl S r hn
  obtain ⟨v, rfl⟩ := len1 hl
  obtain ⟨u, rfl, r1⟩ := r.one
  cases neg with
  | false =>
    have e : prim X.C.base .isN [v] h = .ok (.bool (u == Value.none)) h := by rw [RV.isNone r1]; cases v <;> rfl
    show wpAny _ _ (compareOp .Is u .none) (QV X T φ (prim X.C.base .isN [v] h)) _ _
    rw [e]
    exact is_none (QV.here S rv_bool)
  | true =>
    have e : prim X.C.base .isnN [v] h = .ok (.bool (!(u == Value.none))) h := by rw [RV.isNone r1]; cases v <;> rfl
    show wpAny _ _ (compareOp .IsNot u .none) (QV X T φ (prim X.C.base .isnN [v] h)) _ _
    rw [e]
    exact isNot_none (QV.here S rv_bool)
theorem se_isNone (neg : Bool) {a : E} {a' : Expr} {k} {p1 pos : Pos} (ha : SE X a a') : SE X (.prim (if neg then .isnN else .isN) (.cons a .nil)) (.Compare a' [if neg then .IsNot else .Is] [.Constant .none k p1] pos) :=
  fun T φ ρ h s F S hn hF => wpAny_Compare1 (wpAny_mono (op_one (p_isNone neg) ha S hn hF) (fun u s1 h1 => Constant_none h1) fun _ _ z => z) (by cases neg <;> rfl)
theorem st_isNone (neg : Bool) {a : E} {a' : Expr} {k} {p1 pos : Pos} {whole : Sem Value} (ha : SE X a a') : STw X (.prim (if neg then .isnN else .isN) (.cons a .nil)) (.Compare a' [if neg then .IsNot else .Is] [.Constant .none k p1] pos) whole :=
  fun T φ ρ h s F S hn hF => wpAny_isTrue_Compare1 (wpAny_mono (op_one (p_isNone neg) ha S hn.1 hF) (fun u s1 h1 => Constant_none (wpAny_mono h1 (fun y s3 q => truthy_QV S hn q) fun _ _ z => z)) fun _ _ z => z) (by cases neg <;> rfl)
/-! ### tests -/
theorem R.test_no {β : Type} {r : R Val} {f g : Val → Hp → R β} (h : r.test f g ≠ .no) : r.tell := by
  refine ⟨fun z => h (by rw [z]; rfl), fun v hp e z => h ?_⟩
  subst e
  show (match v.tru hp with | some true => f v hp | some false => g v hp | Option.none => .no) = _
  rw [z]
theorem R.test_at {β : Type} {r : R Val} {f g : Val → Hp → R β} {v : Val} {hp : Hp} {b : Bool} (e : r = .ok v hp) (t : v.tru hp = some b) : r.test f g = if b then f v hp else g v hp := by
  subst e
  show (match v.tru hp with | some true => f v hp | some false => g v hp | Option.none => .no) = _
  rw [t]; cases b <;> rfl
theorem QX.test {β : Type} {T : GT} {φ : List Addr} {r : R Val} {f g : Val → Hp → R β} {F : Value → Shared → Prop} (hF : ∀ x s', QX X T φ (r.test f g) x s' → F x s') : ∀ x s', QX X T φ r x s' → F x s' := QX.bind hF
/-- a test, what follows -/
theorem wp_test {β : Type} {c : E} {c' : Expr} {whole : Sem Value} {f g : Val → Hp → R β} {T : GT} {φ : List Addr} {ρ : Mp.Env} {h : Hp} {s : Shared} {F : Value → Shared → Prop} {Q : Bool → Shared → Prop} (hc : STw X c c' whole) (S : St X T φ ρ h s)
    (hn : (ev X.C ρ h c).test f g ≠ .no) (hF : ∀ x s', QX X T φ ((ev X.C ρ h c).test f g) x s' → F x s')
    (hQ : ∀ b s1 v h1 T1 φ1, ev X.C ρ h c = .ok v h1 → v.tru h1 = some b → Good X NoO T φ T1 φ1 h1 s1 → (ev X.C ρ h c).test f g = (if b then f v h1 else g v h1) → Q b s1) : wpAny X.M X.A (isTrue c' X.env whole) Q F s :=
  wpAny_mono (hc T φ ρ h s F S (R.test_no hn) (QX.test hF)) (fun b s1 ⟨v, h1, T1, φ1, e1, g1, t⟩ => hQ b s1 v h1 T1 φ1 e1 t g1 (R.test_at e1 t)) fun _ _ z => z
theorem st_not {a : E} {a' : Expr} {pos : Pos} {whole : Sem Value} (ha : ST X a a') : STw X (.prim .not (.cons a .nil)) (.UnaryOp .Not a' pos) whole := by
  intro T φ ρ h s F S hn hF
  have e0 : ev X.C ρ h (.prim .not (.cons a .nil)) = (ev X.C ρ h a).test (fun _ h => .ok (.bool false) h) (fun _ h => .ok (.bool true) h) := by
    simp only [ev, evs]
    cases e : ev X.C ρ h a with
    | no => rfl
    | err c fs h => rfl
    | ok v h1 =>
      show prim X.C.base .not [v] h1 = (match v.tru h1 with | some true => R.ok (.bool false) h1 | some false => R.ok (.bool true) h1 | none => .no)
      have : prim X.C.base .not [v] h1 = (ofO (v.tru h1) h1).bind fun b h => .ok (.bool (!b)) h := by cases v <;> rfl
      rw [this]
      cases v.tru h1 with
      | none => rfl
      | some b => cases b <;> rfl
  rw [e0] at hn hF ⊢
  refine isTrue_not (wp_test ha S hn.1 hF fun b s1 v h1 T1 φ1 e t g e2 => ?_)
  rw [e2]
  cases b with
  | false => exact ⟨.bool true, h1, T1, φ1, rfl, g, rfl⟩
  | true => exact ⟨.bool false, h1, T1, φ1, rfl, g, rfl⟩
/-- a value and its truth, what follows -/
theorem wp_valtest {β : Type} {c : E} {c' : Expr} {f g : Val → Hp → R β} {T : GT} {φ : List Addr} {ρ : Mp.Env} {h : Hp} {s : Shared} {F : Value → Shared → Prop} {Q : Value → Bool → Shared → Prop} (hc : SE X c c') (S : St X T φ ρ h s)
    (hn : (ev X.C ρ h c).test f g ≠ .no) (hF : ∀ x s', QX X T φ ((ev X.C ρ h c).test f g) x s' → F x s')
    (hQ : ∀ u b s1 v h1 T1 φ1, ev X.C ρ h c = .ok v h1 → v.tru h1 = some b → Good X NoO T φ T1 φ1 h1 s1 → RV X.G T1 φ1 v u → (ev X.C ρ h c).test f g = (if b then f v h1 else g v h1) → Q u b s1) :
    wpAny X.M X.A (eval c' X.env) (fun u s1 => wpAny X.M X.A (truthy u) (fun b s2 => Q u b s2) F s1) F s := by
  have ht := R.test_no hn
  refine wpAny_mono (hc T φ ρ h s F S ht.1 (QX.test hF)) (fun u s1 ⟨v, h1, T1, φ1, e1, g1, r1⟩ => ?_) fun _ _ z => z
  cases q : v.tru h1 with
  | none => exact absurd q (ht.2 v h1 e1)
  | some b => exact truthy_ok (g1.st S) r1 q fun tk => hQ u b _ v h1 T1 φ1 e1 q g1.tok r1 (R.test_at e1 q)
theorem se_and {a b : E} {e₁ e₂ : Expr} {rest : List Expr} {pos : Pos} (ha : SE X a e₁) (hb : SE X b (.BoolOp .And (e₂ :: rest) pos)) : SE X (.and a b) (.BoolOp .And (e₁ :: e₂ :: rest) pos) := by
  intro T φ ρ h s F S hn hF
  simp only [ev] at hn hF ⊢
  refine BoolOp_and (wp_valtest ha S hn hF fun u c s1 v h1 T1 φ1 e t g r e2 => ?_)
  rw [e2] at hn hF ⊢
  cases c with
  | false => exact ⟨v, h1, T1, φ1, rfl, g, r⟩
  | true => exact wpAny_mono (hb T1 φ1 ρ h1 s1 F (g.st S) hn fun x s' q => hF x s' (QX.after g q)) (fun u s' q => QV.after g q) fun _ _ z => z
theorem se_or {a b : E} {e₁ e₂ : Expr} {rest : List Expr} {pos : Pos} (ha : SE X a e₁) (hb : SE X b (.BoolOp .Or (e₂ :: rest) pos)) : SE X (.or a b) (.BoolOp .Or (e₁ :: e₂ :: rest) pos) := by
  intro T φ ρ h s F S hn hF
  simp only [ev] at hn hF ⊢
  refine BoolOp_or (wp_valtest ha S hn hF fun u c s1 v h1 T1 φ1 e t g r e2 => ?_)
  rw [e2] at hn hF ⊢
  cases c with
  | true => exact ⟨v, h1, T1, φ1, rfl, g, r⟩
  | false => exact wpAny_mono (hb T1 φ1 ρ h1 s1 F (g.st S) hn fun x s' q => hF x s' (QX.after g q)) (fun u s' q => QV.after g q) fun _ _ z => z
theorem se_one {a : E} {e : Expr} {op : BoolOp} {pos : Pos} (ha : SE X a e) : SE X a (.BoolOp op [e] pos) := fun T φ ρ h s F S hn hF => BoolOp_one (ha T φ ρ h s F S hn hF)
theorem tell_if {β : Type} {r : R Val} {b : Bool} {x y : R Val} (h : r.tell) (e : r = if b then x else y) : if b then x.tell else y.tell := by
  subst e; cases b <;> exact h
theorem st_and {a b : E} {e₁ : Expr} {rest : List Expr} {pos : Pos} {whole : Sem Value} (ha : ST X a e₁) (hb : ∀ w, STw X b (.BoolOp .And rest pos) w) : STw X (.and a b) (.BoolOp .And (e₁ :: rest) pos) whole := by
  intro T φ ρ h s F S hn hF
  simp only [ev] at hn hF ⊢
  refine isTrue_and (wp_test ha S hn.1 hF fun c s1 v h1 T1 φ1 e t g e2 => ?_)
  rw [e2] at hn hF ⊢
  cases c with
  | false => exact ⟨v, h1, T1, φ1, rfl, g, t⟩
  | true => exact wpAny_mono (hb whole T1 φ1 ρ h1 s1 F (g.st S) hn fun x s' q => hF x s' (QX.after g q)) (fun u s' q => QT.after g q) fun _ _ z => z
theorem st_or {a b : E} {e₁ : Expr} {rest : List Expr} {pos : Pos} {whole : Sem Value} (ha : ST X a e₁) (hb : ∀ w, STw X b (.BoolOp .Or rest pos) w) : STw X (.or a b) (.BoolOp .Or (e₁ :: rest) pos) whole := by
  intro T φ ρ h s F S hn hF
  simp only [ev] at hn hF ⊢
  refine isTrue_or (wp_test ha S hn.1 hF fun c s1 v h1 T1 φ1 e t g e2 => ?_)
  rw [e2] at hn hF ⊢
  cases c with
  | true => exact ⟨v, h1, T1, φ1, rfl, g, t⟩
  | false => exact wpAny_mono (hb whole T1 φ1 ρ h1 s1 F (g.st S) hn fun x s' q => hF x s' (QX.after g q)) (fun u s' q => QT.after g q) fun _ _ z => z
theorem st_one {a : E} {e : Expr} {op : BoolOp} {pos : Pos} {whole : Sem Value} (ha : ST X a e) : STw X a (.BoolOp op [e] pos) whole := by
  intro T φ ρ h s F S hn hF
  cases op with
  | And =>
    refine isTrue_and (wpAny_mono (ha T φ ρ h s F S hn hF) (fun b s1 q => ?_) fun _ _ z => z)
    cases b with
    | false => exact q
    | true => exact isTrue_and_nil q
  | Or =>
    refine isTrue_or (wpAny_mono (ha T φ ρ h s F S hn hF) (fun b s1 q => ?_) fun _ _ z => z)
    cases b with
    | true => exact q
    | false => exact isTrue_or_nil q
theorem se_ite {c a b : E} {c' a' b' : Expr} {pos : Pos} (hc : ST X c c') (ha : SE X a a') (hb : SE X b b') : SE X (.ite c a b) (.IfExp c' a' b' pos) := by
  intro T φ ρ h s F S hn hF
  simp only [ev] at hn hF ⊢
  refine IfExp_ (wp_test hc S hn hF fun t s1 v h1 T1 φ1 e tv g e2 => ?_)
  rw [e2] at hn hF ⊢
  cases t with
  | false => exact wpAny_mono (hb T1 φ1 ρ h1 s1 F (g.st S) hn fun x s' q => hF x s' (QX.after g q)) (fun u s' q => QV.after g q) fun _ _ z => z
  | true => exact wpAny_mono (ha T1 φ1 ρ h1 s1 F (g.st S) hn fun x s' q => hF x s' (QX.after g q)) (fun u s' q => QV.after g q) fun _ _ z => z
theorem st_ite {c a b : E} {c' a' b' : Expr} {pos : Pos} {whole : Sem Value} (hc : ST X c c') (ha : ST X a a') (hb : ST X b b') : STw X (.ite c a b) (.IfExp c' a' b' pos) whole := by
  intro T φ ρ h s F S hn hF
  simp only [ev] at hn hF ⊢
  refine isTrue_IfExp (wp_test hc S hn.1 hF fun t s1 v h1 T1 φ1 e tv g e2 => ?_)
  rw [e2] at hn hF ⊢
  cases t with
  | false => exact wpAny_mono (hb T1 φ1 ρ h1 s1 F (g.st S) hn fun x s' q => hF x s' (QX.after g q)) (fun u s' q => QT.after g q) fun _ _ z => z
  | true => exact wpAny_mono (ha T1 φ1 ρ h1 s1 F (g.st S) hn fun x s' q => hF x s' (QX.after g q)) (fun u s' q => QT.after g q) fun _ _ z => z
end
end Mp
/-! W9: chains, subscripts, built-in calls, methods. -/
namespace Mp
open PySem PySem.Spec PyProof.Rows
section
variable {X : Ctx}
/-! ### a < b < c -/
theorem chain_eq {C : Mp.Cx} {ρ : Mp.Env} {h : Hp} {p q : Prim} {a b c : E} : ev C ρ h (.chain p q a b c) = (evs C ρ h (.cons a (.cons b .nil))).bind fun vs h => (prim C.base p vs h).bind fun t h => match t with
    | .bool true => (ev C ρ h c).bind fun z h => prim C.base q [vs.getD 1 .none, z] h
    | .bool false => .ok (.bool false) h
    | _ => .no := by
  simp only [ev, evs]
  cases ev C ρ h a with
  | no => rfl
  | err _ _ _ => rfl
  | ok v h1 => simp only [R.bind_ok]; cases ev C ρ h1 b <;> rfl
theorem QX.prim_ne {T : GT} {φ : List Addr} {base : Nat} {p : Prim} {vs : List Val} {h : Hp} : True := trivial
theorem se_chain {a b c : E} {a' b' c' : Expr} {p q : Prim} {op op2 : CmpOp} {pos : Pos} (hp : POk X p 2 (on2 (compareOp op))) (hq : POk X q 2 (on2 (compareOp op2))) (ha : SE X a a') (hb : SE X b b') (hc : SE X c c') (hm : lastMarks [op, op2] [b', c'] = false) :
    SE X (.chain p q a b c) (.Compare a' [op, op2] [b', c'] pos) := by
  intro T φ ρ h s F S hn hF
  rw [chain_eq] at hn hF ⊢
  refine Compare_chain (wpAny_mono (wp_two ha hb S (R.bind_no' hn) (QX.bind hF) (Q := fun u z s2 => wpAny X.M X.A (compareOp op u z) (fun w s3 => wpAny X.M X.A (truthy w) (fun t s4 => if t then wpAny X.M X.A (compareChain pos z [op2] [eval c' X.env]) (QV X T φ _) F s4 else QV X T φ _ w s4) F s3) F s2) fun u z s1 v w h1 T1 φ1 e g r => ?_) (fun u s1 k => chain_link k) fun _ _ k => k) hm
  obtain ⟨hn2, e2⟩ := R.bind_ne hn e
  rw [e2] at hF ⊢
  refine wpAny_mono (hp [v, w] [u, z] T1 φ1 ρ h1 s1 F rfl (g.st S) r (R.bind_no' hn2)) (fun y s2 ⟨x, h2, T2, φ2, e3, g2, r2⟩ => ?_) fun _ _ k => k
  obtain ⟨hn3, e4⟩ := R.bind_ne hn2 e3
  rw [e4] at hF ⊢
  cases x with
  | bool t =>
    simp only [RV] at r2
    subst r2
    refine wpAny_truthy_bool ?_
    cases t with
    | false => exact ⟨.bool false, h2, T2, φ2, rfl, g.trans g2, rv_bool⟩
    | true =>
      refine chain_last ?_
      have g3 := g.trans g2
      show wpAny _ _ _ _ _ _
      refine wpAny_mono (hc T2 φ2 ρ h2 s2 F (g3.st S) (R.bind_no' hn3) fun x s' k => QX.bind (fun x s' k => hF x s' (QX.after g3 k)) x s' k) (fun y2 s4 ⟨zz, h4, T4, φ4, e5, g4, r5⟩ => ?_) fun _ _ k => k
      obtain ⟨hn4, e6⟩ := R.bind_ne hn3 e5
      obtain ⟨u1, z1, ez, q1, q2⟩ := r.two
      cases ez
      refine wpAny_mono (hq [w, zz] [z, y2] T4 φ4 ρ h4 s4 F rfl ((g3.trans g4).st S) (.cons (RV.mono (g2.trans g4).ext (g2.trans g4).pre _ _ q2) (.cons r5 .nil)) hn4) (fun y5 s5 k => ?_) fun _ _ k => k
      exact QV.after (g3.trans g4) (by rw [e6]; exact k)
  | _ => exact absurd rfl hn3
theorem st_chain {a b c : E} {a' b' c' : Expr} {p q : Prim} {op op2 : CmpOp} {pos : Pos} {whole : Sem Value} (hp : POk X p 2 (on2 (compareOp op))) (hq : POk X q 2 (on2 (compareOp op2))) (ha : SE X a a') (hb : SE X b b') (hc : SE X c c') (hm : lastMarks [op, op2] [b', c'] = false) :
    STw X (.chain p q a b c) (.Compare a' [op, op2] [b', c'] pos) whole := by
  intro T φ ρ h s F S hn hF
  have hn' := hn
  rw [chain_eq] at hn hF ⊢
  refine isTrue_chain (wpAny_mono (wp_two ha hb S (R.bind_no' hn.1) (QX.bind hF) (Q := fun u z s2 => wpAny X.M X.A (compareOp op u z) (fun w s3 => wpAny X.M X.A (truthy w) (fun t s4 => if t then wpAny X.M X.A (testChain pos z [op2] [eval c' X.env]) (QT X T φ _) F s4 else QT X T φ _ false s4) F s3) F s2) fun u z s1 v w h1 T1 φ1 e g r => ?_) (fun u s1 k => test_link k) fun _ _ k => k) hm
  obtain ⟨hn2, e2⟩ := R.bind_ne hn.1 e
  rw [e2] at hF hn ⊢
  refine wpAny_mono (hp [v, w] [u, z] T1 φ1 ρ h1 s1 F rfl (g.st S) r (R.bind_no' hn2)) (fun y s2 ⟨x, h2, T2, φ2, e3, g2, r2⟩ => ?_) fun _ _ k => k
  obtain ⟨hn3, e4⟩ := R.bind_ne hn2 e3
  rw [e4] at hF hn ⊢
  cases x with
  | bool t =>
    simp only [RV] at r2
    subst r2
    refine wpAny_truthy_bool ?_
    cases t with
    | false => exact ⟨.bool false, h2, T2, φ2, rfl, g.trans g2, rfl⟩
    | true =>
      refine test_last ?_
      have g3 := g.trans g2
      show wpAny _ _ _ _ _ _
      refine wpAny_mono (hc T2 φ2 ρ h2 s2 F (g3.st S) (R.bind_no' hn3) fun x s' k => QX.bind (fun x s' k => hF x s' (QX.after g3 k)) x s' k) (fun y2 s4 ⟨zz, h4, T4, φ4, e5, g4, r5⟩ => ?_) fun _ _ k => k
      obtain ⟨hn4, e6⟩ := R.bind_ne hn3 e5
      obtain ⟨u1, z1, ez, q1, q2⟩ := r.two
      cases ez
      refine wpAny_mono (hq [w, zz] [z, y2] T4 φ4 ρ h4 s4 F rfl ((g3.trans g4).st S) (.cons (RV.mono (g2.trans g4).ext (g2.trans g4).pre _ _ q2) (.cons r5 .nil)) hn4) (fun y5 s5 k => ?_) fun _ _ k => k
      refine truthy_QV S hn ?_
      exact QV.after (g3.trans g4) (by rw [e6]; exact k)
  | _ => exact absurd rfl hn3
/-! ### a[i], a[i:j:k] -/
theorem se_ix {a b : E} {a' b' : Expr} {pos : Pos} (ha : SE X a a') (hb : SE X b b') (hs : ∀ o i, subscripted b' false o i = operate [o, i] (getItem o i)) : SE X (.prim .ix (.cons a (.cons b .nil))) (.Subscript a' b' pos) :=
  fun T φ ρ h s F S hn hF => Subscript_ (op_two (p_ix (value := a') (slice := b') hs) ha hb S hn hF)
def SO (X : Ctx) (es : Es) (o : Option Expr) (u : Bool) : Prop := match u, o, es with
  | false, none, .nil => True
  | true, some e', .cons e .nil => SE X e e'
  | _, _, _ => False
theorem wp_part {es : Es} {o : Option Expr} {u : Bool} (ho : SO X es o u) {T : GT} {φ : List Addr} {ρ : Mp.Env} {h : Hp} {s : Shared} {F : Value → Shared → Prop} {Q : Value → Shared → Prop} (S : St X T φ ρ h s)
    (hn : evs X.C ρ h es ≠ .no) (hF : ∀ x s', QX X T φ (evs X.C ρ h es) x s' → F x s')
    (hQ : ∀ w s1 vs h1 T1 φ1, evs X.C ρ h es = .ok vs h1 → Good X NoO T φ T1 φ1 h1 s1 → (∀ r o p, slGet u (vs ++ r) = some (o, p) → p = r ∧ IsPart w o) → Q w s1) : wpAny X.M X.A (evalPart o X.env) Q F s := by
  match u, o, es, ho with
  | false, none, .nil, _ =>
    rw [evalPart_none]
    exact wpAny_pure (hQ _ _ [] h T φ (by simp only [evs]) (.refl S.inv S.sim) fun r o p e => by
      have e2 : some (Option.none, r) = some (o, p) := e
      cases e2; exact ⟨rfl, .none⟩)
  | true, some e', .cons e .nil, he =>
    rw [evalPart_some]
    have e0 : evs X.C ρ h (.cons e .nil) = (ev X.C ρ h e).bind fun v h => .ok [v] h := by
      simp only [evs]; cases ev X.C ρ h e <;> rfl
    rw [e0] at hn hF hQ
    refine wpAny_mono (he T φ ρ h s F S (R.bind_no' hn) (QX.bind hF)) (fun w s1 ⟨v, h1, T1, φ1, e1, g1, r1⟩ => ?_) fun _ _ z => z
    refine hQ w s1 [v] h1 T1 φ1 (by rw [e1]; rfl) g1 fun r o p e => ?_
    cases v with
    | int i =>
      have e2 : some (some i, r) = some (o, p) := e
      cases e2
      simp only [RV] at r1
      obtain ⟨t, rfl⟩ := r1
      exact ⟨rfl, .int i t⟩
    | _ => exact absurd e (by intro z; cases z)
def Es.app : Es → Es → Es
  | .nil, b => b
  | .cons e r, b => .cons e (r.app b)
theorem evs_app {C : Mp.Cx} {ρ : Mp.Env} {b : Es} : ∀ {a : Es} {h : Hp}, evs C ρ h (a.app b) = (evs C ρ h a).bind fun vs h => (evs C ρ h b).bind fun ws h => .ok (vs ++ ws) h
  | .nil, h => by simp only [Es.app, evs, R.bind_ok, List.nil_append]; cases evs C ρ h b <;> rfl
  | .cons e r, h => by
    simp only [Es.app, evs]
    cases ev C ρ h e with
    | no => rfl
    | err _ _ _ => rfl
    | ok v h1 =>
      simp only [R.bind_ok]
      rw [evs_app]
      cases evs C ρ h1 r with
      | no => rfl
      | err _ _ _ => rfl
      | ok vs h2 =>
        simp only [R.bind_ok]
        cases evs C ρ h2 b <;> rfl
theorem se_sl {m u1 u2 u3 : Bool} {a : E} {e1 e2 e3 : Es} {a' : Expr} {o1 o2 o3 : Option Expr} {ps pos : Pos} (ha : SE X a a') (h1 : SO X e1 o1 u1) (h2 : SO X e2 o2 u2) (h3 : SO X e3 o3 u3) :
    SE X (.prim (.sl m u1 u2 u3) (.cons a (e1.app (e2.app e3)))) (.Subscript a' (.Slice o1 o2 o3 ps) pos) := by
  intro T φ ρ h s F S hn hF
  have e0 : ev X.C ρ h (.prim (.sl m u1 u2 u3) (.cons a (e1.app (e2.app e3)))) = (ev X.C ρ h a).bind fun v h => (evs X.C ρ h e1).bind fun v1 h => (evs X.C ρ h e2).bind fun v2 h => (evs X.C ρ h e3).bind fun v3 h => prim X.C.base (.sl m u1 u2 u3) (v :: (v1 ++ (v2 ++ v3))) h := by
    simp only [ev, evs]
    cases ev X.C ρ h a with
    | no => rfl
    | err _ _ _ => rfl
    | ok v k =>
      simp only [R.bind_ok, evs_app]
      cases evs X.C ρ k e1 with
      | no => rfl
      | err _ _ _ => rfl
      | ok v1 k1 =>
        simp only [R.bind_ok]
        cases evs X.C ρ k1 e2 with
        | no => rfl
        | err _ _ _ => rfl
        | ok v2 k2 =>
          simp only [R.bind_ok]
          cases evs X.C ρ k2 e3 <;> rfl
  rw [e0] at hn hF ⊢
  refine Subscript_ (wpAny_mono (ha T φ ρ h s F S (R.bind_no' hn) (QX.bind hF)) (fun u s1 ⟨v, k1, T1, φ1, f1, g1, r1⟩ => ?_) fun _ _ z => z)
  obtain ⟨hn, e5⟩ := R.bind_ne hn f1
  rw [e5] at hF ⊢
  refine wpAny_Slice (wp_part h1 (g1.st S) (R.bind_no' hn) (fun x s' z => QX.bind hF x s' (QX.after g1 z)) fun w1 s2 v1 k2 T2 φ2 f2 g2 p1 => ?_)
  obtain ⟨hn, e5⟩ := R.bind_ne hn f2
  rw [e5] at hF ⊢
  have g2' := g1.trans g2
  refine wp_part h2 (g2'.st S) (R.bind_no' hn) (fun x s' z => QX.bind hF x s' (QX.after g2' z)) fun w2 s3 v2 k3 T3 φ3 f3 g3 p2 => ?_
  obtain ⟨hn, e5⟩ := R.bind_ne hn f3
  rw [e5] at hF ⊢
  have g3' := g2'.trans g3
  refine wp_part h3 (g3'.st S) (R.bind_no' hn) (fun x s' z => QX.bind hF x s' (QX.after g3' z)) fun w3 s4 v3 k4 T4 φ4 f4 g4 p3 => ?_
  obtain ⟨hn, e5⟩ := R.bind_ne hn f4
  rw [e5] at hF ⊢
  have g4' := g3'.trans g4
  have ep : prim X.C.base (.sl m u1 u2 u3) (v :: (v1 ++ (v2 ++ v3))) k4 = match slParts u1 u2 u3 (v1 ++ (v2 ++ v3)) with
    | Option.none => .no
    | some (lo, hi, st) => slOp m v lo hi st k4 := by cases v <;> rfl
  rw [ep] at hn ⊢
  cases q : slParts u1 u2 u3 (v1 ++ (v2 ++ v3)) with
  | none => rw [q] at hn; exact absurd rfl hn
  | some t =>
    obtain ⟨lo, hi, st⟩ := t
    rw [q] at hn
    simp only at hn ⊢
    unfold slParts at q
    split at q
    · cases q
    · rename_i lo' q1 z1
      split at q
      · cases q
      · rename_i hi' q2 z2
        split at q
        · rename_i st' z3
          split at q
          · cases q
          · rename_i h0
            cases q
            obtain ⟨i1, i2⟩ := p1 _ _ _ z1
            subst i1
            obtain ⟨j1, j2⟩ := p2 _ _ _ z2
            subst j1
            obtain ⟨l1, l2⟩ := p3 [] _ _ (by rw [List.append_nil]; exact z3)
            have S4 := g4'.st S
            have r4 := RV.mono (g2.trans (g3.trans g4)).ext (g2.trans (g3.trans g4)).pre _ _ r1
            have kp : ∀ b o, s4.heap.get? b = some o → (s4.heap.push { cls := .type "slice", data := .fields #[w1, w2, w3] }).get? b = some o := fun _ _ e => Heap.get?_push_of_some _ e
            have S5 : St X T4 φ4 ρ k4 { s4 with heap := s4.heap.push { cls := .type "slice", data := .fields #[w1, w2, w3] } } := ⟨S4.inv.kept (tk := s4.toks) kp, S4.er, S4.sim⟩
            obtain ⟨Ty, id, hT, ht, hg⟩ := sl_op (m := m) (F := F) S5 r4 (Heap.IsSliceOf.new ..) i2 j2 l2 h0 hn
            have g5 : Good X NoO T φ T4 φ4 k4 { s4 with heap := s4.heap.push { cls := .type "slice", data := .fields #[w1, w2, w3] } } := ⟨S5.inv, g4'.ext, g4'.pre, g4'.new, g4'.sim⟩
            have hsub : ∃ ops, subscripted (.Slice o1 o2 o3 ps) false u (.ref s4.heap.objs.size) = operate ops (getItem u (.ref s4.heap.objs.size)) := by
              cases o3 with
              | none => exact ⟨[.ref s4.heap.objs.size, u], rfl⟩
              | some _ => exact ⟨[u, .ref s4.heap.objs.size], rfl⟩
            obtain ⟨ops, hsub⟩ := hsub
            refine tail_any (ops := ops) ht hT (wpAny_mono hg (fun y s' z => ?_) fun _ _ z => z) hsub
            obtain ⟨vv, hh, TT, ff, ee, gg, rr⟩ := z
            exact ⟨vv, hh, TT, ff, ee, ⟨gg.inv, g4'.ext.trans gg.ext, g4'.pre.trans gg.pre, (g5.trans gg).new, gg.sim⟩, rr⟩
        · cases q
/-! ### built-in functions, classes -/
def noStar : Expr → Bool
  | .Starred _ _ => false
  | _ => true
theorem starEach_cons {e : Expr} {rest : List Expr} {env : PySem.Env} (h : noStar e = true) : starEach (e :: rest) env = (false, eval e env) :: starEach rest env := by
  cases e <;> first | rfl | (simp [noStar] at h)
theorem backTo_plain {pos : Pos} {env : PySem.Env} : ∀ {es : List Expr}, es.all noStar = true → (backTo pos (starEach es env)).any (·.1) = false ∧ (backTo pos (starEach es env)).all (fun x => !x.1) = true
  | [], _ => ⟨rfl, rfl⟩
  | e :: es, h => by
    simp only [List.all_cons, Bool.and_eq_true] at h
    rw [starEach_cons h.1]
    obtain ⟨a, b⟩ := backTo_plain (pos := pos) (env := env) h.2
    refine ⟨?_, ?_⟩
    · show (false || (backTo pos (starEach es env)).any (·.1)) = false
      rw [a]; rfl
    · show (!false && (backTo pos (starEach es env)).all (fun x => !x.1)) = true
      rw [b]; rfl
theorem ld_blt {x : PySem.Str} {u : Value} {pos : Pos} {T : GT} {φ : List Addr} {ρ : Mp.Env} {h : Hp} {s : Shared} {F : Value → Shared → Prop} {Q : Value → Shared → Prop} (ok : X.Ok) (S : St X T φ ρ h s) (hk : X.env.kindOf x = some .globalImplicit) (hm : X.G.mg x = none) (hv : bootBuiltins x = some u)
    (hn : x ≠ "__name__") (hd : (x == ("__debug__" : PySem.Str)) = false) (hQ : Q u s) : wpAny X.M X.A (eval (.Name x pos) X.env) Q F s := by
  obtain ⟨mb, h1, h2⟩ := S.inv.g.blt
  exact Calls.Name_function_global ok.kind hk (Calls.loadGlobal_builtin (by rw [ok.globals]; exact S.inv.g.glob.keeps S.inv.bk) hm (by rw [ok.builtins]; exact h1.keeps S.inv.bk) ((h2 x hn).trans hv) hQ) hd
theorem ld_glob {x : PySem.Str} {u : Value} {pos : Pos} {T : GT} {φ : List Addr} {ρ : Mp.Env} {h : Hp} {s : Shared} {F : Value → Shared → Prop} {Q : Value → Shared → Prop} (ok : X.Ok) (S : St X T φ ρ h s) (hk : X.env.kindOf x = some .globalImplicit) (hm : X.G.mg x = some u)
    (hd : (x == ("__debug__" : PySem.Str)) = false) (hQ : Q u s) : wpAny X.M X.A (eval (.Name x pos) X.env) Q F s :=
  Calls.Name_function_global ok.kind hk (Calls.loadGlobal_global (by rw [ok.globals]; exact S.inv.g.glob.keeps S.inv.bk) hm hQ) hd
theorem pok_on1 {p : Prim} {f : Value} (hp : POk X p 1 (on1 fun u => call f [u])) : POk X p 1 (fun us => call f us) := by
  intro vs us T φ ρ h s F hl S r hn
  obtain ⟨v, rfl⟩ := len1 hl
  obtain ⟨u, rfl, r1⟩ := r.one
  exact hp [v] [u] T φ ρ h s F rfl S r hn
theorem ev_prim_eq {C : Mp.Cx} {ρ : Mp.Env} {h : Hp} {p : Prim} {es : Es} : ev C ρ h (.prim p es) = (evs C ρ h es).bind fun vs h => prim C.base p vs h := by simp only [ev]
/-- a call of a built-in function or class by its name -/
theorem se_blt {p : Prim} {n : Nat} {f : Value} {x : PySem.Str} {es : Es} {e : Expr} {rest : List Expr} {p1 pos : Pos} (ok : X.Ok) (hk : X.env.kindOf x = some .globalImplicit) (hm : X.G.mg x = none) (hv : bootBuiltins x = some f)
    (hn : x ≠ "__name__") (hd : (x == ("__debug__" : PySem.Str)) = false) (hf : (∃ id, f = .builtin id) ∨ (∃ ty, f = .type ty)) (hp : POk X p n (fun us => call f us)) (hl : es.len = n) (he : SEs X es (e :: rest)) (hs : (e :: rest).all noStar = true) :
    SE X (.prim p es) (.Call (.Name x p1) (e :: rest) [] pos) := by
  intro T φ ρ h s F S hne hF
  rw [ev_prim_eq] at hne hF ⊢
  refine wpAny_Call_Name_kw (ld_blt ok S hk hm hv hn hd ?_)
  have h1 := starEach_cons (rest := rest) (env := X.env) (by simp only [List.all_cons, Bool.and_eq_true] at hs; exact hs.1)
  have h2 := (backTo_plain (pos := pos) (env := X.env) (es := rest) (by simp only [List.all_cons, Bool.and_eq_true] at hs; exact hs.2)).1
  have core : wpAny X.M X.A (spliced (backTo pos (starEach (e :: rest) X.env))) (fun vs s₁ => wpAny X.M X.A (call f vs) (QV X T φ ((evs X.C ρ h es).bind fun vs h => prim X.C.base p vs h)) F s₁) F s := by
    refine wpAny_mono (he pos T φ ρ h s F S (R.bind_no' hne) (QX.bind hF)) (fun us s1 ⟨vs, k, T1, φ1, f1, g1, r1⟩ => ?_) fun _ _ z => z
    obtain ⟨hn2, e2⟩ := R.bind_ne hne f1
    rw [e2]
    exact wpAny_mono (hp vs us T1 φ1 ρ k s1 F (by rw [evs_len f1, hl]) (g1.st S) r1 hn2) (fun y s2 q => QV.after g1 q) fun _ _ z => z
  rcases hf with ⟨id, rfl⟩ | ⟨ty, rfl⟩
  · exact PyProof.Rows.callWith_builtin1 core h1 h2
  · exact PyProof.Rows.callWith_type1 core h1 h2
/-- isinstance(x, T), isinstance(x, (T, U)) -/
def tyStr : Ty → PySem.Str
  | .list => "list" | .tuple => "tuple" | .int => "int" | .bool => "bool" | .str => "str" | .dict => "dict"
theorem ty_boot (t : Ty) : bootBuiltins (tyStr t) = some (.type t.name) := by cases t <;> decide +kernel
theorem ty_str (t : Ty) : tyStr t ≠ "__name__" ∧ (tyStr t == ("__debug__" : PySem.Str)) = false := by cases t <;> decide +kernel
theorem isi_boot : bootBuiltins "isinstance" = some (.builtin "isinstance") := by decide +kernel
theorem wp_types {T : GT} {φ : List Addr} {ρ : Mp.Env} {h : Hp} {s : Shared} {F : Value → Shared → Prop} {Q : List Value → Shared → Prop} {pos : Pos} (ok : X.Ok) (S : St X T φ ρ h s) : ∀ (ts : List Ty) (ps : List Pos), (∀ t ∈ ts, X.env.kindOf (tyStr t) = some .globalImplicit ∧ X.G.mg (tyStr t) = none) → ts.length = ps.length →
    Q (ts.map fun t => .type t.name) s → wpAny X.M X.A (spliced (backTo pos (starEach ((ts.zip ps).map fun p => .Name (tyStr p.1) p.2) X.env))) Q F s
  | [], [], _, _, hQ => Calls.spliced_nil hQ
  | t :: ts, p :: ps, ht, hl, hQ => by
    have h1 := ht t (by simp)
    refine Calls.spliced_cons (ld_blt ok S h1.1 h1.2 (ty_boot t) (ty_str t).1 (ty_str t).2 ?_)
    exact wp_types ok S ts ps (fun t m => ht t (by simp [m])) (by simpa using hl) hQ
  | [], _ :: _, _, hl, _ => by simp at hl
  | _ :: _, [], _, hl, _ => by simp at hl
theorem one_eq {C : Mp.Cx} {ρ : Mp.Env} {h : Hp} {p : Prim} {a : E} : ev C ρ h (.prim p (.cons a .nil)) = (ev C ρ h a).bind fun v h => prim C.base p [v] h := by
  simp only [ev, evs]; cases ev C ρ h a <;> rfl
theorem se_isi1 {t : Ty} {a : E} {a' : Expr} {p1 p2 pos : Pos} (ok : X.Ok) (hk : X.env.kindOf "isinstance" = some .globalImplicit) (hm : X.G.mg "isinstance" = none) (hk2 : X.env.kindOf (tyStr t) = some .globalImplicit) (hm2 : X.G.mg (tyStr t) = none) (ha : SE X a a') (hs : noStar a' = true) :
    SE X (.prim (.isi [t]) (.cons a .nil)) (.Call (.Name "isinstance" p1) [a', .Name (tyStr t) p2] [] pos) := by
  intro T φ ρ h s F S hn hF
  rw [one_eq] at hn hF ⊢
  refine wpAny_Call_Name_kw (ld_blt ok S hk hm isi_boot (by decide) (by decide) ?_)
  refine PyProof.Rows.callWith_builtin1 ?_ (starEach_cons hs) rfl
  rw [starEach_cons hs]
  refine Calls.spliced_cons (wpAny_mono (ha T φ ρ h s F S (R.bind_no' hn) (QX.bind hF)) (fun u s1 ⟨v, h1, T1, φ1, e1, g1, r1⟩ => ?_) fun _ _ z => z)
  obtain ⟨hn2, e2⟩ := R.bind_ne hn e1
  rw [e2]
  refine Calls.spliced_cons (ld_blt ok (g1.st S) hk2 hm2 (ty_boot t) (ty_str t).1 (ty_str t).2 (Calls.spliced_nil ?_))
  exact wpAny_mono (p_isi1 [v] [u] T1 φ1 ρ h1 s1 F rfl (g1.st S) (.cons r1 .nil) hn2) (fun y s2 q => QV.after g1 q) fun _ _ z => z
theorem se_isiT {ts : List Ty} {ps : List Pos} {a : E} {a' : Expr} {k : Nat} {p1 p2 pos : Pos} (ok : X.Ok) (hk : X.env.kindOf "isinstance" = some .globalImplicit) (hm : X.G.mg "isinstance" = none) (ht : ∀ t ∈ ts, X.env.kindOf (tyStr t) = some .globalImplicit ∧ X.G.mg (tyStr t) = none) (hl : ts.length = ps.length) (hz : ts.length ≤ 100)
    (ha : SE X a a') (hs : noStar a' = true) : SE X (.prim (.isi ts) (.cons a .nil)) (.Call (.Name "isinstance" p1) [a', .Tuple ((ts.zip ps).map fun p => .Name (tyStr p.1) p.2) k p2] [] pos) := by
  intro T φ ρ h s F S hn hF
  rw [one_eq] at hn hF ⊢
  refine wpAny_Call_Name_kw (ld_blt ok S hk hm isi_boot (by decide) (by decide) ?_)
  refine PyProof.Rows.callWith_builtin1 ?_ (starEach_cons hs) rfl
  rw [starEach_cons hs]
  refine Calls.spliced_cons (wpAny_mono (ha T φ ρ h s F S (R.bind_no' hn) (QX.bind hF)) (fun u s1 ⟨v, h1, T1, φ1, e1, g1, r1⟩ => ?_) fun _ _ z => z)
  obtain ⟨hn2, e2⟩ := R.bind_ne hn e1
  rw [e2]
  have S1 := g1.st S
  refine Calls.spliced_cons (wpAny_Tuple_spliced (x1 := k) (wp_types ok S1 ts ps ht hl ⟨small_line (by simp; omega), Calls.spliced_nil ?_⟩))
  have kp : ∀ b o, s1.heap.get? b = some o → (s1.heap.push { cls := .type "tuple", data := .seq (ts.map fun t => Value.type t.name).toArray }).get? b = some o := fun _ _ e => Heap.get?_push_of_some _ e
  have S2 : St X T1 φ1 ρ h1 { s1 with heap := s1.heap.push { cls := .type "tuple", data := .seq (ts.map fun t => Value.type t.name).toArray } } := ⟨S1.inv.kept (tk := s1.toks) kp, S1.er, S1.sim⟩
  have g2 : Good X NoO T φ T1 φ1 h1 { s1 with heap := s1.heap.push { cls := .type "tuple", data := .seq (ts.map fun t => Value.type t.name).toArray } } := ⟨S2.inv, g1.ext, g1.pre, g1.new, g1.sim⟩
  exact wpAny_mono (p_isiT (F := F) S2 r1 hn2 (Heap.get?_push_size _ rfl)) (fun y s2 q => QV.after g2 q) fun _ _ z => z
/-! ### methods of lists -/
def plainBase : Expr → Bool
  | .Call (.Name _ _) [] [] _ => false
  | _ => true
theorem base_plain {o : Expr} {x : PySem.Str} {env : PySem.Env} (h : plainBase o = true) : attributeBase o x env (eval o env) = eval o env := by
  unfold attributeBase
  split
  · simp [plainBase] at h
  · rfl
theorem isL_at {T : GT} {φ : List Addr} {ρ : Mp.Env} {h : Hp} {s : Shared} {v : Val} {u : Value} (S : St X T φ ρ h s) (r : RV X.G T φ v u) (e : v.isL h = true) : ∃ a us n, u = .ref a ∧ s.heap.get? a = some (listO us n) := by
  have : ∃ xs, v.items h = some xs := by
    cases v with
    | lst xs => exact ⟨xs, rfl⟩
    | ref i =>
      simp only [Val.isL] at e
      simp only [Val.items]
      cases q : h.at i with
      | none => rw [q] at e; cases e
      | some ob => rw [q] at e; cases ob <;> first | exact ⟨_, rfl⟩ | cases e
    | _ => cases e
  obtain ⟨xs, e1⟩ := this
  obtain ⟨a, us, n, h1, h2, h3, h4⟩ := RV.itemsI S r e1
  exact ⟨a, us, n, h1, h4⟩
structure Meth (x : PySem.Str) (id : String) : Prop where
  slot : PySem.Slot "list" x id
  ty : typeOf (.builtin id) = pure (.type "method_descriptor")
theorem se_meth {p : Prim} {n : Nat} {id : String} {x : PySem.Str} {o : E} {o' : Expr} {es : Es} {e : Expr} {rest : List Expr} {apos pos : Pos} (hM : Meth x id) (hp : POk X p (n + 1) (fun us => call (.builtin id) us)) (hl : es.len = n) (ho : SE X o o') (he : SEs X es (e :: rest))
    (hb : plainBase o' = true) (hs : (e :: rest).all noStar = true) (hlen : rest.length < 20) (hline : (apos.endLine == pos.line) = true) : SE X (.meth p o es) (.Call (.Attribute o' x apos) (e :: rest) [] pos) := by
  intro T φ ρ h s F S hn hF
  have e0 : ev X.C ρ h (.meth p o es) = (ev X.C ρ h o).bind fun v h => if v.isL h then (evs X.C ρ h es).bind fun vs h => prim X.C.base p (v :: vs) h else .no := by simp only [ev]
  rw [e0] at hn hF ⊢
  have hs2 : noStar e = true ∧ rest.all noStar = true := by simpa only [List.all_cons, Bool.and_eq_true] using hs
  have h2 := backTo_plain (pos := pos) (env := X.env) (es := rest) hs2.2
  have h3 := backTo_plain (pos := pos) (env := X.env) (es := e :: rest) hs
  refine wpAny_Call_method_late (base_plain hb) ?_ hline rfl (wpAny_mono (ho T φ ρ h s F S (R.bind_no' hn) (QX.bind hF)) (fun u s1 ⟨v, h1, T1, φ1, e1, g1, r1⟩ => ?_) fun _ _ z => z)
  · rw [h3.2]
    have : decide ((e :: rest).length + ([] : List Keyword).length + (if ([] : List Keyword).isEmpty then 0 else 1) < 30) = true := decide_eq_true (by simp; omega)
    rw [this]
    rfl
  · obtain ⟨hn2, e2⟩ := R.bind_ne hn e1
    rw [e2] at hF ⊢
    cases hL : v.isL h1 with
    | false => rw [hL] at hn2; exact absurd rfl hn2
    | true =>
      rw [hL, if_pos rfl] at hn2 hF
      rw [if_pos rfl]
      obtain ⟨a, us0, n0, rfl, ha⟩ := isL_at (g1.st S) r1 hL
      refine ⟨"list", id, PySem.F.plainAttrs_list, hM.slot, hM.ty, ⟨_, ha, rfl⟩, fun b eb => by cases eb; exact ⟨_, ha, rfl⟩, ?_⟩
      have h1' := starEach_cons (rest := rest) (env := X.env) hs2.1
      rw [h1']
      refine Calls.callWith_builtin (by show (false || (backTo pos (starEach rest X.env)).any (·.1)) = false; rw [h2.1]; rfl) (Calls.evalArgs_plain ?_)
      show wpAny _ _ (spliced (backTo pos ((false, eval e X.env) :: starEach rest X.env))) _ _ _
      rw [← h1']
      refine wpAny_mono (he pos T1 φ1 ρ h1 s1 F (g1.st S) (R.bind_no' hn2) (fun x s' q => QX.bind hF x s' (QX.after g1 q))) (fun us s2 ⟨vs, k, T2, φ2, f1, g2, r2⟩ => ?_) fun _ _ z => z
      obtain ⟨hn3, e3⟩ := R.bind_ne hn2 f1
      rw [e3]
      exact wpAny_mono (hp (v :: vs) (.ref a :: us) T2 φ2 ρ k s2 F (by rw [List.length_cons, evs_len f1, hl]) ((g1.trans g2).st S) (.cons (RV.mono g2.ext g2.pre _ _ r1) r2) hn3) (fun y s2 q => QV.after (g1.trans g2) q) fun _ _ z => z
end
end Mp
/-! W10: targets. -/
namespace Mp
open PySem PySem.Spec PyProof.Rows
section
variable {X : Ctx}
/-- .. or a tuple that stands by itself -/
def RVt (G : Glo) (T : GT) (φ : List Addr) (hp : Heap) (v : Val) (u : Value) : Prop := RV G T φ v u ∨ ∃ t us ys, u = .ref t ∧ IsTup hp t us.toArray ∧ us.length ≤ sizeLine ∧ v = .tup ys ∧ RVs G T φ ys us
def RVa (t : At) : Glo → GT → List Addr → Heap → Val → Value → Prop := match t with
  | .tup _ => RVt
  | _ => fun G T φ _ v u => RV G T φ v u
theorem RVa.of {t : At} {G : Glo} {T : GT} {φ : List Addr} {hp : Heap} {v : Val} {u : Value} (r : RV G T φ v u) : RVa t G T φ hp v u := by
  cases t with
  | tup _ => exact .inl r
  | nm _ => exact r
  | sub _ _ => exact r
def QXO {α : Type} (X : Ctx) (O : Addr → Prop) (T : GT) (φ : List Addr) (r : R α) : Value → Shared → Prop := fun x s' => ∃ c fs h', r = .err c fs h' ∧ Air X O T φ (SkyIn X) c fs h' x s'
def QA (X : Ctx) (T : GT) (φ : List Addr) (r : R Mp.Env) (s' : Shared) : Prop := ∃ ρ' h' T' φ', r = .ok ρ' h' ∧ Good X X.O T φ T' φ' h' s' ∧ ER X T' φ' ρ'
def SA (X : Ctx) (t : At) (t' : Expr) : Prop := ∀ (T : GT) (φ : List Addr) (ρ : Mp.Env) (h : Hp) (s : Shared) (F : Value → Shared → Prop) (v : Val) (u : Value), St X T φ ρ h s → RVa t X.G T φ s.heap v u → bindT X.C ρ h t v ≠ .no →
  (∀ x s', QXO X X.O T φ (bindT X.C ρ h t v) x s' → F x s') → wpAny X.M X.A (assign t' X.env u) (fun _ s' => QA X T φ (bindT X.C ρ h t v) s') F s
def SAs (X : Ctx) (ts : Ats) (ts' : List Expr) : Prop := ∀ (T : GT) (φ : List Addr) (ρ : Mp.Env) (h : Hp) (s : Shared) (F : Value → Shared → Prop) (vs : List Val) (us : List Value), St X T φ ρ h s → RVs X.G T φ vs us → bindTs X.C ρ h ts vs ≠ .no →
  (∀ x s', QXO X X.O T φ (bindTs X.C ρ h ts vs) x s' → F x s') → wpAny X.M X.A (assignInOrder ((assignEach ts' X.env).map (·.2)) us) (fun _ s' => QA X T φ (bindTs X.C ρ h ts vs) s') F s

/-! ### a name takes a value -/
theorem slot_set {ρ : Mp.Env} {i j : Nat} {w : Slot} (h : j ≠ i) : (ρ.set i w)[j]? = ρ[j]? := List.getElem?_set_ne (Ne.symm h)
theorem slot_same {ρ : Mp.Env} {i : Nat} {w x : Slot} (h : ρ[i]? = some x) : (ρ.set i w)[i]? = some w := List.getElem?_set_self (List.getElem?_eq_some_iff.mp h).1
/-- the names stand, x's slot is new -/
theorem ER.upd {T T' : GT} {φ : List Addr} {ρ : Mp.Env} {x : PySem.Str} {i : Nat} {w0 w : Slot} (ok : X.Ok) (R : ER X T φ ρ) (hx : X.nm.vis.lookup x = some i) (h0 : ρ[i]? = some w0)
    (oth : ∀ y v, y ≠ x → LookV X.G T φ X.env y v → LookV X.G T' φ X.env y v) (own : SlotOk X.G T' φ X.env x (some w)) (fr : ∃ m, T' X.env.locals = some (.frame m)) (ce : ∀ c u, T c = some (.cell u) → ∃ u', T' c = some (.cell u')) (hc : ∀ a, w0 ≠ .c a) (hw : ∀ a, w ≠ .c a) : ER X T' φ (ρ.set i w) := by
  refine ⟨fun y j hy => ?_, fr, fun y c h => ?_, fun y j c hy ha hl => ?_⟩
  · by_cases e : j = i
    · subst e
      have : y = x := ok.slots y x j hy hx
      subst this
      rw [slot_same h0]; exact own
    · rw [slot_set e]
      have := R.slot y j hy
      cases q : ρ[j]? with
      | none => trivial
      | some sl =>
        rw [q] at this
        cases sl with
        | u => trivial
        | v z => exact oth y z (fun z => e (by subst z; rw [hx] at hy; exact (Option.some.inj hy).symm)) this
        | c a => exact this
  · obtain ⟨u, hu⟩ := R.cell y c h
    exact ce c u hu
  · by_cases e : j = i
    · subst e
      refine R.byv y j c hy (fun a z => ?_) hl
      rw [h0] at z; cases z; exact hc a rfl
    · refine R.byv y j c hy (fun a z => ha a ?_) hl
      rw [slot_set e]; exact z
theorem bind_name {T : GT} {φ : List Addr} {ρ : Mp.Env} {h : Hp} {s : Shared} {F : Value → Shared → Prop} {v : Val} {u : Value} {x : PySem.Str} {i : Nat} (ok : X.Ok) (hx : X.nm.vis.lookup x = some i) (ho : x ∈ X.nm.own) (S : St X T φ ρ h s) (r : RV X.G T φ v u) (hn : bindT X.C ρ h (.nm i) v ≠ .no) :
    wpAny X.M X.A (storeName X.env x u) (fun _ s' => QA X T φ (bindT X.C ρ h (.nm i) v) s') F s := by
  obtain ⟨i', hi', kind⟩ := ok.own x ho
  have : i' = i := by rw [hx] at hi'; exact (Option.some.inj hi').symm
  subst this
  have eb : bindT X.C ρ h (.nm i') v = match ρ[i']? with
    | some (.c a) => if X.C.base ≤ a then .ok ρ (h.put a (.cel (some v))) else .no
    | some _ => .ok (ρ.set i' (.v v)) h
    | Option.none => .no := by
    simp only [bindT]
    all_goals
      cases ρ[i']? with
      | none => rfl
      | some sl => cases sl <;> rfl
  rw [eb] at hn ⊢
  obtain ⟨m, hm⟩ := S.er.frame
  cases q : ρ[i']? with
  | none => rw [q] at hn; exact absurd rfl hn
  | some sl =>
    have hs := S.er.slot x i' hx
    rw [q] at hs hn
    have plain : (∀ a, sl ≠ .c a) → wpAny X.M X.A (storeName X.env x u) (fun _ s' => QA X T φ (.ok (ρ.set i' (.v v)) h) s') F s := fun hsl => by
      rcases kind with k | ⟨k, c, hc, hO⟩
      · refine wpAny_storeName_local k (S.inv.ok _ _ hm) (fun h' hns sb => ?_) (by rw [ok.kind]; rfl)
        have E : Ext X.O T (T.set X.env.locals (.frame fun y => if y = x then some u else m y)) := .setFrame ok.ownF hm
        have I' := S.inv.put (h' := h') (tk := s.toks + 1) (a := X.env.locals) (g := .frame fun y => if y = x then some u else m y) (fun b o nb e => by rw [sb.2 b nb]; exact e) E hm (fun ps z => by cases z) hns
        have hφ : ∀ a ∈ φ, a ≠ X.env.locals := fun a ha z => by
          exact S.sim.nf a ha m (by rw [z]; exact hm)
        refine ⟨_, _, _, φ, rfl, ⟨I', E, List.prefix_refl _, fun _ m => .inl m, S.sim.kept E.kp fun a ha => GT.set_ne (hφ a ha)⟩, ?_⟩
        refine S.er.upd ok hx q (fun y w ny l => ?_) ?_ ⟨_, GT.set_same⟩ (fun c u0 e => ⟨u0, by rw [GT.set_ne (fun z => by rw [z, hm] at e; cases e)]; exact e⟩) hsl (fun a z => by cases z)
        · rcases l with ⟨k1, m1, u1, l1, l2, l3⟩ | ⟨k1, c1, u1, l1, l2, l3⟩
          · rw [hm] at l1; cases l1
            exact .inl ⟨k1, _, u1, GT.set_same, by simp only [if_neg ny]; exact l2, RV.mono E (List.prefix_refl _) _ _ l3⟩
          · exact .inr ⟨k1, c1, u1, l1, by rw [GT.set_ne (fun z => by rw [z, hm] at l2; cases l2)]; exact l2, RV.mono E (List.prefix_refl _) _ _ l3⟩
        · exact .inl ⟨k, _, u, GT.set_same, by simp, RV.mono E (List.prefix_refl _) _ _ r⟩
      · obtain ⟨u0, hu0⟩ := S.er.cell x c hc
        have cn : c ∉ φ := S.er.byv x i' c hx (fun a z => by rw [q] at z; cases z; exact hsl a rfl) hc
        refine wpAny_storeName_cell ok.kind k hc (S.inv.ok _ _ hu0) fun h' hns sb => ?_
        have E : Ext X.O T (T.set c (.cell (some u))) := .setCell hO hu0
        have I' := S.inv.put (h' := h') (tk := s.toks) (a := c) (g := .cell (some u)) (fun b o nb e => by rw [sb.2 b nb]; exact e) E hu0 (fun ps z => by cases z) hns
        refine ⟨_, _, _, φ, rfl, ⟨I', E, List.prefix_refl _, fun _ m => .inl m, S.sim.kept E.kp fun a ha => GT.set_ne fun z => cn (z ▸ ha)⟩, ?_⟩
        refine S.er.upd ok hx q (fun y w ny l => ?_) ?_ ⟨m, by rw [GT.set_ne (fun z => by rw [z, hu0] at hm; cases hm)]; exact hm⟩ (fun c' u1 e => ?_) hsl (fun a z => by cases z)
        · rcases l with ⟨k1, m1, u1, l1, l2, l3⟩ | ⟨k1, c1, u1, l1, l2, l3⟩
          · exact .inl ⟨k1, m1, u1, by rw [GT.set_ne (fun z => by rw [z, hu0] at l1; cases l1)]; exact l1, l2, RV.mono E (List.prefix_refl _) _ _ l3⟩
          · refine .inr ⟨k1, c1, u1, l1, ?_, RV.mono E (List.prefix_refl _) _ _ l3⟩
            rw [GT.set_ne (fun z => ny (ok.inj y x c1 l1 (by rw [z]; exact hc)))]; exact l2
        · exact .inr ⟨.inl k, c, u, hc, GT.set_same, RV.mono E (List.prefix_refl _) _ _ r⟩
        · by_cases z : c' = c
          · subst z; exact ⟨_, GT.set_same⟩
          · exact ⟨u1, by rw [GT.set_ne z]; exact e⟩
    cases sl with
    | u => exact plain (fun a z => by cases z)
    | v w => exact plain (fun a z => by cases z)
    | c a =>
      have hn2 : (if X.C.base ≤ a then R.ok ρ (h.put a (.cel (some v))) else R.no) ≠ .no := hn
      show wpAny _ _ _ (fun _ s' => QA X T φ (if X.C.base ≤ a then .ok ρ (h.put a (.cel (some v))) else .no) s') _ _
      by_cases hb : X.C.base ≤ a
      · rw [if_pos hb]
        obtain ⟨k0, c, hc, hφ⟩ := hs
        rcases kind with k | ⟨k, c', hc', hO⟩
        · rw [k] at k0; rcases k0 with z | z <;> cases z
        · have : c' = c := by rw [hc] at hc'; exact (Option.some.inj hc').symm
          subst this
          obtain ⟨u0, hu0⟩ := S.er.cell x c' hc
          refine wpAny_storeName_cell ok.kind k hc (S.inv.ok _ _ hu0) fun h' hns sb => ?_
          have E : Ext X.O T (T.set c' (.cell (some u))) := .setCell hO hu0
          have I' := S.inv.put (h' := h') (tk := s.toks) (a := c') (g := .cell (some u)) (fun b o nb e => by rw [sb.2 b nb]; exact e) E hu0 (fun ps z => by cases z) hns
          refine ⟨ρ, _, _, φ, rfl, ⟨I', E, List.prefix_refl _, fun _ m => .inl m, ?_⟩, ?_⟩
          · refine S.sim.write hφ E (fun b nb => GT.set_ne nb) (by rw [GT.set_same]; simp) ⟨u, GT.set_same, RV.mono E (List.prefix_refl _) _ _ r⟩ fun b hbs hab => ?_
            have := ok.bs b hbs
            omega
          · refine ⟨fun y j hy => ?_, ⟨m, by rw [GT.set_ne (fun z => by rw [z, hu0] at hm; cases hm)]; exact hm⟩, fun y c1 hl => ?_, S.er.byv⟩
            · have := S.er.slot y j hy
              cases q2 : ρ[j]? with
              | none => trivial
              | some sl2 =>
                rw [q2] at this
                cases sl2 with
                | u => trivial
                | c b => exact this
                | v w =>
                  rcases this with ⟨k1, m1, u1, l1, l2, l3⟩ | ⟨k1, c1, u1, l1, l2, l3⟩
                  · exact .inl ⟨k1, m1, u1, by rw [GT.set_ne (fun z => by rw [z, hu0] at l1; cases l1)]; exact l1, l2, RV.mono E (List.prefix_refl _) _ _ l3⟩
                  · refine .inr ⟨k1, c1, u1, l1, ?_, RV.mono E (List.prefix_refl _) _ _ l3⟩
                    rw [GT.set_ne (fun z => ?_)]; exact l2
                    have : y = x := ok.inj y x c1 l1 (by rw [z]; exact hc)
                    subst this
                    rw [hx] at hy; cases hy
                    rw [q] at q2; cases q2
            · by_cases z : c1 = c'
              · subst z; exact ⟨_, GT.set_same⟩
              · obtain ⟨u1, e⟩ := S.er.cell y c1 hl
                exact ⟨u1, by rw [GT.set_ne z]; exact e⟩
      · rw [if_neg hb] at hn2; exact absurd rfl hn2
end
end Mp
/-! W11: targets, assignments. -/
namespace Mp
open PySem PySem.Spec PyProof.Rows
section
variable {X : Ctx}
theorem sa_nm {x : PySem.Str} {i : Nat} {pos : Pos} (ok : X.Ok) (hx : X.nm.vis.lookup x = some i) (ho : x ∈ X.nm.own) : SA X (.nm i) (.Name x pos) :=
  fun T φ ρ h s F v u S r hn _ => PyProof.Rows.assign_Name (bind_name ok hx ho S r hn)
theorem QXO.of {α : Type} {O : Addr → Prop} {T : GT} {φ : List Addr} {r : R α} {x : Value} {s' : Shared} (q : QX X T φ r x s') : QXO X O T φ r x s' :=
  let ⟨c, fs, h', e, a⟩ := q; ⟨c, fs, h', e, a.up fun _ z => z.elim⟩
theorem QXO.after {α : Type} {O : Addr → Prop} {T T1 φ φ1 h1 s1} {r : R α} (g : Good X O T φ T1 φ1 h1 s1) {u : Value} {s' : Shared} (q : QXO X O T1 φ1 r u s') : QXO X O T φ r u s' :=
  let ⟨c, fs, h', e, a⟩ := q; ⟨c, fs, h', e, a.after g⟩
theorem QXO.bind {α β : Type} {O : Addr → Prop} {T : GT} {φ : List Addr} {r : R α} {f : α → Hp → R β} {F : Value → Shared → Prop} (hF : ∀ x s', QXO X O T φ (r.bind f) x s' → F x s') : ∀ x s', QXO X O T φ r x s' → F x s' := fun x s' ⟨c, fs, h', e, a⟩ =>
  hF x s' ⟨c, fs, h', by rw [e]; rfl, a⟩
theorem QA.after {T T1 φ φ1 h1 s1} {r : R Mp.Env} (g : Good X X.O T φ T1 φ1 h1 s1) {s' : Shared} (q : QA X T1 φ1 r s') : QA X T φ r s' :=
  let ⟨v, h', T', φ', e, g2, rv⟩ := q; ⟨v, h', T', φ', e, g.trans g2, rv⟩
theorem sas_nil : SAs X .nil [] := fun T φ ρ h s F vs us S r hn _ => by
  cases vs with
  | nil =>
    simp only [RVs] at r; subst r
    exact wpAny_assignInOrder_none ⟨ρ, h, T, φ, by simp only [bindTs], .refl S.inv S.sim, S.er⟩
  | cons _ _ => exact absurd (by simp only [bindTs]) hn
theorem assignEach_cons {e : Expr} {rest : List Expr} {env : PySem.Env} (h : noStar e = true) : assignEach (e :: rest) env = (false, assign e env) :: assignEach rest env := by
  cases e <;> first | rfl | (simp [noStar] at h)
theorem assignEach_plain {env : PySem.Env} : ∀ {es : List Expr}, es.all noStar = true → (assignEach es env).length = es.length ∧ (assignEach es env).findIdx? (·.1) = none
  | [], _ => ⟨rfl, rfl⟩
  | e :: es, h => by
    simp only [List.all_cons, Bool.and_eq_true] at h
    rw [assignEach_cons h.1]
    obtain ⟨a, b⟩ := assignEach_plain (env := env) h.2
    refine ⟨by simp [a], ?_⟩
    rw [List.findIdx?_cons, b]; rfl
theorem sas_cons {t : At} {ts : Ats} {t' : Expr} {ts' : List Expr} (ht : SA X t t') (hts : SAs X ts ts') (hs : noStar t' = true) : SAs X (.cons t ts) (t' :: ts') := by
  intro T φ ρ h s F vs us S r hn hF
  cases vs with
  | nil => exact absurd (by simp only [bindTs]) hn
  | cons v vs =>
    simp only [RVs] at r
    obtain ⟨u, us, rfl, r1, r2⟩ := r
    have e0 : bindTs X.C ρ h (.cons t ts) (v :: vs) = (bindT X.C ρ h t v).bind fun ρ h => bindTs X.C ρ h ts vs := by simp only [bindTs]
    rw [e0] at hn hF ⊢
    rw [assignEach_cons hs]
    refine wpAny_assignInOrder_more (wpAny_mono (ht T φ ρ h s F v u S (.of r1) (R.bind_no' hn) (QXO.bind hF)) (fun _ s1 ⟨ρ1, h1, T1, φ1, e1, g1, er1⟩ => ?_) fun _ _ z => z)
    obtain ⟨hn2, e2⟩ := R.bind_ne hn e1
    rw [e2] at hF ⊢
    exact wpAny_mono (hts T1 φ1 ρ1 h1 s1 F vs us ⟨g1.inv, er1, g1.sim⟩ (RVs.mono g1.ext g1.pre _ _ r2) hn2 fun x s' q => hF x s' (QXO.after g1 q)) (fun _ s' q => QA.after g1 q) fun _ _ z => z
/-- the items of a value -/
theorem unpack_ok {T : GT} {φ : List Addr} {ρ : Mp.Env} {h : Hp} {s : Shared} {F : Value → Shared → Prop} {Q : List Value → Shared → Prop} {v : Val} {u : Value} {xs : List Val} (ok : X.Ok) (S : St X T φ ρ h s) (r : RVt X.G T φ s.heap v u) (e : v.seq h = some xs)
    (hQ : ∀ us h', (∀ b o, s.heap.get? b = some o → h'.get? b = some o) → RVs X.G T φ xs us → us.length ≤ sizeLine → Q us { s with heap := h' }) : wpAny X.M X.A (unpackItems u xs.length none) Q F s := by
  have kp : ∀ h', Heap.ExtBut s.heap.objs.size s.heap h' → ∀ b o, s.heap.get? b = some o → h'.get? b = some o := fun h' E b o e => E b o (Nat.ne_of_lt (Heap.lt_size e)) e
  rcases r with r | ⟨t, us, ys, rfl, it, hz, rfl, rs⟩
  · obtain ⟨a, us, rfl, h2, h3, h4⟩ := RV.seqI S r e
    have hl : xs.length = us.toArray.size := by rw [List.size_toArray]; exact h2.length
    rw [hl]
    rcases h4 with p | p
    · exact PySem.W.kun_itemsOf ok.hd p.isList fun h' E => by simpa using hQ us h' (kp h' E) h2 h3
    · exact PyProof.Rows.unpackItems_tuple ok.hd p fun h' E => by simpa using hQ us h' (kp h' E) h2 h3
  · cases e
    have hl : xs.length = us.toArray.size := by rw [List.size_toArray]; exact rs.length
    rw [hl]
    exact PyProof.Rows.unpackItems_tuple ok.hd it fun h' E => by simpa using hQ us h' (kp h' E) rs hz
theorem sa_tup {ts : Ats} {ts' : List Expr} {k : Nat} {pos : Pos} (ok : X.Ok) (hts : SAs X ts ts') (hl : ts'.length = ts.len) (hs : ts'.all noStar = true) : SA X (.tup ts) (.Tuple ts' k pos) := by
  intro T φ ρ h s F v u S r hn hF
  have e0 : bindT X.C ρ h (.tup ts) v = match v.seq h with
    | some xs => if xs.length = ts.len then bindTs X.C ρ h ts xs else .no
    | Option.none => .no := by
    simp only [bindT]
    all_goals cases v.seq h <;> rfl
  rw [e0] at hn hF ⊢
  cases q : v.seq h with
  | none => rw [q] at hn; exact absurd rfl hn
  | some xs =>
    rw [q] at hn hF
    simp only at hn hF ⊢
    by_cases hz : xs.length = ts.len
    · rw [if_pos hz] at hn hF ⊢
      obtain ⟨p1, p2⟩ := assignEach_plain (env := X.env) hs
      rw [PyProof.Rows.assign_Tuple]
      refine wpAny_bind (wpAny_standAt ?_)
      unfold unpack
      rw [p1, p2, hl, ← hz]
      refine wpAny_bind (wpAny_holding (unpack_ok ok S r q fun us h' kp rs hz => ?_))
      have I1 := S.inv.kept (h' := h') (tk := s.toks) kp
      exact hts T φ ρ h { s with heap := h' } F xs us ⟨I1, S.er, S.sim⟩ rs hn hF
    · rw [if_neg hz] at hn; exact absurd rfl hn
theorem wpAny_release0 {M : Model} {A : Around} {E : Value → Shared → Prop} {s : Shared} {vs keep : List Value} {Q : Unit → Shared → Prop} (h : Q () s) : wpAny M A (release vs keep) Q E s := PyProof.Rows.wpAny_release' h
theorem sa_sub {o i : E} {o' i' : Expr} {pos : Pos} (ok : X.Ok) (ho : SE X o o') (hi : SE X i i') : SA X (.sub o i) (.Subscript o' i' pos) := by
  intro T φ ρ h s F v u S r hn hF
  have e0 : bindT X.C ρ h (.sub o i) v = (ev X.C ρ h o).bind fun x h => (ev X.C ρ h i).bind fun k h => (prim X.C.base .setix [x, k, v] h).bind fun _ h => .ok ρ h := by simp only [bindT]
  rw [e0] at hn hF ⊢
  rw [assign_Subscript]
  refine wpAny_bind (wpAny_holding (wpAny_mono (ho T φ ρ h s F S (R.bind_no' hn) (fun x s' q => QXO.bind hF x s' (.of q))) (fun uo s1 ⟨vo, h1, T1, φ1, e1, g1, r1⟩ => ?_) fun _ _ z => z))
  obtain ⟨hn, e2⟩ := R.bind_ne hn e1
  rw [e2] at hF ⊢
  refine wpAny_bind (wpAny_holding (wpAny_mono (hi T1 φ1 ρ h1 s1 F (g1.st S) (R.bind_no' hn) (fun x s' q => QXO.bind hF x s' (.of (q.after g1)))) (fun ui s2 ⟨vi, h2, T2, φ2, e3, g2, r2⟩ => ?_) fun _ _ z => z))
  obtain ⟨hn, e4⟩ := R.bind_ne hn e3
  rw [e4] at hF ⊢
  refine wpAny_bind (wpAny_standAt (wpAny_bind (wpAny_holding (wpAny_mono (p_setix (F := F) ok ((g1.trans g2).st S) (RV.mono g2.ext g2.pre _ _ r1) r2 (RV.mono (g1.trans g2).ext (g1.trans g2).pre _ _ (show RV X.G T φ v u from r)) (R.bind_no' hn)) (fun _ s3 ⟨T3, h3, e5, g3⟩ => ?_) fun _ _ z => z))))
  obtain ⟨hn, e6⟩ := R.bind_ne hn e5
  rw [e6]
  have g := (g1.trans g2).trans g3
  exact wpAny_release0 ⟨ρ, h3, T3, φ2, rfl, g.imp fun _ z => z.elim, S.er.mono g.ext g.pre g.new⟩
end
end Mp
/-! W12: iterators beside the ghosts; lists that stand still. -/
namespace Mp
open PySem PySem.Spec PyProof.Rows
/-- what is known but the pinned stays known -/
def Kp2 (T T' : GT) : Prop := ∀ a g, T a = some g → (∀ o, g ≠ .pin o) → T' a = some g
theorem Kp2.kp {T T' : GT} (k : Kp2 T T') : Keep T T' := ⟨fun a o e => k a _ e (fun _ z => by cases z), fun a c d e => k a _ e (fun _ z => by cases z)⟩
theorem Kp2.refl (T : GT) : Kp2 T T := fun _ _ e _ => e
theorem Kp2.trans {T1 T2 T3 : GT} (a : Kp2 T1 T2) (b : Kp2 T2 T3) : Kp2 T1 T3 := fun x g e n => b x g (a x g e n) n
def Fix (T : GT) (φ : List Addr) (a : Addr) : Prop := ∃ o, T a = some (.lock o) ∨ (T a = some (.pin o) ∧ a ∈ φ)
theorem Ext.fix {O : Addr → Prop} {T T' : GT} {φ φ' : List Addr} (e : Ext O T T') (p : φ <+: φ') {a : Addr} (f : Fix T φ a) : Fix T' φ' a := by
  obtain ⟨o, h | ⟨h, m⟩⟩ := f
  · exact ⟨o, .inl (e.lock _ _ h)⟩
  · exact ⟨o, .inr ⟨e.pin _ _ h, p.subset m⟩⟩
def GT.pins (T : GT) (wr : List Addr) (hp : Heap) : GT := fun b => if b ∈ wr then (hp.get? b).map .pin else T b
def GT.del (T : GT) (wr : List Addr) : GT := fun b => if b ∈ wr then none else T b
section
variable {X : Ctx} {O : Addr → Prop} {T T1 T2 : GT} {φ φ1 φ2 : List Addr} {ρ : Mp.Env} {h h2 : Hp} {s s1 s2 : Shared} {wr : List Addr} {hp : Heap}
theorem pins_in (hb : b ∈ wr) : T.pins wr hp b = (hp.get? b).map .pin := if_pos hb
theorem pins_out (hb : b ∉ wr) : T.pins wr hp b = T b := if_neg hb
theorem del_in (hb : b ∈ wr) : T.del wr b = none := if_pos hb
theorem del_out (hb : b ∉ wr) : T.del wr b = T b := if_neg hb
theorem out_of (hw : ∀ b ∈ wr, T b = none) {a : Addr} {g : Gh} (e : T a = some g) : a ∉ wr := fun m => by rw [hw a m] at e; cases e
theorem Ext.pins (hw : ∀ b ∈ wr, T b = none) : Ext NoO T (T.pins wr hp) := by
  have go : ∀ a g, T a = some g → T.pins wr hp a = some g := fun a g e => by rw [pins_out (out_of hw e)]; exact e
  exact ⟨fun a o e => go a _ e, fun a o e => go a _ e, fun a c d e => go a _ e, fun a m _ e => go a _ e, fun a u _ e => go a _ e, fun a m e => ⟨m, go a _ e⟩, fun a u e => ⟨u, go a _ e⟩, fun a e => by
    cases q : T a with
    | none => exact absurd q e
    | some g => rw [go a g q]; simp⟩
theorem TabOk.kept {P : Addr} {q : PySem.Str} (t : TabOk T P q) (k : Keep T T2) (h : T2 P = T P) : TabOk T2 P q := by
  obtain ⟨ps, h1, h2, h3⟩ := t
  refine ⟨ps, h.trans h1, h2, fun pos cv e => ?_⟩
  obtain ⟨c, o, vs, t, a1, a2, a3⟩ := h3 pos cv e
  exact ⟨c, o, vs, t, a1, k.lock _ _ a2, a3⟩
/-- the iterator's objects as they stand are held -/
theorem Good.pins (I : Inv X.G T X.stk s) (S : Sim X.G T φ X.bs h) (hw : ∀ b ∈ wr, T b = none) : Good X O T φ (T.pins wr s.heap) φ h s := by
  have E : Ext NoO T (T.pins wr s.heap) := .pins hw
  refine ⟨⟨I.g, I.os, I.bare, fun b o e => E.lock _ _ (I.base b o e), fun a g e => ?_, fun e m => ?_, fun t m => ?_⟩, E.imp fun _ z => z.elim, List.prefix_refl _, fun _ m => .inl m, S.mono E fun a m => ?_⟩
  · by_cases hb : a ∈ wr
    · rw [pins_in hb] at e
      cases q : s.heap.get? a with
      | none => rw [q] at e; cases e
      | some o => rw [q] at e; cases e; exact q
    · rw [pins_out hb] at e; exact I.ok a g e
  · obtain ⟨h1, L, m', h2, h3⟩ := I.fr e m
    exact ⟨h1, L, m', h2, E.frame _ _ id h3⟩
  · have t1 := I.tabs t m
    obtain ⟨ps, h1, _⟩ := id t1
    exact t1.ext E (pins_out (out_of hw h1))
  · cases q : T a with
    | none => exact absurd q (S.tr a m)
    | some g => rw [pins_out (out_of hw q)]; exact q
/-- .. and are let go -/
theorem Good.del (g : Good X O (T.pins wr hp) φ T2 φ2 h2 s2) (hT : ∀ a ∈ φ, T a ≠ none) (hw : ∀ b ∈ wr, T b = none) (hx : ∀ b ∈ wr, ∃ o, hp.get? b = some o) :
    Good X O T φ (T2.del wr) φ2 h2 s2 ∧ Kp2 T2 (T2.del wr) ∧ (∀ b ∈ wr, T2.del wr b = none) ∧ ∀ b ∈ wr, ∀ o, hp.get? b = some o → s2.heap.get? b = some o := by
  have E0 : Ext NoO T (T.pins wr hp) := .pins hw
  have pn : ∀ b ∈ wr, ∃ o, hp.get? b = some o ∧ T2 b = some (.pin o) := fun b hb => by
    obtain ⟨o, e⟩ := hx b hb
    exact ⟨o, e, g.ext.pin b o (by rw [pins_in hb, e]; rfl)⟩
  have k : Kp2 T2 (T2.del wr) := fun a u e n => by
    by_cases hb : a ∈ wr
    · obtain ⟨o, _, e2⟩ := pn a hb
      rw [e2] at e; cases e; exact absurd rfl (n o)
    · rw [del_out hb]; exact e
  have out2 : ∀ a u, T2 a = some u → (∀ o, u ≠ .pin o) → a ∉ wr := fun a u e n hb => by
    obtain ⟨o, _, e2⟩ := pn a hb
    rw [e2] at e; cases e; exact n o rfl
  have E2 : Ext O T T2 := (E0.imp fun _ z => z.elim).trans g.ext
  have gone : ∀ a u, T a = some u → T2.del wr a = T2 a := fun a u e => del_out (out_of hw e)
  have E3 : Ext O T (T2.del wr) := ⟨fun a o e => by rw [gone a _ e]; exact E2.lock a o e, fun a o e => by rw [gone a _ e]; exact E2.pin a o e, fun a c d e => by rw [gone a _ e]; exact E2.exn a c d e, fun a m n e => by rw [gone a _ e]; exact E2.frame a m n e,
    fun a m n e => by rw [gone a _ e]; exact E2.cell a m n e, fun a m e => by rw [gone a _ e]; exact E2.frame' a m e, fun a m e => by rw [gone a _ e]; exact E2.cell' a m e, fun a e => by
      cases q : T a with
      | none => exact absurd q e
      | some u => rw [gone a u q]; exact E2.sm a e⟩
  have nw : ∀ a ∈ φ2, a ∉ wr := fun a m hb => by
    rcases g.new a m with z | z
    · exact hT a z (hw a hb)
    · obtain ⟨o, e⟩ := hx a hb
      rw [pins_in hb, e] at z; cases z
  refine ⟨⟨⟨g.inv.g, g.inv.os, g.inv.bare, fun b o e => k.kp.lock _ _ (g.inv.base b o e), fun a u e => ?_, fun e m => ?_, fun t m => ?_⟩, E3, g.pre, fun a m => ?_, g.sim.kept k.kp fun a m => del_out (nw a m)⟩, k, fun b hb => del_in hb, fun b hb o e => ?_⟩
  · by_cases hb : a ∈ wr
    · rw [del_in hb] at e; cases e
    · rw [del_out hb] at e; exact g.inv.ok a u e
  · obtain ⟨h1, L, m', h2, h3⟩ := g.inv.fr e m
    exact ⟨h1, L, m', h2, k _ _ h3 (fun _ z => by cases z)⟩
  · have t1 := g.inv.tabs t m
    obtain ⟨ps, h1, _⟩ := id t1
    exact t1.kept k.kp (by rw [del_out (out2 _ _ h1 (fun _ z => by cases z))])
  · rcases g.new a m with z | z
    · exact .inl z
    · refine .inr ?_
      rw [pins_out (nw a m)] at z; exact z
  · obtain ⟨o', e', e2⟩ := pn b hb
    rw [e] at e'; cases e'
    exact g.inv.ok b _ e2
theorem LookV.kept {env : PySem.Env} {x : PySem.Str} {v : Val} (k : Kp2 T T2) (l : LookV X.G T φ env x v) : LookV X.G T2 φ env x v := by
  rcases l with ⟨k1, m, u, h1, h2, h3⟩ | ⟨k1, c, u, h1, h2, h3⟩
  · exact .inl ⟨k1, m, u, k _ _ h1 (fun _ z => by cases z), h2, RV.kept k.kp (List.prefix_refl _) _ _ h3⟩
  · exact .inr ⟨k1, c, u, h1, k _ _ h2 (fun _ z => by cases z), RV.kept k.kp (List.prefix_refl _) _ _ h3⟩
theorem ER.kept (R : ER X T φ ρ) (k : Kp2 T T2) : ER X T2 φ ρ := by
  refine ⟨fun x i hv => ?_, ?_, fun x c hc => ?_, R.byv⟩
  · have := R.slot x i hv
    cases q : ρ[i]? with
    | none => trivial
    | some sl =>
      rw [q] at this
      cases sl with
      | u => trivial
      | v w => exact LookV.kept k this
      | c a => exact this
  · obtain ⟨m, h⟩ := R.frame
    exact ⟨m, k _ _ h (fun _ z => by cases z)⟩
  · obtain ⟨u, h⟩ := R.cell x c hc
    exact ⟨u, k _ _ h (fun _ z => by cases z)⟩
/-- an exception in the air over other ghosts -/
theorem Air.map {sky : Heap → Addr → (Obj → Prop) → Heap → Prop} {c : Nat} {fs : List Val} {x : Value} {h3 : Hp} (f : ∀ T' φ' sI, Good X O T1 φ1 T' φ' h2 sI → ∃ T'', Good X O T φ T'' φ' h3 sI ∧ Kp2 T' T'' ∧ ∀ a, T' a = none → T'' a = none)
    (a : Air X O T1 φ1 sky c fs h2 x s2) : Air X O T φ sky c fs h3 x s2 := by
  obtain ⟨a, B, sI, T', φ', C, d, o, us, h1, g, h3, h4, h5, h6, h7, h8, h9, h10, h11, h12⟩ := a
  obtain ⟨T'', g2, k, n⟩ := f T' φ' sI g
  exact ⟨a, B, sI, T'', φ', C, d, o, us, h1, g2, h3, h4, h5, n a h6, h7, h8, h9, k _ _ h10 (fun _ z => by cases z), RVs.kept k.kp (List.prefix_refl _) _ _ h11, h12⟩

/-! ### lists that are walked stand still -/
theorem Good.lock1 (S : St X T φ ρ h s) {i : Nat} {xs : List Val} (e : h.at i = some (.lst xs)) :
    ∃ a us n, φ[i]? = some a ∧ T a = some (.lst us) ∧ Good X O T φ (T.set a (.pin (listO us n))) φ (h.put i (.lck xs)) s := by
  obtain ⟨a, ha⟩ := S.sim.adr (Hp.at_lt e)
  obtain ⟨us, h1, h2⟩ := S.sim.ob i a _ ha e
  obtain ⟨z, n, h3⟩ := S.inv.ok _ _ h1
  have E : ∀ O', Ext O' T (T.set a (.pin (listO us n))) := fun O' => .set (by rw [h1]; trivial)
  refine ⟨a, us, n, ha, h1, ⟨S.inv.put (h' := s.heap) (tk := s.toks) (fun b o _ e => e) (E O) h1 (fun ps z => by cases z) h3, E O, List.prefix_refl _, fun _ m => .inl m, ?_⟩⟩
  refine S.sim.write ha (E O) (fun b nb => GT.set_ne nb) (by rw [GT.set_same]; simp) ⟨us, n, GT.set_same, z, RVs.mono (E O) (List.prefix_refl _) _ _ h2⟩ fun b hb hib => ?_
  obtain ⟨us', k1, k2⟩ := S.sim.low b hb i a _ hib ha e
  rw [h1] at k1; cases k1
  exact ⟨us, n, GT.set_same, z, RVs.mono (E O) (List.prefix_refl _) _ _ k2⟩
theorem lock_all : ∀ (l : List Nat) {T : GT} {h : Hp}, St X T φ ρ h s → (∃ T2, Good X NoO T φ T2 φ (lockAll h l) s ∧ (∀ a, Fix T φ a → Fix T2 φ a) ∧ (∀ i ∈ l, ∀ a xs, φ[i]? = some a → h.at i = some (.lst xs) → Fix T2 φ a) ∧ ∀ a, T a = none → T2 a = none)
  | [], T, h, S => ⟨T, .refl S.inv S.sim, fun _ f => f, (fun i m => by cases m), fun _ e => e⟩
  | i :: l, T, h, S => by
    cases q : h.at i with
    | none =>
      obtain ⟨T2, g, f, k, n⟩ := lock_all l S
      refine ⟨T2, by simpa only [lockAll, q] using g, f, (fun j m a xs ha e => ?_), n⟩
      rcases List.mem_cons.mp m with z | z
      · subst z; rw [q] at e; cases e
      · exact k j z a xs ha e
    | some ob =>
      cases ob with
      | lst xs =>
        obtain ⟨a, us, n, ha, hT, g⟩ := Good.lock1 (O := NoO) S q
        obtain ⟨T2, g2, f, k, n2⟩ := lock_all l (g.st S)
        have f0 : ∀ b, Fix T φ b → Fix T2 φ b := fun b hb => f b (g.ext.fix (List.prefix_refl _) hb)
        have fa : Fix T2 φ a := f a ⟨_, .inr ⟨GT.set_same, List.mem_of_getElem? ha⟩⟩
        refine ⟨T2, by simpa only [lockAll, q] using g.trans g2, f0, (fun j m b ys hb e => ?_), fun b e => n2 b (by rw [GT.set_ne (fun z => by rw [z, hT] at e; cases e)]; exact e)⟩
        by_cases hij : j = i
        · subst hij
          rw [ha] at hb; cases hb; exact fa
        · rcases List.mem_cons.mp m with z | z
          · exact absurd z hij
          · refine k j z b ys hb ?_
            rw [Hp.at_put (Hp.at_lt q), if_neg hij]; exact e
      | lck xs =>
        obtain ⟨T2, g, f, k, n⟩ := lock_all l S
        refine ⟨T2, by simpa only [lockAll, q] using g, f, (fun j m a xs ha e => ?_), n⟩
        rcases List.mem_cons.mp m with z | z
        · subst z; rw [q] at e; cases e
        · exact k j z a xs ha e
      | dct _ _ =>
        obtain ⟨T2, g, f, k, n⟩ := lock_all l S
        refine ⟨T2, by simpa only [lockAll, q] using g, f, (fun j m a xs ha e => ?_), n⟩
        rcases List.mem_cons.mp m with z | z
        · subst z; rw [q] at e; cases e
        · exact k j z a xs ha e
      | cel _ =>
        obtain ⟨T2, g, f, k, n⟩ := lock_all l S
        refine ⟨T2, by simpa only [lockAll, q] using g, f, (fun j m a xs ha e => ?_), n⟩
        rcases List.mem_cons.mp m with z | z
        · subst z; rw [q] at e; cases e
        · exact k j z a xs ha e
end
end Mp
/-! W13: .. and move again; what a loop draws from. -/
namespace Mp
open PySem PySem.Spec PyProof.Rows
section
variable {X : Ctx} {O : Addr → Prop} {T T1 T2 : GT} {φ φ1 φ2 : List Addr} {ρ : Mp.Env} {h h2 : Hp} {s s1 s2 : Shared}
theorem Good.unlock1 (g : Good X O T φ T2 φ2 h2 s2) {i : Nat} {a : Addr} {us0 : List Value} (ha : φ[i]? = some a) (hT : T a = some (.lst us0)) :
    ∃ T3, Good X O T φ T3 φ2 (unlockAll h2 [i]) s2 ∧ Kp2 T2 T3 ∧ (∀ b, T2 b = none → T3 b = none) := by
  cases q : h2.at i with
  | none => exact ⟨T2, by simpa only [unlockAll, q] using g, .refl _, fun b e => e⟩
  | some ob =>
    cases ob with
    | lck ys =>
      have ha2 := pref_at g.pre ha
      obtain ⟨us, n, h1, z, r⟩ := g.sim.ob i a _ ha2 q
      have ne : ∀ b u, T2 b = some u → (∀ o, u ≠ .pin o) → b ≠ a := fun b u e n z => by subst z; rw [h1] at e; cases e; exact n _ rfl
      have k : Kp2 T2 (T2.set a (.lst us)) := fun b u e n => by rw [GT.set_ne (ne b u e n)]; exact e
      have neT : ∀ b u, T b = some u → ¬ Loose (some u) → b ≠ a := fun b u e n z => by subst z; rw [hT] at e; cases e; exact n trivial
      have E : Ext O T (T2.set a (.lst us)) := ⟨fun b o e => by rw [GT.set_ne (neT b _ e id)]; exact g.ext.lock b o e, fun b o e => by rw [GT.set_ne (neT b _ e id)]; exact g.ext.pin b o e, fun b c d e => by rw [GT.set_ne (neT b _ e id)]; exact g.ext.exn b c d e,
        fun b m n e => by rw [GT.set_ne (neT b _ e id)]; exact g.ext.frame b m n e, fun b m n e => by rw [GT.set_ne (neT b _ e id)]; exact g.ext.cell b m n e, fun b m e => by rw [GT.set_ne (neT b _ e id)]; exact g.ext.frame' b m e,
        fun b m e => by rw [GT.set_ne (neT b _ e id)]; exact g.ext.cell' b m e, fun b e => set_some b (g.ext.sm b e)⟩
      refine ⟨T2.set a (.lst us), ⟨⟨g.inv.g, g.inv.os, g.inv.bare, fun b o e => k.kp.lock _ _ (g.inv.base b o e), fun b u e => ?_, fun e m => ?_, fun t m => ?_⟩, E, g.pre, g.new, ?_⟩, k, fun b e => ?_⟩
      · by_cases hb : b = a
        · subst hb; rw [GT.set_same] at e; cases e
          exact ⟨z, n, g.inv.ok _ _ h1⟩
        · rw [GT.set_ne hb] at e; exact g.inv.ok b u e
      · obtain ⟨h1, L, m', h2, h3⟩ := g.inv.fr e m
        exact ⟨h1, L, m', h2, k _ _ h3 (fun _ z => by cases z)⟩
      · have t1 := g.inv.tabs t m
        obtain ⟨ps, h1, _⟩ := id t1
        exact t1.kept k.kp (by rw [GT.set_ne (ne _ _ h1 (fun _ z => by cases z))])
      · have e : unlockAll h2 [i] = h2.put i (.lst ys) := by simp only [unlockAll, q]
        rw [e]
        refine g.sim.writeK ha2 k.kp (fun b nb => GT.set_ne nb) (by rw [GT.set_same]; simp) ⟨us, GT.set_same, RVs.kept k.kp (List.prefix_refl _) _ _ r⟩ fun b hb hib => ?_
        obtain ⟨us', n', k1, k3, k2⟩ := g.sim.low b hb i a _ hib ha2 q
        rw [h1] at k1
        have : us = us' := by
          have e := Gh.pin.inj (Option.some.inj k1)
          have e2 : Data.seq us.toArray n = Data.seq us'.toArray n' := congrArg Obj.data e
          have e3 : us.toArray = us'.toArray := by injection e2
          simpa using congrArg Array.toList e3
        subst this
        exact ⟨us, GT.set_same, RVs.kept k.kp (List.prefix_refl _) _ _ k2⟩
      · by_cases hb : b = a
        · subst hb; rw [h1] at e; cases e
        · rw [GT.set_ne hb]; exact e
    | lst _ => exact ⟨T2, by simpa only [unlockAll, q] using g, .refl _, fun b e => e⟩
    | dct _ _ => exact ⟨T2, by simpa only [unlockAll, q] using g, .refl _, fun b e => e⟩
    | cel _ => exact ⟨T2, by simpa only [unlockAll, q] using g, .refl _, fun b e => e⟩
theorem unlock_cons {h : Hp} {i : Nat} {l : List Nat} : unlockAll h (i :: l) = unlockAll (unlockAll h [i]) l := by
  cases q : h.at i with
  | none => simp only [unlockAll, q]
  | some ob => cases ob <;> simp only [unlockAll, q]
theorem Good.unlock : ∀ (l : List Nat) {T2 : GT} {h2 : Hp}, Good X O T φ T2 φ2 h2 s2 → (∀ i ∈ l, ∃ a us0, φ[i]? = some a ∧ T a = some (.lst us0)) → ∃ T3, Good X O T φ T3 φ2 (unlockAll h2 l) s2 ∧ Kp2 T2 T3 ∧ (∀ b, T2 b = none → T3 b = none)
  | [], T2, h2, g, _ => ⟨T2, g, .refl _, fun b e => e⟩
  | i :: l, T2, h2, g, hl => by
    obtain ⟨a, us0, ha, hT⟩ := hl i (by simp)
    obtain ⟨T3, g3, k3, n3⟩ := g.unlock1 ha hT
    obtain ⟨T4, g4, k4, n4⟩ := Good.unlock l g3 fun j m => hl j (by simp [m])
    exact ⟨T4, by rw [unlock_cons]; exact g4, k3.trans k4, fun b e => n4 b (n3 b e)⟩

/-! ### what a loop draws from -/
structure SrcAt (X : Ctx) (T : GT) (φ : List Addr) (t : At) (target : Expr) (xs : List Val) (it : Value) (s : Shared) (I : Addr) (fp wr : List Addr) (Y : Nat → Value → Heap → Prop) (St : Nat → Heap → Prop) : Prop where
  ref : it = .ref I
  goes : PySem.Goes X.G.prog X.G.w X.A target I fp wr xs.length Y St
  few : xs.length ≤ sizeLine
  st : St 0 s.heap
  old : ∀ b ∈ fp, b < s.heap.objs.size
  fix : ∀ b ∈ fp, b ∈ wr ∨ Fix T φ b
  wrn : ∀ b ∈ wr, T b = none
  live : ∀ i h, St i h → ∀ b ∈ wr, ∃ o, h.get? b = some o
  item : ∀ i v h x, Y i v h → xs[i]? = some x → RVa t X.G T φ h x v
def Src (X : Ctx) (T : GT) (φ : List Addr) (t : At) (target : Expr) (xs : List Val) (it : Value) (s : Shared) : Prop := ∃ I fp wr Y St, SrcAt X T φ t target xs it s I fp wr Y St
/-- where an iterator stands -/
def QI (X : Ctx) (T : GT) (φ : List Addr) (t : At) (target : Expr) (r : R Walk) (itv : Value) (s2 : Shared) : Prop := ∃ w h1 T1 φ1 T2, r = .ok w h1 ∧ Good X NoO T φ T1 φ1 h1 s2 ∧ Good X NoO T1 φ1 T2 φ1 (lockAll h1 w.2) s2 ∧ (∀ i ∈ w.2, ∃ a us0, φ1[i]? = some a ∧ T1 a = some (.lst us0)) ∧ Src X T2 φ1 t target w.1 itv s2
def SI (X : Ctx) (it : It) (t : At) (iter target : Expr) : Prop := ∀ (T : GT) (φ : List Addr) (ρ : Mp.Env) (h : Hp) (s : Shared) (F : Value → Shared → Prop), St X T φ ρ h s → evIt X.C ρ h it ≠ .no →
  (∀ x s', QX X T φ (evIt X.C ρ h it) x s' → F x s') → wpAny X.M X.A (eval iter X.env) (fun xv s1 => wpAny X.M X.A (pyIter xv) (QI X T φ t target (evIt X.C ρ h it)) F s1) F s
theorem walk_lst {v : Val} {w : Walk} (e : walkOf h v = some w) : ∀ i ∈ w.2, ∃ xs, h.at i = some (.lst xs) := by
  cases v with
  | lst xs => cases e; intro i m; cases m
  | tup xs => cases e; intro i m; cases m
  | ref a =>
    simp only [walkOf] at e
    cases q : h.at a with
    | none => rw [q] at e; cases e
    | some ob =>
      rw [q] at e
      cases ob with
      | lst xs =>
        cases e
        intro i m
        have : i = a := by simpa using m
        subst this; exact ⟨xs, q⟩
      | lck xs => cases e; intro i m; cases m
      | _ => cases e
  | _ => cases e
theorem lst_at (S : St X T φ ρ h s) {l : List Nat} (hl : ∀ i ∈ l, ∃ xs, h.at i = some (.lst xs)) : ∀ i ∈ l, ∃ a us0, φ[i]? = some a ∧ T a = some (.lst us0) := fun i m => by
  obtain ⟨xs, e⟩ := hl i m
  obtain ⟨a, ha⟩ := S.sim.adr (Hp.at_lt e)
  obtain ⟨us, h1, h2⟩ := S.sim.ob i a _ ha e
  exact ⟨a, us, ha, h1⟩
/-- a list, a tuple that is walked, once it stands still -/
structure WalkAt (X : Ctx) (T : GT) (φ : List Addr) (s : Shared) (xs : List Val) (u : Value) (a : Addr) (us : List Value) : Prop where
  ref : u = .ref a
  items : RVs X.G T φ xs us
  few : us.length ≤ sizeLine
  kind : PlainL s.heap a us.toArray ∨ IsTup s.heap a us.toArray
  fix : Fix T φ a
theorem walk_at (S : St X T φ ρ h s) {v : Val} {u : Value} {w : Walk} (r : RV X.G T φ v u) (e : walkOf h v = some w) : ∃ a us, u = .ref a ∧ RVs X.G T φ w.1 us ∧ us.length ≤ sizeLine ∧ (PlainL s.heap a us.toArray ∨ IsTup s.heap a us.toArray) ∧
    (v.isL h = true → PlainL s.heap a us.toArray) ∧ (Fix T φ a ∨ ∃ i ∈ w.2, φ[i]? = some a) := by
  cases v with
  | lst xs =>
    cases e
    simp only [RV] at r
    obtain ⟨a, us, n, h1, h2, h3, h4⟩ := r
    have p : PlainL s.heap a us.toArray := ⟨_, n, S.inv.ok _ _ h2, rfl, rfl, rfl⟩
    exact ⟨a, us, h1, h4, h3, .inl p, fun _ => p, .inl ⟨_, .inl h2⟩⟩
  | tup xs =>
    cases e
    simp only [RV] at r
    obtain ⟨a, o, us, n, h1, h2, h3, h4, h5, h6⟩ := r
    exact ⟨a, us, h1, h6, h5, .inr ⟨o, S.inv.ok _ _ h2, h3, n, h4⟩, (fun z => by cases z), .inl ⟨_, .inl h2⟩⟩
  | ref i =>
    simp only [RV] at r
    obtain ⟨a, h1, h2⟩ := r
    simp only [walkOf] at e
    cases q : h.at i with
    | none => rw [q] at e; cases e
    | some ob =>
      rw [q] at e
      have so := S.sim.ob i a ob h1 q
      cases ob with
      | lst ys =>
        cases e
        obtain ⟨us, h3, h4⟩ := so
        obtain ⟨z, n, h5⟩ := S.inv.ok _ _ h3
        have p : PlainL s.heap a us.toArray := ⟨_, n, h5, rfl, rfl, rfl⟩
        exact ⟨a, us, h2, h4, z, .inl p, fun _ => p, .inr ⟨i, by simp, h1⟩⟩
      | lck ys =>
        cases e
        obtain ⟨us, n, h3, z, h4⟩ := so
        have p : PlainL s.heap a us.toArray := ⟨_, n, S.inv.ok _ _ h3, rfl, rfl, rfl⟩
        exact ⟨a, us, h2, h4, z, .inl p, fun _ => p, .inl ⟨_, .inr ⟨h3, List.mem_of_getElem? h1⟩⟩⟩
      | dct _ _ => cases e
      | cel _ => cases e
  | _ => cases e
theorem St.kept {hp : Heap} {tk : Tok} (S : St X T φ ρ h s) (k : ∀ b o, s.heap.get? b = some o → hp.get? b = some o) : St X T φ ρ h { s with heap := hp, toks := tk } := ⟨S.inv.kept k, S.er, S.sim⟩
theorem Good.kept {hp : Heap} {tk : Tok} (g : Good X O T φ T2 φ2 h2 s) (k : ∀ b o, s.heap.get? b = some o → hp.get? b = some o) : Good X O T φ T2 φ2 h2 { s with heap := hp, toks := tk } := ⟨g.inv.kept k, g.ext, g.pre, g.new, g.sim⟩
theorem rva_item {t : At} {us : List Value} {xs : List Val} (r : RVs X.G T φ xs us) {i : Nat} {v : Value} {x : Val} {hp : Heap} (e : us[i]? = some v) (ex : xs[i]? = some x) : RVa t X.G T φ hp x v := by
  obtain ⟨u, hu, ru⟩ := r.at ex
  rw [e] at hu; cases hu
  exact .of ru
theorem si_ev {e : E} {e' target : Expr} {t : At} (ok : X.Ok) (he : SE X e e') : SI X (.ev e) t e' target := by
  intro T φ ρ h s F S hn hF
  have e0 : evIt X.C ρ h (.ev e) = (ev X.C ρ h e).bind fun v h => ofO (walkOf h v) h := by simp only [evIt]
  rw [e0] at hn hF ⊢
  refine wpAny_mono (he T φ ρ h s F S (R.bind_no' hn) (QX.bind hF)) (fun u s1 ⟨v, h1, T1, φ1, e1, g1, r1⟩ => ?_) fun _ _ z => z
  obtain ⟨hn, e2⟩ := R.bind_ne hn e1
  rw [e2]
  cases q : walkOf h1 v with
  | none => rw [q] at hn; exact absurd rfl hn
  | some w =>
    have S1 := g1.st S
    obtain ⟨T2, g2, f2, k2, n2⟩ := lock_all w.2 S1
    obtain ⟨a, us, rfl, a1, a2, a3, a4, a5⟩ := walk_at S1 r1 q
    have wl := walk_lst q
    have fa : Fix T2 φ1 a := by
      rcases a5 with z | ⟨i, m, z⟩
      · exact f2 a z
      · obtain ⟨xs, e⟩ := wl i m
        exact k2 i m a xs z e
    have rs := RVs.mono g2.ext g2.pre _ _ a1
    have hl := a1.length
    have fresh : T2 s1.heap.objs.size = none := g2.inv.fresh (Nat.le_refl _)
    have al : a < s1.heap.objs.size := by
      rcases a3 with ⟨_, _, e, _⟩ | ⟨_, e, _⟩ <;> exact Heap.lt_size e
    have ne : a ≠ s1.heap.objs.size := Nat.ne_of_lt al
    have kp : ∀ o' : Obj, ∀ b o, s1.heap.get? b = some o → (s1.heap.push o').get? b = some o := fun o' _ _ e => Heap.get?_push_of_some _ e
    have fin : ∀ (o' : Obj) (Y : Nat → Value → Heap → Prop) (St : Nat → Heap → Prop), PySem.Goes X.G.prog X.G.w X.A target s1.heap.objs.size [s1.heap.objs.size, a] [s1.heap.objs.size] us.length Y St → St 0 (s1.heap.push o') → (∀ i h, St i h → ∃ o, h.get? s1.heap.objs.size = some o) →
        (∀ i v h, Y i v h → us[i]? = some v) → QI X T φ t target (ofO (some w) h1) (.ref s1.heap.objs.size) { s1 with heap := s1.heap.push o' } := fun o' Y St hg h0 hv hY => by
      refine ⟨w, h1, T1, φ1, T2, rfl, g1.kept (tk := s1.toks) (kp o'), g2.kept (tk := s1.toks) (kp o'), lst_at S1 wl, s1.heap.objs.size, [s1.heap.objs.size, a], [s1.heap.objs.size], Y, St, ⟨rfl, by rw [hl]; exact hg, by rw [hl]; exact a2, h0, fun b hb => ?_, fun b hb => ?_, fun b hb => ?_, fun i h z b hb => ?_, fun i v h x y ex => rva_item rs (hY i v h y) ex⟩⟩
      · rw [Heap.size_push]
        rcases List.mem_cons.mp hb with z | z
        · subst z; exact Nat.lt_succ_self _
        · have : b = a := by simpa using z
          subst this; exact Nat.lt_succ_of_lt al
      · rcases List.mem_cons.mp hb with z | z
        · subst z; exact .inl (by simp)
        · have : b = a := by simpa using z
          subst this; exact .inr fa
      · have : b = s1.heap.objs.size := by simpa using hb
        subst this; exact fresh
      · have : b = s1.heap.objs.size := by simpa using hb
        subst this; exact hv i h z
    rcases a3 with p | p
    · refine wpAny_pyIter_list p.isList (fin _ (fun i v _ => us.toArray[i]? = some v) (fun i h => h.IsListIter s1.heap.objs.size a i ∧ h.IsList a us.toArray) (by simpa using PySem.Goes.list (target := target) ok.hd s1.heap.objs.size a ne us.toArray) ⟨⟨_, Heap.get?_push_size _ rfl, rfl, rfl⟩, p.isList.push _⟩ (fun i h z => ?_) fun i v h y => by simpa using y)
      obtain ⟨⟨o, e, _⟩, _⟩ := z; exact ⟨o, e⟩
    · refine wpAny_pyIter_tuple (show s1.heap.IsTuple a us.toArray from p) (fin _ (fun i v _ => us.toArray[i]? = some v) (fun i h => h.IsTupleIter s1.heap.objs.size a i ∧ h.IsTuple a us.toArray) (by simpa using PySem.Goes.tuple (target := target) ok.hd s1.heap.objs.size a ne us.toArray) ⟨⟨_, Heap.get?_push_size _ rfl, rfl, rfl⟩, Heap.IsTuple.push (show s1.heap.IsTuple a us.toArray from p) _⟩ (fun i h z => ?_) fun i v h y => by simpa using y)
      obtain ⟨⟨o, e, _⟩, _⟩ := z; exact ⟨o, e⟩
end
end Mp
/-! W14: range, zip, enumerate. -/
namespace Mp
open PySem PySem.Spec PyProof.Rows
section
variable {X : Ctx} {O : Addr → Prop} {T T1 T2 : GT} {φ φ1 φ2 : List Addr} {ρ : Mp.Env} {h h1 h2 : Hp} {s s1 s2 : Shared}
/-- a call of a built-in class, in front of anything -/
theorem call_type {α : Type} {es : Es} {f : List Val → Hp → R α} {ty : String} {x : PySem.Str} {e : Expr} {rest : List Expr} {p1 pos : Pos} {F : Value → Shared → Prop} {Q : Value → Shared → Prop} (ok : X.Ok) (hk : X.env.kindOf x = some .globalImplicit) (hm : X.G.mg x = none) (hv : bootBuiltins x = some (.type ty))
    (hn : x ≠ "__name__") (hd : (x == ("__debug__" : PySem.Str)) = false) (he : SEs X es (e :: rest)) (hs : (e :: rest).all noStar = true) (S : St X T φ ρ h s) (hne : (evs X.C ρ h es).bind f ≠ .no) (hF : ∀ x s', QX X T φ ((evs X.C ρ h es).bind f) x s' → F x s')
    (hQ : ∀ us s1 vs h1 T1 φ1, evs X.C ρ h es = .ok vs h1 → Good X NoO T φ T1 φ1 h1 s1 → RVs X.G T1 φ1 vs us → f vs h1 ≠ .no → (evs X.C ρ h es).bind f = f vs h1 → wpAny X.M X.A (call (.type ty) us) Q F s1) :
    wpAny X.M X.A (eval (.Call (.Name x p1) (e :: rest) [] pos) X.env) Q F s := by
  refine wpAny_Call_Name_kw (ld_blt ok S hk hm hv hn hd ?_)
  have h1 := starEach_cons (rest := rest) (env := X.env) (by simp only [List.all_cons, Bool.and_eq_true] at hs; exact hs.1)
  have h2 := (backTo_plain (pos := pos) (env := X.env) (es := rest) (by simp only [List.all_cons, Bool.and_eq_true] at hs; exact hs.2)).1
  refine PyProof.Rows.callWith_type1 (wpAny_mono (he pos T φ ρ h s F S (R.bind_no' hne) (QX.bind hF)) (fun us s1 ⟨vs, k, T1, φ1, f1, g1, r1⟩ => ?_) fun _ _ z => z) h1 h2
  obtain ⟨hn2, e2⟩ := R.bind_ne hne f1
  exact hQ us s1 vs k T1 φ1 f1 g1 r1 hn2 e2
theorem rangeV_at {a c : Int} {n i : Nat} {x : Val} (e : (rangeV a c n)[i]? = some x) : i < n ∧ x = .int (a + (i : Nat) * c) := by
  unfold rangeV at e
  rw [List.getElem?_map] at e
  obtain ⟨k, e1, e2⟩ := Option.map_eq_some_iff.mp e
  obtain ⟨hk, e3⟩ := List.getElem?_eq_some_iff.mp e1
  rw [List.getElem_range] at e3
  subst e3
  exact ⟨by simpa using hk, e2.symm⟩
theorem rng_src {t : At} {target : Expr} {a c : Int} {n : Nat} {I : Addr} {hp : Heap} {tk : Tok} (ok : X.Ok) (g : Good X NoO T φ T1 φ1 h1 s1) (k : ∀ b o, s1.heap.get? b = some o → hp.get? b = some o) (hI : s1.heap.objs.size ≤ I) (hi : IsRangeIter hp I a n c) (hn : n ≤ 100000) :
    QI X T φ t target (.ok (rangeV a c n, []) h1) (.ref I) { s1 with heap := hp, toks := tk } := by
  have g' := g.kept (tk := tk) k
  refine ⟨_, h1, T1, φ1, T1, rfl, g', .refl g'.inv g'.sim, (fun i m => by cases m), I, [I], [I], _, _, ⟨rfl, by
    show PySem.Goes _ _ _ _ _ _ _ (rangeV a c n).length _ _
    have : (rangeV a c n).length = n := by simp [rangeV]
    rw [this]
    exact PySem.Goes.range ok.hd I a c n, by simp [rangeV]; exact small_line hn, range_st hi, fun b hb => ?_, fun b hb => .inl hb, fun b hb => ?_, fun i h z b hb => ?_, fun i v h x y ex => ?_⟩⟩
  · have : b = I := by simpa using hb
    subst this; exact Heap.lt_size hi
  · have : b = I := by simpa using hb
    subst this; exact g.inv.fresh hI
  · have : b = I := by simpa using hb
    subst this; exact ⟨_, z⟩
  · obtain ⟨_, rfl⟩ := rangeV_at ex
    obtain ⟨tk, rfl⟩ := y
    exact .of rv_int
theorem range_boot : bootBuiltins "range" = some (.type "range") := by decide +kernel
theorem zip_boot : bootBuiltins "zip" = some (.type "zip") := by decide +kernel
theorem enum_boot : bootBuiltins "enumerate" = some (.type "enumerate") := by decide +kernel
theorem intv {v : Val} (h : v.asInt ≠ none) : ∃ i, v = .int i := by
  cases v <;> first | exact ⟨_, rfl⟩ | exact absurd rfl h
theorem range_go {t : At} {target : Expr} {a b c : Int} {tA tB tC tk : Tok} {F : Value → Shared → Prop} (ok : X.Ok) (g : Good X NoO T φ T1 φ1 h1 s1) (hs : Builtin.Range.small a b c = true) {n : Nat} (hn : Builtin.Range.rangeSize a b c = (n : Int)) (hz : n ≤ 100000) :
    wpAny X.M X.A (pyIter (.ref s1.heap.objs.size)) (QI X T φ t target (.ok (rangeV a c n, []) h1)) F { s1 with heap := s1.heap.push { cls := .type "range", data := .fields #[.int a tA, .int b tB, .int c tC] }, toks := tk } := by
  refine range_begins (IsRange.new ..) hs hn fun h' e1 e2 e3 => ?_
  have hz2 : (s1.heap.push { cls := .type "range", data := .fields #[.int a tA, .int b tB, .int c tC] }).objs.size = s1.heap.objs.size + 1 := Heap.size_push ..
  exact rng_src (s1 := s1) (hp := h') (tk := tk) ok g (fun b o e => e3 b o (Heap.get?_push_of_some _ e)) (by rw [hz2]; exact Nat.le_succ _) e1 hz
theorem si_rng {es : Es} {t : At} {e : Expr} {rest : List Expr} {target : Expr} {p1 pos : Pos} (ok : X.Ok) (hk : X.env.kindOf "range" = some .globalImplicit) (hm : X.G.mg "range" = none) (he : SEs X es (e :: rest)) (hs : (e :: rest).all noStar = true) :
    SI X (.rng es) t (.Call (.Name "range" p1) (e :: rest) [] pos) target := by
  intro T φ ρ h s F S hn hF
  have e0 : evIt X.C ρ h (.rng es) = (evs X.C ρ h es).bind rngOp := by simp only [evIt]
  rw [e0] at hn hF ⊢
  refine call_type ok hk hm range_boot (by decide) (by decide) he hs S hn hF fun us s1 vs h1 T1 φ1 e1 g r hn2 e2 => ?_
  rw [e2]
  match vs with
  | [] => exact absurd rfl hn2
  | [v] =>
    cases v with
    | int n =>
      obtain ⟨u, rfl, r1⟩ := r.one
      simp only [RV] at r1
      obtain ⟨tk, rfl⟩ := r1
      have e3 : rngOp [.int n] h1 = if n ≤ 100000 ∧ -(2 ^ 62) ≤ n then .ok (rangeV 0 1 n.toNat, []) h1 else .no := rfl
      rw [e3] at hn2 ⊢
      by_cases c : n ≤ 100000 ∧ -(2 ^ 62) ≤ n
      · rw [if_pos c]
        exact call_range_1 (range_go ok g (small_one (by omega) (by omega) c.2 (by omega)) (by rw [rangeSize_one]; split <;> omega) (by omega))
      · rw [if_neg c] at hn2; exact absurd rfl hn2
    | _ => exact absurd rfl hn2
  | [v, w] =>
    cases hv : v.asInt with
    | none => exact absurd (by cases v <;> first | rfl | simp [Val.asInt] at hv) hn2
    | some a =>
      cases hw : w.asInt with
      | none => rw [Val.asInt_some hv] at hn2; exact absurd (by cases w <;> first | rfl | simp [Val.asInt] at hw) hn2
      | some b =>
        rw [Val.asInt_some hv, Val.asInt_some hw] at hn2 r ⊢
        obtain ⟨u, z, rfl, r1, r2⟩ := r.two
        simp only [RV] at r1 r2
        obtain ⟨tk, rfl⟩ := r1
        obtain ⟨tk2, rfl⟩ := r2
        have e3 : rngOp [.int a, .int b] h1 = if b - a ≤ 100000 ∧ -(2 ^ 62) ≤ a ∧ a < 2 ^ 62 ∧ -(2 ^ 62) ≤ b ∧ b < 2 ^ 62 then .ok (rangeV a 1 (b - a).toNat, []) h1 else .no := rfl
        rw [e3] at hn2 ⊢
        by_cases c : b - a ≤ 100000 ∧ -(2 ^ 62) ≤ a ∧ a < 2 ^ 62 ∧ -(2 ^ 62) ≤ b ∧ b < 2 ^ 62
        · rw [if_pos c]
          exact call_range_2 (range_go ok g (small_one c.2.1 c.2.2.1 c.2.2.2.1 c.2.2.2.2) (by rw [rangeSize_one]; split <;> omega) (by omega))
        · rw [if_neg c] at hn2; exact absurd rfl hn2
  | [v, w, y] =>
    cases hv : v.asInt with
    | none => exact absurd (by cases v <;> first | rfl | simp [Val.asInt] at hv) hn2
    | some a =>
      cases hw : w.asInt with
      | none => rw [Val.asInt_some hv] at hn2; exact absurd (by cases w <;> first | rfl | simp [Val.asInt] at hw) hn2
      | some b =>
        cases hy : y.asInt with
        | none => rw [Val.asInt_some hv, Val.asInt_some hw] at hn2; exact absurd (by cases y <;> first | rfl | simp [Val.asInt] at hy) hn2
        | some c =>
          rw [Val.asInt_some hv, Val.asInt_some hw, Val.asInt_some hy] at hn2 r ⊢
          obtain ⟨u, z, y', rfl, r1, r2, r3⟩ := r.three
          simp only [RV] at r1 r2 r3
          obtain ⟨tk, rfl⟩ := r1
          obtain ⟨tk2, rfl⟩ := r2
          obtain ⟨tk3, rfl⟩ := r3
          have e3 : rngOp [.int a, .int b, .int c] h1 = if c ≠ 0 ∧ c.natAbs < 1073741824 ∧ PySem.Builtin.Range.small a b c = true ∧ PySem.Builtin.Range.rangeSize a b c = ((PySem.Builtin.Range.rangeSize a b c).toNat : Int) ∧ (PySem.Builtin.Range.rangeSize a b c).toNat ≤ 100000 then .ok (rangeV a c (PySem.Builtin.Range.rangeSize a b c).toNat, []) h1 else .no := rfl
          rw [e3] at hn2 ⊢
          by_cases k : c ≠ 0 ∧ c.natAbs < 1073741824 ∧ PySem.Builtin.Range.small a b c = true ∧ PySem.Builtin.Range.rangeSize a b c = ((PySem.Builtin.Range.rangeSize a b c).toNat : Int) ∧ (PySem.Builtin.Range.rangeSize a b c).toNat ≤ 100000
          · rw [if_pos k]
            exact call_range_3 k.1 (range_go ok g k.2.2.1 k.2.2.2.1 k.2.2.2.2) (.inl (PyProof.noPylong_small k.2.1))
          · rw [if_neg k] at hn2; exact absurd rfl hn2
  | v :: w :: y :: _ :: _ =>
    refine absurd ?_ hn2
    cases v <;> cases w <;> cases y <;> rfl
/-! ### enumerate -/
theorem enumV_at : ∀ {xs : List Val} {k i : Nat} {x : Val}, (enumV k xs)[i]? = some x → ∃ y, xs[i]? = some y ∧ x = .tup [.int ((k + i : Nat) : Int), y]
  | [], _, _, _, e => by simp [enumV] at e
  | y :: ys, k, 0, x, e => by simp [enumV] at e; exact ⟨y, rfl, by rw [← e]; simp⟩
  | y :: ys, k, i + 1, x, e => by
    obtain ⟨z, h1, h2⟩ := enumV_at (k := k + 1) (i := i) (by simpa [enumV] using e)
    exact ⟨z, by simpa using h1, by rw [h2]; congr 4; omega⟩
theorem enumV_len : ∀ {xs : List Val} {k : Nat}, (enumV k xs).length = xs.length
  | [], _ => rfl
  | _ :: _, _ => by simp [enumV, enumV_len]
theorem si_enum {a : E} {ts : Ats} {a' : Expr} {elts : List Expr} {k : Nat} {tpos p1 pos : Pos} (ok : X.Ok) (hk : X.env.kindOf "enumerate" = some .globalImplicit) (hm : X.G.mg "enumerate" = none) (ha : SE X a a') (hs : noStar a' = true) :
    SI X (.enum a) (.tup ts) (.Call (.Name "enumerate" p1) [a'] [] pos) (.Tuple elts k tpos) := by
  intro T φ ρ h s F S hn hF
  have e0 : evIt X.C ρ h (.enum a) = (evs X.C ρ h (.cons a .nil)).bind fun vs h => enumOp (vs.headD .none) h := by
    simp only [evIt, evs]; cases ev X.C ρ h a <;> rfl
  rw [e0] at hn hF ⊢
  have hes : SEs X (.cons a .nil) [a'] := ses_cons ha ses_nil (starEach_cons hs)
  refine call_type ok hk hm enum_boot (by decide) (by decide) hes (by simp [hs]) S hn hF fun us s1 vs h1 T1 φ1 e1 g r hn2 e2 => ?_
  rw [e2]
  obtain ⟨v, rfl⟩ := len1 (evs_len e1)
  obtain ⟨u, rfl, r1⟩ := r.one
  simp only [List.headD_cons] at hn2 ⊢
  have e3 : enumOp v h1 = match v.isL h1, walkOf h1 v with
    | true, some p => .ok (enumV 0 p.1, p.2) h1
    | _, _ => .no := rfl
  rw [e3] at hn2 ⊢
  cases hL : v.isL h1 with
  | false => rw [hL] at hn2; exact absurd rfl hn2
  | true =>
    rw [hL] at hn2
    cases q : walkOf h1 v with
    | none => rw [q] at hn2; exact absurd rfl hn2
    | some w =>
      simp only
      have S1 := g.st S
      obtain ⟨T2, g2, f2, k2, n2⟩ := lock_all w.2 S1
      obtain ⟨l, us, rfl, a1, a2, _, a4, a5⟩ := walk_at S1 r1 q
      have p := a4 hL
      have wl := walk_lst q
      have fa : Fix T2 φ1 l := by
        rcases a5 with z | ⟨i, m, z⟩
        · exact f2 l z
        · obtain ⟨xs, e⟩ := wl i m
          exact k2 i m l xs z e
      have rs := RVs.mono g2.ext g2.pre _ _ a1
      have hl := a1.length
      have al : l < s1.heap.objs.size := p.lt
      refine call_enumerate_list p.isList fun h' he hit hsz hk => wpAny_pyIter_enum he ?_
      have fr : ∀ j, T2 (s1.heap.objs.size + j) = none := fun j => g2.inv.fresh (Nat.le_add_right _ _)
      have D := Draws.list (prog := X.G.prog) (w := X.G.w) (A := X.A.in1) ok.hd s1.heap.objs.size l (Nat.ne_of_lt al) us.toArray
      have G := PySem.Goes.enumFrom (elts := elts) (x1 := k) (pos := tpos) 0 D (s1.heap.objs.size + 1) (Nat.succ_ne_self _) (by
        intro m
        rcases List.mem_cons.mp m with z | z
        · exact absurd z (Nat.succ_ne_self _)
        · have : s1.heap.objs.size + 1 = l := by simpa using z
          exact absurd (this ▸ al : s1.heap.objs.size + 1 < s1.heap.objs.size) (Nat.not_lt.mpr (Nat.le_succ _))) (by simp)
      refine ⟨(enumV 0 w.1, w.2), h1, T1, φ1, T2, rfl, g.kept (tk := s1.toks) hk, g2.kept (tk := s1.toks) hk, lst_at S1 wl, s1.heap.objs.size + 1, (s1.heap.objs.size + 1) :: [s1.heap.objs.size, l], [s1.heap.objs.size + 1, s1.heap.objs.size], (fun i v h => ∃ T' t x, v = .ref T' ∧ us.toArray[i]? = some x ∧ h.IsTuple T' #[.int (0 + (i : Int)) t, x]), (fun i h => (∃ old, IsEnum h (s1.heap.objs.size + 1) s1.heap.objs.size (0 + (i : Int)) old) ∧ (h.IsListIter s1.heap.objs.size l i ∧ h.IsList l us.toArray)), ⟨rfl, by
        have : (enumV 0 w.1).length = us.toArray.size := by rw [enumV_len, List.size_toArray]; exact hl
        rw [this]; exact G, by rw [enumV_len, hl]; exact a2, ⟨⟨.none, by simpa using he⟩, hit, p.isList.at fun o e => hk _ o e⟩, fun b hb => ?_, fun b hb => ?_, fun b hb => ?_, fun i h z b hb => ?_, fun i v h x y ex => ?_⟩⟩
      · rw [hsz]
        have : b = s1.heap.objs.size + 1 ∨ b = s1.heap.objs.size ∨ b = l := by simpa using hb
        rcases this with z | z | z
        · rw [z]; exact Nat.lt_succ_self _
        · rw [z]; exact Nat.lt_succ_of_lt (Nat.lt_succ_self _)
        · rw [z]; exact Nat.lt_succ_of_lt (Nat.lt_succ_of_lt al)
      · have : b = s1.heap.objs.size + 1 ∨ b = s1.heap.objs.size ∨ b = l := by simpa using hb
        rcases this with z | z | z
        · exact .inl (by simp [z])
        · exact .inl (by simp [z])
        · subst z; exact .inr fa
      · have : b = s1.heap.objs.size + 1 ∨ b = s1.heap.objs.size := by simpa using hb
        rcases this with z | z
        · rw [z]; exact fr 1
        · rw [z]; exact fr 0
      · have : b = s1.heap.objs.size + 1 ∨ b = s1.heap.objs.size := by simpa using hb
        obtain ⟨⟨old, z1⟩, ⟨o, z2, _⟩, _⟩ := z
        rcases this with z | z
        · rw [z]; exact ⟨_, z1⟩
        · rw [z]; exact ⟨o, z2⟩
      · obtain ⟨y', e3, rfl⟩ := enumV_at ex
        obtain ⟨T', tk, x', rfl, e4, e5⟩ := y
        obtain ⟨u, hu, ru⟩ := rs.at e3
        have : u = x' := by
          have e4' : us[i]? = some x' := by simpa using e4
          rw [e4'] at hu; exact (Option.some.inj hu).symm
        subst this
        exact .inr ⟨T', [.int (0 + (i : Int)) tk, u], [.int ((0 + i : Nat) : Int), y'], rfl, (show IsTup h T' #[.int (0 + (i : Int)) tk, u] from e5), by simp; exact small_line (by omega), rfl, .cons (by simp [RV]) (.cons ru .nil)⟩
/-! ### zip -/
theorem zipV_at : ∀ {xs ys : List Val} {i : Nat} {x : Val}, (zipV xs ys)[i]? = some x → ∃ y z, xs[i]? = some y ∧ ys[i]? = some z ∧ x = .tup [y, z]
  | [], ys, _, _, e => by simp [zipV] at e
  | _ :: _, [], _, _, e => by simp [zipV] at e
  | a :: xs, b :: ys, 0, x, e => by simp [zipV] at e; exact ⟨a, b, rfl, rfl, e.symm⟩
  | a :: xs, b :: ys, i + 1, x, e => by
    obtain ⟨y, z, h1, h2, h3⟩ := zipV_at (i := i) (by simpa [zipV] using e)
    exact ⟨y, z, by simpa using h1, by simpa using h2, h3⟩
theorem zipV_len : ∀ {xs ys : List Val}, (zipV xs ys).length = min xs.length ys.length
  | [], ys => by simp [zipV]
  | _ :: _, [] => by simp [zipV]
  | _ :: xs, _ :: ys => by simp only [zipV, List.length_cons, zipV_len (xs := xs) (ys := ys)]; omega
theorem seq_begins {s : Shared} {a : Addr} {us : List Value} (ok : X.Ok) (p : PlainL s.heap a us.toArray ∨ IsTup s.heap a us.toArray) : ∃ (o : Obj) (H : Heap → Prop), Begins (.ref a) o H ∧ H s.heap ∧ ∀ I, a ≠ I → ∃ St : Nat → Heap → Prop, Draws X.G.prog X.G.w X.A.in1 I (I :: [a]) us.length (fun i v => us[i]? = some v) St ∧
    ∀ h', h'.get? I = some o → (∀ b o, s.heap.get? b = some o → h'.get? b = some o) → St 0 h' := by
  rcases p with p | p
  · exact ⟨_, _, begins_list a us.toArray, p.isList, fun I hI => ⟨fun i h => h.IsListIter I a i ∧ h.IsList a us.toArray, by simpa using Draws.list (prog := X.G.prog) (w := X.G.w) (A := X.A.in1) ok.hd I a hI us.toArray, fun h' e k => ⟨⟨_, e, rfl, rfl⟩, p.isList.at fun o e => k _ o e⟩⟩⟩
  · obtain ⟨o, e, c, n, d⟩ := p
    exact ⟨_, _, begins_tuple a us.toArray, ⟨o, e, c, n, d⟩, fun I hI => ⟨fun i h => h.IsTupleIter I a i ∧ h.IsTuple a us.toArray, by simpa using Draws.tuple (prog := X.G.prog) (w := X.G.w) (A := X.A.in1) ok.hd I a hI us.toArray, fun h' e' k => ⟨⟨_, e', rfl, rfl⟩, ⟨o, k _ _ e, c, n, d⟩⟩⟩⟩
theorem si_zip {es : Es} {ts : Ats} {e : Expr} {rest : List Expr} {elts : List Expr} {k : Nat} {tpos p1 pos : Pos} (ok : X.Ok) (hk : X.env.kindOf "zip" = some .globalImplicit) (hm : X.G.mg "zip" = none) (he : SEs X es (e :: rest)) (hs : (e :: rest).all noStar = true) :
    SI X (.zip es) (.tup ts) (.Call (.Name "zip" p1) (e :: rest) [] pos) (.Tuple elts k tpos) := by
  intro T φ ρ h s F S hn hF
  have e0 : evIt X.C ρ h (.zip es) = (evs X.C ρ h es).bind zipOp := by simp only [evIt]
  rw [e0] at hn hF ⊢
  refine call_type ok hk hm zip_boot (by decide) (by decide) he hs S hn hF fun us s1 vs h1 T1 φ1 e1 g r hn2 e2 => ?_
  rw [e2]
  match vs with
  | [] => exact absurd rfl hn2
  | [_] => exact absurd rfl hn2
  | _ :: _ :: _ :: _ => exact absurd rfl hn2
  | [v, w] =>
    obtain ⟨u, z, rfl, r1, r2⟩ := r.two
    have e3 : zipOp [v, w] h1 = match walkOf h1 v, walkOf h1 w with
      | some p, some q => .ok (zipV p.1 q.1, p.2 ++ q.2) h1
      | _, _ => .no := rfl
    rw [e3] at hn2 ⊢
    cases q1 : walkOf h1 v with
    | none => rw [q1] at hn2; exact absurd rfl hn2
    | some p =>
      cases q2 : walkOf h1 w with
      | none => rw [q1, q2] at hn2; exact absurd rfl hn2
      | some q =>
        simp only
        have S1 := g.st S
        obtain ⟨l1, us1, rfl, a1, a2, a3, _, a5⟩ := walk_at S1 r1 q1
        obtain ⟨l2, us2, rfl, b1, b2, b3, _, b5⟩ := walk_at S1 r2 q2
        have wl1 := walk_lst q1
        have wl2 := walk_lst q2
        have wl : ∀ i ∈ p.2 ++ q.2, ∃ xs, h1.at i = some (.lst xs) := fun i m => (List.mem_append.mp m).elim (wl1 i) (wl2 i)
        have al1 : l1 < s1.heap.objs.size := by
          rcases a3 with ⟨_, _, e, _⟩ | ⟨_, e, _⟩ <;> exact Heap.lt_size e
        have al2 : l2 < s1.heap.objs.size := by
          rcases b3 with ⟨_, _, e, _⟩ | ⟨_, e, _⟩ <;> exact Heap.lt_size e
        obtain ⟨o1, H1, B1, h01, D1⟩ := seq_begins ok a3
        obtain ⟨o2, H2, B2, h02, D2⟩ := seq_begins ok b3
        refine zip_begins2 B1 B2 h01 h02 fun h' hz hTI hTO hi1 hi2 hsz hk => wpAny_pyIter_zip hz ?_
        generalize hN : s1.heap.objs.size = N at *
        have fr1 : ∀ j, T1 (N + j) = none := fun j => g.inv.fresh (by rw [hN]; exact Nat.le_add_right _ _)
        -- the pair of iterators is known to stay
        have EI : Ext NoO T1 (T1.set (N + 2) (.lock { cls := .type "tuple", data := .seq #[.ref N, .ref (N + 1)] })) := .new (fr1 2)
        have g1' : Good X NoO T φ (T1.set (N + 2) (.lock { cls := .type "tuple", data := .seq #[.ref N, .ref (N + 1)] })) φ1 h1 { s1 with heap := h' } :=
          ⟨g.inv.new (tk := s1.toks) hk (fr1 2) hTI, g.ext.trans EI, g.pre, g.new, g.sim.mono EI fun a m => GT.set_ne fun z => g.sim.tr a m (z ▸ fr1 2)⟩
        have S1' : St X (T1.set (N + 2) (.lock { cls := .type "tuple", data := .seq #[.ref N, .ref (N + 1)] })) φ1 ρ h1 { s1 with heap := h' } := ⟨g1'.inv, S1.er.mono EI (List.prefix_refl _) fun _ m => .inl m, g1'.sim⟩
        obtain ⟨T2, g2, f2, k2, n2⟩ := lock_all (p.2 ++ q.2) S1'
        have fx : ∀ {a : Addr} {l : List Nat}, (∀ i ∈ l, i ∈ p.2 ++ q.2) → (Fix T1 φ1 a ∨ ∃ i ∈ l, φ1[i]? = some a) → Fix T2 φ1 a := fun {a l} hl z => by
          rcases z with z | ⟨i, m, z⟩
          · exact f2 a (EI.fix (List.prefix_refl _) z)
          · obtain ⟨xs, e⟩ := wl i (hl i m)
            exact k2 i (hl i m) a xs z e
        have fa1 := fx (fun i m => List.mem_append_left _ m) a5
        have fa2 := fx (fun i m => List.mem_append_right _ m) b5
        have fTI : Fix T2 φ1 (N + 2) := f2 _ ⟨_, .inl GT.set_same⟩
        have rs1 := RVs.mono (EI.trans g2.ext) g2.pre _ _ a1
        have rs2 := RVs.mono (EI.trans g2.ext) g2.pre _ _ b1
        have hl1 := a1.length
        have hl2 := b1.length
        obtain ⟨St1, D1, i1⟩ := D1 N (Nat.ne_of_lt al1)
        obtain ⟨St2, D2, i2⟩ := D2 (N + 1) (Nat.ne_of_lt (Nat.lt_succ_of_lt al2))
        have one : ∀ {l : Addr}, l < N → ∀ b ∈ [l], b < N := fun {l} hl b hb => by
          have e : b = l := by simpa using hb
          rw [e]; exact hl
        have G := PySem.Goes.zip2 (elts := elts) (x1 := k) (pos := tpos) (zip_sep2 (one al1) (one al2)) D1 D2
        have nT : ∀ j : Nat, j ≠ 2 → T2 (N + j) = none := fun j hj => n2 _ (by rw [GT.set_ne (show (N + j : Nat) ≠ N + 2 by omega)]; exact fr1 j)
        have hn4 : min us1.length us2.length = (zipV p.1 q.1).length := by rw [zipV_len, hl1, hl2]
        refine ⟨(zipV p.1 q.1, p.2 ++ q.2), h1, _, φ1, T2, rfl, g1', g2, lst_at S1' wl, N + 4, _, _, _, _, ⟨rfl, hn4 ▸ G, by rw [zipV_len]; omega, ⟨hz, hTI, ⟨_, _, hTO⟩, i1 h' hi1 hk, i2 h' hi2 hk⟩, fun b hb => ?_, fun b hb => ?_, fun b hb => ?_, fun i h z b hb => ?_, fun i v h x y ex => ?_⟩⟩
        · show (b : Nat) < h'.objs.size
          rw [hsz]
          have : b = N + 4 ∨ b = N + 2 ∨ b = N + 3 ∨ b = N ∨ b = l1 ∨ b = N + 1 ∨ b = l2 := by simpa using hb
          rcases this with z | z | z | z | z | z | z <;> rw [z]
          · exact (show (N + 4 : Nat) < N + 5 by omega)
          · exact (show (N + 2 : Nat) < N + 5 by omega)
          · exact (show (N + 3 : Nat) < N + 5 by omega)
          · exact (show (N : Nat) < N + 5 by omega)
          · exact Nat.lt_of_lt_of_le al1 (Nat.le_add_right _ _)
          · exact (show (N + 1 : Nat) < N + 5 by omega)
          · exact Nat.lt_of_lt_of_le al2 (Nat.le_add_right _ _)
        · have : b = N + 4 ∨ b = N + 2 ∨ b = N + 3 ∨ b = N ∨ b = l1 ∨ b = N + 1 ∨ b = l2 := by simpa using hb
          rcases this with z | z | z | z | z | z | z <;> subst z
          · exact .inl (by simp)
          · exact .inr fTI
          · exact .inl (by simp)
          · exact .inl (by simp)
          · exact .inr fa1
          · exact .inl (by simp)
          · exact .inr fa2
        · have : b = N + 4 ∨ b = N + 3 ∨ b = N ∨ b = N + 1 := by simpa using hb
          rcases this with z | z | z | z <;> subst z
          · exact nT 4 (by omega)
          · exact nT 3 (by omega)
          · exact nT 0 (by omega)
          · exact nT 1 (by omega)
        · have : b = N + 4 ∨ b = N + 3 ∨ b = N ∨ b = N + 1 := by simpa using hb
          obtain ⟨z1, _, ⟨_, _, z2⟩, z3, z4⟩ := z
          rcases this with z | z | z | z <;> subst z
          · exact ⟨_, z1⟩
          · exact ⟨_, z2⟩
          · exact D1.live _ _ z3
          · exact D2.live _ _ z4
        · obtain ⟨y1, y2, e4, e5, rfl⟩ := zipV_at ex
          obtain ⟨T', x1, x2, rfl, e6, e7, e8⟩ := y
          obtain ⟨u1, hu1, ru1⟩ := rs1.at e4
          obtain ⟨u2, hu2, ru2⟩ := rs2.at e5
          rw [e6] at hu1; cases hu1
          rw [e7] at hu2; cases hu2
          exact .inr ⟨T', [x1, x2], [y1, y2], rfl, (show IsTup h T' #[x1, x2] from e8), by simp; exact small_line (by omega), rfl, .cons ru1 (.cons ru2 .nil)⟩
end
end Mp
/-! W15: statements. -/
namespace Mp
open PySem PySem.Spec PyProof.Rows
def FlOk (X : Ctx) (T : GT) (φ : List Addr) : Fl → Flow → Prop
  | .nx ρ, .next => ER X T φ ρ
  | .ct ρ, .cont => ER X T φ ρ
  | .rt v, .ret u => RV X.G T φ v u
  | _, _ => False
def QF (X : Ctx) (T : GT) (φ : List Addr) (r : R Fl) : Flow → Shared → Prop := fun f s' => ∃ fl h' T' φ', r = .ok fl h' ∧ Good X X.O T φ T' φ' h' s' ∧ FlOk X T' φ' fl f
def SS (X : Ctx) (st : S) (st' : Stmt) : Prop := ∀ (T : GT) (φ : List Addr) (ρ : Mp.Env) (h : Hp) (s : Shared) (F : Value → Shared → Prop), St X T φ ρ h s → ex X.C ρ h st ≠ .no → PassesOwn X.M X.A X.env F →
  (∀ x s', QXO X X.O T φ (ex X.C ρ h st) x s' → F x s') → wpAny X.M X.A (exec st' X.env) (QF X T φ (ex X.C ρ h st)) F s
def SSs (X : Ctx) (st : Ss) (st' : List Stmt) : Prop := ∀ (T : GT) (φ : List Addr) (ρ : Mp.Env) (h : Hp) (s : Shared) (F : Value → Shared → Prop), St X T φ ρ h s → exs X.C ρ h st ≠ .no → PassesOwn X.M X.A X.env F →
  (∀ x s', QXO X X.O T φ (exs X.C ρ h st) x s' → F x s') → wpAny X.M X.A (execs st' X.env) (QF X T φ (exs X.C ρ h st)) F s
def ParOk (nm : Nm) : Ats → List PySem.Str → Bool
  | .nil, [] => true
  | .cons (.nm i) ts, n :: ns => (nm.vis.lookup n == some i && nm.own.contains n) && ParOk nm ts ns
  | _, _ => false
section
variable {X : Ctx} {T T1 T2 : GT} {φ φ1 φ2 : List Addr} {ρ : Mp.Env} {h h1 h2 : Hp} {s s1 s2 : Shared}
theorem QF.after {r : R Fl} (g : Good X X.O T φ T1 φ1 h1 s1) {f : Flow} {s' : Shared} (q : QF X T1 φ1 r f s') : QF X T φ r f s' :=
  let ⟨v, h', T', φ', e, g2, rv⟩ := q; ⟨v, h', T', φ', e, g.trans g2, rv⟩
theorem Good.up (g : Good X NoO T φ T1 φ1 h1 s1) : Good X X.O T φ T1 φ1 h1 s1 := g.imp fun _ z => z.elim
theorem ss_pass {pos : Pos} : SS X .pass (.Pass pos) := fun T φ ρ h s F S _ _ _ => by
  simp only [ex]; exact wpAny_Pass ⟨.nx ρ, h, T, φ, rfl, .refl S.inv S.sim, S.er⟩
theorem ss_cont {pos : Pos} : SS X .cont (.Continue pos) := fun T φ ρ h s F S _ _ _ => by
  simp only [ex]; exact wpAny_Continue ⟨.ct ρ, h, T, φ, rfl, .refl S.inv S.sim, S.er⟩
theorem ss_retN {pos : Pos} : SS X .retN (.Return none pos) := fun T φ ρ h s F S _ _ _ => by
  simp only [ex]; exact wpAny_Return_none ⟨.rt .none, h, T, φ, rfl, .refl S.inv S.sim, rv_none (G := X.G) (T := T) (φ := φ)⟩
theorem ss_ret {e : E} {e' : Expr} {pos : Pos} (he : SE X e e') : SS X (.ret e) (.Return (some e') pos) := by
  intro T φ ρ h s F S hn _ hF
  simp only [ex] at hn hF ⊢
  refine wpAny_Return_some (wpAny_mono (he T φ ρ h s F S (R.bind_no' hn) fun x s' q => QXO.bind hF x s' (.of q)) (fun u s1 ⟨v, h1, T1, φ1, e1, g1, r1⟩ => ?_) fun _ _ z => z)
  exact ⟨.rt v, h1, T1, φ1, by rw [e1]; rfl, g1.up, r1⟩
def noComp : Expr → Bool
  | .ListComp _ _ _ _ | .SetComp _ _ _ _ | .DictComp _ _ _ _ _ => false
  | _ => true
theorem swaps_none {e : Expr} {t : Option Expr} {l : Nat} {env : PySem.Env} (h : noComp e = true) : swapsWith e t l env = pure false := by
  cases e <;> first | rfl | (simp [noComp] at h)
theorem ss_expr {e : E} {e' : Expr} {pos : Pos} (ok : X.Ok) (he : SE X e e') (hc : noComp e' = true) : SS X (.expr e) (.Expr e' pos) := by
  intro T φ ρ h s F S hn _ hF
  simp only [ex] at hn hF ⊢
  refine wpAny_Expr_any (wpAny_mono (he T φ ρ h s F S (R.bind_no' hn) fun x s' q => QXO.bind hF x s' (.of q)) (fun u s1 ⟨v, h1, T1, φ1, e1, g1, r1⟩ => ?_) fun _ _ z => z) (by simp [interactive, ok.kind]) (swaps_none hc)
  exact ⟨.nx ρ, h1, T1, φ1, by rw [e1]; rfl, g1.up, (g1.st S).er⟩
theorem sss_nil : SSs X .nil [] := fun T φ ρ h s F S _ _ _ => by
  simp only [exs]; exact wpAny_execs_nil ⟨.nx ρ, h, T, φ, rfl, .refl S.inv S.sim, S.er⟩
theorem sss_cons {st : S} {r : Ss} {st' : Stmt} {r' : List Stmt} (h1 : SS X st st') (h2 : SSs X r r') : SSs X (.cons st r) (st' :: r') := by
  intro T φ ρ h s F S hn hp hF
  simp only [exs] at hn hF ⊢
  refine wpAny_execs_cons (wpAny_mono (h1 T φ ρ h s F S (R.bind_no' hn) hp (QXO.bind hF)) (fun f s1 ⟨fl, k1, T1, φ1, e1, g1, o1⟩ => ?_) fun _ _ z => z)
  obtain ⟨hn2, e2⟩ := R.bind_ne hn e1
  rw [e2] at hF ⊢
  cases fl with
  | nx ρ' =>
    cases f with
    | next => exact wpAny_mono (h2 T1 φ1 ρ' k1 s1 F ⟨g1.inv, o1, g1.sim⟩ hn2 hp fun x s' q => hF x s' (QXO.after g1 q)) (fun f s' q => QF.after g1 q) fun _ _ z => z
    | cont => exact o1.elim
    | brk => exact o1.elim
    | ret _ => exact o1.elim
  | ct ρ' =>
    cases f with
    | cont => exact ⟨.ct ρ', k1, T1, φ1, rfl, g1, o1⟩
    | next => exact o1.elim
    | brk => exact o1.elim
    | ret _ => exact o1.elim
  | rt v =>
    cases f with
    | ret u => exact ⟨.rt v, k1, T1, φ1, rfl, g1, o1⟩
    | next => exact o1.elim
    | brk => exact o1.elim
    | cont => exact o1.elim
theorem ss_if {c : E} {a b : Ss} {c' : Expr} {a' b' : List Stmt} {pos : Pos} (hc : ST X c c') (ha : SSs X a a') (hb : SSs X b b') : SS X (.ifs c a b) (.If c' a' b' pos) := by
  intro T φ ρ h s F S hn hp hF
  simp only [ex] at hn hF ⊢
  refine wpAny_If (wp_test hc S hn (fun x s' q => hF x s' (.of q)) fun t s1 v h1 T1 φ1 e tv g e2 => ?_)
  rw [e2] at hn hF ⊢
  cases t with
  | false => exact wpAny_mono (hb T1 φ1 ρ h1 s1 F (g.st S) hn hp fun x s' q => hF x s' (QXO.after g.up q)) (fun u s' q => QF.after g.up q) fun _ _ z => z
  | true => exact wpAny_mono (ha T1 φ1 ρ h1 s1 F (g.st S) hn hp fun x s' q => hF x s' (QXO.after g.up q)) (fun u s' q => QF.after g.up q) fun _ _ z => z
/-! ### assignments -/
def parNames (nm : Nm) (ts : List Expr) : List PySem.Str := ts.filterMap fun t => match t with
  | .Name id pos => if nm.kinds.lookup id == some .local && pos.line == (ts.head?.map (·.pos.line)).getD 0 then some id else none
  | _ => none
def notSwap (nm : Nm) (t' e' : Expr) : Bool := match t', e' with
  | .Tuple ts _ _, .Tuple vs _ _ => !(ts.length == 2 || ts.length == 3) || vs.length != ts.length || (parNames nm ts).length != ts.length || (parNames nm ts).eraseDups.length != (parNames nm ts).length || vs.all (foldedForSure 8)
  | .List _ _, _ => false
  | _, _ => true
theorem kind_of (ok : X.Ok) (x : PySem.Str) : X.env.kindOf x = X.nm.kinds.lookup x := by
  show X.env.scope.names.lookup x = _
  rw [ok.names]
theorem block_of (ok : X.Ok) : X.env.blockKind = .function := by
  unfold PySem.Env.blockKind
  rw [ok.kind]; rfl
theorem swapped_eq (ok : X.Ok) (ts vs : List Expr) (k k2 : Nat) (p p2 : Pos) (h1 : (ts.length == 2 || ts.length == 3) = true) (h2 : vs.length = ts.length) : swappedStores [.Tuple ts k p] (.Tuple vs k2 p2) X.env =
    if (vs.any fun x => !noStar x) = true then pure none else if ((parNames X.nm ts).length != ts.length || (parNames X.nm ts).eraseDups.length != (parNames X.nm ts).length) = true then pure none else if vs.all (foldedForSure 8) = true then pure none
    else if vs.all (constantsAlone 8) = true then unsupported "assign.tuple-of-constant-expressions:order-of-the-stores" else pure (some (parNames X.nm ts)) := by
  have e1 : (vs.any fun x => match x with | .Starred .. => true | _ => false) = vs.any fun x => !noStar x := by
    congr 1; funext x; cases x <;> rfl
  have e2 : (ts.filterMap fun t => match t with | .Name id pos => if X.env.kindOf id == some .local && pos.line == (ts.head?.map (·.pos.line)).getD 0 then some id else none | _ => none) = parNames X.nm ts := by
    unfold parNames
    congr 1; funext t; cases t <;> first | rfl | (simp only [kind_of ok])
  unfold swappedStores
  simp only [block_of ok, h1, h2]
  simp only [Bool.not_true, bne_self_eq_false, Bool.or_self, Bool.false_eq_true, if_false]
  rw [← e1, ← e2]
  rfl
theorem swap_no (ok : X.Ok) {t' e' : Expr} (h : notSwap X.nm t' e' = true) : swappedStores [t'] e' X.env = pure none := by
  by_cases c : ∃ ts k p vs k2 p2, t' = .Tuple ts k p ∧ e' = .Tuple vs k2 p2
  · obtain ⟨ts, k, p, vs, k2, p2, rfl, rfl⟩ := c
    have h : (!(ts.length == 2 || ts.length == 3) || vs.length != ts.length || (parNames X.nm ts).length != ts.length || (parNames X.nm ts).eraseDups.length != (parNames X.nm ts).length || vs.all (foldedForSure 8)) = true := h
    by_cases h1 : (ts.length == 2 || ts.length == 3) = true
    · by_cases h2 : vs.length = ts.length
      · rw [swapped_eq ok ts vs k k2 p p2 h1 h2]
        by_cases h3 : (vs.any fun x => !noStar x) = true
        · rw [if_pos h3]
        · rw [if_neg h3]
          by_cases h4 : ((parNames X.nm ts).length != ts.length || (parNames X.nm ts).eraseDups.length != (parNames X.nm ts).length) = true
          · rw [if_pos h4]
          · rw [if_neg h4]
            have h5 : vs.all (foldedForSure 8) = true := by
              simp only [h1, h2, Bool.not_true, bne_self_eq_false, Bool.false_or] at h
              cases h6 : vs.all (foldedForSure 8) with
              | true => rfl
              | false => rw [h6, Bool.or_false] at h; exact absurd h h4
            rw [if_pos h5]
      · unfold swappedStores
        have : (!(ts.length == 2 || ts.length == 3) || vs.length != ts.length || X.env.blockKind != .function) = true := by simp [h2]
        simp only [this, if_true]
    · unfold swappedStores
      have : (!(ts.length == 2 || ts.length == 3) || vs.length != ts.length || X.env.blockKind != .function) = true := by simp [h1]
      simp only [this, if_true]
  · cases t' with
    | Tuple ts k p =>
      cases e' with
      | Tuple vs k2 p2 => exact absurd ⟨_, _, _, _, _, _, rfl, rfl⟩ c
      | _ => rfl
    | List _ _ => simp [notSwap] at h
    | _ => rfl
theorem ss_asg {t : At} {e : E} {t' e' : Expr} {pos : Pos} (ok : X.Ok) (ht : SA X t t') (he : SE X e e') (hc : swapsWith e' (some t') pos.line X.env = pure false) (hw : notSwap X.nm t' e' = true) (hs : noStar t' = true) : SS X (.asg t e) (.Assign [t'] e' pos) := by
  intro T φ ρ h s F S hn _ hF
  simp only [ex] at hn hF ⊢
  rw [PyProof.Rows.exec_Assign]
  refine wpAny_bind (wpAny_standAt ?_)
  rw [show swapsWithSole [t'] e' pos.line X.env = pure false from hc]
  refine wpAny_bind (wpAny_pure ?_)
  rw [if_neg (by decide)]
  refine wpAny_bind (wpAny_mono (he T φ ρ h s F S (R.bind_no' hn) fun x s' q => QXO.bind hF x s' (.of q)) (fun u s1 ⟨v, h1, T1, φ1, e1, g1, r1⟩ => ?_) fun _ _ z => z)
  obtain ⟨hn2, e2⟩ := R.bind_ne hn e1
  rw [e2] at hF ⊢
  rw [swap_no ok hw]
  refine wpAny_bind (wpAny_pure ?_)
  rw [assignEach_cons hs]
  show wpAny X.M X.A (do assignAll u [assign t' X.env]; pure Flow.next) _ F s1
  refine wpAny_bind (wpAny_mono (ht T1 φ1 ρ h1 s1 F v u (g1.st S) (.of r1) (R.bind_no' hn2) (QXO.bind fun x s' q => hF x s' (QXO.after g1.up q))) (fun _ s2 ⟨ρ2, h2, T2, φ2, e3, g2, er2⟩ => wpAny_pure ?_) fun _ _ z => z)
  exact ⟨.nx ρ2, h2, T2, φ2, by rw [e3]; rfl, g1.up.trans g2, er2⟩
/-- a, b = x, y: the names are stored from the last on -/
theorem san (ok : X.Ok) : ∀ (ts : Ats) (ns : List PySem.Str), (∀ (is : List Nat), True) → ParOk X.nm ts ns = true → ∀ (T : GT) (φ : List Addr) (ρ : Mp.Env) (h : Hp) (s : Shared) (F : Value → Shared → Prop) (vs : List Val) (us : List Value), St X T φ ρ h s → RVs X.G T φ vs us → bindTs X.C ρ h ts vs ≠ .no →
    wpAny X.M X.A (assignInOrder (ns.map fun n => bindName X.env n) us) (fun _ s' => QA X T φ (bindTs X.C ρ h ts vs) s') F s
  | .nil, [], _, _, T, φ, ρ, h, s, F, vs, us, S, r, hn => by
    cases vs with
    | nil =>
      simp only [RVs] at r; subst r
      exact wpAny_assignInOrder_none ⟨ρ, h, T, φ, by simp only [bindTs], .refl S.inv S.sim, S.er⟩
    | cons _ _ => exact absurd (by simp only [bindTs]) hn
  | .cons t ts, n :: ns, _, hp, T, φ, ρ, h, s, F, vs, us, S, r, hn => by
    cases vs with
    | nil => exact absurd (by simp only [bindTs]) hn
    | cons v vs =>
      simp only [RVs] at r
      obtain ⟨u, us, rfl, r1, r2⟩ := r
      have e0 : bindTs X.C ρ h (.cons t ts) (v :: vs) = (bindT X.C ρ h t v).bind fun ρ h => bindTs X.C ρ h ts vs := by simp only [bindTs]
      rw [e0] at hn ⊢
      cases t with
      | nm i =>
        simp only [ParOk, Bool.and_eq_true, beq_iff_eq] at hp
        have hx : X.nm.vis.lookup n = some i := hp.1.1
        have ho : n ∈ X.nm.own := by simpa using hp.1.2
        refine wpAny_assignInOrder_more (wpAny_mono (PyProof.Rows.bindName_ (bind_name (F := F) ok hx ho S r1 (R.bind_no' hn))) (fun _ s1 ⟨ρ1, h1, T1, φ1, e1, g1, er1⟩ => ?_) fun _ _ z => z)
        obtain ⟨hn2, e2⟩ := R.bind_ne hn e1
        rw [e2]
        exact wpAny_mono (san ok ts ns (fun _ => trivial) hp.2 T1 φ1 ρ1 h1 s1 F vs us ⟨g1.inv, er1, g1.sim⟩ (RVs.mono g1.ext g1.pre _ _ r2) hn2) (fun _ s' q => QA.after g1 q) fun _ _ z => z
      | tup _ => simp [ParOk] at hp
      | sub _ _ => simp [ParOk] at hp
  | .nil, _ :: _, _, hp, _, _, _, _, _, _, _, _, _, _, _ => by simp [ParOk] at hp
  | .cons t ts, [], _, hp, _, _, _, _, _, _, _, _, _, _, _ => by cases t <;> simp [ParOk] at hp
theorem RVs.rev {G : Glo} {T : GT} {φ : List Addr} : ∀ {vs : List Val} {us : List Value}, RVs G T φ vs us → RVs G T φ vs.reverse us.reverse
  | [], us, r => by simp only [RVs] at r; subst r; exact .nil
  | v :: vs, us, r => by
    simp only [RVs] at r
    obtain ⟨w, t, rfl, a, b⟩ := r
    rw [List.reverse_cons, List.reverse_cons]
    exact b.rev.append (.cons a .nil)
theorem ss_par {ts : Ats} {es : Es} {ts' vs' : List Expr} {k k2 : Nat} {p p2 pos : Pos} (ok : X.Ok) (he : SEs X es vs') (h1 : (ts'.length == 2 || ts'.length == 3) = true) (h2 : vs'.length = ts'.length) (h3 : vs'.all noStar = true) (h4 : (parNames X.nm ts').length = ts'.length)
    (h5 : (parNames X.nm ts').eraseDups.length = (parNames X.nm ts').length) (h6 : vs'.all (foldedForSure 8) = false) (h7 : vs'.all (constantsAlone 8) = false) (hp : ParOk X.nm ts (parNames X.nm ts').reverse = true) (hl : es.len = vs'.length) :
    SS X (.par ts es) (.Assign [.Tuple ts' k p] (.Tuple vs' k2 p2) pos) := by
  intro T φ ρ h s F S hn _ hF
  have e0 : ex X.C ρ h (.par ts es) = (evs X.C ρ h es).bind fun vs h => (bindTs X.C ρ h ts vs.reverse).bind fun ρ h => .ok (.nx ρ) h := by simp only [ex]
  rw [e0] at hn hF ⊢
  have hsw : swappedStores [.Tuple ts' k p] (.Tuple vs' k2 p2) X.env = pure (some (parNames X.nm ts')) := by
    rw [swapped_eq ok ts' vs' k k2 p p2 h1 h2]
    have a1 : ¬ (vs'.any fun x => !noStar x) = true := by
      intro z
      obtain ⟨x, m, e⟩ := List.any_eq_true.mp z
      have := List.all_eq_true.mp h3 x m
      rw [this] at e; cases e
    have a2 : ¬ ((parNames X.nm ts').length != ts'.length || (parNames X.nm ts').eraseDups.length != (parNames X.nm ts').length) = true := by
      rw [h4, ← h4, h5]; simp
    rw [if_neg a1, if_neg a2, if_neg (by rw [h6]; exact Bool.false_ne_true), if_neg (by rw [h7]; exact Bool.false_ne_true)]
  refine PyProof.Rows.Assign_Tuple_swapped (hs := rfl) (hw := hsw) ?_
  refine wpAny_Tuple_spliced (wpAny_mono (he p2 T φ ρ h s F S (R.bind_no' hn) fun x s' q => QXO.bind hF x s' (.of q)) (fun us s1 ⟨vs, k1, T1, φ1, e1, g1, r1⟩ => ?_) fun _ _ z => z)
  obtain ⟨hn2, e2⟩ := R.bind_ne hn e1
  rw [e2] at hF ⊢
  have hvl : vs.length = ts'.length := by rw [evs_len e1, hl, h2]
  have z : us.length ≤ sizeLine := small_line (by
    rw [← r1.length, hvl]
    have : ts'.length = 2 ∨ ts'.length = 3 := by simpa using h1
    omega)
  refine ⟨z, ?_⟩
  obtain ⟨v2, k2', T2, φ2, e3, g2, r2⟩ := QV.tup (tk := s1.toks) (g1.st S) r1 z
  cases e3
  have S2 := g2.st (g1.st S)
  have hnl : (parNames X.nm ts').length = vs.length := by rw [h4, hvl]
  rw [hnl]
  refine unpack_ok (xs := vs) ok S2 (.inl r2) rfl fun us2 h' kp rs hz => ?_
  have S3 : St X T2 φ2 ρ k1 _ := S2.kept (tk := s1.toks) kp
  refine wpAny_mono (san ok ts _ (fun _ => trivial) hp T2 φ2 ρ k1 _ F vs.reverse us2.reverse S3 rs.rev (R.bind_no' hn2)) (fun _ s4 ⟨ρ4, h4, T4, φ4, e4, g4, er4⟩ => ?_) fun _ _ z => z
  have g3 : Good X X.O T1 φ1 T2 φ2 k1 _ := (g2.kept (tk := s1.toks) kp).up
  exact ⟨.nx ρ4, h4, T4, φ4, by rw [e4]; rfl, (g1.up.trans g3).trans g4, er4⟩
end
end Mp
/-! W16: loops. -/
namespace Mp
open PySem PySem.Spec PyProof.Rows
section
variable {X : Ctx} {T T1 T2 : GT} {φ φ1 φ2 : List Addr} {ρ : Mp.Env} {h h1 h2 : Hp} {s s1 s2 : Shared}
theorem ss_while {c : E} {b : Ss} {c' : Expr} {b' : List Stmt} {pos : Pos} (hc : ST X c c') (hb : SSs X b b') : SS X (.whil c b) (.While c' b' [] pos) := by
  intro T φ ρ h s F S hn hp hF
  have e0 : ex X.C ρ h (.whil c b) = loopW (fun ρ h => ev X.C ρ h c) (fun ρ h => exs X.C ρ h b) X.C.w ρ h := by simp only [ex]
  rw [e0] at hn hF ⊢
  generalize hr : loopW (fun ρ h => ev X.C ρ h c) (fun ρ h => exs X.C ρ h b) X.C.w ρ h = r at hn hF ⊢
  refine wpAny_While (codeAny_whileLoop (fun n s' => ∃ T' φ' ρ' h', loopW (fun ρ h => ev X.C ρ h c) (fun ρ h => exs X.C ρ h b) n ρ' h' = r ∧ Good X X.O T φ T' φ' h' s' ∧ ER X T' φ' ρ') ?_ X.C.w ⟨T, φ, ρ, h, hr, .refl S.inv S.sim, S.er⟩)
  rintro n s1 ⟨T1, φ1, ρ1, h1, er, g1, R1⟩
  have S1 : St X T1 φ1 ρ1 h1 s1 := ⟨g1.inv, R1, g1.sim⟩
  cases n with
  | zero => exact absurd er.symm hn
  | succ n =>
    have e1 : loopW (fun ρ h => ev X.C ρ h c) (fun ρ h => exs X.C ρ h b) (n + 1) ρ1 h1 = (ev X.C ρ1 h1 c).test (fun _ h => (exs X.C ρ1 h b).bind fun r h => match r with
      | .nx ρ => loopW (fun ρ h => ev X.C ρ h c) (fun ρ h => exs X.C ρ h b) n ρ h
      | .ct ρ => loopW (fun ρ h => ev X.C ρ h c) (fun ρ h => exs X.C ρ h b) n ρ h
      | .rt v => .ok (.rt v) h) fun _ h => .ok (.nx ρ1) h := by simp only [loopW] <;> rfl
    rw [e1] at er
    refine wpAny_passesOwn hp (wp_test hc S1 (by rw [er]; exact hn) (fun x s' q => hF x s' (QXO.after g1 (.of (by rw [er] at q; exact q)))) fun t s2 v h2 T2 φ2 e tv g e2 => ?_)
    rw [er] at e2
    have g2 := g1.trans g.up
    have R2 := (g.st S1).er
    cases t with
    | false => exact wpAny_execs_nil ⟨.nx ρ1, h2, T2, φ2, e2, g2, R2⟩
    | true =>
      simp only [if_true] at e2
      have hn2 : exs X.C ρ1 h2 b ≠ .no := R.bind_no' (f := fun r h => match r with
        | .nx ρ => loopW (fun ρ h => ev X.C ρ h c) (fun ρ h => exs X.C ρ h b) n ρ h
        | .ct ρ => loopW (fun ρ h => ev X.C ρ h c) (fun ρ h => exs X.C ρ h b) n ρ h
        | .rt v => .ok (.rt v) h) (by rw [← e2]; exact hn)
      rw [if_pos rfl]
      refine wpAny_passesOwn hp (wpAny_mono (hb T2 φ2 ρ1 h2 s2 F (g.st S1) hn2 hp fun x s' q => hF x s' (QXO.after g2 ?_)) (fun f s3 ⟨fl, h3, T3, φ3, e3, g3, o3⟩ => ?_) fun _ _ z => z)
      · obtain ⟨cc, fs, hh, ee, aa⟩ := q
        exact ⟨cc, fs, hh, by rw [e2, ee]; rfl, aa⟩
      · rw [e3] at e2
        have g4 := g2.trans g3
        cases fl with
        | nx ρ3 =>
          cases f with
          | next => exact ⟨n, Nat.lt_succ_self _, T3, φ3, ρ3, h3, e2.symm, g4, o3⟩
          | cont => exact o3.elim
          | brk => exact o3.elim
          | ret _ => exact o3.elim
        | ct ρ3 =>
          cases f with
          | cont => exact ⟨n, Nat.lt_succ_self _, T3, φ3, ρ3, h3, e2.symm, g4, o3⟩
          | next => exact o3.elim
          | brk => exact o3.elim
          | ret _ => exact o3.elim
        | rt v =>
          cases f with
          | ret u => exact ⟨.rt v, h3, T3, φ3, e2, g4, o3⟩
          | next => exact o3.elim
          | brk => exact o3.elim
          | cont => exact o3.elim
/-! ### for -/
def noSet : Expr → Bool
  | .Set _ _ _ => false
  | _ => true
theorem folded_none {e : Expr} {env : PySem.Env} (h : noSet e = true) : ∀ x, foldedSetIterable e env x = pure x := fun x => by
  cases e <;> first | rfl | (simp [noSet] at h)
theorem Inv.turned {wr : List Addr} {hp : Heap} {tk : Tok} (I : Inv X.G T X.stk s) (hw : ∀ b ∈ wr, T b = none) (k : ∀ b o, b ∉ wr → s.heap.get? b = some o → hp.get? b = some o) : Inv X.G T X.stk { s with heap := hp, toks := tk } :=
  ⟨I.g, I.os, I.bare, I.base, fun a g e => (I.ok a g e).keep fun o q => k a o (out_of hw e) q, I.fr, I.tabs⟩
theorem RVa.kept {t : At} {hp : Heap} {v : Val} {u : Value} (k : Keep T T2) (p : φ <+: φ2) (r : RVa t X.G T φ hp v u) : RVa t X.G T2 φ2 hp v u := by
  cases t with
  | nm _ => exact RV.kept k p _ _ (show RV X.G T φ v u from r)
  | sub _ _ => exact RV.kept k p _ _ (show RV X.G T φ v u from r)
  | tup _ =>
    rcases (show RVt X.G T φ hp v u from r) with r | ⟨t, us, ys, h1, h2, h3, h4, h5⟩
    · exact .inl (RV.kept k p _ _ r)
    · exact .inr ⟨t, us, ys, h1, h2, h3, h4, RVs.kept k p _ _ h5⟩
/-- the iterator's own lists, tuples stand through a turn -/
theorem fp_stand {fp wr : List Addr} {hp : Heap} {O : Addr → Prop} (fx : ∀ b ∈ fp, b ∈ wr ∨ Fix T φ b) (hw : ∀ b ∈ wr, ∀ o, hp.get? b = some o → s2.heap.get? b = some o) (E : Ext O T T2) (I : ∀ a g, T a = some g → GOk hp a g) (I2 : Inv X.G T2 X.stk s2) :
    ∀ b ∈ fp, ∀ o, hp.get? b = some o → s2.heap.get? b = some o := fun b hb o e => by
  rcases fx b hb with z | z
  · exact hw b z o e
  · obtain ⟨o', z⟩ := z
    rcases z with z | ⟨z, _⟩
    · have h1 : hp.get? b = some o' := I b _ z
      have h2 : s2.heap.get? b = some o' := I2.ok b _ (E.lock _ _ z)
      rw [h1] at e; cases e; exact h2
    · have h1 : hp.get? b = some o' := I b _ z
      have h2 : s2.heap.get? b = some o' := I2.ok b _ (E.pin _ _ z)
      rw [h1] at e; cases e; exact h2
theorem drop_cons {α : Type} {xs : List α} {i : Nat} (h : i < xs.length) : xs.drop i = xs[i] :: xs.drop (i + 1) := List.drop_eq_getElem_cons h
def bodyF (C : Mp.Cx) (t : At) (b : Ss) : Mp.Env → Val → Hp → R Fl := fun ρ x h => (bindT C ρ h t x).bind fun ρ h => exs C ρ h b
theorem unlock_bind {α : Type} {r : R α} {l : List Nat} : r.unlock l = .no → r = .no := by
  intro h; cases r <;> first | rfl | cases h
theorem ss_for {t : At} {it : It} {b : Ss} {t' iter' : Expr} {b' : List Stmt} {pos : Pos} (ht : SA X t t') (hi : SI X it t iter' t') (hb : SSs X b b') (hset : noSet iter' = true) : SS X (.for_ t it b) (.For t' iter' b' [] pos) := by
  intro T φ ρ h s F S hn hp hF
  have e0 : ex X.C ρ h (.for_ t it b) = (evIt X.C ρ h it).bind fun w h => (loopF (bodyF X.C t b) w.1 ρ (lockAll h w.2)).unlock w.2 := by simp only [ex]; rfl
  rw [e0] at hn hF ⊢
  refine exec_For_goes (wpAny_mono (hi T φ ρ h s F S (R.bind_no' hn) fun x s' q => QXO.bind hF x s' (.of q)) (fun xv s1 k => wpAny_mono k (fun itv s2 q => ?_) fun _ _ z => z) fun _ _ z => z) (folded_none hset) hp
  obtain ⟨w, h1, T1, φ1, T2, e1, g1, g2, lk, I, fp, wr, Y, Stt, src⟩ := q
  obtain ⟨hn, e2⟩ := R.bind_ne hn e1
  rw [e2] at hF ⊢
  have hne : loopF (bodyF X.C t b) w.1 ρ (lockAll h1 w.2) ≠ .no := fun z => hn (by rw [z]; rfl)
  generalize hr : loopF (bodyF X.C t b) w.1 ρ (lockAll h1 w.2) = r at hne hn hF ⊢
  have S1 := g1.st S
  have S2 := g2.st S1
  -- the end of a run inside, seen from outside
  have out : ∀ {T4 : GT} {φ4 : List Addr} {h4 : Hp} {s4 : Shared}, Good X X.O T2 φ1 T4 φ4 h4 s4 → ∃ T5, Good X X.O T φ T5 φ4 (unlockAll h4 w.2) s4 ∧ Kp2 T4 T5 ∧ ∀ a, T4 a = none → T5 a = none := fun {T4 φ4 h4 s4} g4 => by
    obtain ⟨T5, g5, k5, n5⟩ := (g2.up.trans g4).unlock w.2 lk
    exact ⟨T5, g1.up.trans g5, k5, n5⟩
  refine ⟨I, fp, wr, w.1.length, Y, Stt, fun i s' => ∃ T' φ' ρ' h', loopF (bodyF X.C t b) (w.1.drop i) ρ' h' = r ∧ Good X X.O T2 φ1 T' φ' h' s' ∧ ER X T' φ' ρ' ∧ ∀ b ∈ wr, T' b = none, src.ref, src.goes, src.st, ⟨T2, φ1, ρ, _, by rw [List.drop_zero]; exact hr, .refl g2.inv g2.sim, S2.er, src.wrn⟩, ?_, ?_, ?_⟩
  · rintro i s3 h' tk ⟨T', φ', ρ', h3, e3, g3, R3, n3⟩ kp _
    exact ⟨T', φ', ρ', h3, e3, ⟨g3.inv.turned n3 kp, g3.ext, g3.pre, g3.new, g3.sim⟩, R3, n3⟩
  · rintro i v s3 hlt hY hSt ⟨T', φ', ρ', h3, e3, g3, R3, n3⟩
    have hx : w.1[i]? = some w.1[i] := List.getElem?_eq_getElem hlt
    rw [drop_cons hlt] at e3
    have e4 : loopF (bodyF X.C t b) (w.1[i] :: w.1.drop (i + 1)) ρ' h3 = (bodyF X.C t b ρ' w.1[i] h3).bind fun r h => match r with
      | .nx ρ => loopF (bodyF X.C t b) (w.1.drop (i + 1)) ρ h
      | .ct ρ => loopF (bodyF X.C t b) (w.1.drop (i + 1)) ρ h
      | .rt v => .ok (.rt v) h := by simp only [loopF] <;> rfl
    rw [e4] at e3
    have hx3 := src.live (i + 1) _ hSt
    have gp : Good X X.O T' φ' (T'.pins wr s3.heap) φ' h3 s3 := .pins g3.inv g3.sim n3
    have gq : Good X X.O T2 φ1 (T'.pins wr s3.heap) φ' h3 s3 := g3.trans gp
    have Ep : Ext NoO T' (T'.pins wr s3.heap) := .pins n3
    have Sp : St X (T'.pins wr s3.heap) φ' ρ' h3 s3 := ⟨gp.inv, R3.mono Ep (List.prefix_refl _) fun _ m => .inl m, gp.sim⟩
    have rv : RVa t X.G (T'.pins wr s3.heap) φ' s3.heap w.1[i] v := RVa.kept gq.ext.kp g3.pre (src.item i v s3.heap _ hY hx)
    have hnb : bodyF X.C t b ρ' w.1[i] h3 ≠ .no := R.bind_no' (f := fun r h => match r with
      | .nx ρ => loopF (bodyF X.C t b) (w.1.drop (i + 1)) ρ h
      | .ct ρ => loopF (bodyF X.C t b) (w.1.drop (i + 1)) ρ h
      | .rt v => .ok (.rt v) h) (by rw [e3]; exact hne)
    -- leaving the turn: what was held is let go
    have leave : ∀ {T4 : GT} {φ4 : List Addr} {h4 : Hp} {s4 : Shared}, Good X X.O (T'.pins wr s3.heap) φ' T4 φ4 h4 s4 → Good X X.O T2 φ1 (T4.del wr) φ4 h4 s4 ∧ Kp2 T4 (T4.del wr) ∧ (∀ b ∈ wr, T4.del wr b = none) ∧ ∀ b ∈ fp, ∀ o, s3.heap.get? b = some o → s4.heap.get? b = some o := fun {T4 φ4 h4 s4} g4 => by
      obtain ⟨g5, k5, n5, p5⟩ := g4.del g3.sim.tr n3 hx3
      exact ⟨g3.trans g5, k5, n5, fp_stand (fun b hb => (src.fix b hb).imp id fun z => g3.ext.fix g3.pre z) p5 g5.ext (fun a g e => g3.inv.ok a g e) g5.inv⟩
    have errs : ∀ x s', QXO X X.O (T'.pins wr s3.heap) φ' (bodyF X.C t b ρ' w.1[i] h3) x s' → F x s' := fun x s' ⟨c, fs, h', e, a⟩ => hF x s' ⟨c, fs, unlockAll h' w.2, by rw [← e3, e]; rfl, Air.map (fun T4 φ4 sI g4 => by
      obtain ⟨g5, k5, _, _⟩ := leave g4
      obtain ⟨T6, g6, k6, n6⟩ := out g5
      exact ⟨T6, g6, k5.trans k6, fun a e => n6 a (by
        by_cases hb : a ∈ wr
        · exact del_in hb
        · rw [del_out hb]; exact e)⟩) a⟩
    refine wpAny_mono (ht _ φ' ρ' h3 s3 F _ v Sp rv (R.bind_no' hnb) (QXO.bind errs)) (fun _ s4 ⟨ρ4, h4, T4, φ4, e5, g4, R4⟩ => ?_) fun _ _ z => z
    obtain ⟨hnb2, e6⟩ := R.bind_ne (show (bindT X.C ρ' h3 t w.1[i]).bind (fun ρ h => exs X.C ρ h b) ≠ .no from hnb) e5
    have e7 : bodyF X.C t b ρ' w.1[i] h3 = exs X.C ρ4 h4 b := e6
    rw [e7] at e3 errs
    refine wpAny_mono (hb T4 φ4 ρ4 h4 s4 F ⟨g4.inv, R4, g4.sim⟩ hnb2 hp fun x s' q => errs x s' (QXO.after g4 q)) (fun f s5 ⟨fl, h5, T5, φ5, e8, g5, o5⟩ => ?_) fun _ _ z => z
    rw [e8] at e3
    obtain ⟨g6, k6, n6, p6⟩ := leave (g4.trans g5)
    have hst := src.goes.frame (i + 1) _ _ hSt p6
    cases fl with
    | nx ρ5 =>
      cases f with
      | next => exact ⟨⟨_, φ5, ρ5, h5, e3, g6, ER.kept (show ER X T5 φ5 ρ5 from o5) k6, n6⟩, hst⟩
      | cont => exact o5.elim
      | brk => exact o5.elim
      | ret _ => exact o5.elim
    | ct ρ5 =>
      cases f with
      | cont => exact ⟨⟨_, φ5, ρ5, h5, e3, g6, ER.kept (show ER X T5 φ5 ρ5 from o5) k6, n6⟩, hst⟩
      | next => exact o5.elim
      | brk => exact o5.elim
      | ret _ => exact o5.elim
    | rt v5 =>
      cases f with
      | ret u =>
        obtain ⟨T7, g7, k7, n7⟩ := out g6
        exact ⟨.rt v5, _, T7, φ5, by rw [← e3]; rfl, g7, RV.kept (k6.trans k7).kp (List.prefix_refl _) _ _ (show RV X.G T5 φ5 v5 u from o5)⟩
      | next => exact o5.elim
      | brk => exact o5.elim
      | cont => exact o5.elim
  · rintro s3 ⟨T', φ', ρ', h3, e3, g3, R3, n3⟩
    rw [List.drop_length] at e3
    have e4 : loopF (bodyF X.C t b) [] ρ' h3 = .ok (.nx ρ') h3 := by simp only [loopF]
    rw [e4] at e3
    obtain ⟨T7, g7, k7, n7⟩ := out g3
    exact wpAny_execs_nil ⟨.nx ρ', _, T7, φ', by rw [← e3]; rfl, g7, ER.kept R3 k7⟩
end
end Mp
/-! W17: the block of a comprehension. -/
namespace Mp
open PySem PySem.Spec PyProof.Rows
/-- a comprehension's names -/
structure CompOk (nm nm' : Nm) (scope : Scope) (os : List Nat) : Prop where
  kind : scope.kind = .function
  uniq : ∀ y ∈ scope.names, scope.names.lookup y.1 = some y.2
  free : ∀ y ∈ scope.names, y.2 = .free → nm.kinds.lookup y.1 = some .cell ∨ nm.kinds.lookup y.1 = some .free
  kinds : nm'.kinds = scope.names.map fun (n, k) => if (k == .free && nm.kinds.lookup n == some .cell) then (n, .cell) else (n, k)
  vis : ∀ x i, nm'.vis.lookup x = some i → (x ∈ nm'.own ∧ i ∈ os) ∨ (scope.names.lookup x = some .free ∧ nm.vis.lookup x = some i ∧ i ∉ os)
  own : ∀ x ∈ nm'.own, (∃ i, nm'.vis.lookup x = some i ∧ i ∈ os) ∧ (scope.names.lookup x = some .local ∨ scope.names.lookup x = some .cell)
  slots : ∀ x y i, nm'.vis.lookup x = some i → nm'.vis.lookup y = some i → x = y
theorem cf_mem : ∀ {names : List (PySem.Str × NameKind)} {n : Nat} {acc : List (PySem.Str × Addr)} {x : PySem.Str} {c : Addr}, (x, c) ∈ cellsFrom n names acc → (x, c) ∈ acc ∨ ((x, .cell) ∈ names ∧ n ≤ c)
  | [], n, acc, x, c, m => .inl m
  | (y, k) :: r, n, acc, x, c, m => by
    unfold cellsFrom at m
    split at m
    · rename_i hk
      rcases cf_mem m with m | ⟨m1, m2⟩
      · rcases List.mem_cons.mp m with e | m
        · cases e
          have : k = .cell := by simpa using hk
          subst this
          exact .inr ⟨List.mem_cons_self, Nat.le_refl _⟩
        · exact .inl m
      · exact .inr ⟨List.mem_cons_of_mem _ m1, Nat.le_of_succ_le m2⟩
    · rcases cf_mem m with m | ⟨m1, m2⟩
      · exact .inl m
      · exact .inr ⟨List.mem_cons_of_mem _ m1, m2⟩
theorem cf_inj : ∀ {names : List (PySem.Str × NameKind)} {n : Nat} {acc : List (PySem.Str × Addr)} {x y : PySem.Str} {c : Addr}, (∀ p ∈ acc, p.2 < n) → (∀ x y c, (x, c) ∈ acc → (y, c) ∈ acc → x = y) → (x, c) ∈ cellsFrom n names acc → (y, c) ∈ cellsFrom n names acc → x = y
  | [], n, acc, x, y, c, _, h2, m1, m2 => h2 x y c m1 m2
  | (z, k) :: r, n, acc, x, y, c, h1, h2, m1, m2 => by
    unfold cellsFrom at m1 m2
    split at m1
    · rename_i hk
      rw [if_pos hk] at m2
      refine cf_inj (fun p hp => ?_) (fun x y c a b => ?_) m1 m2
      · rcases List.mem_cons.mp hp with e | m
        · subst e; exact Nat.lt_succ_self _
        · exact Nat.lt_succ_of_lt (h1 p m)
      · rcases List.mem_cons.mp a with e | a <;> rcases List.mem_cons.mp b with e' | b
        · cases e; cases e'; rfl
        · cases e; exact absurd (h1 _ b) (Nat.lt_irrefl _)
        · cases e'; exact absurd (h1 _ a) (Nat.lt_irrefl _)
        · exact h2 x y c a b
    · rename_i hk
      rw [if_neg hk] at m2
      exact cf_inj h1 h2 m1 m2
theorem wipe_in : ∀ {os : List Nat} {ρ : Mp.Env} {i : Nat}, i ∈ os → (wipe ρ os)[i]? = some .u ∨ (wipe ρ os)[i]? = none
  | [], ρ, i, m => by cases m
  | j :: os, ρ, i, m => by
    by_cases hi : i ∈ os
    · exact wipe_in (ρ := ρ.set j .u) hi
    · have : i = j := by
        rcases List.mem_cons.mp m with e | m
        · exact e
        · exact absurd m hi
      subst this
      unfold wipe
      have go : ∀ (os : List Nat) (ρ : Mp.Env), i ∉ os → (wipe ρ os)[i]? = ρ[i]? := by
        intro os
        induction os with
        | nil => intro ρ _; rfl
        | cons k os ih =>
          intro ρ h
          unfold wipe
          rw [ih _ (fun z => h (List.mem_cons_of_mem _ z)), List.getElem?_set_ne (fun z => h (by rw [z]; exact List.mem_cons_self))]
      rw [go os _ hi]
      by_cases hl : i < ρ.length
      · exact .inl (List.getElem?_set_self hl)
      · exact .inr (by rw [List.getElem?_eq_none_iff, List.length_set]; omega)
theorem wipe_out : ∀ {os : List Nat} {ρ : Mp.Env} {i : Nat}, i ∉ os → (wipe ρ os)[i]? = ρ[i]?
  | [], ρ, i, _ => rfl
  | k :: os, ρ, i, h => by
    unfold wipe
    rw [wipe_out (fun z => h (List.mem_cons_of_mem _ z)), List.getElem?_set_ne (fun z => h (by rw [z]; exact List.mem_cons_self))]
theorem Ext.over {O : Addr → Prop} {T T' : GT} (h : ∀ a g, T a = some g → T' a = some g) : Ext O T T' :=
  ⟨fun a o e => h a _ e, fun a o e => h a _ e, fun a c d e => h a _ e, fun a m _ e => h a _ e, fun a u _ e => h a _ e, fun a m e => ⟨m, h a _ e⟩, fun a u e => ⟨u, h a _ e⟩, fun a e => by
    cases q : T a with
    | none => exact absurd q e
    | some g => rw [h a g q]; simp⟩
section
variable {X : Ctx} {O : Addr → Prop} {T T1 T2 : GT} {φ φ1 φ2 : List Addr} {ρ : Mp.Env} {h h1 h2 : Hp} {s s1 s2 s3 : Shared}
/-- the ghosts of a new block -/
def GT.blk (T : GT) (C : Addr) (oc : List Addr) : GT := fun b => if b = C then some (.frame fun _ => none) else if b ∈ oc then some (.cell none) else T b
def blkCells (scope : Scope) (C : Addr) (env : PySem.Env) : List (PySem.Str × Addr) := cellsFrom (C + 1) scope.names (L2.cloFrom env.cells scope.names [])
def blkEnv (scope : Scope) (C : Addr) (env : PySem.Env) : PySem.Env := compEnvC scope (blkCells scope C env) C env
def blkOwn (scope : Scope) (C : Addr) : List Addr := (cellsFrom (C + 1) scope.names []).map (·.2)
/-- the context inside -/
def Ctx.blk (X : Ctx) (nm' : Nm) (scope : Scope) (C : Addr) : Ctx := { X with env := blkEnv scope C X.env, nm := nm', O := fun b => b = C ∨ b ∈ blkOwn scope C }
theorem blk_names (ok : X.Ok) (nm' : Nm) (scope : Scope) (os : List Nat) (K : CompOk X.nm nm' scope os) (C : Addr) : (blkEnv scope C X.env).scope.names = nm'.kinds := by
  rw [K.kinds]
  show (scope.names.map fun (n, k) => if (k == NameKind.free && X.env.scope.kind == ScopeKind.function && X.env.kindOf n == some NameKind.cell) then (n, NameKind.cell) else (n, k)) = _
  refine List.map_congr_left fun y _ => ?_
  obtain ⟨n, k⟩ := y
  simp only [ok.kind, kind_of ok, beq_self_eq_true, Bool.and_true]
theorem blk_look (ok : X.Ok) {nm' : Nm} {scope : Scope} {os : List Nat} (K : CompOk X.nm nm' scope os) {C : Addr} {x : PySem.Str} {k : NameKind} (e : (blkEnv scope C X.env).kindOf x = some k) : ∃ k', scope.names.lookup x = some k' ∧ (k = k' ∨ (k' = .free ∧ k = .cell)) :=
  L2.lookup_relS (sc := X.env.scope) e
theorem blk_own {nm' : Nm} {scope : Scope} {C : Addr} {x : PySem.Str} {c : Addr} {env : PySem.Env} (m : (x, c) ∈ blkCells scope C env) : ((x, c) ∈ cellsFrom (C + 1) scope.names [] ∧ (x, .cell) ∈ scope.names ∧ C + 1 ≤ c) ∨ ((x, .free) ∈ scope.names ∧ c = (env.cells.lookup x).getD 0) := by
  unfold blkCells at m
  rw [cellsFrom_over] at m
  rcases List.mem_append.mp m with m | m
  · rcases cf_mem m with z | z
    · cases z
    · exact .inl ⟨m, z⟩
  · rcases L2.cloFrom_mem m with z | z
    · cases z
    · exact .inr z
/-- a free name's cell is the cell around -/
theorem blk_free (ok : X.Ok) {nm' : Nm} {scope : Scope} {os : List Nat} (K : CompOk X.nm nm' scope os) {C : Addr} {x : PySem.Str} (e : scope.names.lookup x = some .free) : ∃ c, X.env.cells.lookup x = some c ∧ (blkEnv scope C X.env).cells.lookup x = some c := by
  have hm := PySem.mem_of_lookup e
  have : ∃ c, X.env.cells.lookup x = some c := by
    rcases K.free _ hm rfl with k | k
    · exact ok.has x (.inl (by rw [kind_of ok]; exact k))
    · exact ok.has x (.inr (by rw [kind_of ok]; exact k))
  obtain ⟨c, hc⟩ := this
  refine ⟨c, hc, ?_⟩
  have h1 : (x, (X.env.cells.lookup x).getD 0) ∈ blkCells scope C X.env := L2.cells_acc (L2.cloFrom_has (acc := []) hm)
  obtain ⟨c', e'⟩ := L2.mem_lookup h1
  have e2 : (blkEnv scope C X.env).cells.lookup x = some c' := e'
  rcases blk_own (nm' := nm') (PySem.mem_of_lookup e') with ⟨_, z, _⟩ | ⟨_, z⟩
  · have := K.uniq _ z
    rw [e] at this; cases this
  · rw [hc] at z
    rw [e2, z]; rfl
theorem blk_ok (ok : X.Ok) {nm' : Nm} {scope : Scope} {os : List Nat} (K : CompOk X.nm nm' scope os) {C : Addr} (hC : ∀ x c, X.env.cells.lookup x = some c → c < C) : (X.blk nm' scope C).Ok := by
  have mm : ∀ {x c}, (blkEnv scope C X.env).cells.lookup x = some c → ((x, c) ∈ cellsFrom (C + 1) scope.names [] ∧ (x, .cell) ∈ scope.names ∧ C + 1 ≤ c) ∨ ((x, .free) ∈ scope.names ∧ X.env.cells.lookup x = some c) := fun {x c} e => by
    rcases blk_own (nm' := nm') (PySem.mem_of_lookup e) with z | ⟨z1, z2⟩
    · exact .inl z
    · obtain ⟨c', e1, e2⟩ := blk_free ok K (C := C) (K.uniq _ z1)
      rw [e2] at e; cases e
      exact .inr ⟨z1, e1⟩
  refine ⟨K.kind, blk_names ok nm' scope os K C, ok.globals, ok.builtins, ok.frames, ok.hd, ok.dp, ok.un, fun x y c e1 e2 => ?_, fun x hx => ?_, fun x hx => ?_, K.slots, .inl rfl, ok.bs⟩
  · rcases mm e1 with ⟨a1, a2, a3⟩ | ⟨a1, a2⟩ <;> rcases mm e2 with ⟨b1, b2, b3⟩ | ⟨b1, b2⟩
    · exact cf_inj (fun p hp => by cases hp) (fun _ _ _ hp => by cases hp) a1 b1
    · exact absurd (Nat.lt_of_lt_of_le (hC y c b2) (Nat.le_of_succ_le a3)) (Nat.lt_irrefl _)
    · exact absurd (Nat.lt_of_lt_of_le (hC x c a2) (Nat.le_of_succ_le b3)) (Nat.lt_irrefl _)
    · exact ok.inj x y c a2 b2
  · have key : ∀ k, (blkEnv scope C X.env).kindOf x = some k → (k = .cell ∨ k = .free) → ∃ c, (blkEnv scope C X.env).cells.lookup x = some c := fun k hk hk' => by
      obtain ⟨k', e, r⟩ := blk_look ok K hk
      have : k' = .cell ∨ k' = .free := by
        rcases r with rfl | ⟨rfl, _⟩
        · exact hk'
        · exact .inr rfl
      rcases this with rfl | rfl
      · obtain ⟨c, hm⟩ := L2.cells_has (n := C + 1) (acc := L2.cloFrom X.env.cells scope.names []) (PySem.mem_of_lookup e)
        obtain ⟨c', e'⟩ := L2.mem_lookup hm
        exact ⟨c', e'⟩
      · obtain ⟨c, _, h1⟩ := blk_free ok K (C := C) e
        exact ⟨c, h1⟩
    rcases hx with hx | hx
    · exact key _ hx (.inl rfl)
    · exact key _ hx (.inr rfl)
  · obtain ⟨⟨i, h1, h2⟩, h3⟩ := K.own x hx
    refine ⟨i, h1, ?_⟩
    have kd : ∀ k, scope.names.lookup x = some k → k ≠ .free → (blkEnv scope C X.env).kindOf x = some k := fun k e nf => by
      have hn := blk_names ok nm' scope os K C
      show (blkEnv scope C X.env).scope.names.lookup x = _
      rw [hn, K.kinds]
      have go : ∀ (l : List (PySem.Str × NameKind)), l.lookup x = some k → (l.map fun (n, k) => if (k == .free && X.nm.kinds.lookup n == some .cell) then (n, .cell) else (n, k)).lookup x = some k := by
        intro l
        induction l with
        | nil => intro e; cases e
        | cons y l ih =>
          obtain ⟨n, k2⟩ := y
          intro e
          rw [List.lookup_cons] at e
          simp only [List.map_cons]
          by_cases hx : (x == n) = true
          · simp only [hx] at e
            cases e
            have : (k == NameKind.free && X.nm.kinds.lookup n == some .cell) = false := by
              cases k <;> first | rfl | exact absurd rfl nf
            simp only [this, Bool.false_eq_true, if_false]
            rw [List.lookup_cons]; simp only [hx]
          · have hx : (x == n) = false := by simpa using hx
            simp only [hx] at e
            by_cases hc : (k2 == NameKind.free && X.nm.kinds.lookup n == some .cell) = true
            · rw [if_pos hc, List.lookup_cons]; simp only [hx]; exact ih e
            · rw [if_neg hc, List.lookup_cons]; simp only [hx]; exact ih e
      exact go _ e
    rcases h3 with k | k
    · exact .inl (kd _ k (by decide))
    · refine .inr ⟨kd _ k (by decide), ?_⟩
      obtain ⟨c, hm⟩ := L2.cells_has (n := C + 1) (acc := L2.cloFrom X.env.cells scope.names []) (PySem.mem_of_lookup k)
      obtain ⟨c', e'⟩ := L2.mem_lookup hm
      refine ⟨c', e', .inr ?_⟩
      rcases blk_own (nm' := nm') (PySem.mem_of_lookup e') with ⟨z, _, _⟩ | ⟨z, _⟩
      · exact List.mem_map.mpr ⟨_, z, rfl⟩
      · have := K.uniq _ z
        rw [k] at this; cases this
end
end Mp
/-! W18: list comprehensions. -/
namespace Mp
open PySem PySem.Spec PyProof.Rows
section
variable {X : Ctx} {O : Addr → Prop} {T T1 T2 : GT} {φ φ1 φ2 : List Addr} {ρ : Mp.Env} {h h1 h2 : Hp} {s s1 s2 s3 : Shared}
theorem rel_free {nm : Nm} {x : PySem.Str} : ∀ {l : List (PySem.Str × NameKind)}, l.lookup x = some .free → (l.map fun (n, k) => if (k == .free && nm.kinds.lookup n == some .cell) then (n, .cell) else (n, k)).lookup x = some .cell ∨ (l.map fun (n, k) => if (k == .free && nm.kinds.lookup n == some .cell) then (n, .cell) else (n, k)).lookup x = some .free
  | [], e => by cases e
  | (n, k) :: l, e => by
    rw [List.lookup_cons] at e
    simp only [List.map_cons]
    by_cases hx : (x == n) = true
    · simp only [hx] at e
      cases e
      by_cases hc : (NameKind.free == NameKind.free && nm.kinds.lookup n == some .cell) = true
      · rw [if_pos hc, List.lookup_cons]; simp only [hx]; exact .inl trivial
      · rw [if_neg hc, List.lookup_cons]; simp only [hx]; exact .inr trivial
    · have hx : (x == n) = false := by simpa using hx
      simp only [hx] at e
      by_cases hc : (k == NameKind.free && nm.kinds.lookup n == some .cell) = true
      · rw [if_pos hc, List.lookup_cons]; simp only [hx]; exact rel_free e
      · rw [if_neg hc, List.lookup_cons]; simp only [hx]; exact rel_free e
/-- a block begins -/
theorem blk_start (ok : X.Ok) {nm' : Nm} {scope : Scope} {os : List Nat} (K : CompOk X.nm nm' scope os) {D C : Addr} (S : St X T φ ρ h s2) (B : CompBeginsC scope s2 D C s3) :
    Good X NoO T φ (T.blk C (blkOwn scope C)) φ h s3 ∧ ER (X.blk nm' scope C) (T.blk C (blkOwn scope C)) φ (wipe ρ os) ∧ (∀ b, s2.heap.objs.size ≤ b → T b = none) ∧ (∀ x c, X.env.cells.lookup x = some c → c < C) ∧ (∀ b ∈ blkOwn scope C, C < b) := by
  obtain ⟨⟨⟨hp, tk, rfl⟩, old, newD, newC, ne, names⟩, cells⟩ := B
  have fresh : ∀ b, s2.heap.objs.size ≤ b → T b = none := fun b hb => S.inv.fresh hb
  have oc : ∀ b ∈ blkOwn scope C, hp.IsCell b none ∧ C < b := fun b hb => by
    obtain ⟨p, hp', rfl⟩ := List.mem_map.mp hb
    exact cells p hp'
  have over : ∀ a g, T a = some g → T.blk C (blkOwn scope C) a = some g := fun a g e => by
    have hlt : a < s2.heap.objs.size := (S.inv.ok a g e).lt
    have h1 : a ≠ C := Nat.ne_of_lt (Nat.lt_of_lt_of_le hlt newC)
    have h2 : a ∉ blkOwn scope C := fun m => absurd (Nat.lt_trans (Nat.lt_of_lt_of_le hlt newC) (oc a m).2) (Nat.lt_irrefl _)
    unfold GT.blk
    rw [if_neg h1, if_neg h2]; exact e
  have E : ∀ O, Ext O T (T.blk C (blkOwn scope C)) := fun O => .over over
  have eC : T.blk C (blkOwn scope C) C = some (.frame fun _ => none) := if_pos rfl
  have eo : ∀ b ∈ blkOwn scope C, T.blk C (blkOwn scope C) b = some (.cell none) := fun b hb => by
    unfold GT.blk
    rw [if_neg (Nat.ne_of_gt (oc b hb).2), if_pos hb]
  have hC : ∀ x c, X.env.cells.lookup x = some c → c < C := fun x c e => by
    obtain ⟨u, hu⟩ := S.er.cell x c e
    exact Nat.lt_of_lt_of_le (S.inv.ok _ _ hu).lt newC
  have mm : ∀ {x c}, (blkEnv scope C X.env).cells.lookup x = some c → (c ∈ blkOwn scope C ∧ (x, .cell) ∈ scope.names) ∨ ((x, .free) ∈ scope.names ∧ X.env.cells.lookup x = some c) := fun {x c} e => by
    rcases blk_own (nm' := nm') (PySem.mem_of_lookup e) with ⟨z1, z2, _⟩ | ⟨z1, z2⟩
    · exact .inl ⟨List.mem_map.mpr ⟨_, z1, rfl⟩, z2⟩
    · obtain ⟨c', e1, e2⟩ := blk_free (nm' := nm') ok K (C := C) (K.uniq _ z1)
      rw [e2] at e; cases e
      exact .inr ⟨z1, e1⟩
  have kf : ∀ {x}, scope.names.lookup x = some .free → (blkEnv scope C X.env).kindOf x = some .cell ∨ (blkEnv scope C X.env).kindOf x = some .free := fun {x} e => by
    show (blkEnv scope C X.env).scope.names.lookup x = _ ∨ (blkEnv scope C X.env).scope.names.lookup x = _
    rw [blk_names ok nm' scope os K C, K.kinds]
    exact rel_free e
  have nt : ∀ P ps, T P = some (.tab ps) → T.blk C (blkOwn scope C) P = T P := fun P ps e => by rw [over _ _ e, e]
  refine ⟨⟨S.inv.step (E NoO) (fun a g e => ?_) rfl S.inv.bare (S.inv.tabsN (E NoO) nt), E NoO, List.prefix_refl _, fun _ m => .inl m, S.sim.mono (E NoO) fun a m => ?_⟩, ⟨fun x i hv => ?_, ⟨_, eC⟩, fun x c hc => ?_, fun x i c hv ha hc m => ?_⟩, fresh, hC, fun b hb => (oc b hb).2⟩
  · by_cases h1 : a = C
    · subst h1; rw [eC] at e; cases e; exact names
    · by_cases h2 : a ∈ blkOwn scope C
      · rw [eo a h2] at e; cases e; exact (oc a h2).1
      · unfold GT.blk at e
        rw [if_neg h1, if_neg h2] at e
        exact (S.inv.ok a g e).keep fun o q => old a o q
  · cases q : T a with
    | none => exact absurd q (S.sim.tr a m)
    | some g => exact over a g q
  · rcases K.vis x i hv with ⟨_, hi⟩ | ⟨e1, e2, e3⟩
    · rcases wipe_in (ρ := ρ) hi with z | z <;> rw [z] <;> trivial
    · rw [wipe_out e3]
      have so := S.er.slot x i e2
      obtain ⟨c, c1, c2⟩ := blk_free (nm' := nm') ok K (C := C) e1
      cases q : ρ[i]? with
      | none => trivial
      | some sl =>
        rw [q] at so
        cases sl with
        | u => trivial
        | v w =>
          rcases so with ⟨k, _⟩ | ⟨k, c', u, l1, l2, l3⟩
          · rw [kind_of ok] at k
            rcases K.free _ (PySem.mem_of_lookup e1) rfl with z | z <;> rw [show X.nm.kinds.lookup x = _ from z] at k <;> cases k
          · rw [c1] at l1; cases l1
            exact .inr ⟨kf e1, c, u, c2, over _ _ l2, RV.mono (E NoO) (List.prefix_refl _) _ _ l3⟩
        | c a =>
          obtain ⟨k, c', l1, l2⟩ := so
          rw [c1] at l1; cases l1
          exact ⟨kf e1, c, c2, l2⟩
  · rcases mm hc with ⟨z, _⟩ | ⟨_, z⟩
    · exact ⟨none, eo c z⟩
    · obtain ⟨u, hu⟩ := S.er.cell x c z
      exact ⟨u, over _ _ hu⟩
  · rcases mm hc with ⟨z, z2⟩ | ⟨z, z2⟩
    · have : T c = none := fresh c (Nat.le_trans newC (Nat.le_of_lt (oc c z).2))
      exact S.sim.tr c m this
    · rcases K.vis x i hv with ⟨h1, _⟩ | ⟨e1, e2, e3⟩
      · have k := (K.own x h1).2
        have := K.uniq _ z
        rcases k with k | k <;> rw [this] at k <;> cases k
      · exact S.er.byv x i c e2 (fun a q => ha a (by rw [wipe_out e3]; exact q)) z2 m
/-- at each turn the block's own names count as unbound -/
theorem ER.again {X' : Ctx} {os : List Nat} (hv : ∀ x i, X'.nm.vis.lookup x = some i → i ∈ os ∨ ∀ c, X'.env.cells.lookup x = some c → ¬ X'.O c) (hl : ∀ x i, X'.nm.vis.lookup x = some i → i ∉ os → X'.env.kindOf x ≠ some .local) (R : ER X' T φ (wipe ρ os)) (E : Ext X'.O T T2) (p : φ <+: φ2) (new : ∀ a ∈ φ2, a ∈ φ ∨ T a = none) : ER X' T2 φ2 (wipe ρ os) := by
  refine ⟨fun x i h => ?_, ?_, fun x c hc => ?_, fun x i c h ha hc m => ?_⟩
  · by_cases hi : i ∈ os
    · rcases wipe_in (ρ := ρ) hi with z | z <;> rw [z] <;> trivial
    · have so := R.slot x i h
      cases q : (wipe ρ os)[i]? with
      | none => trivial
      | some sl =>
        rw [q] at so
        cases sl with
        | u => trivial
        | v w =>
          rcases so with ⟨k, _⟩ | ⟨k, c, u, l1, l2, l3⟩
          · exact absurd k (hl x i h hi)
          · exact .inr ⟨k, c, u, l1, E.cell _ _ (((hv x i h).resolve_left hi) c l1) l2, RV.mono E p _ _ l3⟩
        | c a =>
          obtain ⟨k, c, l1, l2⟩ := so
          exact ⟨k, c, l1, pref_at p l2⟩
  · obtain ⟨m, hm⟩ := R.frame
    exact E.frame' _ _ hm
  · obtain ⟨u, hu⟩ := R.cell x c hc
    exact E.cell' _ _ hu
  · rcases new c m with z | z
    · exact R.byv x i c h ha hc z
    · obtain ⟨u, hu⟩ := R.cell x c hc
      rw [hu] at z; cases z
/-- a test in a comprehension -/
def TI (X : Ctx) (c : E) (ifs : List Expr) : Prop := (ifs = [] ∧ c = .cst (.bool true)) ∨ ∃ c', ifs = [c'] ∧ ST X c c'
theorem ti_run {c : E} {ifs : List Expr} {F : Value → Shared → Prop} (H : TI X c ifs) (S : St X T φ ρ h s) (hn : (ev X.C ρ h c).tell) (hF : ∀ x s', QX X T φ (ev X.C ρ h c) x s' → F x s') :
    wpAny X.M X.A (testsOf ifs X.env) (QT X T φ (ev X.C ρ h c)) F s := by
  rcases H with ⟨rfl, rfl⟩ | ⟨c', rfl, hc⟩
  · refine wpAny_tests_nil ⟨.bool true, h, T, φ, by simp only [ev], .refl S.inv S.sim, rfl⟩
  · exact wpAny_tests_one (hc T φ ρ h s F S hn hF)
def lcF (C : Mp.Cx) (ρ : Mp.Env) (t : At) (c elt : E) : Val → Hp → R (Option Val) := fun x h => (bindT C ρ h t x).bind fun ρ2 h => (ev C ρ2 h c).test (fun _ h => (ev C ρ2 h elt).bind fun v h => .ok (some v) h) fun _ h => .ok Option.none h
/-- where a list comprehension ends: its list is made, the block's names are not let go yet -/
def QL (X : Ctx) (T : GT) (φ : List Addr) (ρ : Mp.Env) (r : R Val) (C D : Addr) (s' : Shared) : Prop := ∃ v h' T' φ', r = .ok v h' ∧ Good X NoO T φ T' φ' h' s' ∧ ER X T' φ' ρ ∧ RV X.G T' φ' v (.ref D) ∧ T C = none ∧ ∃ m, T' C = some (.frame m)
/-- the new list, the new frame -/
theorem blk_open {prog : Program} {w : World} {A : Around} {F : Value → Shared → Prop} {env : PySem.Env} {elt target iter : Expr} {ifs : List Expr} {rest : List Comprehension} {scope : Scope} {pos : Pos} {cl : List (PySem.Str × Addr)} {I : Addr} {use : Option (Value → Sem Unit)} {Q : Value → Shared → Prop}
    (self : ∀ s' : Shared, (∀ b o, s2.heap.get? b = some o → s'.heap.get? b = some o) → ∀ (Q E : Value → Shared → Prop), Q (.ref I) s' → wpAny (model prog w) A (pyIter (.ref I)) Q E s')
    (hh : ∀ D C hp, CompBeginsC scope s2 D C { s2 with heap := hp } → D < C → hp.PlainList D #[] → codeAny (model prog w) A (.compLoop (.ListComp elt (⟨target, iter, ifs, 0⟩ :: rest) scope pos) 0 (.ref I) (.ref D) (compEnvC scope (cellsFrom (C + 1) scope.names cl) C env)) (compEnds (model prog w) A F use Q (.ref D) (compEnvC scope (cellsFrom (C + 1) scope.names cl) C env)) { s2 with heap := hp }) :
    wpAny (model prog w) A (newList []) (fun acc s₃ => wpAny (model prog w) A (newFunctionEnv scope env.globals cl [] env.qual none .none (some env)) (fun cenv s₄ =>
      codeAny (model prog w) A (.compStart (.ListComp elt (⟨target, iter, ifs, 0⟩ :: rest) scope pos) 0 (.ref I) acc { cenv with scope := relabel scope env }) (compEnds (model prog w) A F use Q acc { cenv with scope := relabel scope env }) s₄) F s₃) F s2 := by
  refine wpAny_newObj_type (wpAny_newCompEnv ?_)
  have hC : (s2.heap.push { cls := .type "list", data := .seq ([] : List Value).toArray }).objs.size = s2.heap.objs.size + 1 := Heap.size_push ..
  have hC3 : ((s2.heap.push { cls := .type "list", data := .seq ([] : List Value).toArray }).push { cls := .type "dict", data := .dict #[] }).objs.size = s2.heap.objs.size + 1 + 1 := by rw [Heap.size_push, hC]
  have kp := pushCells_keeps scope.names ((s2.heap.push { cls := .type "list", data := .seq ([] : List Value).toArray }).push { cls := .type "dict", data := .dict #[] })
  have hcells : ∀ x ∈ cellsFrom (s2.heap.objs.size + 1 + 1) scope.names [], (pushCells ((s2.heap.push { cls := .type "list", data := .seq ([] : List Value).toArray }).push { cls := .type "dict", data := .dict #[] }) scope.names).IsCell x.2 none ∧ s2.heap.objs.size + 1 < x.2 := by
    have ok := cellsFrom_ok scope.names ((s2.heap.push { cls := .type "list", data := .seq ([] : List Value).toArray }).push { cls := .type "dict", data := .dict #[] }) (s2.heap.objs.size + 1 + 1) [] ⟨fun _ _ hm => (nomatch hm), List.Pairwise.nil⟩ (by rw [hC3]; exact Nat.le_refl _)
    rw [hC3] at ok
    exact fun x hx => ok.empty x.1 x.2 hx
  have old : ∀ b o, s2.heap.get? b = some o → (pushCells ((s2.heap.push { cls := .type "list", data := .seq ([] : List Value).toArray }).push { cls := .type "dict", data := .dict #[] }) scope.names).get? b = some o := fun b o e => kp b o (Heap.get?_push_of_some _ (Heap.get?_push_of_some _ e))
  have hacc : (pushCells ((s2.heap.push { cls := .type "list", data := .seq ([] : List Value).toArray }).push { cls := .type "dict", data := .dict #[] }) scope.names).PlainList s2.heap.objs.size #[] := ⟨_, kp _ _ (Heap.get?_push_of_some _ (Heap.get?_push_size _ rfl))⟩
  have hnm : (pushCells ((s2.heap.push { cls := .type "list", data := .seq ([] : List Value).toArray }).push { cls := .type "dict", data := .dict #[] }) scope.names).Ns (s2.heap.objs.size + 1) fun _ => none := by
    have := (Heap.Ns.new (s2.heap.push { cls := .type "list", data := .seq ([] : List Value).toArray }) (.type "dict")).keeps kp
    rwa [hC] at this
  have main := hh s2.heap.objs.size (s2.heap.objs.size + 1) _ ⟨⟨⟨_, s2.toks, rfl⟩, old, Nat.le_refl _, Nat.le_succ _, Nat.ne_of_lt (Nat.lt_succ_self _), hnm⟩, hcells⟩ (Nat.lt_succ_self _) hacc
  rw [← hC3, ← hC] at main
  exact codeAny_compStart_list main (self _ old _ _ main)
theorem lc_ok {m : Bool} {elt c : E} {os : List Nat} {t : At} {it : It} {nm' : Nm} {elt' t' iter' : Expr} {ifs : List Expr} {scope : Scope} {pos pos' : Pos} {use : Option (Value → Sem Unit)} {Q : Value → Shared → Prop} {F : Value → Shared → Prop} (ok : X.Ok) (K : CompOk X.nm nm' scope os)
    (hi : SI X it t iter' t') (hin : ∀ C, (X.blk nm' scope C).Ok → SA (X.blk nm' scope C) t t' ∧ TI (X.blk nm' scope C) c ifs ∧ SE (X.blk nm' scope C) elt elt') (hset : noSet iter' = true) (S : St X T φ ρ h s) (hn : ev X.C ρ h (.comp m elt os t it c) ≠ .no)
    (hF : ∀ x s', QX X T φ (ev X.C ρ h (.comp m elt os t it c)) x s' → F x s')
    (fin : ∀ C D s', QL X T φ ρ (ev X.C ρ h (.comp m elt os t it c)) C D s' → compEnds X.M X.A F use Q (.ref D) (blkEnv scope C X.env) (.ok .next) s') :
    wpAny X.M X.A (comprehension (.ListComp elt' [⟨t', iter', ifs, 0⟩] scope pos) scope X.env pos' (newList []) false (eval iter' X.env) use) Q F s := by
  have e0 : ev X.C ρ h (.comp m elt os t it c) = (evIt X.C ρ h it).bind fun w h => (((loopC (lcF X.C (wipe ρ os) t c elt) w.1 (lockAll h w.2)).unlock w.2).calm).bind fun ys h => newL m ys h := by simp only [ev]; rfl
  rw [e0] at hn hF fin
  have hclos : closureFor scope X.env = pure (L2.cloFrom X.env.cells scope.names []) := L2.closure_ok fun y hy e => by
    rcases K.free y hy e with k | k
    · exact ok.has _ (.inl (by rw [kind_of ok]; exact k))
    · exact ok.has _ (.inr (by rw [kind_of ok]; exact k))
  refine comprehension_at rfl (folded_none hset) hclos K.kind (fun y hy e => by rw [K.uniq y hy, e]) (wpAny_mono (hi T φ ρ h s F S (R.bind_no' hn) (QX.bind hF)) (fun xv s1 k => wpAny_mono k (fun itv s2 q => ?_) fun _ _ z => z) fun _ _ z => z)
  obtain ⟨w, h1, T1, φ1, T2, e1, g1, g2, lk, I, fp, wr, Y, Stt, src⟩ := q
  obtain ⟨hn, e2⟩ := R.bind_ne hn e1
  rw [e2] at fin
  -- the loop ends well
  have hall : ∃ all hE, loopC (lcF X.C (wipe ρ os) t c elt) w.1 (lockAll h1 w.2) = .ok all hE := by
    cases q : loopC (lcF X.C (wipe ρ os) t c elt) w.1 (lockAll h1 w.2) with
    | ok a b => exact ⟨a, b, rfl⟩
    | err _ _ _ => rw [q] at hn; exact absurd rfl hn
    | no => rw [q] at hn; exact absurd rfl hn
  obtain ⟨all, hE, hr⟩ := hall
  rw [hr] at fin
  have S1 := g1.st S
  have S2 := g2.st S1
  have hir := src.ref
  subst hir
  refine blk_open (fun s' k Q E hq => src.goes.self 0 s' Q E (src.goes.frame 0 _ _ src.st fun b _ o e => k b o e) hq) fun D C hp B hDC hacc => ?_
  obtain ⟨g3, R3, fresh, hC, hoc⟩ := blk_start ok K S2 B
  have newD := B.toBegins.newD
  have newC := B.toBegins.newC
  have old := B.toBegins.old
  have ok' : (X.blk nm' scope C).Ok := blk_ok ok K hC
  obtain ⟨hA, hT, hEl⟩ := hin C ok'
  have hT3D : T2.blk C (blkOwn scope C) D = none := by
    unfold GT.blk
    rw [if_neg (Nat.ne_of_lt hDC), if_neg (fun z => absurd (Nat.lt_trans hDC (hoc D z)) (Nat.lt_irrefl _))]
    exact fresh D newD
  have hT3C : T2.blk C (blkOwn scope C) C = some (.frame fun _ => none) := if_pos rfl
  have hT2C : T2 C = none := fresh C newC
  have hT1C : T1 C = none := by
    cases q : T1 C with
    | none => rfl
    | some g => exact absurd hT2C (g2.ext.sm C (by rw [q]; simp))
  have hTC : T C = none := by
    cases q : T C with
    | none => rfl
    | some g => exact absurd hT1C (g1.ext.sm C (by rw [q]; simp))
  have hwr3 : ∀ b ∈ wr, T2.blk C (blkOwn scope C) b = none := fun b hb => by
    have hlt := src.old b (src.goes.sub b hb)
    unfold GT.blk
    rw [if_neg (Nat.ne_of_lt (Nat.lt_of_lt_of_le hlt newC)), if_neg (fun z => absurd (Nat.lt_trans (Nat.lt_of_lt_of_le hlt newC) (hoc b z)) (Nat.lt_irrefl _))]
    exact src.wrn b hb
  have hDf : D ∉ fp := fun m => absurd (Nat.lt_of_lt_of_le (src.old D m) newD) (Nat.lt_irrefl _)
  have over : ∀ a g, T2 a = some g → T2.blk C (blkOwn scope C) a = some g ∧ ¬ (a = C ∨ a ∈ blkOwn scope C) := fun a g e => by
    have hlt : a < s2.heap.objs.size := (g2.inv.ok a g e).lt
    have z1 : a ≠ C := Nat.ne_of_lt (Nat.lt_of_lt_of_le hlt newC)
    have z2 : a ∉ blkOwn scope C := fun m => absurd (Nat.lt_trans (Nat.lt_of_lt_of_le hlt newC) (hoc a m)) (Nat.lt_irrefl _)
    refine ⟨?_, fun z => z.elim z1 z2⟩
    unfold GT.blk
    rw [if_neg z1, if_neg z2]; exact e
  generalize hT3 : T2.blk C (blkOwn scope C) = T3 at *
  -- from the block back to the def
  have back : ∀ {T' : GT} {φ' : List Addr} {h' : Hp} {s' : Shared}, Good (X.blk nm' scope C) (X.blk nm' scope C).O T3 φ1 T' φ' h' s' → Good X NoO T2 φ1 T' φ' h' s' := fun {T' φ' h' s'} g => by
    have k : ∀ a g, T2 a = some g → T3 a = some g := fun a g e => (over a g e).1
    refine ⟨g.inv, ⟨fun a o e => g.ext.lock a o (k a _ e), fun a o e => g.ext.pin a o (k a _ e), fun a c d e => g.ext.exn a c d (k a _ e), fun a m _ e => g.ext.frame a m (over a _ e).2 (k a _ e), fun a u _ e => g.ext.cell a u (over a _ e).2 (k a _ e), fun a m e => g.ext.frame' a m (k a _ e), fun a u e => g.ext.cell' a u (k a _ e), fun a e => ?_⟩, g.pre, fun a m => (g.new a m).imp id fun z => ?_, g.sim⟩
    · cases q : T2 a with
      | none => exact absurd q e
      | some u => exact g.ext.sm a (by rw [k a u q]; simp)
    · cases q : T2 a with
      | none => rfl
      | some u => rw [k a u q] at z; cases z
  refine lc_goes (G := fun i ys s' => ∃ T' φ' h' vs rest, loopC (lcF X.C (wipe ρ os) t c elt) (w.1.drop i) h' = .ok rest hE ∧ all = vs ++ rest ∧ RVs X.G T' φ' vs ys ∧ ys.length ≤ i ∧ Good (X.blk nm' scope C) (X.blk nm' scope C).O T3 φ1 T' φ' h' s' ∧ T' D = none ∧ ∀ b ∈ wr, T' b = none) src.goes src.few hDf (src.goes.frame _ _ _ src.st fun b _ o e => old b o e) hacc
    ⟨T3, φ1, _, [], all, by rw [List.drop_zero]; exact hr, rfl, .nil, Nat.le_refl _, .refl g3.inv g3.sim, hT3D, hwr3⟩ ?_ ?_ ?_
  · rintro i ys s4 h' tk ⟨T', φ', h4, vs, rest, e3, e4, r4, l4, g4, nD, nw⟩ kp _
    refine ⟨T', φ', h4, vs, rest, e3, e4, r4, l4, ⟨g4.inv.turned (wr := D :: wr) (fun b hb => ?_) kp, g4.ext, g4.pre, g4.new, g4.sim⟩, nD, nw⟩
    rcases List.mem_cons.mp hb with z | z
    · subst z; exact nD
    · exact nw b z
  · rintro i v ys s4 hlt hY hSt ⟨T', φ', h4, vs, rest, e3, e4, r4, l4, g4, nD, nw⟩ hpl
    have hx : w.1[i]? = some w.1[i] := List.getElem?_eq_getElem hlt
    rw [drop_cons hlt] at e3
    have e5 : loopC (lcF X.C (wipe ρ os) t c elt) (w.1[i] :: w.1.drop (i + 1)) h4 = (lcF X.C (wipe ρ os) t c elt w.1[i] h4).bind fun y h => (loopC (lcF X.C (wipe ρ os) t c elt) (w.1.drop (i + 1)) h).bind fun ys h => .ok (match y with | some v => v :: ys | Option.none => ys) h := by simp only [loopC] <;> rfl
    rw [e5] at e3
    have nw2 : ∀ b ∈ D :: wr, T' b = none := fun b hb => by
      rcases List.mem_cons.mp hb with z | z
      · subst z; exact nD
      · exact nw b z
    have hx3 : ∀ b ∈ D :: wr, ∃ o, s4.heap.get? b = some o := fun b hb => by
      rcases List.mem_cons.mp hb with z | z
      · subst z; obtain ⟨n, e⟩ := hpl; exact ⟨_, e⟩
      · exact src.live (i + 1) _ hSt b z
    have gp : Good (X.blk nm' scope C) (X.blk nm' scope C).O T' φ' (T'.pins (D :: wr) s4.heap) φ' h4 s4 := .pins g4.inv g4.sim nw2
    have gq := g4.trans gp
    have R4 : ER (X.blk nm' scope C) (T'.pins (D :: wr) s4.heap) φ' (wipe ρ os) := ER.again (fun x i h => ?_) (fun x i h hi => ?_) R3 gq.ext gq.pre gq.new
    · have Sp : St (X.blk nm' scope C) (T'.pins (D :: wr) s4.heap) φ' (wipe ρ os) h4 s4 := ⟨gp.inv, R4, gp.sim⟩
      have Eq2 := (back gq).ext
      have rv : RVa t X.G (T'.pins (D :: wr) s4.heap) φ' s4.heap w.1[i] v := RVa.kept Eq2.kp g4.pre (src.item i v s4.heap _ hY hx)
      -- nothing goes wrong inside
      have hok : ∃ y hy, lcF X.C (wipe ρ os) t c elt w.1[i] h4 = .ok y hy := by
        cases q : lcF X.C (wipe ρ os) t c elt w.1[i] h4 with
        | ok a b => exact ⟨a, b, rfl⟩
        | err _ _ _ => rw [q] at e3; cases e3
        | no => rw [q] at e3; cases e3
      obtain ⟨y, hy, ef⟩ := hok
      rw [ef] at e3
      -- leaving the turn
      have leave : ∀ {T5 : GT} {φ5 : List Addr} {h5 : Hp} {s5 : Shared}, Good (X.blk nm' scope C) (X.blk nm' scope C).O (T'.pins (D :: wr) s4.heap) φ' T5 φ5 h5 s5 → Good (X.blk nm' scope C) (X.blk nm' scope C).O T3 φ1 (T5.del (D :: wr)) φ5 h5 s5 ∧ Kp2 T5 (T5.del (D :: wr)) ∧ (∀ b ∈ D :: wr, T5.del (D :: wr) b = none) ∧ (∀ b ∈ fp, ∀ o, s4.heap.get? b = some o → s5.heap.get? b = some o) ∧ s5.heap.PlainList D ys.toArray := fun {T5 φ5 h5 s5} g5 => by
        obtain ⟨g6, k6, n6, p6⟩ := g5.del g4.sim.tr nw2 hx3
        refine ⟨g4.trans g6, k6, n6, fp_stand (fun b hb => (src.fix b hb).imp id fun z => (back g4).ext.fix g4.pre z) (fun b hb o e => p6 b (List.mem_cons_of_mem _ hb) o e) g6.ext (fun a g e => g4.inv.ok a g e) g6.inv, ?_⟩
        obtain ⟨n, e⟩ := hpl
        exact ⟨n, p6 D List.mem_cons_self _ e⟩
      have ef2 : (bindT X.C (wipe ρ os) h4 t w.1[i]).bind (fun ρ2 h => (ev X.C ρ2 h c).test (fun _ h => (ev X.C ρ2 h elt).bind fun v h => .ok (some v) h) fun _ h => .ok Option.none h) = .ok y hy := ef
      have hb1 : ∃ ρ5 h5, bindT X.C (wipe ρ os) h4 t w.1[i] = .ok ρ5 h5 := by
        cases q : bindT X.C (wipe ρ os) h4 t w.1[i] with
        | ok a b => exact ⟨a, b, rfl⟩
        | err _ _ _ => rw [q] at ef2; cases ef2
        | no => rw [q] at ef2; cases ef2
      obtain ⟨ρ5, h5, eb⟩ := hb1
      rw [eb] at ef2
      refine wpAny_mono (hA _ φ' (wipe ρ os) h4 s4 _ w.1[i] v Sp rv (by show bindT X.C _ _ _ _ ≠ _; rw [eb]; simp) (fun x s' q => by
        obtain ⟨cc, fs, hh, ee, _⟩ := q
        have ee : bindT X.C (wipe ρ os) h4 t w.1[i] = .err cc fs hh := ee
        rw [eb] at ee; cases ee)) (fun _ s5 ⟨ρ5', h5', T5, φ5, e6, g5, R5⟩ => ?_) fun _ _ z => z
      have e6 : bindT X.C (wipe ρ os) h4 t w.1[i] = .ok ρ5' h5' := e6
      rw [eb] at e6; cases e6
      have ef3 : (ev X.C ρ5 h5 c).test (fun _ h => (ev X.C ρ5 h elt).bind fun v h => .ok (some v) h) (fun _ h => .ok Option.none h) = .ok y hy := ef2
      have S5 : St (X.blk nm' scope C) T5 φ5 ρ5 h5 s5 := ⟨g5.inv, R5, g5.sim⟩
      refine wpAny_mono (ti_run hT S5 (R.test_no (f := fun _ h => (ev X.C ρ5 h elt).bind fun v h => R.ok (some v) h) (g := fun _ h => .ok Option.none h) (by show (ev X.C ρ5 h5 c).test _ _ ≠ _; rw [ef3]; simp)) (fun x s' q => by
        obtain ⟨cc, fs, hh, ee, _⟩ := q
        have ee : ev X.C ρ5 h5 c = .err cc fs hh := ee
        rw [ee] at ef3; cases ef3)) (fun b s6 ⟨v6, h6, T6, φ6, e7, g6, t6⟩ => ?_) fun _ _ z => z
      have e7 : ev X.C ρ5 h5 c = .ok v6 h6 := e7
      have e8 := R.test_at (f := fun _ h => (ev X.C ρ5 h elt).bind fun v h => R.ok (some v) h) (g := fun _ h => .ok Option.none h) e7 t6
      rw [ef3] at e8
      have S6 := g6.st S5
      have g56 : Good (X.blk nm' scope C) (X.blk nm' scope C).O (T'.pins (D :: wr) s4.heap) φ' T6 φ6 h6 s6 := g5.trans (g6.imp fun _ z => z.elim)
      cases b with
      | false =>
        simp only [Bool.false_eq_true, if_false] at e8 ⊢
        cases e8
        obtain ⟨g7, k7, n7, p7, l7⟩ := leave g56
        have e9 : loopC (lcF X.C (wipe ρ os) t c elt) (w.1.drop (i + 1)) hy = .ok rest hE := by
          cases q : loopC (lcF X.C (wipe ρ os) t c elt) (w.1.drop (i + 1)) hy with
          | ok a b => rw [show (R.ok (Option.none : Option Val) hy).bind _ = (loopC (lcF X.C (wipe ρ os) t c elt) (w.1.drop (i + 1)) hy).bind _ from rfl, q] at e3; cases e3; rfl
          | err _ _ _ => rw [show (R.ok (Option.none : Option Val) hy).bind _ = (loopC (lcF X.C (wipe ρ os) t c elt) (w.1.drop (i + 1)) hy).bind _ from rfl, q] at e3; cases e3
          | no => rw [show (R.ok (Option.none : Option Val) hy).bind _ = (loopC (lcF X.C (wipe ρ os) t c elt) (w.1.drop (i + 1)) hy).bind _ from rfl, q] at e3; cases e3
        exact ⟨⟨_, φ6, hy, vs, rest, e9, e4, RVs.kept ((gp.ext.trans g56.ext).kp.trans k7.kp) (gp.pre.trans g56.pre) _ _ r4, by omega, g7, n7 D List.mem_cons_self, fun b hb => n7 b (List.mem_cons_of_mem _ hb)⟩, src.goes.frame (i + 1) _ _ hSt p7, l7⟩
      | true =>
        simp only [if_true] at e8 ⊢
        have hel : ∃ v7 h7, ev X.C ρ5 h6 elt = .ok v7 h7 := by
          cases q : ev X.C ρ5 h6 elt with
          | ok a b => exact ⟨a, b, rfl⟩
          | err _ _ _ => rw [q] at e8; cases e8
          | no => rw [q] at e8; cases e8
        obtain ⟨v7, h7, e10⟩ := hel
        rw [e10] at e8
        cases e8
        refine wpAny_mono (hEl T6 φ6 ρ5 h6 s6 _ S6 (by show ev X.C _ _ _ ≠ _; rw [e10]; simp) (fun x s' q => by
          obtain ⟨cc, fs, hh, ee, _⟩ := q
          have ee : ev X.C ρ5 h6 elt = .err cc fs hh := ee
          rw [e10] at ee; cases ee)) (fun u s7 ⟨v7', h7', T7, φ7, e11, g7, r7⟩ => ?_) fun _ _ z => z
        have e11 : ev X.C ρ5 h6 elt = .ok v7' h7' := e11
        rw [e10] at e11; cases e11
        have g57 := g56.trans (g7.imp (O' := (X.blk nm' scope C).O) fun _ z => z.elim)
        obtain ⟨g8, k8, n8, p8, l8⟩ := leave g57
        have e9 : ∃ rest', loopC (lcF X.C (wipe ρ os) t c elt) (w.1.drop (i + 1)) hy = .ok rest' hE ∧ rest = v7 :: rest' := by
          cases q : loopC (lcF X.C (wipe ρ os) t c elt) (w.1.drop (i + 1)) hy with
          | ok a b => rw [show (R.ok (some v7) hy).bind _ = (loopC (lcF X.C (wipe ρ os) t c elt) (w.1.drop (i + 1)) hy).bind _ from rfl, q] at e3; cases e3; exact ⟨a, rfl, rfl⟩
          | err _ _ _ => rw [show (R.ok (some v7) hy).bind _ = (loopC (lcF X.C (wipe ρ os) t c elt) (w.1.drop (i + 1)) hy).bind _ from rfl, q] at e3; cases e3
          | no => rw [show (R.ok (some v7) hy).bind _ = (loopC (lcF X.C (wipe ρ os) t c elt) (w.1.drop (i + 1)) hy).bind _ from rfl, q] at e3; cases e3
        obtain ⟨rest', e12, rfl⟩ := e9
        refine ⟨⟨_, φ7, hy, vs ++ [v7], rest', e12, by rw [e4]; simp, (RVs.kept ((gp.ext.trans g57.ext).kp.trans k8.kp) (gp.pre.trans g57.pre) _ _ r4).append (.cons (RV.kept k8.kp (List.prefix_refl _) _ _ r7) .nil), by simp; omega, g8, n8 D List.mem_cons_self, fun b hb => n8 b (List.mem_cons_of_mem _ hb)⟩, src.goes.frame (i + 1) _ _ hSt p8, l8⟩
    · rcases K.vis x i h with ⟨_, z⟩ | ⟨z, _⟩
      · exact .inl z
      · refine .inr fun c hc => ?_
        obtain ⟨c', c1, c2⟩ := blk_free (nm' := nm') ok K (C := C) z
        have hc : (blkEnv scope C X.env).cells.lookup x = some c := hc
        rw [c2] at hc; cases hc
        have hlt := hC x _ c1
        intro q
        rcases (show c = C ∨ c ∈ blkOwn scope C from q) with q | q
        · exact absurd (q ▸ hlt : C < C) (Nat.lt_irrefl _)
        · exact absurd (Nat.lt_trans hlt (hoc c q)) (Nat.lt_irrefl _)
    · rcases K.vis x i h with ⟨_, z⟩ | ⟨z, _⟩
      · exact absurd z hi
      · have : (blkEnv scope C X.env).kindOf x = some .cell ∨ (blkEnv scope C X.env).kindOf x = some .free := by
          show (blkEnv scope C X.env).scope.names.lookup x = _ ∨ (blkEnv scope C X.env).scope.names.lookup x = _
          rw [blk_names ok nm' scope os K C, K.kinds]
          exact rel_free z
        intro q
        have q : (blkEnv scope C X.env).kindOf x = some .local := q
        rw [q] at this
        rcases this with z | z <;> cases z
  · rintro ys s4 ⟨T', φ', h4, vs, rest, e3, e4, r4, l4, g4, nD, nw⟩ hpl
    rw [List.drop_length] at e3
    have e5 : loopC (lcF X.C (wipe ρ os) t c elt) [] h4 = .ok [] h4 := by simp only [loopC]
    rw [e5] at e3
    cases e3
    rw [List.append_nil] at e4
    subst e4
    obtain ⟨T5, g5, k5, n5⟩ := (g2.trans (back g4)).unlock w.2 lk
    have g05 := g1.trans g5
    have S5 := g05.st S
    obtain ⟨n, ed⟩ := hpl
    obtain ⟨mC, hmC⟩ := g4.ext.frame' C _ hT3C
    have few := src.few
    obtain ⟨v6, h6, T6, φ6, e6, g6, r6⟩ := QV.listAt (m := m) (n := n) (tk := s4.toks) (h' := s4.heap) S5 (RVs.kept k5.kp (List.prefix_refl _) _ _ r4) (by omega) (fun b o e => e) (n5 D nD) ed
    exact fin C D s4 ⟨v6, h6, T6, φ6, e6, g05.trans g6, (g6.st S5).er, r6, hTC, mC, g6.ext.frame C mC id (k5 C _ hmC (fun _ z => by cases z))⟩
/-- a block's frame is let go -/
theorem dropC {C : Addr} {hp : Heap} (I : Inv X.G T X.stk s) (g : Good X O T φ T1 φ1 h1 s1) (hC : T C = none) (hC1 : ∃ m, T1 C = some (.frame m)) (sb : Heap.SameBut C s1.heap hp) :
    Good X O T φ (T1.del [C]) φ1 h1 { s1 with heap := hp } ∧ ∀ a u, a ≠ C → T1 a = some u → T1.del [C] a = some u := by
  obtain ⟨m, hm⟩ := hC1
  have del : ∀ a u, a ≠ C → T1 a = some u → T1.del [C] a = some u := fun a u n e => by
    rw [del_out (by simpa using n)]; exact e
  have out : ∀ a, a ≠ C → T1.del [C] a = T1 a := fun a n => del_out (by simpa using n)
  have neT : ∀ a u, T a = some u → a ≠ C := fun a u e z => by subst z; rw [hC] at e; cases e
  have kp : Keep T1 (T1.del [C]) := ⟨fun a o e => del a _ (fun z => by subst z; rw [hm] at e; cases e) e, fun a c d e => del a _ (fun z => by subst z; rw [hm] at e; cases e) e⟩
  refine ⟨⟨⟨g.inv.g, g.inv.os, g.inv.bare, fun b o e => kp.lock _ _ (g.inv.base b o e), fun a u e => ?_, fun e me => ?_, fun t mt => ?_⟩, ⟨fun a o e => ?_, fun a o e => ?_, fun a c d e => ?_, fun a m n e => ?_, fun a u n e => ?_, fun a m e => ?_, fun a u e => ?_, fun a e => ?_⟩, g.pre, fun a m => g.new a m, g.sim.kept kp fun a ma => out a fun z => by subst z; exact g.sim.nf a ma m hm⟩, del⟩
  · by_cases z : a = C
    · subst z; rw [del_in (by simp)] at e; cases e
    · rw [out a z] at e
      exact (g.inv.ok a u e).keep fun o q => by rw [sb.2 a z]; exact q
  · obtain ⟨h1, L, m', h2, h3⟩ := I.fr e me
    obtain ⟨m2, h4⟩ := g.ext.frame' _ _ h3
    exact ⟨h1, L, m2, h2, del _ _ (neT _ _ h3) h4⟩
  · have t1 := g.inv.tabs t mt
    obtain ⟨ps, h1, _⟩ := id t1
    exact t1.kept kp (out _ fun z => by rw [z, hm] at h1; cases h1)
  · rw [out a (neT _ _ e)]; exact g.ext.lock a o e
  · rw [out a (neT _ _ e)]; exact g.ext.pin a o e
  · rw [out a (neT _ _ e)]; exact g.ext.exn a c d e
  · rw [out a (neT _ _ e)]; exact g.ext.frame a m n e
  · rw [out a (neT _ _ e)]; exact g.ext.cell a u n e
  · rw [out a (neT _ _ e)]; exact g.ext.frame' a m e
  · rw [out a (neT _ _ e)]; exact g.ext.cell' a u e
  · cases q : T a with
    | none => exact absurd q e
    | some u => rw [out a (neT _ _ q)]; exact g.ext.sm a e
theorem ER.drop {C : Addr} (R : ER X T1 φ ρ) (k : ∀ a u, a ≠ C → T1 a = some u → T1.del [C] a = some u) (hm : ∃ m, T1 C = some (.frame m)) (hL : X.env.locals ≠ C) : ER X (T1.del [C]) φ ρ := by
  obtain ⟨m, hm⟩ := hm
  have kp : Keep T1 (T1.del [C]) := ⟨fun a o e => k a _ (fun z => by subst z; rw [hm] at e; cases e) e, fun a c d e => k a _ (fun z => by subst z; rw [hm] at e; cases e) e⟩
  have nc : ∀ a u, T1 a = some (.cell u) → a ≠ C := fun a u e z => by subst z; rw [hm] at e; cases e
  refine ⟨fun x i hv => ?_, ?_, fun x c hc => ?_, R.byv⟩
  · have := R.slot x i hv
    cases q : ρ[i]? with
    | none => trivial
    | some sl =>
      rw [q] at this
      cases sl with
      | u => trivial
      | v w =>
        rcases this with ⟨k1, m1, u, h1, h2, h3⟩ | ⟨k1, c, u, h1, h2, h3⟩
        · exact .inl ⟨k1, m1, u, k _ _ hL h1, h2, RV.kept kp (List.prefix_refl _) _ _ h3⟩
        · exact .inr ⟨k1, c, u, h1, k _ _ (nc _ _ h2) h2, RV.kept kp (List.prefix_refl _) _ _ h3⟩
      | c a => exact this
  · obtain ⟨m1, h⟩ := R.frame
    exact ⟨m1, k _ _ hL h⟩
  · obtain ⟨u, h⟩ := R.cell x c hc
    exact ⟨u, k _ _ (nc _ _ h) h⟩
theorem se_comp {m : Bool} {elt c : E} {os : List Nat} {t : At} {it : It} {nm' : Nm} {elt' t' iter' : Expr} {ifs : List Expr} {scope : Scope} {pos : Pos} (ok : X.Ok) (K : CompOk X.nm nm' scope os)
    (hi : SI X it t iter' t') (hin : ∀ C, (X.blk nm' scope C).Ok → SA (X.blk nm' scope C) t t' ∧ TI (X.blk nm' scope C) c ifs ∧ SE (X.blk nm' scope C) elt elt') (hset : noSet iter' = true) :
    SE X (.comp m elt os t it c) (.ListComp elt' [⟨t', iter', ifs, 0⟩] scope pos) := by
  intro T φ ρ h s F S hn hF
  rw [eval_ListComp]
  refine lc_ok (use := none) ok K hi hin hset S hn hF fun C D s' ⟨v, h', T', φ', e, g, R', r, hTC, hm⟩ => ?_
  obtain ⟨mC, hmC⟩ := id hm
  refine ⟨mC, g.inv.ok _ _ hmC, fun hp sb => ?_⟩
  obtain ⟨g2, k2⟩ := dropC S.inv g hTC hm sb
  have kp : Keep T' (T'.del [C]) := ⟨fun a o e => k2 a _ (fun z => by subst z; rw [hmC] at e; cases e) e, fun a c d e => k2 a _ (fun z => by subst z; rw [hmC] at e; cases e) e⟩
  exact ⟨v, h', _, φ', e, g2, RV.kept kp (List.prefix_refl _) _ _ r⟩
/-- name = [..], the model lets the block go behind the store -/
theorem ss_asgC {m : Bool} {elt c : E} {os : List Nat} {t : At} {it : It} {nm' : Nm} {elt' t' iter' : Expr} {ifs : List Expr} {scope : Scope} {i : Nat} {y : PySem.Str} {pos py spos : Pos} (ok : X.Ok) (K : CompOk X.nm nm' scope os)
    (hi : SI X it t iter' t') (hin : ∀ C, (X.blk nm' scope C).Ok → SA (X.blk nm' scope C) t t' ∧ TI (X.blk nm' scope C) c ifs ∧ SE (X.blk nm' scope C) elt elt') (hset : noSet iter' = true)
    (hx : X.nm.vis.lookup y = some i) (ho : y ∈ X.nm.own) (hsw : swapsWith (.ListComp elt' [⟨t', iter', ifs, 0⟩] scope pos) (some (.Name y py)) spos.line X.env = pure true) :
    SS X (.asg (.nm i) (.comp m elt os t it c)) (.Assign [.Name y py] (.ListComp elt' [⟨t', iter', ifs, 0⟩] scope pos) spos) := by
  intro T φ ρ h s F S hn hp hF
  have e0 : ex X.C ρ h (.asg (.nm i) (.comp m elt os t it c)) = (ev X.C ρ h (.comp m elt os t it c)).bind fun v h => (bindT X.C ρ h (.nm i) v).bind fun ρ h => .ok (.nx ρ) h := by simp only [ex]
  rw [e0] at hn hF ⊢
  rw [exec_Assign_Name_used _ _ _ _ hsw]
  refine wpAny_bind (wpAny_standAt (wpAny_bind ?_))
  show wpAny _ X.A (do let _ ← comprehension (.ListComp elt' [⟨t', iter', ifs, 0⟩] scope pos) scope X.env _ (newList []) false (eval iter' X.env) (some (assign (.Name y py) X.env))) _ _ s
  refine wpAny_bind (wpAny_mono (lc_ok (use := some (assign (.Name y py) X.env)) (Q := fun _ s' => QF X T φ ((ev X.C ρ h (.comp m elt os t it c)).bind fun v h => (bindT X.C ρ h (.nm i) v).bind fun ρ h => .ok (.nx ρ) h) .next s') ok K hi hin hset S (R.bind_no' hn) (fun x s' q => QXO.bind hF x s' (.of q)) fun C D s' ⟨v, h', T', φ', e, g, R', r, hTC, hm⟩ => ?_) (fun _ s' hq => wpAny_pure (wpAny_pure hq)) fun _ _ e => e)
  obtain ⟨hn2, e2⟩ := R.bind_ne hn e
  rw [e2]
  have S' : St X T' φ' ρ h' s' := ⟨g.inv, R', g.sim⟩
  obtain ⟨mL, hmL⟩ := S.er.frame
  have hL : X.env.locals ≠ C := fun z => by rw [z, hTC] at hmL; cases hmL
  refine PyProof.Rows.assign_Name (wpAny_mono (bind_name (F := F) ok hx ho S' r (R.bind_no' hn2)) (fun _ s2 ⟨ρ2, h2, T2, φ2, e3, g2, R2⟩ => ?_) fun _ _ z => z)
  obtain ⟨mC, hmC⟩ := hm
  obtain ⟨mC2, hmC2⟩ := g2.ext.frame' C _ hmC
  refine ⟨mC2, g2.inv.ok _ _ hmC2, fun hp sb => ?_⟩
  obtain ⟨g3, k3⟩ := dropC S.inv (g.up.trans g2) hTC ⟨mC2, hmC2⟩ sb
  exact ⟨.nx ρ2, h2, _, φ2, by rw [e3]; rfl, g3, ER.drop R2 k3 ⟨mC2, hmC2⟩ hL⟩
end
end Mp
/-! V1: list comprehensions with two generators. -/
namespace Mp
open PySem PySem.Spec PyProof.Rows
/-! ### what a target leaves alone -/
mutual
theorem bindT_out {C : Mp.Cx} : ∀ (t : At) {ρ ρ2 : Mp.Env} {h h2 : Hp} {x : Val}, bindT C ρ h t x = .ok ρ2 h2 → ∀ i, ρ2[i]? = ρ[i]? ∨ (i ∈ t.slots ∧ ∃ v, ρ2[i]? = some (.v v))
  | .nm j, ρ, ρ2, h, h2, x, e, i => by
    simp only [bindT] at e
    cases q : ρ[j]? with
    | none => rw [q] at e; cases e
    | some sl =>
      rw [q] at e
      have go : R.ok (ρ.set j (.v x)) h = .ok ρ2 h2 → ρ2[i]? = ρ[i]? ∨ (i ∈ (At.nm j).slots ∧ ∃ v, ρ2[i]? = some (.v v)) := fun e => by
        cases e
        by_cases hij : i = j
        · subst hij
          exact .inr ⟨by simp [At.slots], x, slot_same q⟩
        · exact .inl (slot_set hij)
      cases sl with
      | u => exact go e
      | v _ => exact go e
      | c a =>
        simp only at e
        split at e
        · cases e; exact .inl rfl
        · cases e
  | .tup ts, ρ, ρ2, h, h2, x, e, i => by
    simp only [bindT] at e
    cases q : x.seq h with
    | none => rw [q] at e; cases e
    | some xs =>
      rw [q] at e
      simp only at e
      split at e
      · simpa only [At.slots] using bindTs_out ts e i
      · cases e
  | .sub o k, ρ, ρ2, h, h2, x, e, i => by
    simp only [bindT] at e
    cases q : ev C ρ h o with
    | ok a1 h1 =>
      rw [q] at e; simp only [R.bind_ok] at e
      cases q2 : ev C ρ h1 k with
      | ok a2 h2' =>
        rw [q2] at e; simp only [R.bind_ok] at e
        cases q3 : prim C.base .setix [a1, a2, x] h2' with
        | ok a3 h3 => rw [q3] at e; simp only [R.bind_ok] at e; cases e; exact .inl rfl
        | err _ _ _ => rw [q3] at e; cases e
        | no => rw [q3] at e; cases e
      | err _ _ _ => rw [q2] at e; cases e
      | no => rw [q2] at e; cases e
    | err _ _ _ => rw [q] at e; cases e
    | no => rw [q] at e; cases e
theorem bindTs_out {C : Mp.Cx} : ∀ (ts : Ats) {ρ ρ2 : Mp.Env} {h h2 : Hp} {xs : List Val}, bindTs C ρ h ts xs = .ok ρ2 h2 → ∀ i, ρ2[i]? = ρ[i]? ∨ (i ∈ ts.slots ∧ ∃ v, ρ2[i]? = some (.v v))
  | .nil, ρ, ρ2, h, h2, xs, e, i => by
    cases xs with
    | nil => simp only [bindTs] at e; cases e; exact .inl rfl
    | cons _ _ => simp only [bindTs] at e; cases e
  | .cons t ts, ρ, ρ2, h, h2, xs, e, i => by
    cases xs with
    | nil => simp only [bindTs] at e; cases e
    | cons x xs =>
      simp only [bindTs] at e
      cases q : bindT C ρ h t x with
      | ok ρ1 h1 =>
        rw [q] at e; simp only [R.bind_ok] at e
        rcases bindTs_out ts e i with z | ⟨z1, z2⟩
        · rcases bindT_out t q i with y | ⟨y1, v, y2⟩
          · exact .inl (z.trans y)
          · exact .inr ⟨by simp [Ats.slots, y1], v, z.trans y2⟩
        · exact .inr ⟨by simp [Ats.slots, z1], z2⟩
      | err _ _ _ => rw [q] at e; cases e
      | no => rw [q] at e; cases e
end
section
variable {X : Ctx} {O : Addr → Prop} {T T1 T2 : GT} {φ φ1 φ2 : List Addr} {ρ : Mp.Env} {h h1 h2 : Hp} {s s1 s2 s3 : Shared}
/-- names that are let go: they count as unbound -/
theorem ER.fewer {X' : Ctx} {ρ ρ2 : Mp.Env} (R : ER X' T φ ρ2) (k : ∀ i : Nat, ρ[i]? = ρ2[i]? ∨ ((ρ[i]? = some Slot.u ∨ ρ[i]? = none) ∧ ∀ a, ρ2[i]? ≠ some (Slot.c a))) : ER X' T φ ρ := by
  refine ⟨fun x i h => ?_, R.frame, R.cell, fun x i c h ha hc m => ?_⟩
  · rcases k i with z | ⟨z, _⟩
    · rw [z]; exact R.slot x i h
    · rcases z with z | z <;> rw [z] <;> trivial
  · rcases k i with z | ⟨_, z⟩
    · exact R.byv x i c h (fun a q => ha a (by rw [z]; exact q)) hc m
    · exact R.byv x i c h z hc m
theorem wipe_fewer {X' : Ctx} {os os2 : List Nat} {t : At} {C : Mp.Cx} {ρ ρ1 : Mp.Env} {h h1 : Hp} {x : Val} (hs : ∀ i ∈ os2, i ∈ os) (e : bindT C (wipe ρ os) h t x = .ok ρ1 h1) (R : ER X' T φ ρ1) : ER X' T φ (wipe ρ1 os2) := by
  refine R.fewer fun i => ?_
  by_cases hi : i ∈ os2
  · refine .inr ⟨wipe_in hi, fun a q => ?_⟩
    rcases bindT_out t e i with z | ⟨_, v, z⟩
    · rw [q] at z
      rcases wipe_in (ρ := ρ) (hs i hi) with y | y <;> rw [y] at z <;> cases z
    · rw [q] at z; cases z
  · exact .inl (wipe_out hi)
theorem bind_fewer {X' : Ctx} {t : At} {C : Mp.Cx} {ρ ρ1 : Mp.Env} {h h1 : Hp} {x : Val} (e : bindT C (wipe ρ t.slots) h t x = .ok ρ1 h1) (R : ER X' T φ ρ1) : ER X' T φ (wipe ρ t.slots) := by
  refine R.fewer fun i => ?_
  rcases bindT_out t e i with z | ⟨z, v, y⟩
  · exact .inl z.symm
  · exact .inr ⟨wipe_in z, fun a q => by rw [q] at y; cases y⟩
def lc2F (C : Mp.Cx) (ρ : Mp.Env) (os : List Nat) (t : At) (c : E) (it2 : It) (t2 : At) (c2 elt : E) : Val → Hp → R (List Val) := fun x h => (bindT C (wipe ρ os) h t x).bind fun ρ1 h => (ev C ρ1 h c).test (fun _ h =>
  (evIt C ρ1 h it2).bind fun w2 h => (loopC (lcF C (wipe ρ1 t2.slots) t2 c2 elt) w2.1 (lockAll h w2.2)).unlock w2.2) fun _ h => .ok [] h
theorem R.ok_of {α β : Type} {r : R α} {f : α → Hp → R β} {b : β} {h' : Hp} (e : r.bind f = .ok b h') : ∃ a h1, r = .ok a h1 ∧ f a h1 = .ok b h' := by
  cases r with
  | ok a h1 => exact ⟨a, h1, rfl, e⟩
  | err _ _ _ => cases e
  | no => cases e
theorem R.unlock_of {α : Type} {r : R α} {l : List Nat} {a : α} {h' : Hp} (e : r.unlock l = .ok a h') : ∃ h1, r = .ok a h1 ∧ h' = unlockAll h1 l := by
  cases r with
  | ok a h1 => cases e; exact ⟨h1, rfl, rfl⟩
  | err _ _ _ => cases e
  | no => cases e
theorem R.calm_of {α : Type} {r : R α} (e : r.calm ≠ .no) : ∃ a h1, r = .ok a h1 := by
  cases r with
  | ok a h1 => exact ⟨a, h1, rfl⟩
  | err _ _ _ => exact absurd rfl e
  | no => exact absurd rfl e
/-- one address is let go, on both sides -/
theorem pin_back {T : GT} {D : Addr} {o : Obj} {hp : Heap} (e : T D = some (.pin o)) (k : hp.get? D = some o) : (T.del [D]).pins [D] hp = T := by
  funext b
  by_cases hb : b ∈ [D]
  · have : b = D := by simpa using hb
    subst this
    rw [pins_in hb, k, e]; rfl
  · rw [pins_out hb, del_out hb]
theorem lc2_ok {m : Bool} {elt c c2 : E} {os : List Nat} {t t2 : At} {it it2 : It} {nm' : Nm} {elt' t' iter' t2' iter2' : Expr} {ifs ifs2 : List Expr} {scope : Scope} {pos pos' : Pos} {use : Option (Value → Sem Unit)} {Q : Value → Shared → Prop} {F : Value → Shared → Prop} (ok : X.Ok) (K : CompOk X.nm nm' scope os)
    (hi : SI X it t iter' t') (hin : ∀ C, (X.blk nm' scope C).Ok → SA (X.blk nm' scope C) t t' ∧ TI (X.blk nm' scope C) c ifs ∧ SI (X.blk nm' scope C) it2 t2 iter2' t2' ∧ SA (X.blk nm' scope C) t2 t2' ∧ TI (X.blk nm' scope C) c2 ifs2 ∧ SE (X.blk nm' scope C) elt elt')
    (hset : noSet iter' = true) (hset2 : noSet iter2' = true) (hsl : ∀ i ∈ t2.slots, i ∈ os) (S : St X T φ ρ h s) (hn : ev X.C ρ h (.comp2 m elt os t it c t2 it2 c2) ≠ .no)
    (hF : ∀ x s', QX X T φ (ev X.C ρ h (.comp2 m elt os t it c t2 it2 c2)) x s' → F x s')
    (fin : ∀ C D s', QL X T φ ρ (ev X.C ρ h (.comp2 m elt os t it c t2 it2 c2)) C D s' → compEnds X.M X.A F use Q (.ref D) (blkEnv scope C X.env) (.ok .next) s') :
    wpAny X.M X.A (comprehension (.ListComp elt' [⟨t', iter', ifs, 0⟩, ⟨t2', iter2', ifs2, 0⟩] scope pos) scope X.env pos' (newList []) false (eval iter' X.env) use) Q F s := by
  have e0 : ev X.C ρ h (.comp2 m elt os t it c t2 it2 c2) = (evIt X.C ρ h it).bind fun w h => (((loopC2 (lc2F X.C ρ os t c it2 t2 c2 elt) w.1 (lockAll h w.2)).unlock w.2).calm).bind fun ys h => if ys.length ≤ 100000 then newL m ys h else .no := by simp only [ev]; rfl
  rw [e0] at hn hF fin
  have hclos : closureFor scope X.env = pure (L2.cloFrom X.env.cells scope.names []) := L2.closure_ok fun y hy e => by
    rcases K.free y hy e with k | k
    · exact ok.has _ (.inl (by rw [kind_of ok]; exact k))
    · exact ok.has _ (.inr (by rw [kind_of ok]; exact k))
  refine comprehension_at rfl (folded_none hset) hclos K.kind (fun y hy e => by rw [K.uniq y hy, e]) (wpAny_mono (hi T φ ρ h s F S (R.bind_no' hn) (QX.bind hF)) (fun xv s1 k => wpAny_mono k (fun itv s2 q => ?_) fun _ _ z => z) fun _ _ z => z)
  obtain ⟨w, h1, T1, φ1, T2, e1, g1, g2, lk, I, fp, wr, Y, Stt, src⟩ := q
  obtain ⟨hn, e2⟩ := R.bind_ne hn e1
  rw [e2] at fin
  -- the loop ends well
  have hall : ∃ all hE, loopC2 (lc2F X.C ρ os t c it2 t2 c2 elt) w.1 (lockAll h1 w.2) = .ok all hE := by
    obtain ⟨a, b, e⟩ := R.calm_of (R.bind_no' hn)
    obtain ⟨b', e', _⟩ := R.unlock_of e
    exact ⟨a, b', e'⟩
  obtain ⟨all, hE, hr⟩ := hall
  rw [hr] at fin hn
  have hlen : all.length ≤ 100000 := by
    by_cases hc : all.length ≤ 100000
    · exact hc
    · exact absurd (show (if all.length ≤ 100000 then newL m all (unlockAll hE w.2) else R.no) = R.no from if_neg hc) hn
  have fin : ∀ C D s', QL X T φ ρ (newL m all (unlockAll hE w.2)) C D s' → compEnds X.M X.A F use Q (.ref D) (blkEnv scope C X.env) (.ok .next) s' := fun C D s' q => fin C D s' (by
    show QL X T φ ρ (if all.length ≤ 100000 then newL m all (unlockAll hE w.2) else R.no) C D s'
    rw [if_pos hlen]; exact q)
  have S1 := g1.st S
  have S2 := g2.st S1
  have hir := src.ref
  subst hir
  refine blk_open (fun s' k Q E hq => src.goes.self 0 s' Q E (src.goes.frame 0 _ _ src.st fun b _ o e => k b o e) hq) fun D C hp B hDC hacc => ?_
  obtain ⟨g3, R3, fresh, hC, hoc⟩ := blk_start ok K S2 B
  have newD := B.toBegins.newD
  have newC := B.toBegins.newC
  have old := B.toBegins.old
  have ok' : (X.blk nm' scope C).Ok := blk_ok ok K hC
  obtain ⟨hA, hT, hI2, hA2, hT2, hEl⟩ := hin C ok'
  have hT3D : T2.blk C (blkOwn scope C) D = none := by
    unfold GT.blk
    rw [if_neg (Nat.ne_of_lt hDC), if_neg (fun z => absurd (Nat.lt_trans hDC (hoc D z)) (Nat.lt_irrefl _))]
    exact fresh D newD
  have hT3C : T2.blk C (blkOwn scope C) C = some (.frame fun _ => none) := if_pos rfl
  have hT2C : T2 C = none := fresh C newC
  have hT1C : T1 C = none := by
    cases q : T1 C with
    | none => rfl
    | some g => exact absurd hT2C (g2.ext.sm C (by rw [q]; simp))
  have hTC : T C = none := by
    cases q : T C with
    | none => rfl
    | some g => exact absurd hT1C (g1.ext.sm C (by rw [q]; simp))
  have hwr3 : ∀ b ∈ wr, T2.blk C (blkOwn scope C) b = none := fun b hb => by
    have hlt := src.old b (src.goes.sub b hb)
    unfold GT.blk
    rw [if_neg (Nat.ne_of_lt (Nat.lt_of_lt_of_le hlt newC)), if_neg (fun z => absurd (Nat.lt_trans (Nat.lt_of_lt_of_le hlt newC) (hoc b z)) (Nat.lt_irrefl _))]
    exact src.wrn b hb
  have hDf : D ∉ fp := fun m => absurd (Nat.lt_of_lt_of_le (src.old D m) newD) (Nat.lt_irrefl _)
  have hDw : D ∉ wr := fun m => hDf (src.goes.sub D m)
  have over : ∀ a g, T2 a = some g → T2.blk C (blkOwn scope C) a = some g ∧ ¬ (a = C ∨ a ∈ blkOwn scope C) := fun a g e => by
    have hlt : a < s2.heap.objs.size := (g2.inv.ok a g e).lt
    have z1 : a ≠ C := Nat.ne_of_lt (Nat.lt_of_lt_of_le hlt newC)
    have z2 : a ∉ blkOwn scope C := fun m => absurd (Nat.lt_trans (Nat.lt_of_lt_of_le hlt newC) (hoc a m)) (Nat.lt_irrefl _)
    refine ⟨?_, fun z => z.elim z1 z2⟩
    unfold GT.blk
    rw [if_neg z1, if_neg z2]; exact e
  generalize hT3 : T2.blk C (blkOwn scope C) = T3 at *
  -- from the block back to the def
  have back : ∀ {T' : GT} {φ' : List Addr} {h' : Hp} {s' : Shared}, Good (X.blk nm' scope C) (X.blk nm' scope C).O T3 φ1 T' φ' h' s' → Good X NoO T2 φ1 T' φ' h' s' := fun {T' φ' h' s'} g => by
    have k : ∀ a g, T2 a = some g → T3 a = some g := fun a g e => (over a g e).1
    refine ⟨g.inv, ⟨fun a o e => g.ext.lock a o (k a _ e), fun a o e => g.ext.pin a o (k a _ e), fun a c d e => g.ext.exn a c d (k a _ e), fun a m _ e => g.ext.frame a m (over a _ e).2 (k a _ e), fun a u _ e => g.ext.cell a u (over a _ e).2 (k a _ e), fun a m e => g.ext.frame' a m (k a _ e), fun a u e => g.ext.cell' a u (k a _ e), fun a e => ?_⟩, g.pre, fun a m => (g.new a m).imp id fun z => ?_, g.sim⟩
    · cases q : T2 a with
      | none => exact absurd q e
      | some u => exact g.ext.sm a (by rw [k a u q]; simp)
    · cases q : T2 a with
      | none => rfl
      | some u => rw [k a u q] at z; cases z
  refine lc2_goes (Ee := fun _ _ => False) (G := fun i ys s' => ∃ T' φ' h' vs rest, loopC2 (lc2F X.C ρ os t c it2 t2 c2 elt) (w.1.drop i) h' = .ok rest hE ∧ all = vs ++ rest ∧ RVs X.G T' φ' vs ys ∧ Good (X.blk nm' scope C) (X.blk nm' scope C).O T3 φ1 T' φ' h' s' ∧ T' D = none ∧ ∀ b ∈ wr, T' b = none) src.goes hDw (src.goes.frame _ _ _ src.st fun b _ o e => old b o e) hacc
    ⟨T3, φ1, _, [], all, by rw [List.drop_zero]; exact hr, rfl, .nil, .refl g3.inv g3.sim, hT3D, hwr3⟩ (fun _ _ z => z.elim) ?_ (folded_none hset2) ?_ ?_
  · rintro i ys s4 h' tk ⟨T', φ', h4, vs, rest, e3, e4, r4, g4, nD, nw⟩ kp _
    exact ⟨T', φ', h4, vs, rest, e3, e4, r4, ⟨g4.inv.turned (wr := wr) nw kp, g4.ext, g4.pre, g4.new, g4.sim⟩, nD, nw⟩
  · rintro i v ys s4 hlt hY hSt ⟨T', φ', h4, vs, rest, e3, e4, r4, g4, nD, nw⟩ hpl
    have hx : w.1[i]? = some w.1[i] := List.getElem?_eq_getElem hlt
    rw [drop_cons hlt] at e3
    have e5 : loopC2 (lc2F X.C ρ os t c it2 t2 c2 elt) (w.1[i] :: w.1.drop (i + 1)) h4 = (lc2F X.C ρ os t c it2 t2 c2 elt w.1[i] h4).bind fun y h => (loopC2 (lc2F X.C ρ os t c it2 t2 c2 elt) (w.1.drop (i + 1)) h).bind fun ys h => .ok (y ++ ys) h := by simp only [loopC2]
    rw [e5] at e3
    obtain ⟨y, hy, ef, e3⟩ := R.ok_of e3
    obtain ⟨rest', hE', er', e3⟩ := R.ok_of e3
    cases e3
    have hx3 : ∀ b ∈ wr, ∃ o, s4.heap.get? b = some o := fun b hb => src.live (i + 1) _ hSt b hb
    obtain ⟨nD4, eD4⟩ := id hpl
    have nwD : ∀ b ∈ [D], T'.pins wr s4.heap b = none := fun b hb => by
      have : b = D := by simpa using hb
      subst this
      rw [pins_out hDw]; exact nD
    have hxD : ∀ b ∈ [D], ∃ o, s4.heap.get? b = some o := fun b hb => by
      have : b = D := by simpa using hb
      subst this; exact ⟨_, eD4⟩
    have gpa : Good (X.blk nm' scope C) (X.blk nm' scope C).O T' φ' (T'.pins wr s4.heap) φ' h4 s4 := .pins g4.inv g4.sim nw
    generalize hTa : T'.pins wr s4.heap = Ta at *
    have gpb : Good (X.blk nm' scope C) (X.blk nm' scope C).O Ta φ' (Ta.pins [D] s4.heap) φ' h4 s4 := .pins gpa.inv gpa.sim nwD
    have hTbD : Ta.pins [D] s4.heap D = some (.pin { cls := .type "list", data := .seq ys.toArray nD4 }) := by rw [pins_in (by simp), eD4]; rfl
    generalize hTb : Ta.pins [D] s4.heap = Tb at *
    have gq := g4.trans (gpa.trans gpb)
    have R4 : ER (X.blk nm' scope C) Tb φ' (wipe ρ os) := ER.again (fun x i h => ?_) (fun x i h hi => ?_) R3 gq.ext gq.pre gq.new
    · have Sp : St (X.blk nm' scope C) Tb φ' (wipe ρ os) h4 s4 := ⟨gpb.inv, R4, gpb.sim⟩
      have Eq2 := (back gq).ext
      have rv : RVa t X.G Tb φ' s4.heap w.1[i] v := RVa.kept Eq2.kp g4.pre (src.item i v s4.heap _ hY hx)
      have dD : ∀ {T5 : GT} {φ5 : List Addr} {h5 : Hp} {s5 : Shared}, Good (X.blk nm' scope C) (X.blk nm' scope C).O Tb φ' T5 φ5 h5 s5 → Good (X.blk nm' scope C) (X.blk nm' scope C).O Ta φ' (T5.del [D]) φ5 h5 s5 ∧ Kp2 T5 (T5.del [D]) ∧ (T5.del [D]) D = none ∧ s5.heap.PlainList D ys.toArray := fun {T5 φ5 h5 s5} g5 => by
        rw [← hTb] at g5
        obtain ⟨g6, k6, n6, p6⟩ := g5.del gpa.sim.tr nwD hxD
        exact ⟨g6, k6, n6 D (by simp), nD4, p6 D (by simp) _ eD4⟩
      have dW : ∀ {T5 : GT} {φ5 : List Addr} {h5 : Hp} {s5 : Shared}, Good (X.blk nm' scope C) (X.blk nm' scope C).O Ta φ' T5 φ5 h5 s5 → Good (X.blk nm' scope C) (X.blk nm' scope C).O T3 φ1 (T5.del wr) φ5 h5 s5 ∧ Kp2 T5 (T5.del wr) ∧ (∀ b ∈ wr, T5.del wr b = none) ∧ (∀ b ∈ fp, ∀ o, s4.heap.get? b = some o → s5.heap.get? b = some o) := fun {T5 φ5 h5 s5} g5 => by
        rw [← hTa] at g5
        obtain ⟨g6, k6, n6, p6⟩ := g5.del g4.sim.tr nw hx3
        exact ⟨g4.trans g6, k6, n6, fp_stand (fun b hb => (src.fix b hb).imp id fun z => (back g4).ext.fix g4.pre z) p6 g6.ext (fun a g e => g4.inv.ok a g e) g6.inv⟩
      -- the turn's run
      obtain ⟨ρ5, h5, eb, ef2⟩ := R.ok_of (show (bindT X.C (wipe ρ os) h4 t w.1[i]).bind _ = R.ok y hy from ef)
      refine wpAny_mono (hA _ φ' (wipe ρ os) h4 s4 _ w.1[i] v Sp rv (by show bindT X.C _ _ _ _ ≠ _; rw [eb]; simp) (fun x s' q => by
        obtain ⟨cc, fs, hh, ee, _⟩ := q
        have ee : bindT X.C (wipe ρ os) h4 t w.1[i] = .err cc fs hh := ee
        rw [eb] at ee; cases ee)) (fun _ s5 ⟨ρ5', h5', T5, φ5, e6, g5, R5⟩ => ?_) fun _ _ z => z
      have e6 : bindT X.C (wipe ρ os) h4 t w.1[i] = .ok ρ5' h5' := e6
      rw [eb] at e6; cases e6
      have S5 : St (X.blk nm' scope C) T5 φ5 ρ5 h5 s5 := ⟨g5.inv, R5, g5.sim⟩
      refine wpAny_mono (ti_run hT S5 (R.test_no (f := fun _ h => (evIt X.C ρ5 h it2).bind fun w2 h => (loopC (lcF X.C (wipe ρ5 t2.slots) t2 c2 elt) w2.1 (lockAll h w2.2)).unlock w2.2) (g := fun _ h => .ok [] h) (by show (ev X.C ρ5 h5 c).test _ _ ≠ _; rw [ef2]; simp)) (fun x s' q => by
        obtain ⟨cc, fs, hh, ee, _⟩ := q
        have ee : ev X.C ρ5 h5 c = .err cc fs hh := ee
        rw [ee] at ef2; cases ef2)) (fun b s6 ⟨v6, h6, T6, φ6, e7, g6, t6⟩ => ?_) fun _ _ z => z
      have e7 : ev X.C ρ5 h5 c = .ok v6 h6 := e7
      have e8 := R.test_at (f := fun _ h => (evIt X.C ρ5 h it2).bind fun w2 h => (loopC (lcF X.C (wipe ρ5 t2.slots) t2 c2 elt) w2.1 (lockAll h w2.2)).unlock w2.2) (g := fun _ h => .ok [] h) e7 t6
      rw [ef2] at e8
      have S6 := g6.st S5
      have g56 : Good (X.blk nm' scope C) (X.blk nm' scope C).O Tb φ' T6 φ6 h6 s6 := g5.trans (g6.imp fun _ z => z.elim)
      cases b with
      | false =>
        simp only [Bool.false_eq_true, if_false] at e8 ⊢
        cases e8
        obtain ⟨g7, k7, n7, p7⟩ := dD g56
        obtain ⟨g8, k8, n8, l8⟩ := dW g7
        exact ⟨⟨_, φ6, hy, vs, rest', er', e4, RVs.kept ((gpa.trans gpb).ext.kp.trans (g56.ext.kp.trans (k7.trans k8).kp)) ((gpa.trans gpb).pre.trans g56.pre) _ _ r4, g8, by rw [del_out hDw]; exact n7, n8⟩, src.goes.frame (i + 1) _ _ hSt l8, p7⟩
      | true =>
        simp only [if_true] at e8 ⊢
        obtain ⟨w2, h7, e9, e10⟩ := R.ok_of e8.symm
        refine wpAny_mono (hI2 T6 φ6 ρ5 h6 s6 _ S6 (by show evIt X.C _ _ _ ≠ _; rw [e9]; simp) (fun x s' q => by
          obtain ⟨cc, fs, hh, ee, _⟩ := q
          have ee : evIt X.C ρ5 h6 it2 = .err cc fs hh := ee
          rw [e9] at ee; cases ee)) (fun xv s7 k => wpAny_mono k (fun itv2 s8 q => ?_) fun _ _ z => z) fun _ _ z => z
        obtain ⟨w2', h7', T7, φ7, T8, e11, g7, g8, lk2, I2, fp2, wr2, Y2, St2, src2⟩ := q
        have e11 : evIt X.C ρ5 h6 it2 = .ok w2' h7' := e11
        rw [e9] at e11; cases e11
        obtain ⟨hE2, e12, rfl⟩ := R.unlock_of e10
        have S7 := g7.st S6
        have S8 := g8.st S7
        have g57 : Good (X.blk nm' scope C) (X.blk nm' scope C).O Tb φ' T7 φ7 h7 s8 := g56.trans (g7.imp fun _ z => z.elim)
        have g58 : Good (X.blk nm' scope C) (X.blk nm' scope C).O Tb φ' T8 φ7 (lockAll h7 w2.2) s8 := g57.trans (g8.imp fun _ z => z.elim)
        have hT7D : T7 D = some (.pin { cls := .type "list", data := .seq ys.toArray nD4 }) := g57.ext.pin D _ hTbD
        have hs8D : s8.heap.get? D = some { cls := .type "list", data := .seq ys.toArray nD4 } := g57.inv.ok D _ hT7D
        have hT8D : T8 D = some (.pin { cls := .type "list", data := .seq ys.toArray nD4 }) := g8.ext.pin D _ hT7D
        have hDφ : D ∉ φ7 := fun mD => by
          rcases g57.new D mD with z | z
          · exact gpa.sim.tr D z (nwD D (by simp))
          · rw [hTbD] at z; cases z
        have hDwr2 : D ∉ wr2 := fun mD => by
          have := src2.wrn D mD
          rw [hT8D] at this; cases this
        have hDf2 : D ∉ fp2 := fun mD => by
          rcases src2.fix D mD with z | ⟨o, z | ⟨_, z⟩⟩
          · exact hDwr2 z
          · rw [hT8D] at z; cases z
          · exact hDφ z
        obtain ⟨gd7, kd7, nd7, _⟩ := dD g57
        have g8d : Good (X.blk nm' scope C) NoO (T7.del [D]) φ7 (T8.del [D]) φ7 (lockAll h7 w2.2) s8 := by
          have g8' := g8
          rw [← pin_back hT7D hs8D] at g8'
          exact (g8'.del (fun a ma => by
            rw [del_out (fun z => by
              have : a = D := by simpa using z
              exact hDφ (this ▸ ma))]
            exact S7.sim.tr a ma) (fun b hb => del_in hb) (fun b hb => by
              have : b = D := by simpa using hb
              subst this; exact ⟨_, hs8D⟩)).1
        obtain ⟨gd8, kd8, nd8, pd8⟩ := dD g58
        have lk2' : ∀ j ∈ w2.2, ∃ a us0, φ7[j]? = some a ∧ T7.del [D] a = some (.lst us0) := fun j mj => by
          obtain ⟨a, us0, z1, z2⟩ := lk2 j mj
          exact ⟨a, us0, z1, kd7 a _ z2 (fun _ z => by cases z)⟩
        have R8 : ER (X.blk nm' scope C) (T8.del [D]) φ7 (wipe ρ5 t2.slots) := ER.kept (wipe_fewer hsl eb S8.er) kd8
        have hfix2 : ∀ b ∈ fp2, b ∈ wr2 ∨ Fix (T8.del [D]) φ7 b := fun b hb => (src2.fix b hb).imp id fun z => by
          obtain ⟨o, z | ⟨z1, z2⟩⟩ := z
          · exact ⟨o, .inl (kd8 b _ z (fun _ q => by cases q))⟩
          · refine ⟨o, .inr ⟨?_, z2⟩⟩
            rw [del_out (fun q => by
              have : b = D := by simpa using q
              exact hDφ (this ▸ z2))]
            exact z1
        generalize hTc : T8.del [D] = Tc at *
        refine ⟨I2, fp2, wr2, w2.1.length, Y2, St2, fun j ys' s' => ∃ T9 φ9 h9 vs2 rest2, loopC (lcF X.C (wipe ρ5 t2.slots) t2 c2 elt) (w2.1.drop j) h9 = .ok rest2 hE2 ∧ y = vs2 ++ rest2 ∧ RVs X.G T9 φ9 (vs ++ vs2) ys' ∧ Good (X.blk nm' scope C) (X.blk nm' scope C).O Tc φ7 T9 φ9 h9 s' ∧ ER (X.blk nm' scope C) T9 φ9 (wipe ρ5 t2.slots) ∧ T9 D = none ∧ ∀ b ∈ wr2, T9 b = none, src2.ref, src2.goes, hDf2, src2.st, pd8, ⟨Tc, φ7, _, [], y, by rw [List.drop_zero]; exact e12, rfl, ?_, .refl gd8.inv gd8.sim, R8, nd8, fun b hb => ?_⟩, ?_, ?_, ?_⟩
        · rw [List.append_nil]
          exact RVs.kept ((gpa.trans gpb).ext.kp.trans (g58.ext.kp.trans kd8.kp)) ((gpa.trans gpb).pre.trans g58.pre) _ _ r4
        · rw [← hTc, del_out (fun z => by
            have : b = D := by simpa using z
            exact hDwr2 (this ▸ hb))]
          exact src2.wrn b hb
        · rintro j ys' s9 hp9 tk ⟨T9, φ9, h9, vs2, rest2, a3, a4, a5, a6, a7, a8, a9⟩ kp _
          refine ⟨T9, φ9, h9, vs2, rest2, a3, a4, a5, ⟨a6.inv.turned (wr := D :: wr2) (fun b hb => ?_) kp, a6.ext, a6.pre, a6.new, a6.sim⟩, a7, a8, a9⟩
          rcases List.mem_cons.mp hb with z | z
          · subst z; exact a8
          · exact a9 b z
        · rintro j v2 ys' s9 hlt2 hY2 hSt2 ⟨T9, φ9, h9, vs2, rest2, a3, a4, a5, a6, a7, a8, a9⟩ hpl2
          have hx2 : w2.1[j]? = some w2.1[j] := List.getElem?_eq_getElem hlt2
          rw [drop_cons hlt2] at a3
          have a3' : (lcF X.C (wipe ρ5 t2.slots) t2 c2 elt w2.1[j] h9).bind (fun y h => (loopC (lcF X.C (wipe ρ5 t2.slots) t2 c2 elt) (w2.1.drop (j + 1)) h).bind fun ys h => .ok (match y with | some v => v :: ys | Option.none => ys) h) = .ok rest2 hE2 := by rw [← a3]; simp only [loopC] <;> rfl
          obtain ⟨y2, hy2, ef3, a10⟩ := R.ok_of a3'
          obtain ⟨rest3, hE3, a11, a12⟩ := R.ok_of a10
          have nw2 : ∀ b ∈ D :: wr2, T9 b = none := fun b hb => by
            rcases List.mem_cons.mp hb with z | z
            · subst z; exact a8
            · exact a9 b z
          have hx4 : ∀ b ∈ D :: wr2, ∃ o, s9.heap.get? b = some o := fun b hb => by
            rcases List.mem_cons.mp hb with z | z
            · subst z; obtain ⟨n, e⟩ := hpl2; exact ⟨_, e⟩
            · exact src2.live (j + 1) _ hSt2 b z
          have gp : Good (X.blk nm' scope C) (X.blk nm' scope C).O T9 φ9 (T9.pins (D :: wr2) s9.heap) φ9 h9 s9 := .pins a6.inv a6.sim nw2
          have gpN : Good (X.blk nm' scope C) NoO T9 φ9 (T9.pins (D :: wr2) s9.heap) φ9 h9 s9 := .pins a6.inv a6.sim nw2
          have Rp : ER (X.blk nm' scope C) (T9.pins (D :: wr2) s9.heap) φ9 (wipe ρ5 t2.slots) := a7.mono gpN.ext (List.prefix_refl _) fun _ m => .inl m
          have Sp2 : St (X.blk nm' scope C) (T9.pins (D :: wr2) s9.heap) φ9 (wipe ρ5 t2.slots) h9 s9 := ⟨gp.inv, Rp, gp.sim⟩
          have rv2 : RVa t2 X.G (T9.pins (D :: wr2) s9.heap) φ9 s9.heap w2.1[j] v2 := RVa.kept (kd8.kp.trans (a6.trans gp).ext.kp) a6.pre (src2.item j v2 s9.heap _ hY2 hx2)
          have leave : ∀ {T5 : GT} {φ5 : List Addr} {h5 : Hp} {s5 : Shared}, Good (X.blk nm' scope C) (X.blk nm' scope C).O (T9.pins (D :: wr2) s9.heap) φ9 T5 φ5 h5 s5 → Good (X.blk nm' scope C) (X.blk nm' scope C).O Tc φ7 (T5.del (D :: wr2)) φ5 h5 s5 ∧ Kp2 T5 (T5.del (D :: wr2)) ∧ (∀ b ∈ D :: wr2, T5.del (D :: wr2) b = none) ∧ (∀ b ∈ fp2, ∀ o, s9.heap.get? b = some o → s5.heap.get? b = some o) ∧ s5.heap.PlainList D ys'.toArray := fun {T5 φ5 h5 s5} g5 => by
            obtain ⟨g6, k6, n6, p6⟩ := g5.del a6.sim.tr nw2 hx4
            refine ⟨a6.trans g6, k6, n6, fp_stand (fun b hb => (hfix2 b hb).imp id fun z => a6.ext.fix a6.pre z) (fun b hb o e => p6 b (List.mem_cons_of_mem _ hb) o e) g6.ext (fun a g e => a6.inv.ok a g e) g6.inv, ?_⟩
            obtain ⟨n, e⟩ := hpl2
            exact ⟨n, p6 D List.mem_cons_self _ e⟩
          obtain ⟨ρ6, h10, eb2, ef4⟩ := R.ok_of (show (bindT X.C (wipe ρ5 t2.slots) h9 t2 w2.1[j]).bind _ = R.ok y2 hy2 from ef3)
          refine wpAny_mono (hA2 _ φ9 (wipe ρ5 t2.slots) h9 s9 _ w2.1[j] v2 Sp2 rv2 (by show bindT X.C _ _ _ _ ≠ _; rw [eb2]; simp) (fun x s' q => by
            obtain ⟨cc, fs, hh, ee, _⟩ := q
            have ee : bindT X.C (wipe ρ5 t2.slots) h9 t2 w2.1[j] = .err cc fs hh := ee
            rw [eb2] at ee; cases ee)) (fun _ s10 ⟨ρ6', h10', T10, φ10, b1, b2, R10⟩ => ?_) fun _ _ z => z
          have b1 : bindT X.C (wipe ρ5 t2.slots) h9 t2 w2.1[j] = .ok ρ6' h10' := b1
          rw [eb2] at b1; cases b1
          have S10 : St (X.blk nm' scope C) T10 φ10 ρ6 h10 s10 := ⟨b2.inv, R10, b2.sim⟩
          refine wpAny_mono (ti_run hT2 S10 (R.test_no (f := fun _ h => (ev X.C ρ6 h elt).bind fun v h => R.ok (some v) h) (g := fun _ h => .ok Option.none h) (by show (ev X.C ρ6 h10 c2).test _ _ ≠ _; rw [ef4]; simp)) (fun x s' q => by
            obtain ⟨cc, fs, hh, ee, _⟩ := q
            have ee : ev X.C ρ6 h10 c2 = .err cc fs hh := ee
            rw [ee] at ef4; cases ef4)) (fun b s11 ⟨v11, h11, T11, φ11, b3, b4, t11⟩ => ?_) fun _ _ z => z
          have b3 : ev X.C ρ6 h10 c2 = .ok v11 h11 := b3
          have b5 := R.test_at (f := fun _ h => (ev X.C ρ6 h elt).bind fun v h => R.ok (some v) h) (g := fun _ h => .ok Option.none h) b3 t11
          rw [ef4] at b5
          have S11 := b4.st S10
          have g1011 : Good (X.blk nm' scope C) (X.blk nm' scope C).O (T9.pins (D :: wr2) s9.heap) φ9 T11 φ11 h11 s11 := b2.trans (b4.imp fun _ z => z.elim)
          cases b with
          | false =>
            simp only [Bool.false_eq_true, if_false] at b5 ⊢
            cases b5
            cases a12
            obtain ⟨g12, k12, n12, p12, l12⟩ := leave g1011
            exact ⟨⟨_, φ11, hy2, vs2, rest3, a11, a4, RVs.kept ((gp.ext.trans g1011.ext).kp.trans k12.kp) (gp.pre.trans g1011.pre) _ _ a5, g12, ER.kept (bind_fewer eb2 S11.er) k12, n12 D List.mem_cons_self, fun b hb => n12 b (List.mem_cons_of_mem _ hb)⟩, src2.goes.frame (j + 1) _ _ hSt2 p12, l12⟩
          | true =>
            simp only [if_true] at b5 ⊢
            obtain ⟨v12, h12, b6, b7⟩ := R.ok_of b5.symm
            cases b7
            cases a12
            refine wpAny_mono (hEl T11 φ11 ρ6 h11 s11 _ S11 (by show ev X.C _ _ _ ≠ _; rw [b6]; simp) (fun x s' q => by
              obtain ⟨cc, fs, hh, ee, _⟩ := q
              have ee : ev X.C ρ6 h11 elt = .err cc fs hh := ee
              rw [b6] at ee; cases ee)) (fun u s12 ⟨v12', h12', T12, φ12, b8, g12, r12⟩ => ?_) fun _ _ z => z
            have b8 : ev X.C ρ6 h11 elt = .ok v12' h12' := b8
            rw [b6] at b8; cases b8
            have S12 := g12.st S11
            have g1012 := g1011.trans (g12.imp (O' := (X.blk nm' scope C).O) fun _ z => z.elim)
            obtain ⟨g13, k13, n13, p13, l13⟩ := leave g1012
            refine ⟨?_, ⟨_, φ12, hy2, vs2 ++ [v12], rest3, a11, by rw [a4]; simp, ?_, g13, ER.kept (bind_fewer eb2 S12.er) k13, n13 D List.mem_cons_self, fun b hb => n13 b (List.mem_cons_of_mem _ hb)⟩, src2.goes.frame (j + 1) _ _ hSt2 p13, l13⟩
            · have := a5.length
              rw [e4, a4] at hlen
              simp only [List.length_append] at hlen this
              rw [← this]; exact small_line (by omega)
            · rw [← List.append_assoc]
              exact (RVs.kept ((gp.ext.trans g1012.ext).kp.trans k13.kp) (gp.pre.trans g1012.pre) _ _ a5).append (.cons (RV.kept k13.kp (List.prefix_refl _) _ _ r12) .nil)
        · rintro ys' s9 ⟨T9, φ9, h9, vs2, rest2, a3, a4, a5, a6, a7, a8, a9⟩ hpl2
          rw [List.drop_length] at a3
          simp only [loopC] at a3
          cases a3
          rw [List.append_nil] at a4
          subst a4
          obtain ⟨T10, g10, k10, n10⟩ := ((g8d.imp fun _ z => z.elim).trans a6).unlock w2.2 lk2'
          obtain ⟨g11, k11, n11, l11⟩ := dW (gd7.trans g10)
          exact ⟨⟨_, φ9, _, vs ++ y, rest', er', by rw [e4, List.append_assoc], RVs.kept (k10.trans k11).kp (List.prefix_refl _) _ _ a5, g11, by rw [del_out hDw]; exact n10 D a8, n11⟩, src.goes.frame (i + 1) _ _ hSt l11, hpl2⟩
    · rcases K.vis x i h with ⟨_, z⟩ | ⟨z, _⟩
      · exact .inl z
      · refine .inr fun c hc => ?_
        obtain ⟨c', c1, c2⟩ := blk_free (nm' := nm') ok K (C := C) z
        have hc : (blkEnv scope C X.env).cells.lookup x = some c := hc
        rw [c2] at hc; cases hc
        have hlt := hC x _ c1
        intro q
        rcases (show c = C ∨ c ∈ blkOwn scope C from q) with q | q
        · exact absurd (q ▸ hlt : C < C) (Nat.lt_irrefl _)
        · exact absurd (Nat.lt_trans hlt (hoc c q)) (Nat.lt_irrefl _)
    · rcases K.vis x i h with ⟨_, z⟩ | ⟨z, _⟩
      · exact absurd z hi
      · have : (blkEnv scope C X.env).kindOf x = some .cell ∨ (blkEnv scope C X.env).kindOf x = some .free := by
          show (blkEnv scope C X.env).scope.names.lookup x = _ ∨ (blkEnv scope C X.env).scope.names.lookup x = _
          rw [blk_names ok nm' scope os K C, K.kinds]
          exact rel_free z
        intro q
        have q : (blkEnv scope C X.env).kindOf x = some .local := q
        rw [q] at this
        rcases this with z | z <;> cases z
  · rintro ys s4 ⟨T', φ', h4, vs, rest, e3, e4, r4, g4, nD, nw⟩ hpl
    rw [List.drop_length] at e3
    have e5 : loopC2 (lc2F X.C ρ os t c it2 t2 c2 elt) [] h4 = .ok [] h4 := by simp only [loopC2]
    rw [e5] at e3
    cases e3
    rw [List.append_nil] at e4
    subst e4
    obtain ⟨T5, g5, k5, n5⟩ := (g2.trans (back g4)).unlock w.2 lk
    have g05 := g1.trans g5
    have S5 := g05.st S
    obtain ⟨n, ed⟩ := hpl
    obtain ⟨mC, hmC⟩ := g4.ext.frame' C _ hT3C
    obtain ⟨v6, h6, T6, φ6, e6, g6, r6⟩ := QV.listAt (m := m) (n := n) (tk := s4.toks) (h' := s4.heap) S5 (RVs.kept k5.kp (List.prefix_refl _) _ _ r4) (by rw [← r4.length]; exact small_line hlen) (fun b o e => e) (n5 D nD) ed
    exact fin C D s4 ⟨v6, h6, T6, φ6, e6, g05.trans g6, (g6.st S5).er, r6, hTC, mC, g6.ext.frame C mC id (k5 C _ hmC (fun _ z => by cases z))⟩
theorem se_comp2 {m : Bool} {elt c c2 : E} {os : List Nat} {t t2 : At} {it it2 : It} {nm' : Nm} {elt' t' iter' t2' iter2' : Expr} {ifs ifs2 : List Expr} {scope : Scope} {pos : Pos} (ok : X.Ok) (K : CompOk X.nm nm' scope os)
    (hi : SI X it t iter' t') (hin : ∀ C, (X.blk nm' scope C).Ok → SA (X.blk nm' scope C) t t' ∧ TI (X.blk nm' scope C) c ifs ∧ SI (X.blk nm' scope C) it2 t2 iter2' t2' ∧ SA (X.blk nm' scope C) t2 t2' ∧ TI (X.blk nm' scope C) c2 ifs2 ∧ SE (X.blk nm' scope C) elt elt')
    (hset : noSet iter' = true) (hset2 : noSet iter2' = true) (hsl : ∀ i ∈ t2.slots, i ∈ os) :
    SE X (.comp2 m elt os t it c t2 it2 c2) (.ListComp elt' [⟨t', iter', ifs, 0⟩, ⟨t2', iter2', ifs2, 0⟩] scope pos) := by
  intro T φ ρ h s F S hn hF
  rw [eval_ListComp]
  refine lc2_ok (use := none) ok K hi hin hset hset2 hsl S hn hF fun C D s' ⟨v, h', T', φ', e, g, R', r, hTC, hm⟩ => ?_
  obtain ⟨mC, hmC⟩ := id hm
  refine ⟨mC, g.inv.ok _ _ hmC, fun hp sb => ?_⟩
  obtain ⟨g2, k2⟩ := dropC S.inv g hTC hm sb
  have kp : Keep T' (T'.del [C]) := ⟨fun a o e => k2 a _ (fun z => by subst z; rw [hmC] at e; cases e) e, fun a c d e => k2 a _ (fun z => by subst z; rw [hmC] at e; cases e) e⟩
  exact ⟨v, h', _, φ', e, g2, RV.kept kp (List.prefix_refl _) _ _ r⟩
theorem ss_asgC2 {m : Bool} {elt c c2 : E} {os : List Nat} {t t2 : At} {it it2 : It} {nm' : Nm} {elt' t' iter' t2' iter2' : Expr} {ifs ifs2 : List Expr} {scope : Scope} {i : Nat} {y : PySem.Str} {pos py spos : Pos} (ok : X.Ok) (K : CompOk X.nm nm' scope os)
    (hi : SI X it t iter' t') (hin : ∀ C, (X.blk nm' scope C).Ok → SA (X.blk nm' scope C) t t' ∧ TI (X.blk nm' scope C) c ifs ∧ SI (X.blk nm' scope C) it2 t2 iter2' t2' ∧ SA (X.blk nm' scope C) t2 t2' ∧ TI (X.blk nm' scope C) c2 ifs2 ∧ SE (X.blk nm' scope C) elt elt')
    (hset : noSet iter' = true) (hset2 : noSet iter2' = true) (hsl : ∀ i ∈ t2.slots, i ∈ os)
    (hx : X.nm.vis.lookup y = some i) (ho : y ∈ X.nm.own) (hsw : swapsWith (.ListComp elt' [⟨t', iter', ifs, 0⟩, ⟨t2', iter2', ifs2, 0⟩] scope pos) (some (.Name y py)) spos.line X.env = pure true) :
    SS X (.asg (.nm i) (.comp2 m elt os t it c t2 it2 c2)) (.Assign [.Name y py] (.ListComp elt' [⟨t', iter', ifs, 0⟩, ⟨t2', iter2', ifs2, 0⟩] scope pos) spos) := by
  intro T φ ρ h s F S hn hp hF
  have e0 : ex X.C ρ h (.asg (.nm i) (.comp2 m elt os t it c t2 it2 c2)) = (ev X.C ρ h (.comp2 m elt os t it c t2 it2 c2)).bind fun v h => (bindT X.C ρ h (.nm i) v).bind fun ρ h => .ok (.nx ρ) h := by simp only [ex]
  rw [e0] at hn hF ⊢
  rw [exec_Assign_Name_used _ _ _ _ hsw]
  refine wpAny_bind (wpAny_standAt (wpAny_bind ?_))
  show wpAny _ X.A (do let _ ← comprehension (.ListComp elt' [⟨t', iter', ifs, 0⟩, ⟨t2', iter2', ifs2, 0⟩] scope pos) scope X.env _ (newList []) false (eval iter' X.env) (some (assign (.Name y py) X.env))) _ _ s
  refine wpAny_bind (wpAny_mono (lc2_ok (use := some (assign (.Name y py) X.env)) (Q := fun _ s' => QF X T φ ((ev X.C ρ h (.comp2 m elt os t it c t2 it2 c2)).bind fun v h => (bindT X.C ρ h (.nm i) v).bind fun ρ h => .ok (.nx ρ) h) .next s') ok K hi hin hset hset2 hsl S (R.bind_no' hn) (fun x s' q => QXO.bind hF x s' (.of q)) fun C D s' ⟨v, h', T', φ', e, g, R', r, hTC, hm⟩ => ?_) (fun _ s' hq => wpAny_pure (wpAny_pure hq)) fun _ _ e => e)
  obtain ⟨hn2, e2⟩ := R.bind_ne hn e
  rw [e2]
  have S' : St X T' φ' ρ h' s' := ⟨g.inv, R', g.sim⟩
  obtain ⟨mL, hmL⟩ := S.er.frame
  have hL : X.env.locals ≠ C := fun z => by rw [z, hTC] at hmL; cases hmL
  refine PyProof.Rows.assign_Name (wpAny_mono (bind_name (F := F) ok hx ho S' r (R.bind_no' hn2)) (fun _ s2 ⟨ρ2, h2, T2, φ2, e3, g2, R2⟩ => ?_) fun _ _ z => z)
  obtain ⟨mC, hmC⟩ := hm
  obtain ⟨mC2, hmC2⟩ := g2.ext.frame' C _ hmC
  refine ⟨mC2, g2.inv.ok _ _ hmC2, fun hp sb => ?_⟩
  obtain ⟨g3, k3⟩ := dropC S.inv (g.up.trans g2) hTC ⟨mC2, hmC2⟩ sb
  exact ⟨.nx ρ2, h2, _, φ2, by rw [e3]; rfl, g3, ER.drop R2 k3 ⟨mC2, hmC2⟩ hL⟩
end
end Mp
/-! W19: calls of defs. -/
namespace Mp
open PySem PySem.Spec PyProof.Rows
/-! ### what is new becomes still -/
def GT.still (T : GT) (l : List Addr) (hp : Heap) : GT := fun b => match T b with
  | some (.lst us) => if b ∈ l then (hp.get? b).map .lock else some (.lst us)
  | g => g
section
variable {G : Glo} {T : GT} {φ : List Addr} {l : List Addr} {hp : Heap}
theorem still_eq {b : Addr} {g : Gh} (e : T b = some g) (n : ∀ us, g ≠ .lst us) : T.still l hp b = some g := by
  unfold GT.still
  rw [e]
  cases g <;> first | rfl | exact absurd rfl (n _)
theorem still_none {b : Addr} (e : T b = none) : T.still l hp b = none := by
  unfold GT.still; rw [e]
theorem still_out {b : Addr} (h : b ∉ l) : T.still l hp b = T b := by
  unfold GT.still
  cases e : T b with
  | none => rfl
  | some g => cases g <;> first | rfl | (simp only [if_neg h])
theorem still_in {b : Addr} {us : List Value} {o : Obj} (h : b ∈ l) (e : T b = some (.lst us)) (e2 : hp.get? b = some o) : T.still l hp b = some (.lock o) := by
  unfold GT.still
  rw [e]
  simp only [if_pos h, e2]; rfl
theorem still_keep : Keep T (T.still l hp) := ⟨fun a o e => still_eq e (fun _ z => by cases z), fun a c d e => still_eq e (fun _ z => by cases z)⟩
theorem frz_lst {D : Nat → Option Val} {xs : List Val} : Val.frz D (.lst xs) = (Val.frzL D xs).map .lst := by simp only [Val.frz]
mutual
theorem frz_rv {n k : Nat} {h : Hp} (ih : ∀ (i : Nat) (w : Val) (a : Addr), Hp.frz n h k i = some w → φ[i]? = some a → RV G (T.still l hp) φ w (.ref a)) : ∀ (v : Val) (u : Value) (w : Val), Val.frz (Hp.frz n h k) v = some w → RV G T φ v u → RV G (T.still l hp) φ w u
  | .none, u, w, e, r => by simp only [Val.frz, Option.some.injEq] at e; subst e; exact RV.kept still_keep (List.prefix_refl _) _ _ r
  | .bool b, u, w, e, r => by simp only [Val.frz, Option.some.injEq] at e; subst e; exact RV.kept still_keep (List.prefix_refl _) _ _ r
  | .int b, u, w, e, r => by simp only [Val.frz, Option.some.injEq] at e; subst e; exact RV.kept still_keep (List.prefix_refl _) _ _ r
  | .str b, u, w, e, r => by simp only [Val.frz, Option.some.injEq] at e; subst e; exact RV.kept still_keep (List.prefix_refl _) _ _ r
  | .fn b, u, w, e, r => by simp only [Val.frz, Option.some.injEq] at e; subst e; exact RV.kept still_keep (List.prefix_refl _) _ _ r
  | .clo i cs, u, w, e, r => by simp only [Val.frz, Option.some.injEq] at e; subst e; exact RV.kept still_keep (List.prefix_refl _) _ _ r
  | .dct _ _, u, w, e, r => by simp [RV] at r
  | .tup xs, u, w, e, r => by
    simp only [Val.frz, Option.map_eq_some_iff] at e
    obtain ⟨ws, e1, rfl⟩ := e
    simp only [RV] at r ⊢
    obtain ⟨a, o, us, m, h1, h2, h3, h4, h5, h6⟩ := r
    exact ⟨a, o, us, m, h1, still_keep.lock _ _ h2, h3, h4, h5, frz_rvs ih xs us ws e1 h6⟩
  | .lst xs, u, w, e, r => by
    simp only [Val.frz, Option.map_eq_some_iff] at e
    obtain ⟨ws, e1, rfl⟩ := e
    simp only [RV] at r ⊢
    obtain ⟨a, us, m, h1, h2, h3, h4⟩ := r
    exact ⟨a, us, m, h1, still_keep.lock _ _ h2, h3, frz_rvs ih xs us ws e1 h4⟩
  | .ref i, u, w, e, r => by
    simp only [Val.frz] at e
    simp only [RV] at r
    obtain ⟨a, h1, rfl⟩ := r
    exact ih i w a e h1
  | .exc c fs, u, w, e, r => by
    simp only [Val.frz, Option.map_eq_some_iff] at e
    obtain ⟨ws, e1, rfl⟩ := e
    simp only [RV] at r ⊢
    obtain ⟨a, C, d, o, us, h1, h2, h3, h4, h5, h6⟩ := r
    exact ⟨a, C, d, o, us, h1, h2, still_keep.exn _ _ _ h3, still_keep.lock _ _ h4, frz_rvs ih fs us ws e1 h5, h6⟩
theorem frz_rvs {n k : Nat} {h : Hp} (ih : ∀ (i : Nat) (w : Val) (a : Addr), Hp.frz n h k i = some w → φ[i]? = some a → RV G (T.still l hp) φ w (.ref a)) : ∀ (vs : List Val) (us : List Value) (ws : List Val), Val.frzL (Hp.frz n h k) vs = some ws → RVs G T φ vs us → RVs G (T.still l hp) φ ws us
  | [], us, ws, e, r => by
    simp only [Val.frzL, Option.some.injEq] at e
    subst e
    simpa [RVs] using r
  | v :: vs, us, ws, e, r => by
    simp only [Val.frzL] at e
    simp only [RVs] at r
    obtain ⟨u, t, rfl, r1, r2⟩ := r
    split at e
    · rename_i d t' e1 e2
      cases e
      exact .cons (frz_rv ih v u d e1 r1) (frz_rvs ih vs t t' e2 r2)
    · cases e
end
theorem frz_at {stk : List PySem.Env} {s : Shared} {bs : List Nat} {h : Hp} {n : Nat} (I : Inv G T stk s) (S : Sim G T φ bs h) (hl : ∀ i a, φ[i]? = some a → n ≤ i → a ∈ l) : ∀ (k : Nat) (i : Nat) (w : Val) (a : Addr), Hp.frz n h k i = some w → φ[i]? = some a → RV G (T.still l s.heap) φ w (.ref a) := by
  intro k
  induction k with
  | zero =>
    intro i w a e ha
    simp only [Hp.frz] at e
    split at e
    · cases e; simp only [RV]; exact ⟨a, ha, rfl⟩
    · cases e
  | succ k ih =>
    intro i w a e ha
    simp only [Hp.frz] at e
    by_cases hi : i < n
    · rw [if_pos hi] at e
      cases e; simp only [RV]; exact ⟨a, ha, rfl⟩
    · rw [if_neg hi] at e
      cases q : h.at i with
      | none => rw [q] at e; cases e
      | some ob =>
        rw [q] at e
        have so := S.ob i a ob ha q
        cases ob with
        | lst xs =>
          simp only [Option.map_eq_some_iff] at e
          obtain ⟨ws, e1, rfl⟩ := e
          obtain ⟨us, h1, h2⟩ := so
          obtain ⟨z, m, h3⟩ := I.ok _ _ h1
          simp only [RV]
          exact ⟨a, us, m, rfl, still_in (hl i a ha (by omega)) h1 h3, z, frz_rvs ih xs us ws e1 h2⟩
        | dct _ _ => exact so.elim
        | lck _ => cases e
        | cel _ => cases e
end
section
variable {X : Ctx} {O : Addr → Prop} {T T1 T2 : GT} {φ φ1 φ2 : List Addr} {ρ : Mp.Env} {h h1 h2 : Hp} {s s1 s2 s3 : Shared}
/-! ### the tables -/
structure ScOk (nm : Nm) (d : Df) (ps : List PySem.Str) : Prop where
  nofree : ∀ y ∈ nm.kinds, y.2 ≠ .free
  plen : ps.length = d.np
  pnd : ps.Nodup
  pvis : ∀ (k : Nat) (x : PySem.Str), ps[k]? = some x → nm.vis.lookup x = some k ∧ (nm.kinds.lookup x = some .local ∨ nm.kinds.lookup x = some .cell)
  own : ∀ x ∈ nm.own, ∃ i, nm.vis.lookup x = some i ∧ (nm.kinds.lookup x = some .local ∨ nm.kinds.lookup x = some .cell)
  slots : ∀ x y i, nm.vis.lookup x = some i → nm.vis.lookup y = some i → x = y
  cs : d.cs = []
/-- a call of the def number f, by values -/
def CallAt (X : Ctx) (f : Nat) (r : List Val → Hp → R Val) : Prop := ∀ (a : Addr), X.G.fnA f = some a → ∀ (pos : List Value) (kw : List (PySem.Str × Value)) (us : List Value) (vs : List Val) (T : GT) (φ : List Addr) (h : Hp) (s : Shared) (F : Value → Shared → Prop),
  Inv X.G T X.stk s → Sim X.G T φ X.bs h → RVs X.G T φ vs us → r vs h ≠ .no → (∀ x s', QX X T φ (r vs h) x s' → F x s') →
  (∃ oc od fd osl, X.G.K.lookup a = some ⟨oc, od, .func fd, osl⟩ ∧ BindsTo s fd ⟨pos, kw⟩ ((fd.params.args.map (·.arg)).zip us) ∧ us.length = fd.params.args.length) → wpAny X.M X.A (call (.ref a) pos kw) (QV X T φ (r vs h)) F s
def CodeAt (X : Ctx) (f : Nat) (r : List Val → Hp → R Val) : Prop := ∀ (a : Addr), X.G.fnA f = some a → ∀ (pos : List Value) (kw : List (PySem.Str × Value)) (us : List Value) (vs : List Val) (T : GT) (φ : List Addr) (h : Hp) (s : Shared) (F : Value → Shared → Prop),
  Inv X.G T X.stk s → Sim X.G T φ X.bs h → RVs X.G T φ vs us → r vs h ≠ .no → (∀ x s', QX X T φ (r vs h) x s' → F x s') →
  (∃ oc od fd osl, X.G.K.lookup a = some ⟨oc, od, .func fd, osl⟩ ∧ BindsTo s fd ⟨pos, kw⟩ ((fd.params.args.map (·.arg)).zip us) ∧ us.length = fd.params.args.length) →
  codeAny X.M X.A (.call (.ref a) ⟨pos, kw⟩) (fun q s' => match q with | .ok (.ret v) => QV X T φ (r vs h) v s' | .ok _ => False | .error e => F e s') s
theorem CodeAt.call {X : Ctx} {f : Nat} {r : List Val → Hp → R Val} (c : CodeAt X f r) : CallAt X f r := fun a ha pos kw us vs T φ h s F I S rv hn hF hx => wpAny_call (c a ha pos kw us vs T φ h s F I S rv hn hF hx)
def CallsOk (X : Ctx) : Prop := ∀ f, CallAt X f (X.C.call f)
structure DefFacts (G : Glo) (gv : Nat → Option Val) (W : Nat) (f : Nat) (d : Df) : Prop where
  ex : ∃ a oc od osl name qual params body scope dV kV doc pm an cdv ct nm, G.fnA f = some a ∧ G.K.lookup a = some ⟨oc, od, .func (PySem.W.fnOf name qual params body scope dV kV doc pm an cdv ct), osl⟩ ∧ PySem.W.codeIn G.K cdv qual = true ∧ scope.kind = .function ∧ scope.isCoroutine = false ∧ scope.isGenerator = false ∧
    scope.names = nm.kinds ∧ ScOk nm d (params.args.map (·.arg)) ∧ ∀ X : Ctx, X.G = G → X.Ok → X.nm = nm → X.C.gv = gv → X.C.w = W → CallsOk X → SSs X d.body body
noncomputable def GT.fn (T : GT) (L : Addr) (m : PySem.Str → Option Value) (cs : List (PySem.Str × Addr)) (cm : PySem.Str → Option Value) : GT := fun b =>
  open Classical in if b = L then some (.frame m) else if hb : ∃ n, cs.lookup n = some b then some (.cell (cm hb.choose)) else T b
def Ctx.fn (X : Ctx) (C' : Mp.Cx) (nm : Nm) (qual : PySem.Str) (scope : Scope) (a : Addr) (cdv : Value) (bs' : List Nat) (L : Addr) : Ctx :=
  { G := X.G, A := X.A.deeper (envOfC qual scope L a cdv), stk := envOfC qual scope L a cdv :: X.stk, env := envOfC qual scope L a cdv, nm := nm, bs := bs', C := C', O := fun b => b = L ∨ ∃ n, (cellsFrom (L + 1) scope.names []).lookup n = some b }
theorem slots_at {ns : Nat} {vs : List Val} {i : Nat} : (slots0 ns vs)[i]? = (match vs[i]? with | some v => some (.v v) | none => if i < ns then some .u else none) := by
  unfold slots0
  by_cases hi : i < vs.length
  · rw [List.getElem?_append_left (by simpa using hi), List.getElem?_map, List.getElem?_eq_getElem hi]; rfl
  · rw [List.getElem?_append_right (by simpa using hi), List.getElem?_replicate, List.length_map]
    have : vs[i]? = none := by rw [List.getElem?_eq_none_iff]; omega
    rw [this]
    by_cases h2 : i < ns
    · rw [if_pos (by omega), if_pos h2]
    · rw [if_neg (by omega), if_neg h2]
/-- a def begins -/
theorem fn_start {C' : Mp.Cx} {nm : Nm} {d : Df} {ps : List PySem.Str} {qual : PySem.Str} {scope : Scope} {a : Addr} {cdv : Value} {bs' : List Nat} {us : List Value} {vs : List Val} (I : Inv X.G T X.stk s) (S : Sim X.G T φ bs' h) (hfr : X.A.frames = some X.stk) (hroom : L2.Room 0 (X.A.deeper (envOfC qual scope s.heap.objs.size a cdv)))
    (K : ScOk nm d ps) (hn : scope.names = nm.kinds) (hk : scope.kind = .function) (hbs : ∀ b ∈ bs', b ≤ C'.base) (r : RVs X.G T φ vs us) (hl : vs.length = ps.length)
    (x : InCallC s s.heap.objs.size (bindL (envOfC qual scope s.heap.objs.size a cdv).kindOf (ps.zip us) fun _ => none) (cellsFrom (s.heap.objs.size + 1) scope.names []) (bindC (envOfC qual scope s.heap.objs.size a cdv).kindOf (ps.zip us) fun _ => none) s1) :
    (X.fn C' nm qual scope a cdv bs' s.heap.objs.size).Ok ∧ ∃ T3, St (X.fn C' nm qual scope a cdv bs' s.heap.objs.size) T3 φ (slots0 d.ns vs) h s1 ∧ (∀ b g, T b = some g → T3 b = some g ∧ ¬ (X.fn C' nm qual scope a cdv bs' s.heap.objs.size).O b) := by
  obtain ⟨hp, tk, rfl, hkeep⟩ := x.done
  have fresh : ∀ b, s.heap.objs.size ≤ b → T b = none := fun b hb => I.fresh hb
  have kof : ∀ y, (envOfC qual scope s.heap.objs.size a cdv).kindOf y = nm.kinds.lookup y := fun y => by
    show scope.names.lookup y = _
    rw [hn]
  have above : ∀ n c, (cellsFrom (s.heap.objs.size + 1) scope.names []).lookup n = some c → s.heap.objs.size < c := fun n c e => x.above n c (PySem.mem_of_lookup e)
  have one : ∀ n n' c, (cellsFrom (s.heap.objs.size + 1) scope.names []).lookup n = some c → (cellsFrom (s.heap.objs.size + 1) scope.names []).lookup n' = some c → n = n' := fun n n' c e e' => name_of_addr x.apart (PySem.mem_of_lookup e) (PySem.mem_of_lookup e')
  refine ⟨⟨hk, hn, rfl, rfl, Around.frames_deeper hfr, hroom.hd, (by have := hroom.dp; show (X.A.deeper (envOfC qual scope s.heap.objs.size a cdv)).depth + 5 < _; omega), (by have := hroom.un; show (X.A.deeper (envOfC qual scope s.heap.objs.size a cdv)).units + 200 < _; omega), fun y z c e1 e2 => one y z c e1 e2, fun y hy => ?_, fun y hy => ?_, K.slots, .inl rfl, hbs⟩, ?_⟩
  · have hy : (envOfC qual scope s.heap.objs.size a cdv).kindOf y = some .cell ∨ (envOfC qual scope s.heap.objs.size a cdv).kindOf y = some .free := hy
    rcases hy with hy | hy
    · exact L2.cell_has hy
    · rw [kof] at hy
      exact absurd rfl (K.nofree _ (PySem.mem_of_lookup hy))
  · obtain ⟨i, h1, h2⟩ := K.own y hy
    refine ⟨i, h1, ?_⟩
    rcases h2 with h2 | h2
    · exact .inl (by rw [show (X.fn C' nm qual scope a cdv bs' s.heap.objs.size).env.kindOf y = _ from kof y]; exact h2)
    · obtain ⟨c, hc⟩ := L2.cell_has (sc := scope) (n := s.heap.objs.size + 1) (x := y) (by rw [hn]; exact h2)
      exact .inr ⟨by rw [show (X.fn C' nm qual scope a cdv bs' s.heap.objs.size).env.kindOf y = _ from kof y]; exact h2, c, hc, .inr ⟨y, hc⟩⟩
  · generalize hm : bindL (envOfC qual scope s.heap.objs.size a cdv).kindOf (ps.zip us) (fun _ => none) = m at x
    generalize hcm : bindC (envOfC qual scope s.heap.objs.size a cdv).kindOf (ps.zip us) (fun _ => none) = cm at x
    generalize hcs : cellsFrom (s.heap.objs.size + 1) scope.names [] = cs at *
    have eL : T.fn s.heap.objs.size m cs cm s.heap.objs.size = some (.frame m) := if_pos rfl
    have ec : ∀ n c, cs.lookup n = some c → T.fn s.heap.objs.size m cs cm c = some (.cell (cm n)) := fun n c e => by
      unfold GT.fn
      have hb : ∃ n, cs.lookup n = some c := ⟨n, e⟩
      rw [if_neg (Nat.ne_of_gt (above n c e)), dif_pos hb]
      rw [one _ _ _ hb.choose_spec e]
    have eo : ∀ b, b ≠ s.heap.objs.size → (¬ ∃ n, cs.lookup n = some b) → T.fn s.heap.objs.size m cs cm b = T b := fun b h1 h2 => by
      unfold GT.fn
      rw [if_neg h1, dif_neg h2]
    have over : ∀ b g, T b = some g → T.fn s.heap.objs.size m cs cm b = some g ∧ ¬ (b = s.heap.objs.size ∨ ∃ n, cs.lookup n = some b) := fun b g e => by
      have hlt := (I.ok b g e).lt
      have h1 : b ≠ s.heap.objs.size := Nat.ne_of_lt hlt
      have h2 : ¬ ∃ n, cs.lookup n = some b := fun ⟨n, q⟩ => absurd (Nat.lt_trans hlt (above n b q)) (Nat.lt_irrefl _)
      exact ⟨by rw [eo b h1 h2]; exact e, fun z => z.elim h1 h2⟩
    have E : Ext NoO T (T.fn s.heap.objs.size m cs cm) := .over fun b g e => (over b g e).1
    refine ⟨T.fn s.heap.objs.size m cs cm, ⟨⟨I.g, I.os, I.bare, fun b o e => (over b _ (I.base b o e)).1, fun b g e => ?_, fun e me => ?_, fun t mt => ?_⟩, ⟨fun y i hv => ?_, ⟨m, eL⟩, fun y c hc => ⟨_, ec y c (by rw [← hcs]; exact hc)⟩, fun y i c hv ha hc mem => ?_⟩, S.mono E fun b mb => ?_⟩, fun b g e => by
      refine ⟨(over b g e).1, fun z => (over b g e).2 ?_⟩
      rcases z with z | ⟨n, z⟩
      · exact .inl z
      · exact .inr ⟨n, by rw [← hcs]; exact z⟩⟩
    · by_cases h1 : b = s.heap.objs.size
      · subst h1; rw [eL] at e; cases e; exact x.toInCall.ns
      · by_cases h2 : ∃ n, cs.lookup n = some b
        · obtain ⟨n, h2⟩ := h2
          rw [ec n b h2] at e; cases e
          exact x.cell n b h2
        · rw [eo b h1 h2] at e
          exact (I.ok b g e).keep fun o q => hkeep b o q
    · rcases List.mem_cons.mp me with z | z
      · subst z; exact ⟨hk, s.heap.objs.size, m, rfl, eL⟩
      · obtain ⟨h1, L, m', h2, h3⟩ := I.fr e z
        exact ⟨h1, L, m', h2, (over _ _ h3).1⟩
    · have t1 := I.tabs t mt
      obtain ⟨pp, h1, _⟩ := id t1
      exact t1.ext E (by rw [(over _ _ h1).1, h1])
    · rw [slots_at]
      cases q : vs[i]? with
      | none => by_cases hi : i < d.ns <;> simp only [hi, if_true, if_false] <;> trivial
      | some v =>
        obtain ⟨u, hu, ru⟩ := r.at q
        have hi : i < ps.length := by rw [← hl]; exact (List.getElem?_eq_some_iff.mp q).1
        have hpi : ps[i]? = some ps[i] := List.getElem?_eq_getElem hi
        obtain ⟨p1, p2⟩ := K.pvis i _ hpi
        have : y = ps[i] := K.slots y _ i hv p1
        subst this
        have ru3 := RV.mono E (List.prefix_refl _) _ _ ru
        rcases p2 with k | k
        · refine .inl ⟨(kof _).trans k, m, u, eL, ?_, ru3⟩
          rw [← hm]
          exact L2.bindL_get K.pnd hpi hu ((kof _).trans k)
        · obtain ⟨c, hc⟩ := L2.cell_has (sc := scope) (n := s.heap.objs.size + 1) (x := ps[i]) (by rw [hn]; exact k)
          refine .inr ⟨.inl ((kof _).trans k), c, u, hc, ?_, ru3⟩
          rw [ec _ c (by rw [← hcs]; exact hc), ← hcm]
          rw [L2.bindC_get K.pnd hpi hu (by rw [kof]; rw [k]; decide)]
    · have hc : (cellsFrom (s.heap.objs.size + 1) scope.names []).lookup y = some c := hc
      rw [hcs] at hc
      exact S.tr c mem (fresh c (Nat.le_of_lt (above y c hc)))
    · cases q : T b with
      | none => exact absurd q (S.tr b mb)
      | some g => exact (over b g q).1
/-! ### a def ends -/
theorem Sim.less {G : Glo} {bs bs' : List Nat} (S : Sim G T φ bs' h) (hb : ∀ b ∈ bs, b ∈ bs') : Sim G T φ bs h := ⟨S.len, S.nd, S.tr, S.nf, fun b m => S.bl b (hb b m), S.ob, fun b m => S.low b (hb b m)⟩
theorem Good.ret {X' : Ctx} {T3 : GT} (g : Good X' X'.O T3 φ T1 φ1 h1 s1) (hG : X'.G = X.G) (hst : ∀ e ∈ X.stk, e ∈ X'.stk) (hb : ∀ b ∈ X.bs, b ∈ X'.bs) (over : ∀ b u, T b = some u → T3 b = some u ∧ ¬ X'.O b) : Good X NoO T φ T1 φ1 h1 s1 := by
  have I := g.inv
  have S := g.sim
  rw [hG] at I S
  refine ⟨⟨I.g, I.os, I.bare, I.base, I.ok, fun e m => I.fr e (hst e m), I.tabs⟩, ⟨fun a o e => g.ext.lock a o (over a _ e).1, fun a o e => g.ext.pin a o (over a _ e).1, fun a c d e => g.ext.exn a c d (over a _ e).1, fun a m _ e => g.ext.frame a m (over a _ e).2 (over a _ e).1, fun a u _ e => g.ext.cell a u (over a _ e).2 (over a _ e).1, fun a m e => g.ext.frame' a m (over a _ e).1, fun a u e => g.ext.cell' a u (over a _ e).1, fun a e => ?_⟩, g.pre, fun a m => (g.new a m).imp id fun z => ?_, S.less hb⟩
  · cases q : T a with
    | none => exact absurd q e
    | some u => exact g.ext.sm a (by rw [(over a u q).1]; simp)
  · cases q : T a with
    | none => rfl
    | some u => rw [(over a u q).1] at z; cases z
theorem freeze_ok {n : Nat} {v w : Val} {u : Value} (S : Sim X.G T φ X.bs h) (hn : n = h.length) (g : Good X NoO T φ T1 φ1 h1 s1) (S1 : Sim X.G T1 φ1 (n :: X.bs) h1) (r : RV X.G T1 φ1 v u) (e : freeze n h1 v = some w) : QV X T φ (.ok w (h1.take n)) u s1 := by
  have hφ : φ.length = n := by rw [hn]; exact S.len
  have hpre := g.pre
  have htake : φ1.take n = φ := by
    obtain ⟨t, ht⟩ := hpre
    rw [← ht, ← hφ, List.take_left']
    rfl
  have hnd := S1.nd
  have low : ∀ (i : Nat) (a : Addr), φ1[i]? = some a → i < n → a ∉ φ1.drop n := fun i a hi hlt m => by
    obtain ⟨j, hj⟩ := List.mem_iff_getElem?.mp m
    rw [List.getElem?_drop] at hj
    have := nodup_ix hnd hi hj
    omega
  have inφ : ∀ a ∈ φ, a ∉ φ1.drop n := fun a m => by
    obtain ⟨i, hi⟩ := List.mem_iff_getElem?.mp m
    exact low i a (pref_at hpre hi) (by have := (List.getElem?_eq_some_iff.mp hi).1; omega)
  have hl : ∀ (i : Nat) (a : Addr), φ1[i]? = some a → n ≤ i → a ∈ φ1.drop n := fun i a hi hle => by
    refine List.mem_iff_getElem?.mpr ⟨i - n, ?_⟩
    rw [List.getElem?_drop]
    have : n + (i - n) = i := by omega
    rw [this]; exact hi
  unfold freeze at e
  split at e
  · rename_i w' e1
    split at e
    · rename_i elow
      cases e
      have rw1 : RV X.G (T1.still (φ1.drop n) s1.heap) φ1 w u := frz_rv (frz_at g.inv S1 hl 6) v u w e1 r
      have rw2 := RV.low w u elow rw1
      rw [htake] at rw2
      have kp : Keep T1 (T1.still (φ1.drop n) s1.heap) := still_keep
      have keepT : ∀ a u, T a = some u → T1.still (φ1.drop n) s1.heap a = T1 a := fun a u e => still_out fun m => by
        have m1 : a ∈ φ1 := List.mem_of_mem_drop m
        rcases g.new a m1 with z | z
        · exact inφ a z m
        · rw [e] at z; cases z
      refine ⟨w, _, _, φ, rfl, ⟨⟨g.inv.g, g.inv.os, g.inv.bare, fun b o e => kp.lock _ _ (g.inv.base b o e), fun a gh e => ?_, fun e m => ?_, fun t m => ?_⟩, ⟨fun a o e => ?_, fun a o e => ?_, fun a c d e => ?_, fun a m n e => ?_, fun a u n e => ?_, fun a m e => ?_, fun a u e => ?_, fun a e => ?_⟩, List.prefix_refl _, fun a m => .inl m, ?_⟩, rw2⟩
      · cases q : T1 a with
        | none => rw [still_none q] at e; cases e
        | some g0 =>
          by_cases hlst : ∃ us, g0 = .lst us
          · obtain ⟨us, rfl⟩ := hlst
            by_cases hm : a ∈ φ1.drop n
            · obtain ⟨z, k, h3⟩ := g.inv.ok _ _ q
              rw [still_in hm q h3] at e; cases e
              exact h3
            · rw [still_out hm, q] at e; cases e
              exact g.inv.ok _ _ q
          · rw [still_eq q (fun us z => hlst ⟨us, z⟩)] at e; cases e
            exact g.inv.ok _ _ q
      · obtain ⟨h1, L, m', h2, h3⟩ := g.inv.fr e m
        exact ⟨h1, L, m', h2, still_eq h3 (fun _ z => by cases z)⟩
      · have t1 := g.inv.tabs t m
        obtain ⟨ps, h1, _⟩ := id t1
        exact t1.kept kp (by rw [still_eq h1 (fun _ z => by cases z), h1])
      · rw [keepT a _ e]; exact g.ext.lock a o e
      · rw [keepT a _ e]; exact g.ext.pin a o e
      · rw [keepT a _ e]; exact g.ext.exn a c d e
      · rw [keepT a _ e]; exact g.ext.frame a m n e
      · rw [keepT a _ e]; exact g.ext.cell a u n e
      · rw [keepT a _ e]; exact g.ext.frame' a m e
      · rw [keepT a _ e]; exact g.ext.cell' a u e
      · cases q : T a with
        | none => exact absurd q e
        | some u => rw [keepT a u q]; exact g.ext.sm a e
      · have hz : n ≤ h1.length := S1.bl n List.mem_cons_self
        have atT : ∀ {i : Nat} {o : Ob}, Hp.at (h1.take n) i = some o → i < n ∧ h1.at i = some o := fun {i o} e => by
          have hlt := Hp.at_lt e
          rw [List.length_take] at hlt
          have hi : i < n := by omega
          refine ⟨hi, ?_⟩
          unfold Hp.at at e ⊢
          rw [List.getElem?_take_of_lt hi] at e; exact e
        have stay : ∀ a ∈ φ, T1.still (φ1.drop n) s1.heap a = T1 a := fun a m => still_out (inφ a m)
        have at1 : ∀ {i : Nat} {a : Addr}, φ[i]? = some a → φ1[i]? = some a := fun {i a} e => pref_at hpre e
        refine ⟨by rw [List.length_take, hφ]; omega, S.nd, fun a m => by rw [stay a m]; exact S1.tr a (hpre.subset m), fun a m => by rw [stay a m]; exact S1.nf a (hpre.subset m), fun b m => by rw [List.length_take]; have := S.bl b m; omega, fun i a o h1' h2' => ?_, fun b hb i a o hi h1' h2' => ?_⟩
        · obtain ⟨hi, e2⟩ := atT h2'
          have := S1.low n List.mem_cons_self i a o hi (at1 h1') e2
          rw [htake] at this
          exact this.kept kp (List.prefix_refl _) (stay a (List.mem_of_getElem? h1'))
        · obtain ⟨_, e2⟩ := atT h2'
          have := S1.low b (List.mem_cons_of_mem _ hb) i a o hi (at1 h1') e2
          have hbn : b ≤ n := by have := S.bl b hb; omega
          have e3 : φ1.take b = φ.take b := by rw [← htake, List.take_take]; congr 1; omega
          rw [e3] at this
          exact this.kept kp (List.prefix_refl _) (stay a (List.mem_of_getElem? h1'))
    · cases e
  · cases e
theorem FlOk.val {fl : Fl} {f : Flow} (o : FlOk X T φ fl f) : RV X.G T φ fl.val (match (generalizing := false) f with | .ret v => v | _ => .none) := by
  cases fl with
  | nx ρ' => cases f <;> first | exact o.elim | exact rv_none
  | ct ρ' => cases f <;> first | exact o.elim | exact rv_none
  | rt v => cases f <;> first | exact o.elim | exact o
/-- THE RULE OF CALLS -/
theorem run_ok {P : Prog} {W : Nat} {G : Glo} (hD : ∀ f d, P.defs f = some d → DefFacts G P.gv W f d) : ∀ (n : Nat) (X : Ctx) (base : Nat), X.G = G → X.A.frames = some X.stk → L2.Room n X.A → (∀ b ∈ X.bs, b ≤ base) → ∀ f, CodeAt X f (run P W n base f)
  | 0, X, base, hG, hfr, hr, hb, f => fun a ha pos kw us vs T φ h s F I S r hn hF _ => absurd (by simp only [run]) hn
  | n + 1, X, base, hG, hfr, hr, hb, f => by
    intro a ha pos kw us vs T φ h s F I S r hn hF ⟨oc, od, fd, osl, lk, hbind, hlen⟩
    cases hd : P.defs f with
    | none => exact absurd (by simp only [run, hd]) hn
    | some d =>
      obtain ⟨a', oc', od', osl', name, qual, params, body, scope, dV, kV, doc, pm, an, cdv, ct, nm, hfa, hlk, hcd, hk, hco, hge, hnm, K, hbody⟩ := (hD f d hd).ex
      subst hG
      rw [hfa] at ha; cases ha
      rw [hlk] at lk; cases lk
      have hps : vs.length = (params.args.map (·.arg)).length := by rw [r.length, hlen, List.length_map]
      have hnp : vs.length = d.np := by rw [hps]; exact K.plen
      have e0 : run P W (n + 1) base f vs h = leave d.pure h.length (exs ⟨run P W n (if d.pure then h.length else base), runV P W n (if d.pure then h.length else base), P.gv, (if d.pure then h.length else base), W⟩ (slots0 d.ns vs) h d.body) := by
        simp only [run, hd, if_pos hnp, K.cs, mkCells]
      rw [e0] at hn hF ⊢
      have KX := I.kIn
      have hkind : ∀ y ∈ (params.args.map (·.arg)).zip us, scope.names.lookup y.1 = some .local ∨ (scope.names.lookup y.1 = some .cell ∧ ((cellsFrom (s.heap.objs.size + 1) scope.names []).lookup y.1).isSome = true) := fun ⟨x, v⟩ hy => by
        obtain ⟨k, hk'⟩ := List.mem_iff_getElem?.mp (List.of_mem_zip hy).1
        rw [hnm]
        rcases (K.pvis k x hk').2 with q | q
        · exact .inl q
        · exact .inr ⟨q, by rw [← hnm]; exact PySem.W.cellsFrom_some _ _ _ (.inl (by rw [hnm]; exact q))⟩
      refine codeAny_call_function hr.depth (KX _ _ hlk) rfl hco hge rfl (PySem.W.codeRec_of KX hcd) (hbind _ _ _ _ ?_)
      refine wpAny_newFunctionEnv_cells hk hkind fun env he s1 x => ?_
      subst he
      refine ⟨I.nolimit.keeps x.toInCall.keep, codeAny_func ?_⟩
      -- inside
      have hbl := S.bl
      have Sb : Sim X.G T φ (if d.pure then h.length :: X.bs else X.bs) h := by
        cases d.pure with
        | false => exact S
        | true => exact ⟨S.len, S.nd, S.tr, S.nf, fun b m => by
            rcases List.mem_cons.mp m with z | z
            · subst z; exact Nat.le_refl _
            · exact S.bl b z, S.ob, fun b m i c o hi h1 h2 => by
            rcases List.mem_cons.mp m with z | z
            · subst z
              have := S.ob i c o h1 h2
              rw [← S.len, List.take_length]; exact this
            · exact S.low b z i c o hi h1 h2⟩
      have hbs : ∀ b ∈ (if d.pure then h.length :: X.bs else X.bs), b ≤ (if d.pure then h.length else base) := by
        cases d.pure with
        | false => exact hb
        | true =>
          intro b m
          rcases List.mem_cons.mp m with z | z
          · subst z; exact Nat.le_refl _
          · exact S.bl b z
      generalize hB : (if d.pure then h.length else base) = B at *
      generalize hbs' : (if d.pure then h.length :: X.bs else X.bs) = bs' at *
      obtain ⟨ok', T3, S3, over⟩ := fn_start (X := X) (C' := ⟨run P W n B, runV P W n B, P.gv, B, W⟩) (cdv := cdv) (qual := qual) (a := a) I Sb hfr ((hr.deeper _).mono (Nat.zero_le _)) K hnm hk hbs r hps x
      have calls : CallsOk (X.fn ⟨run P W n B, runV P W n B, P.gv, B, W⟩ nm qual scope a cdv bs' s.heap.objs.size) := fun f' => run_ok hD n (X.fn ⟨run P W n B, runV P W n B, P.gv, B, W⟩ nm qual scope a cdv bs' s.heap.objs.size) B rfl (Around.frames_deeper hfr) (hr.deeper _) hbs f' |>.call
      have hbody' := hbody (X.fn ⟨run P W n B, runV P W n B, P.gv, B, W⟩ nm qual scope a cdv bs' s.heap.objs.size) rfl ok' rfl rfl rfl calls
      have hne : exs ⟨run P W n B, runV P W n B, P.gv, B, W⟩ (slots0 d.ns vs) h d.body ≠ .no := fun z => hn (by rw [z]; rfl)
      refine wpAny_mono (hbody' T3 φ (slots0 d.ns vs) h s1 _ S3 hne PassesOwn.leaving (fun e s' q => ?_)) (fun fl s' ⟨flm, h', T', φ', e1, g, o⟩ => ?_) fun _ _ z => z
      · obtain ⟨c, fs, h', ee, _⟩ := q
        have ee : exs ⟨run P W n B, runV P W n B, P.gv, B, W⟩ (slots0 d.ns vs) h d.body = .err c fs h' := ee
        rw [ee] at hn; exact absurd rfl hn
      · have e1 : exs ⟨run P W n B, runV P W n B, P.gv, B, W⟩ (slots0 d.ns vs) h d.body = .ok flm h' := e1
        rw [e1] at hn ⊢
        have hbsub : ∀ b ∈ X.bs, b ∈ bs' := by
          rw [← hbs']
          cases d.pure with
          | false => exact fun b m => m
          | true => exact fun b m => List.mem_cons_of_mem _ m
        have gr : Good X NoO T φ T' φ' h' s' := g.ret rfl (fun e m => List.mem_cons_of_mem _ m) hbsub over
        have rv := FlOk.val o
        show QV X T φ _ _ s'
        have e2 : leave d.pure h.length (R.ok flm h') = if d.pure then (match freeze h.length h' flm.val with | some w => .ok w (h'.take h.length) | Option.none => .no) else .ok flm.val h' := rfl
        rw [e2] at hn ⊢
        generalize flm.val = v at *
        cases hp : d.pure with
        | false =>
          simp only [Bool.false_eq_true, if_false]
          exact ⟨v, h', T', φ', rfl, gr, rv⟩
        | true =>
          rw [hp] at hn
          simp only [if_true] at hn ⊢
          cases q : freeze h.length h' v with
          | none => rw [q] at hn; exact absurd rfl hn
          | some w =>
            simp only
            refine freeze_ok S rfl gr ?_ rv q
            have := g.sim
            have e3 : (X.fn ⟨run P W n B, runV P W n B, P.gv, B, W⟩ nm qual scope a cdv bs' s.heap.objs.size).bs = h.length :: X.bs := by
              show bs' = _
              rw [← hbs', hp]; rfl
            rw [e3] at this
            exact this
end
end Mp
/-! W20: call expressions. -/
namespace Mp
open PySem PySem.Spec PyProof.Rows
structure PlainPs (fd : FuncData) : Prop where
  po : fd.params.posonlyargs = []
  ko : fd.params.kwonlyargs = []
  va : fd.params.vararg = none
  kw : fd.params.kwarg = none
  df : fd.defaults = .none
theorem forIn_steps {α β : Type} {f : α → β → Sem (ForInStep β)} {g : β → α → β} {P : β → List α → Prop} (hs : ∀ x r b, P b (x :: r) → f x b = pure (.yield (g b x)) ∧ P (g b x) r) : ∀ (l : List α) (b : β), P b l → forIn l b f = (pure (l.foldl g b) : Sem β)
  | [], b, _ => by simp
  | x :: r, b, h => by
    obtain ⟨h1, h2⟩ := hs x r b h
    rw [List.forIn_cons, h1]
    show (do let y ← (pure (ForInStep.yield (g b x)) : Sem (ForInStep β)); match y with | .done b => pure b | .yield b => forIn r b f) = _
    have := forIn_steps hs r (g b x) h2
    simp only [pure_bind, List.foldl_cons]
    exact this
theorem foldl_snoc {α : Type} {kw : List (PySem.Str × Value)} : ∀ (b : List (PySem.Str × Value)) (e : α), kw.foldl (fun (b : List (PySem.Str × Value) × α) x => (b.1 ++ [(x.1, x.2)], b.2)) (b, e) = (b ++ kw, e) := by
  induction kw with
  | nil => intro b e; simp
  | cons x r ih => intro b e; rw [List.foldl_cons, ih]; simp
theorem lookup_app {l r : List (PySem.Str × Value)} {k : PySem.Str} (h : l.lookup k = none) (h2 : r.lookup k = none) : (l ++ r).lookup k = none := by
  induction l with
  | nil => exact h2
  | cons x l ih =>
    rw [List.lookup_cons] at h
    rw [List.cons_append, List.lookup_cons]
    by_cases hx : (k == x.1) = true
    · simp only [hx] at h; cases h
    · have hx : (k == x.1) = false := by simpa using hx
      simp only [hx] at h ⊢
      exact ih h
theorem bind_plain {fd : FuncData} (h : PlainPs fd) {us : List Value} {kw : List (PySem.Str × Value)} (hl : us.length ≤ fd.params.args.length) (hk : ∀ y ∈ kw, (fd.params.args.map (·.arg)).contains y.1 = true ∧ ((fd.params.args.map (·.arg)).zip us).lookup y.1 = none) (hnd : (kw.map (·.1)).Nodup)
    (hall : ∀ n ∈ fd.params.args.map (·.arg), (((fd.params.args.map (·.arg)).zip us ++ kw).lookup n).isSome = true) :
    bindArgs fd ⟨us, kw⟩ = pure ((fd.params.args.map (·.arg)).filterMap fun n => (((fd.params.args.map (·.arg)).zip us ++ kw).lookup n).map (n, ·)) := by
  unfold bindArgs
  simp only [h.po, h.ko, h.va, h.kw, h.df, List.map_nil, List.nil_append, List.append_nil]
  generalize hps : fd.params.args.map (·.arg) = ps at *
  have hpl : ps.length = fd.params.args.length := by rw [← hps, List.length_map]
  rw [forIn_steps (g := fun (b : List (PySem.Str × Value) × List (PySem.Str × Value)) x => (b.1 ++ [(x.1, x.2)], b.2)) (P := fun b l => (∀ y ∈ l, ps.contains y.1 = true ∧ b.1.lookup y.1 = none) ∧ (l.map (·.1)).Nodup) (fun x r b hp => ?_) kw _ ⟨hk, hnd⟩]
  · rw [foldl_snoc]
    have e1 : (seqItems? .none : Sem (Option (Array Value))) = pure none := rfl
    simp only [pure_bind, e1]
    have e2 : (decide (us.length > ps.length) && (none : Option Arg).isNone) = false := by
      rw [decide_eq_false (by omega)]; rfl
    have e3 : ((ps.take (ps.length - (([] : List Value).drop (([] : List Value).length - ps.length)).length)).filter fun n => ((ps.zip us ++ kw).lookup n).isNone) = [] := by
      rw [List.filter_eq_nil_iff]
      intro n hn
      have hn : n ∈ ps := List.mem_of_mem_take hn
      have := hall n hn
      cases q : (ps.zip us ++ kw).lookup n with
      | none => rw [q] at this; cases this
      | some v => simp
    simp [e2, e3]
    rw [if_neg (by omega)]
    have e4 : ((ps.take (ps.length - (([] : List Value).drop (0 - ps.length)).length)).filter fun n => ((ps.zip us ++ kw).lookup n).isNone) = [] := e3
    rw [if_neg (by rw [e4]; simp)]
  · obtain ⟨h1, h2⟩ := hp
    have hx := h1 x List.mem_cons_self
    refine ⟨?_, fun y hy => ?_, (List.nodup_cons.mp h2).2⟩
    · rw [hx.1, hx.2]; rfl
    · obtain ⟨a, b'⟩ := h1 y (List.mem_cons_of_mem _ hy)
      refine ⟨a, lookup_app b' ?_⟩
      have hne : y.1 ≠ x.1 := fun z => (List.nodup_cons.mp h2).1 (List.mem_map.mpr ⟨y, hy, z⟩)
      rw [List.lookup_cons]
      have : (y.1 == x.1) = false := by simpa using hne
      simp only [this]; rfl
theorem filterMap_zip {f : PySem.Str → Option Value} : ∀ {ps : List PySem.Str} {us : List Value}, ps.map f = us.map some → (ps.filterMap fun n => (f n).map (n, ·)) = ps.zip us
  | [], [], _ => rfl
  | [], _ :: _, h => by simp at h
  | _ :: _, [], h => by simp at h
  | p :: ps, u :: us, h => by
    simp only [List.map_cons, List.cons.injEq] at h
    rw [List.filterMap_cons_some (b := (p, u)) (by rw [h.1]; rfl), filterMap_zip h.2, List.zip_cons_cons]
theorem zip_look {vals : List Value} : ∀ {keys : List PySem.Str} {j : Nat} {k : PySem.Str} {vals : List Value} {v : Value}, keys.Nodup → keys[j]? = some k → vals[j]? = some v → (keys.zip vals).lookup k = some v
  | [], _, _, _, _, _, h, _ => by simp at h
  | _ :: _, _, _, [], _, _, _, h => by simp at h
  | a :: keys, 0, k, b :: vals, v, _, h1, h2 => by
    simp at h1 h2; subst h1; subst h2
    rw [List.zip_cons_cons, List.lookup_cons]; simp
  | a :: keys, j + 1, k, b :: vals, v, nd, h1, h2 => by
    have hk : keys[j]? = some k := by simpa using h1
    have hne : (k == a) = false := by
      have : k ≠ a := fun z => (List.nodup_cons.mp nd).1 (by rw [← z]; exact List.mem_of_getElem? hk)
      simpa using this
    rw [List.zip_cons_cons, List.lookup_cons]
    simp only [hne]
    exact zip_look (vals := vals) (List.nodup_cons.mp nd).2 hk (by simpa using h2)
def nodupB : List PySem.Str → Bool
  | [] => true
  | x :: r => !r.contains x && nodupB r
theorem nodupB_ok : ∀ {l : List PySem.Str}, nodupB l = true → l.Nodup
  | [], _ => .nil
  | x :: r, h => by
    simp only [nodupB, Bool.and_eq_true, Bool.not_eq_true'] at h
    exact List.nodup_cons.mpr ⟨fun m => by
      have : r.contains x = true := by simpa using m
      rw [this] at h; exact absurd h.1 (by simp), nodupB_ok h.2⟩
def pmOk (ps : List PySem.Str) (np : Nat) (ks : List PySem.Str) (pm : List Nat) : Bool :=
  decide (np ≤ ps.length) && (pm.map (fun k => (ps.take np ++ ks)[k]?) == ps.map some) && nodupB (ps.take np ++ ks) && ks.all ps.contains
/-- the def behind a name -/
structure FnAt (G : Glo) (f : Nat) (x : PySem.Str) (ps : List PySem.Str) : Prop where
  ex : ∃ a oc od fd osl, G.fnA f = some a ∧ G.mg x = some (.ref a) ∧ G.K.lookup a = some ⟨oc, od, .func fd, osl⟩ ∧ PlainPs fd ∧ PySem.W.keepIn G.K (.ref a) = true ∧ fd.params.args.map (·.arg) = ps
section
variable {X : Ctx} {T T1 T2 : GT} {φ φ1 φ2 : List Addr} {ρ : Mp.Env} {h h1 h2 : Hp} {s s1 s2 : Shared}
theorem RVs.pick1 {G : Glo} {vs : List Val} {us : List Value} (r : RVs G T φ vs us) : ∀ {pm : List Nat}, (∀ k ∈ pm, k < us.length) → RVs G T φ (pm.map fun k => vs.getD k .none) (pm.map fun k => us.getD k .none)
  | [], _ => .nil
  | k :: pm, h => by
    have hk := h k List.mem_cons_self
    have hv : vs[k]? = some (vs[k]'(by rw [r.length]; exact hk)) := List.getElem?_eq_getElem _
    obtain ⟨u, hu, ru⟩ := r.at hv
    refine .cons ?_ (r.pick1 fun j m => h j (List.mem_cons_of_mem _ m))
    show RV G T φ (vs.getD k .none) (us.getD k .none)
    rw [List.getD_eq_getElem?_getD, List.getD_eq_getElem?_getD, hv, hu]; exact ru
theorem call_go {f : Nat} {x : PySem.Str} {ps ks : List PySem.Str} {pm : List Nat} {us ws : List Value} {vs : List Val} {F : Value → Shared → Prop} {a : Addr} (hc : CallAt X f (X.C.call f)) (ha : X.G.fnA f = some a) {oc : Value} {od : Option Addr} {fd : FuncData} {osl : Array (Option Value)} (lk : X.G.K.lookup a = some ⟨oc, od, .func fd, osl⟩) (hp : PlainPs fd)
    (hps : fd.params.args.map (·.arg) = ps) (hpm : pmOk ps us.length ks pm = true) (hks : ks.length = ws.length) (I : Inv X.G T X.stk s) (S : Sim X.G T φ X.bs h) (r : RVs X.G T φ vs (us ++ ws)) (hn : X.C.call f (pm.map fun k => vs.getD k .none) h ≠ .no)
    (hF : ∀ x s', QX X T φ (X.C.call f (pm.map fun k => vs.getD k .none) h) x s' → F x s') : wpAny X.M X.A (call (.ref a) us (ks.zip ws)) (QV X T φ (X.C.call f (pm.map fun k => vs.getD k .none) h)) F s := by
  simp only [pmOk, Bool.and_eq_true, decide_eq_true_eq] at hpm
  obtain ⟨⟨⟨p1, p2⟩, p3⟩, p4⟩ := hpm
  have hpl : ps.length = fd.params.args.length := by rw [← hps, List.length_map]
  have p2 : pm.map (fun k => (ps.take us.length ++ ks)[k]?) = ps.map some := by simpa using p2
  have nd := nodupB_ok p3
  have hzip : ps.zip us ++ ks.zip ws = (ps.take us.length ++ ks).zip (us ++ ws) := by
    rw [List.zip_append (by rw [List.length_take]; omega)]
    congr 1
    have zt : ∀ (a : List PySem.Str) (b : List Value), a.zip b = (a.take b.length).zip b := by
      intro a
      induction a with
      | nil => intro b; simp
      | cons x a ih => intro b; cases b with
        | nil => simp
        | cons y b => simp only [List.zip_cons_cons, List.length_cons, List.take_succ_cons]; rw [ih]
    exact zt ps us
  have hkl : (ps.take us.length ++ ks).length = (us ++ ws).length := by simp [hks]; omega
  have hlt : ∀ k ∈ pm, k < (us ++ ws).length := fun k m => by
    have : (ps.take us.length ++ ks)[k]? ∈ ps.map some := by rw [← p2]; exact List.mem_map.mpr ⟨k, m, rfl⟩
    obtain ⟨y, _, e⟩ := List.mem_map.mp this
    have := (List.getElem?_eq_some_iff.mp e.symm).1
    omega
  have look : ps.map (fun n => ((ps.take us.length ++ ks).zip (us ++ ws)).lookup n) = (pm.map fun k => (us ++ ws).getD k .none).map some := by
    have h1 : ∀ n, ((ps.take us.length ++ ks).zip (us ++ ws)).lookup n = (fun o : Option PySem.Str => o.bind fun n => ((ps.take us.length ++ ks).zip (us ++ ws)).lookup n) (some n) := fun n => rfl
    have h2 : ps.map (fun n => ((ps.take us.length ++ ks).zip (us ++ ws)).lookup n) = (ps.map some).map (fun o : Option PySem.Str => o.bind fun n => ((ps.take us.length ++ ks).zip (us ++ ws)).lookup n) := by rw [List.map_map]; rfl
    rw [h2, ← p2, List.map_map, List.map_map]
    refine List.map_congr_left fun k m => ?_
    have hk := hlt k m
    have e1 : (ps.take us.length ++ ks)[k]? = some ((ps.take us.length ++ ks)[k]'(by omega)) := List.getElem?_eq_getElem _
    have e2 : (us ++ ws)[k]? = some ((us ++ ws)[k]'hk) := List.getElem?_eq_getElem _
    show ((ps.take us.length ++ ks)[k]?).bind _ = some ((us ++ ws).getD k .none)
    rw [e1, List.getD_eq_getElem?_getD, e2]
    exact zip_look (vals := us ++ ws) nd e1 e2
  refine hc a ha us (ks.zip ws) (pm.map fun k => (us ++ ws).getD k .none) _ T φ h s F I S (r.pick1 hlt) hn hF ⟨oc, od, fd, osl, lk, ?_, ?_⟩
  · intro M A E Q hq
    have hb := bind_plain (us := us) (kw := ks.zip ws) hp (by rw [← hpl]; exact p1) (fun y hy => ?_) ?_ ?_
    · rw [hb]
      rw [hps, hzip, filterMap_zip look]
      rw [hps] at hq
      exact wpAny_pure hq
    · rw [hps]
      obtain ⟨j, hj⟩ := List.mem_iff_getElem?.mp hy
      have hyk : y.1 ∈ ks := (List.of_mem_zip (show (y.1, y.2) ∈ ks.zip ws from hy)).1
      refine ⟨List.all_eq_true.mp p4 _ hyk, ?_⟩
      cases q : (ps.zip us).lookup y.1 with
      | none => rfl
      | some v =>
        exfalso
        have m1 : (y.1, v) ∈ ps.zip us := PySem.mem_of_lookup q
        obtain ⟨i, hi⟩ := List.mem_iff_getElem?.mp m1
        have h3 := List.getElem?_zip_eq_some.mp hi
        have hiu : i < us.length := (List.getElem?_eq_some_iff.mp h3.2).1
        have m2 : y.1 ∈ ps.take us.length := List.mem_iff_getElem?.mpr ⟨i, by rw [List.getElem?_take_of_lt hiu]; exact h3.1⟩
        exact (List.nodup_append.mp nd).2.2 _ m2 _ hyk rfl
    · have : (ks.zip ws).map (·.1) = ks := by rw [List.map_fst_zip (by omega)]
      rw [this]
      exact (List.nodup_append.mp nd).2.1
    · intro n hnm
      rw [hps] at hnm ⊢
      rw [hzip]
      have : ((ps.take us.length ++ ks).zip (us ++ ws)).lookup n ∈ ps.map (fun n => ((ps.take us.length ++ ks).zip (us ++ ws)).lookup n) := List.mem_map.mpr ⟨n, hnm, rfl⟩
      rw [look] at this
      obtain ⟨v, _, e⟩ := List.mem_map.mp this
      rw [← e]; rfl
  · have := congrArg List.length p2
    rw [List.length_map, List.length_map] at this
    rw [List.length_map, this, ← hps, List.length_map]
/-! ### keywords -/
def SKs (X : Ctx) (es : Es) (kws : List Keyword) : Prop := ∀ (pos : Pos) (T : GT) (φ : List Addr) (ρ : Mp.Env) (h : Hp) (s : Shared) (F : Value → Shared → Prop), St X T φ ρ h s → evs X.C ρ h es ≠ .no →
  (∀ x s', QX X T φ (evs X.C ρ h es) x s' → F x s') → wpAny X.M X.A (evalAll ((backToKw pos (keywordEach kws X.env)).map (·.2))) (QVs X T φ (evs X.C ρ h es)) F s
theorem sks_nil : SKs X .nil [] := fun pos T φ ρ h s F S _ _ => by
  simp only [evs]; exact wpAny_evalAll_nil ⟨[], h, T, φ, rfl, .refl S.inv S.sim, RVs.nil⟩
theorem sks_cons {e : E} {es : Es} {n : Option PySem.Str} {e' : Expr} {kpos : Pos} {kws : List Keyword} (he : SE X e e') (hs : SKs X es kws) : SKs X (.cons e es) (⟨n, e', kpos⟩ :: kws) := by
  intro pos T φ ρ h s F S hn hF
  simp only [evs] at hn hF ⊢
  show wpAny _ _ (evalAll ((do let v ← eval e' X.env; standAt pos; pure v) :: (backToKw pos (keywordEach kws X.env)).map (·.2))) _ _ s
  refine wpAny_evalAll_cons (wpAny_bind (wpAny_mono (he T φ ρ h s F S (R.bind_no' hn) (QX.bind hF)) (fun u s1 ⟨v, h1, T1, φ1, e1, g1, r1⟩ => wpAny_bind (wpAny_standAt (wpAny_pure ?_))) fun _ _ z => z))
  have hn2 := R.bind_at hn e1
  have hF2 := QX.next hF e1 g1
  refine wpAny_mono (hs pos T1 φ1 ρ h1 s1 F (g1.st S) (R.bind_no' hn2) (QX.bind hF2)) (fun us s2 ⟨vs, h2, T2, φ2, e2, g2, r2⟩ => ?_) fun _ _ z => z
  exact ⟨v :: vs, h2, T2, φ2, by rw [e1]; show (evs _ _ _ _).bind _ = _; rw [e2]; rfl, g1.trans g2, RVs.cons (RV.mono g2.ext g2.pre _ _ r1) r2⟩
def kwNames : List Keyword → List PySem.Str
  | [] => []
  | ⟨some n, _, _⟩ :: r => n :: kwNames r
  | ⟨none, _, _⟩ :: r => kwNames r
def kwAll : List Keyword → Bool
  | [] => true
  | ⟨some _, _, _⟩ :: r => kwAll r
  | ⟨none, _, _⟩ :: _ => false
theorem kw_facts {pos : Pos} {env : PySem.Env} : ∀ {kws : List Keyword}, kwAll kws = true → (backToKw pos (keywordEach kws env)).all (·.1.isSome) = true ∧ (backToKw pos (keywordEach kws env)).filterMap (·.1) = kwNames kws ∧ (backToKw pos (keywordEach kws env)).any (·.1.isNone) = false ∧ (kwNames kws).length = kws.length
  | [], _ => ⟨rfl, rfl, rfl, rfl⟩
  | ⟨some n, e, p⟩ :: r, h => by
    obtain ⟨a, b, c, d⟩ := kw_facts (pos := pos) (env := env) (kws := r) h
    refine ⟨?_, ?_, ?_, by simp [kwNames, d]⟩
    · show (true && (backToKw pos (keywordEach r env)).all (·.1.isSome)) = true
      rw [a]; rfl
    · show n :: (backToKw pos (keywordEach r env)).filterMap (·.1) = _
      rw [b]; rfl
    · show (false || (backToKw pos (keywordEach r env)).any (·.1.isNone)) = false
      rw [c]; rfl
  | ⟨none, _, _⟩ :: _, h => by simp [kwAll] at h
def SArgs (X : Ctx) (es : Es) (args : List Expr) (kws : List Keyword) : Prop := ∃ e1 e2, es = e1.app e2 ∧ SEs X e1 args ∧ SKs X e2 kws ∧ e1.len = args.length ∧ e2.len = kws.length
theorem se_call {f : Nat} {x : PySem.Str} {ps : List PySem.Str} {pm : List Nat} {es : Es} {args : List Expr} {kws : List Keyword} {p pos : Pos} (ok : X.Ok) (hc : CallsOk X) (hk : X.env.kindOf x = some .globalImplicit) (hf : FnAt X.G f x ps) (hd : (x == ("__debug__" : PySem.Str)) = false)
    (ha : SArgs X es args kws) (hs : args.all noStar = true) (hkw : kwAll kws = true) (hpm : pmOk ps args.length (kwNames kws) pm = true) : SE X (.call f pm es) (.Call (.Name x p) args kws pos) := by
  intro T φ ρ h s F S hn hF
  obtain ⟨a, oc, od, fd, osl, h1, h2, h3, h4, h5, h6⟩ := hf.ex
  obtain ⟨e1, e2, rfl, hA, hK, l1, l2⟩ := ha
  have e0 : ev X.C ρ h (.call f pm (e1.app e2)) = (evs X.C ρ h e1).bind fun vs h => (evs X.C ρ h e2).bind fun ws h => X.C.call f (pm.map fun k => (vs ++ ws).getD k .none) h := by
    simp only [ev, evs_app]
    cases evs X.C ρ h e1 with
    | no => rfl
    | err _ _ _ => rfl
    | ok vs k =>
      simp only [R.bind_ok]
      cases evs X.C ρ k e2 <;> rfl
  rw [e0] at hn hF ⊢
  obtain ⟨q1, q2, q3, q4⟩ := kw_facts (pos := pos) (env := X.env) hkw
  refine wpAny_Call_Name_kw (ld_glob ok S hk h2 hd ?_)
  -- behind the positional values
  have core : ∀ (us : List Value) (s1 : Shared) (vs : List Val) (k1 : Hp) (T1 : GT) (φ1 : List Addr), evs X.C ρ h e1 = .ok vs k1 → Good X NoO T φ T1 φ1 k1 s1 → RVs X.G T1 φ1 vs us → us.length = args.length →
      wpAny X.M X.A (evalAll ((backToKw pos (keywordEach kws X.env)).map (·.2))) (fun ks s₂ => X.G.K.In s₂.heap ∧ wpAny X.M X.A (call (.ref a) ([] ++ us) (((backToKw pos (keywordEach kws X.env)).filterMap (·.1)).zip ks)) (QV X T φ ((evs X.C ρ h e1).bind fun vs h => (evs X.C ρ h e2).bind fun ws h => X.C.call f (pm.map fun k => (vs ++ ws).getD k .none) h)) F s₂) F s1 := fun us s1 vs k1 T1 φ1 ee g1 r1 hl => by
    obtain ⟨hn, e3⟩ := R.bind_ne hn ee
    rw [e3] at hF ⊢
    refine wpAny_mono (hK pos T1 φ1 ρ k1 s1 F (g1.st S) (R.bind_no' hn) fun x s' q => QX.bind hF x s' (q.after g1)) (fun ws s2 ⟨zs, k2, T2, φ2, e4, g2, r2⟩ => ?_) fun _ _ z => z
    obtain ⟨hn, e5⟩ := R.bind_ne hn e4
    rw [e5] at hF ⊢
    refine ⟨g2.inv.kIn, ?_⟩
    rw [q2, List.nil_append]
    refine wpAny_mono (call_go (x := x) (hc f) h1 h3 h4 h6 (by rw [hl]; exact hpm) (by rw [q4, ← l2, ← evs_len e4]; exact r2.length) g2.inv g2.sim ((RVs.mono g2.ext g2.pre _ _ r1).append r2) hn fun x s' q => hF x s' (q.after (g1.trans g2))) (fun y s' q => QV.after (g1.trans g2) q) fun _ _ z => z
  cases args with
  | nil =>
    cases e1 with
    | cons _ _ => simp [Es.len] at l1
    | nil => exact PySem.W.callWith_KW0 (h₀ := X.G.base) S.inv.g.kin h5 q1 (core [] s [] h T φ (by simp only [evs]) (.refl S.inv S.sim) .nil rfl) (by rw [q3]; rfl)
  | cons e rest =>
    have hs2 : noStar e = true ∧ rest.all noStar = true := by simpa only [List.all_cons, Bool.and_eq_true] using hs
    have b1 := backTo_plain (pos := pos) (env := X.env) (es := e :: rest) hs
    refine PySem.W.callWith_KW (h₀ := X.G.base) S.inv.g.kin h5 q1 (wpAny_mono (hA pos T φ ρ h s F S (R.bind_no' hn) (QX.bind hF)) (fun us s1 ⟨vs, k1, T1, φ1, ee, g1, r1⟩ => ?_) fun _ _ z => z) (by rw [b1.1, q3]; rfl) (starEach_cons hs2.1)
    exact core us s1 vs k1 T1 φ1 ee g1 r1 (by rw [← r1.length, evs_len ee, l1])
end
end Mp
/-! W21: the check of a mini text against the program's text. -/
namespace Mp
open PySem PySem.Spec PyProof.Rows
structure Tb where
  fnT : Nat → Option (PySem.Str × List PySem.Str)
  glT : Nat → Option PySem.Str
def isGl (nm : Nm) (x : PySem.Str) : Bool := nm.kinds.lookup x == some .globalImplicit
def notDbg (x : PySem.Str) : Bool := !(x == "__debug__")
def binOk : Prim → Operator → Bool
  | .add _, .Add => true | .sub, .Sub => true | .mul _, .Mult => true | .fdiv, .FloorDiv => true | .mod, .Mod => true | .pow, .Pow => true
  | _, _ => false
def cmpOk : Prim → CmpOp → Bool
  | .eq, .Eq => true | .ne, .NotEq => true | .lt, .Lt => true | .le, .LtE => true | .gt, .Gt => true | .ge, .GtE => true | .inn, .In => true | .nin, .NotIn => true
  | _, _ => false
def unOk : Prim → UnaryOp → Bool
  | .neg, .USub => true | .not, .Not => true
  | _, _ => false
/-- the built-ins called by name -/
def bltOf : Prim → Option (PySem.Str × Value × Nat)
  | .len => some ("len", .builtin "len", 1)
  | .abs => some ("abs", .builtin "abs", 1)
  | .int => some ("int", .type "int", 1)
  | .list _ => some ("list", .type "list", 1)
  | .tuple => some ("tuple", .type "tuple", 1)
  | .all => some ("all", .builtin "all", 1)
  | .any => some ("any", .builtin "any", 1)
  | .sorted _ => some ("sorted", .builtin "sorted", 1)
  | .min2 => some ("min", .builtin "min", 2)
  | .max2 => some ("max", .builtin "max", 2)
  | _ => none
def bltNames : List PySem.Str := ["len", "abs", "int", "list", "tuple", "all", "any", "sorted", "min", "max", "isinstance", "bool", "str", "dict", "range", "zip", "enumerate"]
def methOf : Prim → Option (PySem.Str × String × Nat)
  | .append => some ("append", "list.append", 1)
  | .extend => some ("extend", "list.extend", 1)
  | .popAt => some ("pop", "list.pop", 1)
  | .index => some ("index", "list.index", 1)
  | _ => none
def notSlice : Expr → Bool
  | .Slice _ _ none _ => false
  | _ => true
def tyNames (ts : List Ty) : List Expr → Bool
  | [] => ts.isEmpty
  | .Name x _ :: r => match ts with
    | t :: ts => x == tyStr t && tyNames ts r
    | [] => false
  | _ => false
def typesOk (nm : Nm) (ts : List Ty) (e : Expr) : Bool := ts.all (fun t => isGl nm (tyStr t)) && decide (ts.length ≤ 100) && match e with
  | .Name x _ => match ts with
    | [t] => x == tyStr t
    | _ => false
  | .Tuple es _ _ => tyNames ts es
  | _ => false
/-- the arguments of an operation, where the text says it -/
def primArgs (nm : Nm) (p : Prim) (e : Expr) : Option (List Expr) := match e with
  | .BinOp a op b _ => if binOk p op then some [a, b] else none
  | .UnaryOp op a _ => if unOk p op then some [a] else none
  | .Compare a [op] [b] _ => if cmpOk p op && !behindInMarks op b then some [a, b] else match p, op, b with
    | .isN, .Is, .Constant .none _ _ => some [a]
    | .isnN, .IsNot, .Constant .none _ _ => some [a]
    | _, _, _ => none
  | .Subscript a b _ => match p, b with
    | .sl _ u1 u2 u3, .Slice o1 o2 o3 _ => if o1.isSome == u1 && o2.isSome == u2 && o3.isSome == u3 then some (a :: (o1.toList ++ (o2.toList ++ o3.toList))) else none
    | .ix, b => if notSlice b then some [a, b] else none
    | _, _ => none
  | .Call (.Name x _) (e :: rest) [] _ => match p, rest with
    | .isi ts, [ty] => if x == "isinstance" && isGl nm x && typesOk nm ts ty then some [e] else none
    | p, rest => match bltOf p with
      | some (y, _, n) => if x == y && isGl nm x && decide ((e :: rest).length = n) then some (e :: rest) else none
      | none => none
  | _ => none
def ownNames (names : List (PySem.Str × NameKind)) : List PySem.Str := names.filterMap fun (n, k) => if k == .local || k == .cell then some n else none
/-- the names inside a comprehension -/
def subNm (nm : Nm) (scope : Scope) (os : List Nat) : Nm :=
  { vis := (ownNames scope.names).zip os ++ scope.names.filterMap fun (n, k) => if k == .free then (nm.vis.lookup n).map (n, ·) else none
    own := ownNames scope.names
    kinds := scope.names.map fun (n, k) => if (k == .free && nm.kinds.lookup n == some .cell) then (n, .cell) else (n, k) }
def uniqB (l : List (PySem.Str × NameKind)) : Bool := l.all fun y => l.lookup y.1 == some y.2
def slotsB (l : List (PySem.Str × Nat)) : Bool := l.all fun x => l.all fun y => !(x.2 == y.2) || x.1 == y.1
def compOkB (nm : Nm) (scope : Scope) (os : List Nat) : Bool :=
  scope.kind == .function && uniqB scope.names && (scope.names.all fun y => !(y.2 == .free) || nm.kinds.lookup y.1 == some .cell || nm.kinds.lookup y.1 == some .free) && decide (os.length = (ownNames scope.names).length) &&
  slotsB (subNm nm scope os).vis && ((subNm nm scope os).vis.all fun x => ((subNm nm scope os).own.contains x.1 && os.contains x.2) || (scope.names.lookup x.1 == some .free && nm.vis.lookup x.1 == some x.2 && !os.contains x.2)) &&
  ((subNm nm scope os).own.all fun x => match (subNm nm scope os).vis.lookup x with | some i => os.contains i | none => false)
theorem compOkB_ok {nm : Nm} {scope : Scope} {os : List Nat} (h : compOkB nm scope os = true) : CompOk nm (subNm nm scope os) scope os := by
  simp only [compOkB, Bool.and_eq_true] at h
  obtain ⟨⟨⟨⟨⟨⟨h1, h2⟩, h3⟩, h4⟩, h5⟩, h6⟩, h7⟩ := h
  have uq : ∀ y ∈ scope.names, scope.names.lookup y.1 = some y.2 := fun y m => by simpa using List.all_eq_true.mp h2 y m
  refine ⟨by simpa using h1, uq, fun y m e => ?_, rfl, fun x i e => ?_, fun x m => ⟨?_, ?_⟩, fun x y i e1 e2 => ?_⟩
  · have := List.all_eq_true.mp h3 y m
    rw [e] at this
    simpa using this
  · have := List.all_eq_true.mp h6 (x, i) (PySem.mem_of_lookup e)
    simp only [Bool.or_eq_true, Bool.and_eq_true] at this
    rcases this with ⟨a, b⟩ | ⟨⟨a, b⟩, c⟩
    · exact .inl ⟨by simpa using a, by simpa using b⟩
    · exact .inr ⟨by simpa using a, by simpa using b, by simpa using c⟩
  · have := List.all_eq_true.mp h7 x m
    cases q : (subNm nm scope os).vis.lookup x with
    | none => rw [q] at this; cases this
    | some i => rw [q] at this; exact ⟨i, rfl, by simpa using this⟩
  · obtain ⟨y, hy, e⟩ := List.mem_filterMap.mp (show x ∈ ownNames scope.names from m)
    obtain ⟨n, k⟩ := y
    have hk := uq _ hy
    simp only at e hk
    split at e
    · rename_i hc
      cases e
      rw [hk]
      have : k = .local ∨ k = .cell := by simpa using hc
      rcases this with rfl | rfl
      · exact .inl rfl
      · exact .inr rfl
    · cases e
  · have := List.all_eq_true.mp (List.all_eq_true.mp h5 (x, i) (PySem.mem_of_lookup e1)) (y, i) (PySem.mem_of_lookup e2)
    simpa using this
def isTup : At → Bool
  | .tup _ => true
  | _ => false
def isTupE : Expr → Bool
  | .Tuple _ _ _ => true
  | _ => false
def rng3 : List Expr → Bool
  | [_] => true
  | [_, _] => true
  | [_, _, _] => true
  | _ => false
/-- the parts of a comprehension with two generators -/
structure Gen2 where
  elt : Expr
  t : Expr
  iter : Expr
  ifs : List Expr
  t2 : Expr
  iter2 : Expr
  ifs2 : List Expr
  scope : Scope
  pos : Pos
def Gen2.text (G : Gen2) : Expr := .ListComp G.elt [⟨G.t, G.iter, G.ifs, 0⟩, ⟨G.t2, G.iter2, G.ifs2, 0⟩] G.scope G.pos
def genTwo : Expr → Option Gen2
  | .ListComp elt [⟨t, iter, ifs, 0⟩, ⟨t2, iter2, ifs2, 0⟩] scope pos => some ⟨elt, t, iter, ifs, t2, iter2, ifs2, scope, pos⟩
  | _ => none
theorem genTwo_ok {e : Expr} {G : Gen2} (h : genTwo e = some G) : e = G.text := by
  unfold genTwo at h
  split at h
  · cases h; rfl
  · cases h
def ifNone (c : E) (ifs : List Expr) : Bool := ifs.isEmpty && match c with
  | .cst (.bool true) => true
  | _ => false
mutual
def chkE (B : Tb) (nm : Nm) : E → Expr → Bool
  | .bad, e' => noStar e'
  | .var i, e' => match e' with
    | .Name x _ => nm.vis.lookup x == some i && notDbg x && !(x == "__classdict__")
    | _ => false
  | .glob g, e' => match e' with
    | .Name x _ => isGl nm x && B.glT g == some x && notDbg x
    | _ => false
  | .cst v, e' => match e' with
    | .Constant c _ _ => (match v, c with
      | .none, .none => true
      | .bool b, .bool c => b == c
      | .int b, .int c => b == c
      | .str b, .str c => b == c
      | _, _ => false)
    | _ => false
  | .prim p es, e' => match primArgs nm p e' with
    | some args => chkEs B nm es args
    | none => false
  | .meth p o es, e' => match e' with
    | .Call (.Attribute o' x apos) (e :: rest) [] pos => (match methOf p with
      | some (y, _, n) => x == y && decide ((e :: rest).length = n)
      | none => false) && plainBase o' && decide (rest.length < 20) && (apos.endLine == pos.line) && chkE B nm o o' && chkEs B nm es (e :: rest)
    | _ => false
  | .tup es, e' => match e' with
    | .Tuple es' _ _ => decide (es.len ≤ 1000) && chkEs B nm es es'
    | _ => false
  | .lst _ es, e' => match e' with
    | .List es' _ => decide (es.len ≤ 1000) && chkEs B nm es es'
    | _ => false
  | .and a b, e' => match e' with
    | .BoolOp .And (e1 :: e2 :: rest) pos => chkE B nm a e1 && (match rest with | [] => chkE B nm b e2 | e3 :: rest => chkE B nm b (.BoolOp .And (e2 :: e3 :: rest) pos))
    | _ => false
  | .or a b, e' => match e' with
    | .BoolOp .Or (e1 :: e2 :: rest) pos => chkE B nm a e1 && (match rest with | [] => chkE B nm b e2 | e3 :: rest => chkE B nm b (.BoolOp .Or (e2 :: e3 :: rest) pos))
    | _ => false
  | .ite c a b, e' => match e' with
    | .IfExp c' a' b' _ => chkE B nm c c' && chkE B nm a a' && chkE B nm b b'
    | _ => false
  | .chain p q a b c, e' => match e' with
    | .Compare a' [op, op2] [b', c'] _ => cmpOk p op && cmpOk q op2 && !lastMarks [op, op2] [b', c'] && chkE B nm a a' && chkE B nm b b' && chkE B nm c c'
    | _ => false
  | .call f pm es, e' => match e' with
    | .Call (.Name x _) args kws _ => (match B.fnT f with
      | some (y, ps) => x == y && pmOk ps args.length (kwNames kws) pm
      | none => false) && isGl nm x && notDbg x && kwAll kws && chkEs B nm es (args ++ kws.map (·.value))
    | _ => false
  | .comp _ elt os t it c, e' => match e' with
    | .ListComp elt' [⟨t', iter', ifs, 0⟩] scope _ => compOkB nm scope os && noSet iter' && chkIt B nm it (isTup t && isTupE t') iter' && chkT B (subNm nm scope os) t t' && (match ifs with
      | [] => (match c with | .cst (.bool true) => true | _ => false)
      | [c'] => chkE B (subNm nm scope os) c c'
      | _ => false) && chkE B (subNm nm scope os) elt elt'
    | _ => false
  | .lstS _ _ _, _ => false
  | .calv _ _, _ => false
  | .comp2 _ elt os t it c t2 it2 c2, e' => match genTwo e' with
    | some G => compOkB nm G.scope os && noSet G.iter && chkIt B nm it (isTup t && isTupE G.t) G.iter && chkT B (subNm nm G.scope os) t G.t && (ifNone c G.ifs || (decide (G.ifs.length = 1) && chkE B (subNm nm G.scope os) c (G.ifs.headD G.elt))) && (noSet G.iter2 && t2.slots.all os.contains && chkIt B (subNm nm G.scope os) it2 (isTup t2 && isTupE G.t2) G.iter2 && chkT B (subNm nm G.scope os) t2 G.t2) && (ifNone c2 G.ifs2 || (decide (G.ifs2.length = 1) && chkE B (subNm nm G.scope os) c2 (G.ifs2.headD G.elt))) && chkE B (subNm nm G.scope os) elt G.elt
    | none => false
  | .lam _ _, _ => false
  | .mk _ _, _ => false
  | .fld _ _, _ => false
def chkEs (B : Tb) (nm : Nm) : Es → List Expr → Bool
  | .nil, l => l.isEmpty
  | .cons e es, l => match l with
    | e' :: es' => chkE B nm e e' && chkEs B nm es es'
    | [] => false
def chkIt (B : Tb) (nm : Nm) : It → Bool → Expr → Bool
  | .ev e, _, e' => chkE B nm e e'
  | .rng es, _, e' => match e' with
    | .Call (.Name x _) (e :: rest) [] _ => x == "range" && isGl nm "range" && chkEs B nm es (e :: rest)
    | _ => false
  | .zip es, tb, e' => tb && match e' with
    | .Call (.Name x _) (e :: rest) [] _ => x == "zip" && isGl nm "zip" && chkEs B nm es (e :: rest)
    | _ => false
  | .enum a, tb, e' => tb && match e' with
    | .Call (.Name x _) [a'] [] _ => x == "enumerate" && isGl nm "enumerate" && chkE B nm a a'
    | _ => false
  | .zipS _, _, _ => false
def chkT (B : Tb) (nm : Nm) : At → Expr → Bool
  | .nm i, e' => match e' with
    | .Name x _ => nm.vis.lookup x == some i && nm.own.contains x
    | _ => false
  | .tup ts, e' => match e' with
    | .Tuple ts' _ _ => chkTs B nm ts ts'
    | _ => false
  | .sub o i, e' => match e' with
    | .Subscript o' i' _ => chkE B nm o o' && chkE B nm i i'
    | _ => false
def chkTs (B : Tb) (nm : Nm) : Ats → List Expr → Bool
  | .nil, l => l.isEmpty
  | .cons t ts, l => match l with
    | t' :: ts' => chkT B nm t t' && chkTs B nm ts ts'
    | [] => false
end
def swapB (nm : Nm) (t' e' : Expr) : Bool := match t', e' with
  | .Name t tp, .ListComp _ _ scope pos => nm.kinds.lookup t == some .local && tp.line == pos.line && !(scope.names.any fun (n, k) => n == t && (k == .local || k == .cell))
  | _, _ => false
def okComp : Expr → Bool
  | .SetComp _ _ _ _ | .DictComp _ _ _ _ _ => false
  | _ => true
mutual
def chkS (B : Tb) (nm : Nm) : S → Stmt → Bool
  | .bad, _ => true
  | .expr e, st => match st with
    | .Expr e' _ => noComp e' && chkE B nm e e'
    | _ => false
  | .asg t e, st => match st with
    | .Assign [t'] e' _ => okComp e' && notSwap nm t' e' && chkT B nm t t' && chkE B nm e e'
    | _ => false
  | .par ts es, st => match st with
    | .Assign [.Tuple ts' _ _] (.Tuple vs' _ _) _ => (ts'.length == 2 || ts'.length == 3) && decide (vs'.length = ts'.length) && decide ((parNames nm ts').length = ts'.length) && decide ((parNames nm ts').eraseDups.length = (parNames nm ts').length) && !vs'.all (foldedForSure 8) && !vs'.all (constantsAlone 8) && ParOk nm ts (parNames nm ts').reverse && chkEs B nm es vs'
    | _ => false
  | .ifs c a b, st => match st with
    | .If c' a' b' _ => chkE B nm c c' && chkSs B nm a a' && chkSs B nm b b'
    | _ => false
  | .whil c b, st => match st with
    | .While c' b' [] _ => chkE B nm c c' && chkSs B nm b b'
    | _ => false
  | .for_ t it b, st => match st with
    | .For t' iter' b' [] _ => noSet iter' && chkIt B nm it (isTup t && isTupE t') iter' && chkT B nm t t' && chkSs B nm b b'
    | _ => false
  | .ret e, st => match st with
    | .Return (some e') _ => chkE B nm e e'
    | _ => false
  | .retN, st => match st with
    | .Return none _ => true
    | _ => false
  | .pass, st => match st with
    | .Pass _ => true
    | _ => false
  | .cont, st => match st with
    | .Continue _ => true
    | _ => false
  | .raise _ _, _ => false
  | .try_ _ _ _, _ => false
def chkSs (B : Tb) (nm : Nm) : Ss → List Stmt → Bool
  | .nil, l => l.isEmpty
  | .cons s r, l => match l with
    | s' :: r' => chkS B nm s s' && chkSs B nm r r'
    | [] => false
end
end Mp
/-! W22: what the check says. -/
namespace Mp
open PySem PySem.Spec PyProof.Rows
structure EnvOk (B : Tb) (X : Ctx) : Prop where
  ok : X.Ok
  calls : CallsOk X
  fn : ∀ f x ps, B.fnT f = some (x, ps) → FnAt X.G f x ps
  blt : ∀ x ∈ bltNames, X.G.mg x = none
  gl : ∀ g x, B.glT g = some x → ∃ u, X.G.mg x = some u ∧ ∀ v, X.C.gv g = some v → ∀ T φ s, Inv X.G T X.stk s → RV X.G T φ v u
def SAll (X : Ctx) : Es → List Expr → Prop
  | .nil, [] => True
  | .cons e es, e' :: es' => (noStar e' = true ∧ SE X e e' ∧ ST X e e') ∧ SAll X es es'
  | _, _ => False
section
variable {X : Ctx} {B : Tb}
theorem SAll.ses : ∀ {es : Es} {es' : List Expr}, SAll X es es' → SEs X es es' ∧ es.len = es'.length ∧ es'.all noStar = true
  | .nil, [], _ => ⟨ses_nil, rfl, rfl⟩
  | .cons e es, e' :: es', h => by
    obtain ⟨⟨a, b, _⟩, c⟩ := h
    obtain ⟨d, f, g⟩ := c.ses
    exact ⟨ses_cons b d (starEach_cons a), by simp [Es.len, f], by simp [a, g]⟩
  | .nil, _ :: _, h => h.elim
  | .cons _ _, [], h => h.elim
theorem SAll.two {es : Es} {a' b' : Expr} (h : SAll X es [a', b']) : ∃ a b, es = .cons a (.cons b .nil) ∧ (noStar a' = true ∧ SE X a a' ∧ ST X a a') ∧ (noStar b' = true ∧ SE X b b' ∧ ST X b b') := by
  match es, h with
  | .cons a (.cons b .nil), ⟨h1, h2, _⟩ => exact ⟨a, b, rfl, h1, h2⟩
theorem SAll.one {es : Es} {a' : Expr} (h : SAll X es [a']) : ∃ a, es = .cons a .nil ∧ (noStar a' = true ∧ SE X a a' ∧ ST X a a') := by
  match es, h with
  | .cons a .nil, ⟨h1, _⟩ => exact ⟨a, rfl, h1⟩
theorem SAll.split : ∀ {es : Es} {l1 l2 : List Expr}, SAll X es (l1 ++ l2) → ∃ e1 e2, es = e1.app e2 ∧ SAll X e1 l1 ∧ SAll X e2 l2
  | es, [], l2, h => ⟨.nil, es, rfl, trivial, h⟩
  | .cons e es, a :: l1, l2, h => by
    obtain ⟨h1, h2⟩ := (show (noStar a = true ∧ SE X e a ∧ ST X e a) ∧ SAll X es (l1 ++ l2) from h)
    obtain ⟨e1, e2, rfl, h3, h4⟩ := SAll.split h2
    exact ⟨.cons e e1, e2, rfl, ⟨h1, h3⟩, h4⟩
  | .nil, _ :: _, _, h => h.elim
theorem SAll.sks : ∀ {es : Es} {kws : List Keyword}, SAll X es (kws.map (·.value)) → SKs X es kws ∧ es.len = kws.length
  | .nil, [], _ => ⟨sks_nil, rfl⟩
  | .cons e es, ⟨n, v, p⟩ :: r, h => by
    obtain ⟨h1, h2⟩ := (show (noStar v = true ∧ SE X e v ∧ ST X e v) ∧ SAll X es (r.map (·.value)) from h)
    obtain ⟨a, b⟩ := h2.sks
    exact ⟨sks_cons h1.2.1 a, by simp [Es.len, b]⟩
  | .nil, _ :: _, h => h.elim
  | .cons _ _, [], h => h.elim
theorem SAll.opt {es : Es} {o : Option Expr} {u : Bool} (h : SAll X es o.toList) (hu : o.isSome = u) : SO X es o u := by
  cases o with
  | none => subst hu; cases es with
    | nil => trivial
    | cons _ _ => exact h.elim
  | some e => subst hu; obtain ⟨a, rfl, h1⟩ := h.one; exact h1.2.1
theorem bin_pok {p : Prim} {op : Operator} (h : binOk p op = true) : POk X p 2 (on2 (binaryOp op)) := by
  cases p <;> cases op <;> first | (simp [binOk] at h; done) | exact p_add | exact p_sub | exact p_mul | exact p_fdiv | exact p_mod | exact p_pow
theorem cmp_pok (ok : X.Ok) {p : Prim} {op : CmpOp} (h : cmpOk p op = true) : POk X p 2 (on2 (compareOp op)) := by
  cases p <;> cases op <;> first | (simp [cmpOk] at h; done) | exact p_eq ok | exact p_ne ok | exact p_lt | exact p_le | exact p_gt | exact p_ge | exact p_in false ok | exact p_in true ok
theorem un_pok {p : Prim} {op : UnaryOp} (h : unOk p op = true) : POk X p 1 (on1 (unaryOp op)) := by
  cases p <;> cases op <;> first | (simp [unOk] at h; done) | exact p_neg | exact p_not
structure BltAt (X : Ctx) (p : Prim) (x : PySem.Str) (f : Value) (n : Nat) : Prop where
  pok : POk X p n (fun us => call f us)
  boot : bootBuiltins x = some f
  nm : x ≠ "__name__"
  db : (x == ("__debug__" : PySem.Str)) = false
  kd : (∃ id, f = .builtin id) ∨ (∃ ty, f = .type ty)
  mem : x ∈ bltNames
theorem blt_at (ok : X.Ok) {p : Prim} {x : PySem.Str} {f : Value} {n : Nat} (h : bltOf p = some (x, f, n)) : BltAt X p x f n := by
  cases p <;> simp only [bltOf, Option.some.injEq, Prod.mk.injEq, reduceCtorEq] at h <;> obtain ⟨rfl, rfl, rfl⟩ := h
  · exact ⟨pok_on1 p_len, by decide +kernel, by decide +kernel, by decide +kernel, .inl ⟨_, rfl⟩, by decide +kernel⟩
  · exact ⟨pok_on1 p_abs, by decide +kernel, by decide +kernel, by decide +kernel, .inl ⟨_, rfl⟩, by decide +kernel⟩
  · exact ⟨pok_on1 p_list, by decide +kernel, by decide +kernel, by decide +kernel, .inr ⟨_, rfl⟩, by decide +kernel⟩
  · exact ⟨pok_on1 p_tuple, by decide +kernel, by decide +kernel, by decide +kernel, .inr ⟨_, rfl⟩, by decide +kernel⟩
  · exact ⟨pok_on1 p_int, by decide +kernel, by decide +kernel, by decide +kernel, .inr ⟨_, rfl⟩, by decide +kernel⟩
  · exact ⟨pok_on1 (p_all ok), by decide +kernel, by decide +kernel, by decide +kernel, .inl ⟨_, rfl⟩, by decide +kernel⟩
  · exact ⟨pok_on1 (p_any ok), by decide +kernel, by decide +kernel, by decide +kernel, .inl ⟨_, rfl⟩, by decide +kernel⟩
  · exact ⟨pok_on1 p_sorted, by decide +kernel, by decide +kernel, by decide +kernel, .inl ⟨_, rfl⟩, by decide +kernel⟩
  · exact ⟨p_min2 ok, by decide +kernel, by decide +kernel, by decide +kernel, .inl ⟨_, rfl⟩, by decide +kernel⟩
  · exact ⟨p_max2 ok, by decide +kernel, by decide +kernel, by decide +kernel, .inl ⟨_, rfl⟩, by decide +kernel⟩
theorem gl_kind (ok : X.Ok) {x : PySem.Str} (h : isGl X.nm x = true) : X.env.kindOf x = some .globalImplicit := by
  rw [kind_of ok]; simpa [isGl] using h
theorem ty_mem (t : Ty) : tyStr t ∈ bltNames := by cases t <;> decide +kernel
theorem types_tup : ∀ {ts : List Ty} {es : List Expr}, tyNames ts es = true → ∃ ps : List Pos, es = (ts.zip ps).map (fun p => .Name (tyStr p.1) p.2) ∧ ts.length = ps.length
  | [], [], _ => ⟨[], rfl, rfl⟩
  | _ :: _, [], h => by simp [tyNames] at h
  | ts, e :: r, h => by
    cases e with
    | Name x p =>
      cases ts with
      | nil => simp [tyNames] at h
      | cons t ts =>
        simp only [tyNames, Bool.and_eq_true, beq_iff_eq] at h
        obtain ⟨ps, h1, h2⟩ := types_tup h.2
        exact ⟨p :: ps, by rw [h.1, h1]; rfl, by simp [h2]⟩
    | _ => simp [tyNames] at h
theorem slice_no {b : Expr} (h : notSlice b = true) : ∀ o i, subscripted b false o i = operate [o, i] (getItem o i) := by
  intro o i
  cases b with
  | Slice a b c d => cases c with
    | none => simp [notSlice] at h
    | some _ => rfl
  | _ => rfl
def isBO : Expr → Bool
  | .BoolOp _ _ _ => true
  | _ => false
theorem prim_ok (E : EnvOk B X) {p : Prim} {es : Es} {e' : Expr} {args : List Expr} (h : primArgs X.nm p e' = some args) (hs : SAll X es args) : noStar e' = true ∧ SE X (.prim p es) e' ∧ ST X (.prim p es) e' ∧ isBO e' = false ∧ noComp e' = true := by
  have ok := E.ok
  cases e' with
  | BinOp a op b pos =>
    simp only [primArgs] at h
    split at h
    · rename_i hb
      cases h
      obtain ⟨x, y, rfl, h1, h2⟩ := hs.two
      have se := se_bin (pos := pos) (bin_pok hb) h1.2.1 h2.2.1
      exact ⟨rfl, se, st_plain se fun _ => rfl, rfl, rfl⟩
    · cases h
  | UnaryOp op a pos =>
    simp only [primArgs] at h
    split at h
    · rename_i hb
      cases h
      obtain ⟨x, rfl, h1⟩ := hs.one
      have se := se_un (pos := pos) (un_pok hb) h1.2.1
      cases op with
      | Not => cases p <;> first | (simp [unOk] at hb; done) | exact ⟨rfl, se, st_not h1.2.2, rfl, rfl⟩
      | USub => exact ⟨rfl, se, st_plain se fun _ => rfl, rfl, rfl⟩
      | UAdd => cases p <;> simp [unOk] at hb
      | Invert => cases p <;> simp [unOk] at hb
    · cases h
  | Compare a ops bs pos =>
    match ops, bs, h with
    | [op], [b], h =>
      simp only [primArgs] at h
      split at h
      · rename_i hb
        cases h
        simp only [Bool.and_eq_true, Bool.not_eq_true'] at hb
        obtain ⟨x, y, rfl, h1, h2⟩ := hs.two
        exact ⟨rfl, se_cmp (cmp_pok ok hb.1) h1.2.1 h2.2.1 hb.2, st_cmp (cmp_pok ok hb.1) h1.2.1 h2.2.1 hb.2, rfl, rfl⟩
      · split at h
        · cases h
          obtain ⟨x, rfl, h1⟩ := hs.one
          exact ⟨rfl, se_isNone false h1.2.1, st_isNone false h1.2.1, rfl, rfl⟩
        · cases h
          obtain ⟨x, rfl, h1⟩ := hs.one
          exact ⟨rfl, se_isNone true h1.2.1, st_isNone true h1.2.1, rfl, rfl⟩
        · cases h
  | Subscript a b pos =>
    simp only [primArgs] at h
    split at h
    · rename_i m u1 u2 u3 o1 o2 o3 sp
      split at h
      · rename_i hu
        cases h
        simp only [Bool.and_eq_true, beq_iff_eq] at hu
        cases es with
        | nil => exact hs.elim
        | cons e es =>
          obtain ⟨h1, h2⟩ := (show (noStar a = true ∧ SE X e a ∧ ST X e a) ∧ SAll X es _ from hs)
          obtain ⟨e1, e2, rfl, h3, h4⟩ := h2.split
          obtain ⟨e3, e4, rfl, h5, h6⟩ := h4.split
          have se := se_sl (m := m) (pos := pos) (ps := sp) h1.2.1 (h3.opt hu.1.1) (h5.opt hu.1.2) (h6.opt hu.2)
          exact ⟨rfl, se, st_plain se fun _ => rfl, rfl, rfl⟩
      · cases h
    · split at h
      · rename_i hb
        cases h
        obtain ⟨x, y, rfl, h1, h2⟩ := hs.two
        have se := se_ix (pos := pos) h1.2.1 h2.2.1 (slice_no hb)
        exact ⟨rfl, se, st_plain se fun _ => rfl, rfl, rfl⟩
      · cases h
    · cases h
  | Call f as kws pos =>
    match f, as, kws, h with
    | .Name x p1, e :: rest, [], h =>
      simp only [primArgs] at h
      split at h
      · rename_i ts ty _
        split at h
        · rename_i hb
          cases h
          simp only [Bool.and_eq_true, beq_iff_eq] at hb
          obtain ⟨⟨rfl, h2⟩, h3⟩ := hb
          simp only [typesOk, Bool.and_eq_true, decide_eq_true_eq] at h3
          obtain ⟨⟨h4, h5⟩, h6⟩ := h3
          obtain ⟨a, rfl, h1⟩ := hs.one
          have hk := gl_kind ok h2
          have hm : X.G.mg "isinstance" = none := E.blt _ (by decide +kernel)
          have ht : ∀ t ∈ ts, X.env.kindOf (tyStr t) = some .globalImplicit ∧ X.G.mg (tyStr t) = none := fun t m => ⟨gl_kind ok (List.all_eq_true.mp h4 t m), E.blt _ (ty_mem t)⟩
          split at h6
          · rename_i y p2
            split at h6
            · rename_i t
              have h6 : y = tyStr t := by simpa using h6
              subst h6
              have se := se_isi1 (p1 := p1) (p2 := p2) (pos := pos) ok hk hm (ht t (by simp)).1 (ht t (by simp)).2 h1.2.1 h1.1
              exact ⟨rfl, se, st_plain se fun _ => rfl, rfl, rfl⟩
            · cases h6
          · rename_i es2 kk p2
            obtain ⟨ps, rfl, hl⟩ := types_tup h6
            have se := se_isiT (k := kk) (p1 := p1) (p2 := p2) (pos := pos) ok hk hm ht hl h5 h1.2.1 h1.1
            exact ⟨rfl, se, st_plain se fun _ => rfl, rfl, rfl⟩
          · cases h6
        · cases h
      · split at h
        · rename_i y f n hb
          split at h
          · rename_i hc
            cases h
            simp only [Bool.and_eq_true, beq_iff_eq, decide_eq_true_eq] at hc
            obtain ⟨⟨rfl, h2⟩, h3⟩ := hc
            have bl := blt_at ok hb
            obtain ⟨s1, s2, s3⟩ := hs.ses
            have se := se_blt (p1 := p1) (pos := pos) ok (gl_kind ok h2) (E.blt _ bl.mem) bl.boot bl.nm bl.db bl.kd bl.pok (by rw [s2, h3]) s1 s3
            exact ⟨rfl, se, st_plain se fun _ => rfl, rfl, rfl⟩
          · cases h
        · cases h
    | .Name _ _, [], _, h => simp [primArgs] at h
    | .Name _ _, _ :: _, _ :: _, h => simp [primArgs] at h
  | _ => simp [primArgs] at h
end
end Mp
/-! W23: .. for expressions, targets, iterations. -/
namespace Mp
open PySem PySem.Spec PyProof.Rows
def AsgC (X : Ctx) (e : E) (e' : Expr) : Prop := ∀ (i : Nat) (y : PySem.Str) (py spos : Pos), X.nm.vis.lookup y = some i → y ∈ X.nm.own → swapsWith e' (some (.Name y py)) spos.line X.env = pure true → SS X (.asg (.nm i) e) (.Assign [.Name y py] e' spos)
structure PEx (X : Ctx) (e : E) (e' : Expr) : Prop where
  ns : noStar e' = true
  se : SE X e e'
  st : ST X e e'
  bo : isBO e' = true → ∀ w, STw X e e' w
  cp : noComp e' = false → AsgC X e e'
theorem PEx.plain {X : Ctx} {e : E} {e' : Expr} (se : SE X e e') (hw : ∀ whole, isTrue e' X.env whole = (do let v ← whole; standAt e'.pos; holding [v] (truthy v))) (ns : noStar e' = true) (bo : isBO e' = false) (cp : noComp e' = true) : PEx X e e' :=
  ⟨ns, se, st_plain se hw, (fun z => by rw [bo] at z; cases z), (fun z => by rw [cp] at z; cases z)⟩
theorem Good.conv {X Y : Ctx} (hG : Y.G = X.G) (hs : Y.stk = X.stk) (hb : Y.bs = X.bs) {O : Addr → Prop} {T T' : GT} {φ φ' : List Addr} {h' : Hp} {s' : Shared} (g : Good X O T φ T' φ' h' s') : Good Y O T φ T' φ' h' s' :=
  ⟨by rw [hG, hs]; exact g.inv, g.ext, g.pre, g.new, by rw [hG, hb]; exact g.sim⟩
theorem QV.conv {X Y : Ctx} (hG : Y.G = X.G) (hs : Y.stk = X.stk) (hb : Y.bs = X.bs) {T : GT} {φ : List Addr} {r : R Val} {u : Value} {s' : Shared} (q : QV X T φ r u s') : QV Y T φ r u s' :=
  let ⟨v, h', T', φ', e, g, rv⟩ := q; ⟨v, h', T', φ', e, g.conv hG hs hb, by rw [hG]; exact rv⟩
theorem QX.conv {α : Type} {X Y : Ctx} (hG : Y.G = X.G) (hs : Y.stk = X.stk) (hb : Y.bs = X.bs) (hL : Y.L = X.L) {T : GT} {φ : List Addr} {r : R α} {u : Value} {s' : Shared} (q : QX X T φ r u s') : QX Y T φ r u s' := by
  obtain ⟨c, fs, h', e, a, B, sI, T', φ', C, d, o, us, h1, g, h3, h4, h5, h6, h7, h8, h9, h10, h11, h12, h13⟩ := q
  exact ⟨c, fs, h', e, a, B, sI, T', φ', C, d, o, us, h1, g.conv hG hs hb, by rw [hs]; exact h3, h4, by show L2.Sky B Y.stk a _ Y.L _; rw [hs, hL]; exact h5, h6, h7, h8, by rw [hG]; exact h9, h10, by rw [hG]; exact h11, by rw [hG]; exact h12, by rw [hG]; exact h13⟩
theorem CallAt.conv {X Y : Ctx} (hG : Y.G = X.G) (hs : Y.stk = X.stk) (hb : Y.bs = X.bs) (hL : Y.L = X.L) (hA : Y.A = X.A) {f : Nat} {r : List Val → Hp → R Val} (c : CallAt X f r) : CallAt Y f r := by
  intro a ha pos kw us vs T φ h s F I S rv hn hF hx
  have hM : Y.M = X.M := by show model Y.G.prog Y.G.w = model X.G.prog X.G.w; rw [hG]
  rw [hM, hA]
  rw [hG] at ha I S rv hx
  rw [hs] at I
  rw [hb] at S
  exact wpAny_mono (c a ha pos kw us vs T φ h s F I S rv hn (fun x s' q => hF x s' (QX.conv hG hs hb hL q)) hx) (fun u s' q => QV.conv hG hs hb q) fun _ _ z => z
theorem EnvOk.blk {B : Tb} {X : Ctx} (E : EnvOk B X) {nm' : Nm} {scope : Scope} {C : Addr} (ok' : (X.blk nm' scope C).Ok) : EnvOk B (X.blk nm' scope C) :=
  ⟨ok', fun f => CallAt.conv (X := X) (Y := X.blk nm' scope C) rfl rfl rfl rfl rfl (E.calls f), E.fn, E.blt, E.gl⟩
theorem vis_var {B : Tb} {X : Ctx} (E : EnvOk B X) {i : Nat} {x : PySem.Str} {pos : Pos} (h : (X.nm.vis.lookup x == some i && notDbg x && !(x == "__classdict__")) = true) : SE X (.var i) (.Name x pos) := by
  simp only [Bool.and_eq_true, beq_iff_eq, notDbg, Bool.not_eq_true'] at h
  exact se_var E.ok h.1.1 (by simpa using h.1.2) (by simpa using h.2)
theorem meth_at (ok : X.Ok) {p : Prim} {x : PySem.Str} {id : String} {n : Nat} (h : methOf p = some (x, id, n)) : Meth x id ∧ POk X p (n + 1) (fun us => call (.builtin id) us) := by
  cases p <;> simp only [methOf, Option.some.injEq, Prod.mk.injEq, reduceCtorEq] at h <;> obtain ⟨rfl, rfl, rfl⟩ := h
  · exact ⟨⟨PySem.F.slot_list_append, PySem.F.type_list_append⟩, p_append ok⟩
  · exact ⟨⟨PySem.F.slot_list_extend, PySem.F.type_list_extend⟩, p_extend ok⟩
  · exact ⟨⟨PySem.F.slot_list_pop, PySem.F.type_list_pop⟩, p_popAt ok⟩
  · exact ⟨⟨PySem.F.slot_list_index, PySem.F.type_list_index⟩, p_index ok⟩
mutual
theorem chkE_ok (B : Tb) : ∀ (e : E) {X : Ctx} {e' : Expr}, EnvOk B X → chkE B X.nm e e' = true → PEx X e e'
  | .bad, X, e', E, h => by
    have hb : ∀ ρ h, ev X.C ρ h .bad = .no := fun ρ h => by simp only [ev]
    refine ⟨by simpa only [chkE] using h, fun T φ ρ h s F S hn _ => absurd (hb ρ h) hn, fun T φ ρ h s F S hn _ => absurd (hb ρ h) hn.1, fun _ w T φ ρ h s F S hn _ => absurd (hb ρ h) hn.1, fun _ i y py spos _ _ _ T φ ρ h s F S hn _ _ => absurd ?_ hn⟩
    simp only [ex, ev]; rfl
  | .var i, X, e', E, h => by
    simp only [chkE] at h
    split at h <;> first | (cases h; done) | skip
    exact .plain (vis_var E h) (fun _ => rfl) rfl rfl rfl
  | .glob g, X, e', E, h => by
    simp only [chkE] at h
    split at h <;> first | (cases h; done) | skip
    rename_i x pos
    simp only [Bool.and_eq_true, beq_iff_eq, notDbg, Bool.not_eq_true'] at h
    obtain ⟨u, h1, h2⟩ := E.gl g x h.1.2
    exact .plain (se_glob E.ok (gl_kind E.ok h.1.1) h1 h2 (by simpa using h.2)) (fun _ => rfl) rfl rfl rfl
  | .cst v, X, e', E, h => by
    simp only [chkE] at h
    split at h <;> first | (cases h; done) | skip
    split at h <;> first | (cases h; done) | skip
    · exact .plain se_none (fun _ => rfl) rfl rfl rfl
    · have := beq_iff_eq.mp h; subst this; exact .plain se_bool (fun _ => rfl) rfl rfl rfl
    · have := beq_iff_eq.mp h; subst this; exact .plain se_int (fun _ => rfl) rfl rfl rfl
    · have := beq_iff_eq.mp h; subst this; exact .plain se_str (fun _ => rfl) rfl rfl rfl
  | .prim p es, X, e', E, h => by
    simp only [chkE] at h
    split at h
    · rename_i args ha
      obtain ⟨a, b, c, d, f⟩ := prim_ok E ha (chkEs_ok B es E h)
      exact ⟨a, b, c, (fun z => by rw [d] at z; cases z), (fun z => by rw [f] at z; cases z)⟩
    · cases h
  | .meth p o es, X, e', E, h => by
    simp only [chkE] at h
    split at h
    · rename_i o' x apos e rest pos
      simp only [Bool.and_eq_true, decide_eq_true_eq] at h
      obtain ⟨⟨⟨⟨⟨h1, h2⟩, h3⟩, h4⟩, h5⟩, h6⟩ := h
      split at h1
      · rename_i y id n hm
        simp only [Bool.and_eq_true, beq_iff_eq, decide_eq_true_eq] at h1
        obtain ⟨rfl, h7⟩ := h1
        obtain ⟨m1, m2⟩ := meth_at E.ok hm
        obtain ⟨s1, s2, s3⟩ := (chkEs_ok B es E h6).ses
        have po := chkE_ok B o E h5
        exact .plain (se_meth m1 m2 (by rw [s2, h7]) po.se s1 h2 s3 h3 h4) (fun _ => rfl) rfl rfl rfl
      · cases h1
    · cases h
  | .tup es, X, e', E, h => by
    simp only [chkE] at h
    split at h <;> first | (cases h; done) | skip
    simp only [Bool.and_eq_true, decide_eq_true_eq] at h
    exact .plain (se_tup (chkEs_ok B es E h.2).ses.1 h.1) (fun _ => rfl) rfl rfl rfl
  | .lst m es, X, e', E, h => by
    simp only [chkE] at h
    split at h <;> first | (cases h; done) | skip
    simp only [Bool.and_eq_true, decide_eq_true_eq] at h
    exact .plain (se_lst (chkEs_ok B es E h.2).ses.1 h.1) (fun _ => rfl) rfl rfl rfl
  | .and a b, X, e', E, h => by
    simp only [chkE] at h
    split at h
    · rename_i e1 e2 rest pos
      simp only [Bool.and_eq_true] at h
      have pa := chkE_ok B a E h.1
      have hb2 := h.2
      have pb : SE X b (.BoolOp .And (e2 :: rest) pos) ∧ ∀ w, STw X b (.BoolOp .And (e2 :: rest) pos) w := by
        split at hb2
        · have pb := chkE_ok B b E hb2
          exact ⟨se_one pb.se, fun w => st_one pb.st⟩
        · have pb := chkE_ok B b E hb2
          exact ⟨pb.se, pb.bo rfl⟩
      exact ⟨rfl, se_and pa.se pb.1, st_and pa.st pb.2, fun _ w => st_and pa.st pb.2, (fun z => by cases z)⟩
    · cases h
  | .or a b, X, e', E, h => by
    simp only [chkE] at h
    split at h
    · rename_i e1 e2 rest pos
      simp only [Bool.and_eq_true] at h
      have pa := chkE_ok B a E h.1
      have hb2 := h.2
      have pb : SE X b (.BoolOp .Or (e2 :: rest) pos) ∧ ∀ w, STw X b (.BoolOp .Or (e2 :: rest) pos) w := by
        split at hb2
        · have pb := chkE_ok B b E hb2
          exact ⟨se_one pb.se, fun w => st_one pb.st⟩
        · have pb := chkE_ok B b E hb2
          exact ⟨pb.se, pb.bo rfl⟩
      exact ⟨rfl, se_or pa.se pb.1, st_or pa.st pb.2, fun _ w => st_or pa.st pb.2, (fun z => by cases z)⟩
    · cases h
  | .ite c a b, X, e', E, h => by
    simp only [chkE] at h
    split at h <;> first | (cases h; done) | skip
    simp only [Bool.and_eq_true] at h
    have pc := chkE_ok B c E h.1.1
    have pa := chkE_ok B a E h.1.2
    have pb := chkE_ok B b E h.2
    exact ⟨rfl, se_ite pc.st pa.se pb.se, st_ite pc.st pa.st pb.st, (fun z => by cases z), (fun z => by cases z)⟩
  | .chain p q a b c, X, e', E, h => by
    simp only [chkE] at h
    split at h
    · simp only [Bool.and_eq_true, Bool.not_eq_true'] at h
      obtain ⟨⟨⟨⟨⟨h1, h2⟩, h3⟩, h4⟩, h5⟩, h6⟩ := h
      have pa := chkE_ok B a E h4
      have pb := chkE_ok B b E h5
      have pc := chkE_ok B c E h6
      exact ⟨rfl, se_chain (cmp_pok E.ok h1) (cmp_pok E.ok h2) pa.se pb.se pc.se h3, st_chain (cmp_pok E.ok h1) (cmp_pok E.ok h2) pa.se pb.se pc.se h3, (fun z => by cases z), (fun z => by cases z)⟩
    · cases h
  | .call f pm es, X, e', E, h => by
    simp only [chkE] at h
    split at h
    · rename_i x p args kws pos
      simp only [Bool.and_eq_true, notDbg, Bool.not_eq_true'] at h
      obtain ⟨⟨⟨⟨h1, h2⟩, h3⟩, h4⟩, h5⟩ := h
      split at h1
      · rename_i y ps hf
        simp only [Bool.and_eq_true, beq_iff_eq] at h1
        obtain ⟨rfl, h6⟩ := h1
        obtain ⟨e1, e2, e3, e4, e5⟩ := (chkEs_ok B es E h5).split
        obtain ⟨s1, s2, s3⟩ := e4.ses
        obtain ⟨k1, k2⟩ := e5.sks
        exact .plain (se_call E.ok E.calls (gl_kind E.ok h2) (E.fn _ _ _ hf) h3 ⟨e1, e2, e3, s1, k1, s2, k2⟩ s3 h4 h6) (fun _ => rfl) rfl rfl rfl
      · cases h1
    · cases h
  | .comp m elt os t it c, X, e', E, h => by
    simp only [chkE] at h
    split at h
    · rename_i elt' t' iter' ifs scope pos
      simp only [Bool.and_eq_true] at h
      obtain ⟨⟨⟨⟨⟨h1, h2⟩, h3⟩, h4⟩, h5⟩, h6⟩ := h
      have K := compOkB_ok h1
      have hi : SI X it t iter' t' := chkIt_ok B it E h3 fun z => by simpa using z
      have hin : ∀ C, (X.blk (subNm X.nm scope os) scope C).Ok → SA (X.blk (subNm X.nm scope os) scope C) t t' ∧ TI (X.blk (subNm X.nm scope os) scope C) c ifs ∧ SE (X.blk (subNm X.nm scope os) scope C) elt elt' := fun C ok' => by
        have E' := E.blk ok'
        refine ⟨(chkT_ok B t E' h4).2, ?_, (chkE_ok B elt E' h6).se⟩
        split at h5
        · split at h5
          · exact .inl ⟨rfl, rfl⟩
          · cases h5
        · exact .inr ⟨_, rfl, (chkE_ok B c E' h5).st⟩
        · cases h5
      have se := se_comp (m := m) (pos := pos) E.ok K hi hin h2
      exact ⟨rfl, se, st_plain se fun _ => rfl, (fun z => by cases z), fun _ i y py spos hx ho hsw => ss_asgC E.ok K hi hin h2 hx ho hsw⟩
    · cases h
  | .lstS _ _ _, X, e', E, h => by simp [chkE] at h
  | .calv _ _, X, e', E, h => by simp [chkE] at h
  | .comp2 m elt os t it c t2 it2 c2, X, e', E, h => by
    simp only [chkE] at h
    split at h
    · rename_i G hG
      have := genTwo_ok hG
      subst this
      simp only [Bool.and_eq_true] at h
      obtain ⟨⟨⟨⟨⟨⟨⟨h1, h2⟩, h3⟩, h4⟩, h5⟩, ⟨⟨⟨h7, h8⟩, h9⟩, h10⟩⟩, h11⟩, h6⟩ := h
      have K := compOkB_ok h1
      have hi : SI X it t G.iter G.t := chkIt_ok B it E h3 fun z => by simpa using z
      have hsl : ∀ i ∈ t2.slots, i ∈ os := fun i m => by simpa using List.all_eq_true.mp h8 i m
      have tiOf : ∀ {c : Mp.E} {ifs : List Expr} {Y : Ctx}, EnvOk B Y → ((∀ c', chkE B Y.nm c c' = true → PEx Y c c')) → (ifNone c ifs || (decide (ifs.length = 1) && chkE B Y.nm c (ifs.headD G.elt))) = true → TI Y c ifs := fun {c ifs Y} E' hc h => by
        rcases (by simpa only [Bool.or_eq_true] using h) with z | z
        · unfold ifNone at z
          simp only [Bool.and_eq_true, List.isEmpty_iff] at z
          obtain ⟨rfl, z⟩ := z
          split at z
          · exact .inl ⟨rfl, rfl⟩
          · cases z
        · simp only [Bool.and_eq_true, decide_eq_true_eq] at z
          match ifs, z with
          | [c'], z => exact .inr ⟨c', rfl, (hc c' z.2).st⟩
      have hin : ∀ C, (X.blk (subNm X.nm G.scope os) G.scope C).Ok → SA (X.blk (subNm X.nm G.scope os) G.scope C) t G.t ∧ TI (X.blk (subNm X.nm G.scope os) G.scope C) c G.ifs ∧ SI (X.blk (subNm X.nm G.scope os) G.scope C) it2 t2 G.iter2 G.t2 ∧ SA (X.blk (subNm X.nm G.scope os) G.scope C) t2 G.t2 ∧ TI (X.blk (subNm X.nm G.scope os) G.scope C) c2 G.ifs2 ∧ SE (X.blk (subNm X.nm G.scope os) G.scope C) elt G.elt := fun C ok' => by
        have E' := E.blk ok'
        exact ⟨(chkT_ok B t E' h4).2, tiOf E' (fun c' => chkE_ok B c E') h5, chkIt_ok B it2 E' h9 fun z => by simpa using z, (chkT_ok B t2 E' h10).2, tiOf E' (fun c' => chkE_ok B c2 E') h11, (chkE_ok B elt E' h6).se⟩
      have se : SE X (.comp2 m elt os t it c t2 it2 c2) G.text := se_comp2 (m := m) (pos := G.pos) E.ok K hi hin h2 h7 hsl
      exact ⟨rfl, se, st_plain se fun _ => rfl, (fun z => by cases z), fun _ i y py spos hx ho hsw => ss_asgC2 E.ok K hi hin h2 h7 hsl hx ho hsw⟩
    · cases h
  | .lam _ _, X, e', E, h => by simp [chkE] at h
  | .mk _ _, X, e', E, h => by simp [chkE] at h
  | .fld _ _, X, e', E, h => by simp [chkE] at h
theorem chkEs_ok (B : Tb) : ∀ (es : Es) {X : Ctx} {es' : List Expr}, EnvOk B X → chkEs B X.nm es es' = true → SAll X es es'
  | .nil, X, [], E, h => trivial
  | .nil, X, _ :: _, E, h => by simp [chkEs] at h
  | .cons e es, X, [], E, h => by simp [chkEs] at h
  | .cons e es, X, e' :: es', E, h => by
    simp only [chkEs, Bool.and_eq_true] at h
    have p := chkE_ok B e E h.1
    exact ⟨⟨p.ns, p.se, p.st⟩, chkEs_ok B es E h.2⟩
theorem chkIt_ok (B : Tb) : ∀ (it : It) {X : Ctx} {tb : Bool} {iter' : Expr} {t : At} {t' : Expr}, EnvOk B X → chkIt B X.nm it tb iter' = true → (tb = true → isTup t = true ∧ isTupE t' = true) → SI X it t iter' t'
  | .ev e, X, tb, iter', t, t', E, h, ht => by
    simp only [chkIt] at h
    exact si_ev E.ok (chkE_ok B e E h).se
  | .rng es, X, tb, iter', t, t', E, h, ht => by
    simp only [chkIt] at h
    split at h
    · rename_i x p e rest pos
      simp only [Bool.and_eq_true, beq_iff_eq] at h
      obtain ⟨⟨rfl, h2⟩, h3⟩ := h
      obtain ⟨s1, s2, s3⟩ := (chkEs_ok B es E h3).ses
      exact si_rng E.ok (gl_kind E.ok h2) (E.blt _ (by decide +kernel)) s1 s3
    · cases h
  | .zip es, X, tb, iter', t, t', E, h, ht => by
    simp only [chkIt, Bool.and_eq_true] at h
    obtain ⟨rfl, h⟩ := h
    split at h
    · rename_i x p e rest pos
      simp only [Bool.and_eq_true, beq_iff_eq] at h
      obtain ⟨⟨rfl, h2⟩, h3⟩ := h
      obtain ⟨s1, s2, s3⟩ := (chkEs_ok B es E h3).ses
      obtain ⟨t1, t2⟩ := ht rfl
      cases t <;> simp [isTup] at t1
      cases t' <;> simp [isTupE] at t2
      exact si_zip E.ok (gl_kind E.ok h2) (E.blt _ (by decide +kernel)) s1 s3
    · cases h
  | .enum a, X, tb, iter', t, t', E, h, ht => by
    simp only [chkIt, Bool.and_eq_true] at h
    obtain ⟨rfl, h⟩ := h
    split at h
    · rename_i x p a' pos
      simp only [Bool.and_eq_true, beq_iff_eq] at h
      obtain ⟨⟨rfl, h2⟩, h3⟩ := h
      have pa := chkE_ok B a E h3
      obtain ⟨t1, t2⟩ := ht rfl
      cases t <;> simp [isTup] at t1
      cases t' <;> simp [isTupE] at t2
      exact si_enum E.ok (gl_kind E.ok h2) (E.blt _ (by decide +kernel)) pa.se pa.ns
    · cases h
  | .zipS _, X, tb, iter', t, t', E, h, ht => by simp [chkIt] at h
theorem chkT_ok (B : Tb) : ∀ (t : At) {X : Ctx} {t' : Expr}, EnvOk B X → chkT B X.nm t t' = true → noStar t' = true ∧ SA X t t'
  | .nm i, X, t', E, h => by
    simp only [chkT] at h
    split at h <;> first | (cases h; done) | skip
    simp only [Bool.and_eq_true, beq_iff_eq] at h
    exact ⟨rfl, sa_nm E.ok h.1 (by simpa using h.2)⟩
  | .tup ts, X, t', E, h => by
    simp only [chkT] at h
    split at h <;> first | (cases h; done) | skip
    obtain ⟨a, b, c⟩ := chkTs_ok B ts E h
    exact ⟨rfl, sa_tup E.ok a b c⟩
  | .sub o i, X, t', E, h => by
    simp only [chkT] at h
    split at h <;> first | (cases h; done) | skip
    simp only [Bool.and_eq_true] at h
    exact ⟨rfl, sa_sub E.ok (chkE_ok B o E h.1).se (chkE_ok B i E h.2).se⟩
theorem chkTs_ok (B : Tb) : ∀ (ts : Ats) {X : Ctx} {ts' : List Expr}, EnvOk B X → chkTs B X.nm ts ts' = true → SAs X ts ts' ∧ ts'.length = ts.len ∧ ts'.all noStar = true
  | .nil, X, [], E, h => ⟨sas_nil, rfl, rfl⟩
  | .nil, X, _ :: _, E, h => by simp [chkTs] at h
  | .cons t ts, X, [], E, h => by simp [chkTs] at h
  | .cons t ts, X, t' :: ts', E, h => by
    simp only [chkTs, Bool.and_eq_true] at h
    obtain ⟨a, b⟩ := chkT_ok B t E h.1
    obtain ⟨c, d, f⟩ := chkTs_ok B ts E h.2
    exact ⟨sas_cons b c a, by simp [Ats.len, d], by simp [a, f]⟩
end
theorem swap_eq {X : Ctx} (ok : X.Ok) {t' e' : Expr} (hc : okComp e' = true) (l : Nat) : (∃ y py, t' = .Name y py ∧ noComp e' = false ∧ swapsWith e' (some t') l X.env = pure true) ∨ swapsWith e' (some t') l X.env = pure false := by
  cases e' with
  | ListComp elt gens scope pos =>
    cases t' with
    | Name y py =>
      have e : swapsWith (.ListComp elt gens scope pos) (some (.Name y py)) l X.env = pure (X.env.blockKind == .function && X.env.kindOf y == some .local && py.line == pos.line && !(scope.names.any fun (n, k) => n == y && (k == .local || k == .cell))) := rfl
      rw [e]
      cases (X.env.blockKind == .function && X.env.kindOf y == some .local && py.line == pos.line && !(scope.names.any fun (n, k) => n == y && (k == .local || k == .cell))) with
      | true => exact .inl ⟨y, py, rfl, rfl, rfl⟩
      | false => exact .inr rfl
    | _ => exact .inr rfl
  | SetComp _ _ _ _ => simp [okComp] at hc
  | DictComp _ _ _ _ _ => simp [okComp] at hc
  | _ => exact .inr rfl
mutual
theorem chkS_ok (B : Tb) : ∀ (st : S) {X : Ctx} {st' : Stmt}, EnvOk B X → chkS B X.nm st st' = true → SS X st st'
  | .bad, X, st', E, h => fun T φ ρ h s F S hn _ _ => absurd (by simp only [ex]) hn
  | .expr e, X, st', E, h => by
    simp only [chkS] at h
    split at h <;> first | (cases h; done) | skip
    simp only [Bool.and_eq_true] at h
    exact ss_expr E.ok (chkE_ok B e E h.2).se h.1
  | .asg t e, X, st', E, h => by
    simp only [chkS] at h
    split at h
    · rename_i t' e' pos
      simp only [Bool.and_eq_true] at h
      obtain ⟨⟨⟨h1, h2⟩, h3⟩, h4⟩ := h
      have pe := chkE_ok B e E h4
      obtain ⟨a, b⟩ := chkT_ok B t E h3
      rcases swap_eq E.ok h1 pos.line (t' := t') with ⟨y, py, rfl, z1, z2⟩ | z
      · cases t <;> simp only [chkT] at h3 <;> first | (cases h3; done) | skip
        simp only [Bool.and_eq_true, beq_iff_eq] at h3
        exact pe.cp z1 _ y py pos h3.1 (by simpa using h3.2) z2
      · exact ss_asg E.ok b pe.se z h2 a
    · cases h
  | .par ts es, X, st', E, h => by
    simp only [chkS] at h
    split at h
    · simp only [Bool.and_eq_true, decide_eq_true_eq, Bool.not_eq_true'] at h
      obtain ⟨⟨⟨⟨⟨⟨⟨h1, h2⟩, h3⟩, h4⟩, h5⟩, h6⟩, h7⟩, h8⟩ := h
      obtain ⟨s1, s2, s3⟩ := (chkEs_ok B es E h8).ses
      exact ss_par E.ok s1 h1 h2 s3 h3 h4 h5 h6 h7 s2
    · cases h
  | .ifs c a b, X, st', E, h => by
    simp only [chkS] at h
    split at h <;> first | (cases h; done) | skip
    simp only [Bool.and_eq_true] at h
    exact ss_if (chkE_ok B c E h.1.1).st (chkSs_ok B a E h.1.2) (chkSs_ok B b E h.2)
  | .whil c b, X, st', E, h => by
    simp only [chkS] at h
    split at h
    · simp only [Bool.and_eq_true] at h
      exact ss_while (chkE_ok B c E h.1).st (chkSs_ok B b E h.2)
    · cases h
  | .for_ t it b, X, st', E, h => by
    simp only [chkS] at h
    split at h
    · simp only [Bool.and_eq_true] at h
      obtain ⟨⟨⟨h1, h2⟩, h3⟩, h4⟩ := h
      exact ss_for (chkT_ok B t E h3).2 (chkIt_ok B it E h2 fun z => by simpa using z) (chkSs_ok B b E h4) h1
    · cases h
  | .ret e, X, st', E, h => by
    simp only [chkS] at h
    split at h
    · exact ss_ret (chkE_ok B e E h).se
    · cases h
  | .retN, X, st', E, h => by
    simp only [chkS] at h
    split at h
    · exact ss_retN
    · cases h
  | .pass, X, st', E, h => by
    simp only [chkS] at h
    split at h <;> first | (cases h; done) | exact ss_pass
  | .cont, X, st', E, h => by
    simp only [chkS] at h
    split at h <;> first | (cases h; done) | exact ss_cont
  | .raise _ _, X, st', E, h => by simp [chkS] at h
  | .try_ _ _ _, X, st', E, h => by simp [chkS] at h
theorem chkSs_ok (B : Tb) : ∀ (st : Ss) {X : Ctx} {st' : List Stmt}, EnvOk B X → chkSs B X.nm st st' = true → SSs X st st'
  | .nil, X, [], E, h => sss_nil
  | .nil, X, _ :: _, E, h => by simp [chkSs] at h
  | .cons st r, X, [], E, h => by simp [chkSs] at h
  | .cons st r, X, st' :: r', E, h => by
    simp only [chkSs, Bool.and_eq_true] at h
    exact sss_cons (chkS_ok B st E h.1) (chkSs_ok B r E h.2)
end
end Mp
/-! W24: a law's end. -/
namespace Mp
open PySem PySem.Spec PyProof.Rows
def nmOf (sc : Scope) : Nm := { vis := (ownNames sc.names).zipIdx, own := ownNames sc.names, kinds := sc.names }
def scOkB (nm : Nm) (d : Df) (ps : List PySem.Str) : Bool :=
  (nm.kinds.all fun y => !(y.2 == .free)) && decide (ps.length = d.np) && nodupB ps && ((ps.zipIdx).all fun p => nm.vis.lookup p.1 == some p.2 && (nm.kinds.lookup p.1 == some .local || nm.kinds.lookup p.1 == some .cell)) &&
  (nm.own.all fun x => (nm.vis.lookup x).isSome && (nm.kinds.lookup x == some .local || nm.kinds.lookup x == some .cell)) && slotsB nm.vis && d.cs.isEmpty
theorem scOkB_ok {nm : Nm} {d : Df} {ps : List PySem.Str} (h : scOkB nm d ps = true) : ScOk nm d ps := by
  simp only [scOkB, Bool.and_eq_true, decide_eq_true_eq] at h
  obtain ⟨⟨⟨⟨⟨⟨h1, h2⟩, h3⟩, h4⟩, h5⟩, h6⟩, h7⟩ := h
  refine ⟨fun y m e => ?_, h2, nodupB_ok h3, fun k x e => ?_, fun x m => ?_, fun x y i e1 e2 => ?_, by simpa using h7⟩
  · have := List.all_eq_true.mp h1 y m
    rw [e] at this; cases this
  · have hm : (x, k) ∈ ps.zipIdx := by
      rw [List.mem_zipIdx_iff_getElem?]; exact e
    have := List.all_eq_true.mp h4 _ hm
    simpa using this
  · have := List.all_eq_true.mp h5 x m
    simp only [Bool.and_eq_true, Bool.or_eq_true, beq_iff_eq] at this
    obtain ⟨i, hi⟩ := Option.isSome_iff_exists.mp this.1
    exact ⟨i, hi, this.2⟩
  · have := List.all_eq_true.mp (List.all_eq_true.mp h6 (x, i) (PySem.mem_of_lookup e1)) (y, i) (PySem.mem_of_lookup e2)
    simpa using this
def plainArgs (a : Arguments) : Bool := a.posonlyargs.isEmpty && a.kwonlyargs.isEmpty && a.vararg.isNone && a.kwarg.isNone
def tbOf (fn : List He.DefD) : Tb := { fnT := fun f => (fn[f]?).map fun D => (D.at_.1, D.params.args.map (·.arg)), glT := fun _ => none }
def chkDef (B : Tb) (d : Df) (D : He.DefD) : Bool := D.scope.kind == .function && !D.scope.isCoroutine && !D.scope.isGenerator && scOkB (nmOf D.scope) d (D.params.args.map (·.arg)) && plainArgs D.params && chkSs B (nmOf D.scope) d.body D.body
def progOf (ds : List Df) : Prog := { defs := fun f => ds[f]?, lams := fun _ => none, gv := fun _ => none }
def okTop (D : He.DefD) : Bool := D.at_.2.isNone && D.qual == D.name && D.dfl.isEmpty && D.kwd.isEmpty
def faOf (fn : List He.DefD) : List He.Fa := fn.map (fun D => .glo D.at_.1) ++ bltNames.map .free
theorem glo_at {K : PySem.W.Frag} {mg : PySem.Str → Option Value} {h : Heap} {fn : List He.DefD} (X : K.In h) (Gm : h.Ns mainGlobals mg) (c : He.SaysD (faOf fn) fn K) {f : Nat} {D : He.DefD} (e : fn[f]? = some D) : mg D.at_.1 = some (.ref (He.ga K D.at_.1)) := by
  refine He.glo_ok X Gm (c.fact f (f := .glo D.at_.1) ?_)
  unfold faOf
  rw [List.getElem?_append_left (by rw [List.length_map]; exact (List.getElem?_eq_some_iff.mp e).1), List.getElem?_map, e]; rfl
theorem free_at {K : PySem.W.Frag} {mg : PySem.Str → Option Value} {h : Heap} {fn : List He.DefD} (X : K.In h) (Gm : h.Ns mainGlobals mg) (c : He.SaysD (faOf fn) fn K) : ∀ x ∈ bltNames, mg x = none := fun x m => by
  obtain ⟨i, hi⟩ := List.mem_iff_getElem?.mp m
  refine He.free_ok X Gm (c.fact (fn.length + i) (f := .free x) ?_)
  unfold faOf
  rw [List.getElem?_append_right (by rw [List.length_map]; omega), List.length_map, Nat.add_sub_cancel_left, List.getElem?_map, hi]; rfl
/-- the fixed world of a law's call -/
def gloOf (prog : Program) (w : World) (K : PySem.W.Frag) (mg : PySem.Str → Option Value) (fn : List He.DefD) (s : Shared) : Glo :=
  { prog := prog, w := w, K := K, mg := mg, os := s.os, base := s.heap, tabs := [], fnA := fun f => (fn[f]?).map fun D => He.ga K D.at_.1, exA := fun _ => none, exF := fun _ => [], lamX := fun _ => none }
theorem law_mini {prog : Program} {w : World} {K : PySem.W.Frag} {mg mb : PySem.Str → Option Value} {fn : List He.DefD} {ds : List Df} {W k fl : Nat} {DL : He.DefD} {fa a : Addr} {x : PySem.Str} {s₁ : Shared} {vs : List Value} {ns : List Int}
    (KX : K.In s₁.heap) (hns : s₁.heap.Ns mainGlobals mg) (hb : s₁.heap.Ns builtinsNs mb) (hbb : ∀ x : PySem.Str, x ≠ "__name__" → mb x = bootBuiltins x) (hlim : s₁.heap.NoLimit) (hg : s₁.gens = #[])
    (ha : s₁.heap.get? a = some { cls := .type "list", data := .seq vs.toArray }) (hi : IntsAre vs ns) (hl : ns.length ≤ sizeLine) (hr : L2.Room k callerA) (c : He.SaysD (faOf fn) fn K) (hTop : fn.all okTop = true) (hLen : ds.length = fn.length)
    (hChk : (fn.zip ds).all (fun p => chkDef (tbOf fn) p.2 p.1) = true) (hL : fn[fl]? = some DL) (hx : DL.params.args.map (·.arg) = [x]) (hmg : mg DL.at_.1 = some (.ref fa)) (hrun : ∃ h', run (progOf ds) W k 0 fl [.lst (ns.map .int)] [] = .ok (.bool true) h') :
    codeAny (model prog w) callerA (.call (.ref fa) ⟨[.ref a], []⟩) (fun r s' => r = .ok (.ret (.bool true)) ∧ OldK s₁.heap s'.heap ∧ s'.os = s₁.os ∧ AllBare s'.gens) s₁ := by
  have mgn := free_at KX hns c
  let G := gloOf prog w K mg fn s₁
  have hG : G.Ok := ⟨KX, hns, ⟨mb, hb, hbb⟩, hlim⟩
  let T : GT := fun b => (s₁.heap.get? b).map .lock
  let X : Ctx := { G := G, A := callerA, stk := [], env := default, nm := default, bs := [], C := ⟨fun _ _ _ => .no, fun _ _ _ => .no, fun _ => none, 0, 0⟩, O := fun _ => False }
  have I : Inv G T [] s₁ := ⟨hG, rfl, .of_eq hg, fun b o e => by show (s₁.heap.get? b).map Gh.lock = _; rw [show s₁.heap.get? b = some o from e]; rfl, fun b g e => by
    have e : (s₁.heap.get? b).map Gh.lock = some g := e
    cases q : s₁.heap.get? b with
    | none => rw [q] at e; cases e
    | some o => rw [q] at e; cases e; exact q, (fun e m => by cases m), (fun t m => by cases m)⟩
  have Sm : Sim G T [] [] [] := ⟨rfl, .nil, fun a m => (by cases m), fun a m => (by cases m), fun b m => (by cases m), fun i a o e => (by simp at e), fun b m => by cases m⟩
  -- each def's facts
  have facts : ∀ f d, (progOf ds).defs f = some d → ∃ D, fn[f]? = some D ∧ chkDef (tbOf fn) d D = true ∧ okTop D = true := fun f d e => by
    have e : ds[f]? = some d := e
    have hlt : f < fn.length := by rw [← hLen]; exact (List.getElem?_eq_some_iff.mp e).1
    have eD : fn[f]? = some fn[f] := List.getElem?_eq_getElem hlt
    refine ⟨fn[f], eD, ?_, List.all_eq_true.mp hTop _ (List.mem_of_getElem? eD)⟩
    have hm : (fn[f], d) ∈ fn.zip ds := List.mem_iff_getElem?.mpr ⟨f, List.getElem?_zip_eq_some.mpr ⟨eD, e⟩⟩
    exact List.all_eq_true.mp hChk _ hm
  have fnAt : ∀ f D, fn[f]? = some D → okTop D = true → ∃ oc od osl dV kV doc pm an cdv ct, G.fnA f = some (He.ga K D.at_.1) ∧ K.lookup (He.ga K D.at_.1) = some ⟨oc, od, .func (PySem.W.fnOf D.name D.qual D.params D.body D.scope dV kV doc pm an cdv ct), osl⟩ ∧ PySem.W.codeIn K cdv D.qual = true ∧ dV = .none ∧ PySem.W.keepIn K (.ref (He.ga K D.at_.1)) = true ∧ mg D.at_.1 = some (.ref (He.ga K D.at_.1)) := fun f D eD hT => by
    simp only [okTop, Bool.and_eq_true, beq_iff_eq] at hT
    obtain ⟨⟨⟨t2, t3⟩, t4⟩, t5⟩ := hT
    obtain ⟨fd, F⟩ := c.def_ f (d := D) eD
    have eAt : He.fAd K D.at_ = He.ga K D.at_.1 := by
      unfold He.fAd
      have : D.at_.2 = none := by simpa using t2
      rw [this]
    rw [eAt] at F
    obtain ⟨oc, od, dV, kV, doc, pm, an, cdv, ct, osl, e1, e2, e3, e4, e5⟩ := F.ex
    subst e1
    have hd : dV = .none := by
      rcases e4 with ⟨_, z⟩ | ⟨z, _⟩
      · exact z
      · have : D.dfl = [] := by simpa using t4
        exact absurd (by show D.dfl.map _ = []; rw [this]; rfl) z
    exact ⟨oc, od, osl, dV, kV, doc, pm, an, cdv, ct, by show (fn[f]?).map _ = _; rw [eD]; rfl, e2, e3, hd, F.kp, glo_at KX hns c eD⟩
  have hFn : ∀ f y ps, (tbOf fn).fnT f = some (y, ps) → FnAt G f y ps := fun f y ps e => by
    have e : (fn[f]?).map (fun D => (D.at_.1, D.params.args.map (·.arg))) = some (y, ps) := e
    cases q : fn[f]? with
    | none => rw [q] at e; cases e
    | some D =>
      rw [q] at e; cases e
      have hT := List.all_eq_true.mp hTop _ (List.mem_of_getElem? q)
      obtain ⟨oc, od, osl, dV, kV, doc, pm, an, cdv, ct, h1, h2, h3, h4, h5, h6⟩ := fnAt f D q hT
      have hlt : f < ds.length := by rw [hLen]; exact (List.getElem?_eq_some_iff.mp q).1
      obtain ⟨D', q', hc', _⟩ := facts f ds[f] (List.getElem?_eq_getElem hlt)
      rw [q] at q'; cases q'
      simp only [chkDef, Bool.and_eq_true, plainArgs] at hc'
      obtain ⟨⟨⟨⟨⟨_, _⟩, _⟩, _⟩, ⟨⟨⟨p1, p2⟩, p3⟩, p4⟩⟩, _⟩ := hc'
      exact ⟨_, oc, od, _, osl, h1, h6, h2, ⟨by simpa using p1, by simpa using p2, by simpa using p3, by simpa using p4, h4⟩, h5, rfl⟩
  have hD : ∀ f d, (progOf ds).defs f = some d → DefFacts G (progOf ds).gv W f d := fun f d e => by
    obtain ⟨D, eD, hc', hT⟩ := facts f d e
    obtain ⟨oc, od, osl, dV, kV, doc, pm, an, cdv, ct, h1, h2, h3, h4, h5, h6⟩ := fnAt f D eD hT
    simp only [chkDef, Bool.and_eq_true, beq_iff_eq, Bool.not_eq_true'] at hc'
    obtain ⟨⟨⟨⟨⟨k1, k2⟩, k3⟩, k4⟩, k5⟩, k6⟩ := hc'
    refine ⟨_, oc, od, osl, D.name, D.qual, D.params, D.body, D.scope, dV, kV, doc, pm, an, cdv, ct, nmOf D.scope, h1, h2, h3, k1, k2, k3, rfl, scOkB_ok k4, fun X hX ok hnm hgv hw calls => ?_⟩
    have E : EnvOk (tbOf fn) X := ⟨ok, calls, fun f y ps e => by rw [hX]; exact hFn f y ps e, fun x m => by rw [hX]; exact mgn x m, fun g x e => by cases e⟩
    exact chkSs_ok (tbOf fn) d.body E (by rw [hnm]; exact k6)
  obtain ⟨h', hrun⟩ := hrun
  have hTL := List.all_eq_true.mp hTop _ (List.mem_of_getElem? hL)
  obtain ⟨oc, od, osl, dV, kV, doc, pm, an, cdv, ct, h1, h2, h3, h4, h5, h6⟩ := fnAt fl DL hL hTL
  have hfa : fa = He.ga K DL.at_.1 := by rw [hmg] at h6; cases h6; rfl
  subst hfa
  have hlen1 : DL.params.args.length = 1 := by have := congrArg List.length hx; rw [List.length_map] at this; simpa using this
  have bind : BindsTo s₁ (PySem.W.fnOf DL.name DL.qual DL.params DL.body DL.scope dV kV doc pm an cdv ct) ⟨[.ref a], []⟩ ((DL.params.args.map (·.arg)).zip [.ref a]) := by
    intro M A E Q hq
    have hlt : fl < ds.length := by rw [hLen]; exact (List.getElem?_eq_some_iff.mp hL).1
    obtain ⟨D', q', hc', _⟩ := facts fl ds[fl] (List.getElem?_eq_getElem hlt)
    rw [hL] at q'; cases q'
    simp only [chkDef, Bool.and_eq_true, plainArgs] at hc'
    obtain ⟨⟨⟨⟨⟨_, _⟩, _⟩, _⟩, ⟨⟨⟨p1, p2⟩, p3⟩, p4⟩⟩, _⟩ := hc'
    have hp : PlainPs (PySem.W.fnOf DL.name DL.qual DL.params DL.body DL.scope dV kV doc pm an cdv ct) := ⟨by simpa using p1, by simpa using p2, by simpa using p3, by simpa using p4, h4⟩
    have hbp := bind_plain (us := [Value.ref a]) (kw := []) hp (by show 1 ≤ DL.params.args.length; omega) (fun y m => by cases m) .nil (fun n m => ?_)
    · rw [hbp]
      have e1 : (PySem.W.fnOf DL.name DL.qual DL.params DL.body DL.scope dV kV doc pm an cdv ct).params.args.map (·.arg) = [x] := hx
      rw [e1]
      rw [hx] at hq
      refine wpAny_pure ?_
      simpa [List.lookup_cons] using hq
    · have e1 : (PySem.W.fnOf DL.name DL.qual DL.params DL.body DL.scope dV kV doc pm an cdv ct).params.args.map (·.arg) = [x] := hx
      rw [e1] at m ⊢
      have : n = x := by simpa using m
      subst this
      simp [List.lookup_cons]
  have rv : RVs G T [] [.lst (ns.map .int)] [.ref a] := by
    refine .cons ?_ .nil
    simp only [RV]
    exact ⟨a, vs, 0, rfl, by show (s₁.heap.get? a).map Gh.lock = _; rw [ha]; rfl, by rw [hi.length]; exact hl, RVs.ofInts hi⟩
  have main := run_ok (W := W) hD k X 0 rfl rfl hr (fun b m => by cases m) fl (He.ga K DL.at_.1) h1 [.ref a] [] [.ref a] [.lst (ns.map .int)] T [] [] s₁ (fun _ _ => False) I Sm rv (by rw [hrun]; simp) (fun x s' ⟨_, _, _, e, _⟩ => by rw [hrun] at e; cases e)
    ⟨oc, od, _, osl, h2, bind, by show 1 = DL.params.args.length; omega⟩
  refine codeAny_mono main fun r s' q => ?_
  cases r with
  | error e => exact q.elim
  | ok f =>
    cases f with
    | ret u =>
      obtain ⟨v, h2', T', φ', e, g, rv'⟩ := q
      rw [hrun] at e
      cases e
      simp only [RV] at rv'
      subst rv'
      exact ⟨rfl, OldK.of_keep fun b o e => g.inv.bk b o e, g.inv.os, g.inv.bare⟩
    | next => exact q.elim
    | brk => exact q.elim
    | cont => exact q.elim
/-- the goal behind the head, for walk: from the plain statement about the mini program -/
theorem walk_mini {l : PySem.W.OpenLaw} {n k W fl : Nat} {q : Program} {loose : List PySem.Str} {XP : (PySem.Str → Option Value) → Heap → Prop} {fn : List He.DefD} {ds : List Df} {d : DefRec} {m : Nat} {DL : He.DefD} {x : PySem.Str}
    (hn : l.most = some n) (hn2 : n ≤ sizeLine) (hdf : d.params.defaults = []) (hr : L2.Room k callerA) (hTop : fn.all okTop = true) (hLen : ds.length = fn.length) (hChk : (fn.zip ds).all (fun p => chkDef (tbOf fn) p.2 p.1) = true)
    (hL : fn[fl]? = some DL) (hx : DL.params.args.map (·.arg) = [x]) (hname : DL.at_.1 = d.name) (hrun : ∀ ns : List Int, ns.length ≤ n → ∃ h', run (progOf ds) W k 0 fl [.lst (ns.map .int)] [] = .ok (.bool true) h') :
    PySem.W.WalkO q loose XP (He.hookD m (faOf fn) fn).says l.row.toRowW d [] (fun f vs => PySem.call f vs) := by
  refine Att.attach_call hn hdf fun w s₀ s₁ mg mb fa o pm cd doc a vs ns G Y ho hd hcd hmg hobj hints hlen hg => ?_
  obtain ⟨K, KX, c⟩ := Y
  exact law_mini (W := W) KX G.T.g G.T.b G.T.builtins G.T.nolimit hg hobj hints (Nat.le_trans hlen hn2) hr c hTop hLen hChk hL hx (by rw [hname]; exact hmg) (hrun ns hlen)
end Mp
/-! M0: the mini language, run by rewriting. -/
namespace Mp
/-! ### the heap -/
theorem Hp.at_put0 {h : Hp} {i j : Nat} {o : Ob} (hi : i < h.length) : (h.put i o).at j = if j = i then some o else h.at j := by
  unfold Hp.put Hp.at
  by_cases e : j = i
  · subst e; rw [if_pos rfl, List.getElem?_set_self hi]; rfl
  · rw [if_neg e, List.getElem?_set_ne (Ne.symm e)]
theorem Hp.at_lt0 {h : Hp} {i : Nat} {o : Ob} (e : h.at i = some o) : i < h.length := by
  unfold Hp.at at e
  cases q : h[i]? with
  | none => rw [q] at e; cases e
  | some x => exact (List.getElem?_eq_some_iff.mp q).1
@[simp] theorem Hp.len_put0 {h : Hp} {i : Nat} {o : Ob} : (h.put i o).length = h.length := by unfold Hp.put; simp
theorem Hp.at_put_same {h : Hp} {i : Nat} {o o' : Ob} (e : h.at i = some o') : (h.put i o).at i = some o := by rw [Hp.at_put0 (Hp.at_lt0 e), if_pos rfl]
theorem Hp.at_put_ne {h : Hp} {i j : Nat} {o : Ob} (n : j ≠ i) : (h.put i o).at j = h.at j := by
  unfold Hp.put Hp.at
  rw [List.getElem?_set_ne (Ne.symm n)]
theorem Hp.put_put {h : Hp} {i : Nat} {o o' : Ob} : (h.put i o).put i o' = h.put i o' := by unfold Hp.put; simp
theorem Hp.put_comm {h : Hp} {i j : Nat} {o o' : Ob} (n : i ≠ j) : (h.put i o).put j o' = (h.put j o').put i o := by unfold Hp.put; exact List.set_comm _ _ n
theorem Hp.put_at {h : Hp} {i : Nat} {o : Ob} (e : h.at i = some o) : h.put i o = h := by
  unfold Hp.put
  refine List.ext_getElem? fun k => ?_
  by_cases hk : k = i
  · subst hk
    have hl := Hp.at_lt0 e
    rw [List.getElem?_set_self hl]
    unfold Hp.at at e
    cases q : h[k]? with
    | none => rw [q] at e; cases e
    | some x => rw [q] at e; simp at e; rw [e]
  · rw [List.getElem?_set_ne (Ne.symm hk)]
/-! ### the built-in operations, each at the values it takes -/
section
variable {base : Nat} {h : Hp} {a b : Int} {m : Bool} {v w : Val}
theorem prim_add : prim base (.add m) [.int a, .int b] h = .ok (.int (a + b)) h := rfl
theorem prim_sub : prim base .sub [.int a, .int b] h = .ok (.int (a - b)) h := rfl
theorem prim_mul (h1 : okI a = true) (h2 : okI b = true) : prim base (.mul m) [.int a, .int b] h = .ok (.int (a * b)) h := by
  show (if (okI a && okI b) = true then R.ok (Val.int (a * b)) h else R.no) = _
  rw [h1, h2]; rfl
theorem prim_fdiv (h1 : okD b = true) : prim base .fdiv [.int a, .int b] h = .ok (.int (a.fdiv b)) h := by
  show (if okD b = true then R.ok (Val.int (a.fdiv b)) h else R.no) = _
  rw [h1]; rfl
theorem prim_mod (h1 : b ≠ 0) : prim base .mod [.int a, .int b] h = .ok (.int (a.fmod b)) h := by
  show (if b = 0 then R.no else R.ok (Val.int (a.fmod b)) h) = _
  rw [if_neg h1]
theorem prim_pow (h1 : (decide (0 ≤ b) && decide (b ≤ 30) && decide (a.natAbs.log2 < 100000)) = true) : prim base .pow [.int a, .int b] h = .ok (.int (a ^ b.toNat)) h := by
  show (if (decide (0 ≤ b) && decide (b ≤ 30) && decide (a.natAbs.log2 < 100000)) = true then R.ok (Val.int (a ^ b.toNat)) h else R.no) = _
  rw [h1]; rfl
theorem prim_neg : prim base .neg [.int a] h = .ok (.int (-a)) h := rfl
theorem prim_abs : prim base .abs [.int a] h = .ok (.int (if a < 0 then -a else a)) h := rfl
theorem prim_int : prim base .int [.int a] h = .ok (.int a) h := rfl
theorem prim_lt : prim base .lt [.int a, .int b] h = .ok (.bool (decide (a < b))) h := rfl
theorem prim_le : prim base .le [.int a, .int b] h = .ok (.bool (decide (a ≤ b))) h := rfl
theorem prim_gt : prim base .gt [.int a, .int b] h = .ok (.bool (decide (b < a))) h := rfl
theorem prim_ge : prim base .ge [.int a, .int b] h = .ok (.bool (decide (b ≤ a))) h := rfl
theorem prim_not {c : Bool} (e : v.tru h = some c) : prim base .not [v] h = .ok (.bool (!c)) h := by
  have : prim base .not [v] h = (ofO (v.tru h) h).bind fun b h => .ok (.bool (!b)) h := by cases v <;> rfl
  rw [this, e]; rfl
theorem prim_notB {c : Bool} : prim base .not [.bool c] h = .ok (.bool (!c)) h := rfl
theorem prim_eq : prim base .eq [v, w] h = (ofO (pyEq h v w) h).bind fun b h => .ok (.bool b) h := by
  cases v <;> rfl
theorem prim_ne : prim base .ne [v, w] h = (ofO (pyEq h v w) h).bind fun b h => .ok (.bool (!b)) h := by
  cases v <;> rfl
theorem pyEq_int : pyEq h (.int a) (.int b) = some (a == b) := by
  simp [pyEq, Val.dat, PySem.PyData.eqv]
theorem prim_eqI : prim base .eq [.int a, .int b] h = .ok (.bool (a == b)) h := by
  rw [prim_eq, pyEq_int]; rfl
theorem prim_neI : prim base .ne [.int a, .int b] h = .ok (.bool (!(a == b))) h := by
  rw [prim_ne, pyEq_int]; rfl
theorem prim_ix {xs : List Val} {i : Int} {k : Nat} (e : v.seq h = some xs) (e1 : place xs.length i = some k) (e2 : xs[k]? = some w) : prim base .ix [v, .int i] h = .ok w h := by
  have : prim base .ix [v, .int i] h = match v.seq h with | some xs => (ofO ((place xs.length i).bind fun k => xs[k]?) h) | Option.none => .no := by cases v <;> rfl
  rw [this, e]
  simp only [e1, Option.bind_some, e2]; rfl
theorem prim_lenR {i : Nat} {xs : List Val} (e : (Val.ref i).seq h = some xs) : prim base .len [.ref i] h = .ok (.int xs.length) h := by
  have : prim base .len [.ref i] h = match (Val.ref i).seq h with | some xs => R.ok (Val.int xs.length) h | Option.none => .no := rfl
  rw [this, e]
theorem prim_lenT {xs : List Val} : prim base .len [.tup xs] h = .ok (.int xs.length) h := rfl
theorem prim_lenL {xs : List Val} : prim base .len [.lst xs] h = .ok (.int xs.length) h := rfl
theorem prim_isi {ts : List Ty} {k : String} (e : v.kind h = some k) : prim base (.isi ts) [v] h = .ok (.bool (ts.any fun t => t.has k)) h := by
  have : prim base (.isi ts) [v] h = (ofO (v.kind h) h).bind fun k h => .ok (.bool (ts.any fun t => t.has k)) h := by cases v <;> rfl
  rw [this, e]; rfl
theorem prim_set {i : Nat} {xs : List Val} {j : Int} {k : Nat} (e : h.at i = some (.lst xs)) (e1 : place xs.length j = some k) (e2 : wok base i v = true) : prim base .setix [.ref i, .int j, v] h = .ok .none (h.put i (.lst (xs.set k v))) := by
  show (match h.at i with | some (.lst xs) => _ | _ => _) = _
  rw [e]; simp only [e1, e2, if_true]
theorem prim_pop {i : Nat} {xs : List Val} {j : Int} {k : Nat} (e : h.at i = some (.lst xs)) (e1 : place xs.length j = some k) (e2 : xs[k]? = some v) : prim base .popAt [.ref i, .int j] h = .ok v (h.put i (.lst (xs.eraseIdx k))) := by
  show (match h.at i with | some (.lst xs) => _ | _ => _) = _
  rw [e]; simp only [e1, e2]
end
theorem place_nat {n k : Nat} (h : k < n) : place n (k : Int) = some k := by
  unfold place
  rw [if_pos (by omega), if_pos (by omega)]; simp
theorem wok_int {base i : Nat} {a : Int} : wok base i (.int a) = true := by simp [wok, Val.low]
theorem test_tt {β : Type} {h : Hp} {f g : Val → Hp → R β} : R.test (.ok (.bool true) h) f g = f (.bool true) h := rfl
theorem test_ff {β : Type} {h : Hp} {f g : Val → Hp → R β} : R.test (.ok (.bool false) h) f g = g (.bool false) h := rfl
theorem test_b {β : Type} {c : Bool} {h : Hp} {f g : Val → Hp → R β} : R.test (.ok (.bool c) h) f g = if c then f (.bool c) h else g (.bool c) h := by cases c <;> rfl
/-- entering and leaving a def that keeps nothing of its own -/
theorem run_pure {P : Prog} {W n b f : Nat} {vs : List Val} {h : Hp} {d : Df} (e : P.defs f = some d) (hl : vs.length = d.np) (hc : d.cs = []) (hp : d.pure = true) :
    run P W (n + 1) b f vs h = leave true h.length (exs ⟨run P W n h.length, runV P W n h.length, P.gv, h.length, W⟩ (slots0 d.ns vs) h d.body) := by
  simp only [run, e, if_pos hl, hc, hp, mkCells, if_true]
/-- values that hold no reference: as they are -/
theorem leave_ok {n : Nat} {v w : Val} {h : Hp} (e : freeze n h v = some w) : leave true n (.ok (.rt v) h) = .ok w (h.take n) := by
  show (match freeze n h v with | some w => R.ok w (h.take n) | Option.none => .no) = _
  rw [e]
theorem take_len {h h' : Hp} (e : h'.length = h.length) : h'.take h.length = h' := by rw [← e]; exact List.take_length
end Mp
/-! M1: the stream of digits. -/
namespace Mp
/-- what the stream holds -/
structure Sg where
  xs : List Int
  c : Int
  t : Int
  x : Int
structure Sg.Ok (g : Sg) : Prop where
  c : 0 ≤ g.c
  x0 : 0 ≤ g.x
  x1 : g.x < 2147483647
  t : 0 ≤ g.t
  n : g.xs.length ≤ 63
def Sg.l0 (g : Sg) : Ob := .lst (g.xs.map .int)
def Sg.l1 (g : Sg) (r : Nat) : Ob := .lst [.ref r, .int g.c, .int g.t, .int g.x]
/-- the heap with the stream at r, s -/
def stH (h : Hp) (r s : Nat) (g : Sg) : Hp := (h.put r g.l0).put s (g.l1 r)
structure Spot (h : Hp) (r s : Nat) : Prop where
  hr : r < h.length
  hs : s < h.length
  hn : r ≠ s
section
variable {h : Hp} {r s : Nat} {g g' : Sg} (p : Spot h r s)
@[simp] theorem stH_len : (stH h r s g).length = h.length := by simp [stH]
include p
theorem stH_r : (stH h r s g).at r = some (.lst (g.xs.map .int)) := by
  unfold stH
  rw [Hp.at_put_ne p.hn, Hp.at_put0 p.hr, if_pos rfl]; rfl
theorem stH_s : (stH h r s g).at s = some (.lst [.ref r, .int g.c, .int g.t, .int g.x]) := by
  unfold stH
  rw [Hp.at_put0 (by simpa using p.hs), if_pos rfl]; rfl
theorem stH_putr {ys : List Int} : (stH h r s g).put r (.lst (ys.map .int)) = stH h r s { g with xs := ys } := by
  unfold stH
  rw [Hp.put_comm p.hn.symm, Hp.put_put]; rfl
theorem stH_puts {c t x : Int} : (stH h r s g).put s (.lst [.ref r, .int c, .int t, .int x]) = stH h r s { g with c := c, t := t, x := x } := by
  unfold stH
  rw [Hp.put_put]; rfl
theorem stH_ne {j : Nat} (a : j ≠ r) (b : j ≠ s) : (stH h r s g).at j = h.at j := by
  unfold stH
  rw [Hp.at_put_ne b, Hp.at_put_ne a]
theorem stH_st : stH (stH h r s g) r s g' = stH h r s g' := by
  unfold stH
  rw [Hp.put_comm (i := s) (j := r) p.hn.symm, Hp.put_put, Hp.put_put]
theorem Spot.st : Spot (stH h r s g) r s := ⟨by simpa using p.hr, by simpa using p.hs, p.hn⟩
theorem stH_self (e : h.at r = some g.l0) (e' : h.at s = some (g.l1 r)) : stH h r s g = h := by
  unfold stH
  rw [Hp.put_at e, Hp.put_at e']
end
def drawC : E := (.and (.prim .eq (.cons (.prim .ix (.cons (.var 0) (.cons (.cst (.int 1)) .nil))) (.cons (.cst (.int 0)) .nil))) (.prim .ne (.cons (.prim .ix (.cons (.var 0) (.cons (.cst (.int 0)) .nil))) (.cons (.lst false .nil) .nil))))
def drawB : Ss := (.cons (.asg (.nm 2) (.prim .abs (.cons (.meth .popAt (.prim .ix (.cons (.var 0) (.cons (.cst (.int 0)) .nil))) (.cons (.cst (.int 0)) .nil)) .nil)))
 (.cons (.asg (.sub (.var 0) (.cst (.int 3))) (.prim .mod (.cons (.prim .int (.cons (.prim (.add false) (.cons (.prim (.add false) (.cons (.prim (.mul false) (.cons (.prim .ix (.cons (.var 0) (.cons (.cst (.int 3)) .nil))) (.cons (.cst (.int 8191)) .nil))) (.cons (.var 2) .nil))) (.cons (.cst (.int 3)) .nil))) .nil)) (.cons (.cst (.int 2147483647)) .nil))))
 (.cons (.asg (.sub (.var 0) (.cst (.int 1))) (.ite (.prim .ge (.cons (.var 2) (.cons (.prim .pow (.cons (.cst (.int 10)) (.cons (.cst (.int 18)) .nil))) .nil))) (.var 2) (.cst (.int 0))))
 .nil)))
def drawDf : Df := ⟨2, 5, [], true, (.cons (.asg (.sub (.var 0) (.cst (.int 2))) (.prim (.add false) (.cons (.prim .ix (.cons (.var 0) (.cons (.cst (.int 2)) .nil))) (.cons (.cst (.int 1)) .nil))))
 (.cons (.whil drawC drawB)
 (.cons (.ifs (.prim .gt (.cons (.prim .ix (.cons (.var 0) (.cons (.cst (.int 1)) .nil))) (.cons (.cst (.int 0)) .nil))) (.cons (.asg (.nm 3) (.prim .mod (.cons (.prim .int (.cons (.prim .ix (.cons (.var 0) (.cons (.cst (.int 1)) .nil))) .nil)) (.cons (.var 1) .nil))))
 (.cons (.asg (.sub (.var 0) (.cst (.int 1))) (.prim .fdiv (.cons (.prim .ix (.cons (.var 0) (.cons (.cst (.int 1)) .nil))) (.cons (.var 1) .nil))))
 (.cons (.ret (.var 3))
 .nil))) .nil)
 (.cons (.asg (.nm 4) (.prim .mod (.cons (.prim .int (.cons (.prim .pow (.cons (.prim (.add false) (.cons (.prim (.add false) (.cons (.prim .ix (.cons (.var 0) (.cons (.cst (.int 3)) .nil))) (.cons (.prim (.mul false) (.cons (.cst (.int 7919)) (.cons (.prim .ix (.cons (.var 0) (.cons (.cst (.int 2)) .nil))) .nil))) .nil))) (.cons (.cst (.int 104729)) .nil))) (.cons (.cst (.int 5)) .nil))) .nil)) (.cons (.cst (.int 2147483629)) .nil))))
 (.cons (.ret (.prim .mod (.cons (.prim .mod (.cons (.prim .int (.cons (.prim .pow (.cons (.prim (.add false) (.cons (.prim (.add false) (.cons (.prim (.mul false) (.cons (.var 4) (.cons (.cst (.int 48271)) .nil))) (.cons (.prim (.mul false) (.cons (.cst (.int 30011)) (.cons (.prim .ix (.cons (.var 0) (.cons (.cst (.int 2)) .nil))) .nil))) .nil))) (.cons (.cst (.int 29)) .nil))) (.cons (.cst (.int 3)) .nil))) .nil)) (.cons (.cst (.int 1000000007)) .nil))) (.cons (.var 1) .nil))))
 .nil)))))⟩
/-! ### the steps -/
section
variable {h : Hp} {r s b : Nat} {g : Sg} (p : Spot h r s)
include p
theorem ix0 : prim b .ix [.ref s, .int 0] (stH h r s g) = .ok (.ref r) (stH h r s g) := prim_ix (xs := [.ref r, .int g.c, .int g.t, .int g.x]) (by show (match (stH h r s g).at s with | some (.lst xs) | some (.lck xs) => some xs | _ => Option.none) = _; rw [stH_s p]) rfl rfl
theorem ix1 : prim b .ix [.ref s, .int 1] (stH h r s g) = .ok (.int g.c) (stH h r s g) := prim_ix (xs := [.ref r, .int g.c, .int g.t, .int g.x]) (by show (match (stH h r s g).at s with | some (.lst xs) | some (.lck xs) => some xs | _ => Option.none) = _; rw [stH_s p]) rfl rfl
theorem ix2 : prim b .ix [.ref s, .int 2] (stH h r s g) = .ok (.int g.t) (stH h r s g) := prim_ix (xs := [.ref r, .int g.c, .int g.t, .int g.x]) (by show (match (stH h r s g).at s with | some (.lst xs) | some (.lck xs) => some xs | _ => Option.none) = _; rw [stH_s p]) rfl rfl
theorem ix3 : prim b .ix [.ref s, .int 3] (stH h r s g) = .ok (.int g.x) (stH h r s g) := prim_ix (xs := [.ref r, .int g.c, .int g.t, .int g.x]) (by show (match (stH h r s g).at s with | some (.lst xs) | some (.lck xs) => some xs | _ => Option.none) = _; rw [stH_s p]) rfl rfl
theorem set1 {v : Int} : prim b .setix [.ref s, .int 1, .int v] (stH h r s g) = .ok .none (stH h r s { g with c := v }) := by
  rw [prim_set (stH_s p) (k := 1) rfl wok_int]
  exact congrArg _ (stH_puts p (c := v) (t := g.t) (x := g.x))
theorem set2 {v : Int} : prim b .setix [.ref s, .int 2, .int v] (stH h r s g) = .ok .none (stH h r s { g with t := v }) := by
  rw [prim_set (stH_s p) (k := 2) rfl wok_int]
  exact congrArg _ (stH_puts p (c := g.c) (t := v) (x := g.x))
theorem set3 {v : Int} : prim b .setix [.ref s, .int 3, .int v] (stH h r s g) = .ok .none (stH h r s { g with x := v }) := by
  rw [prim_set (stH_s p) (k := 3) rfl wok_int]
  exact congrArg _ (stH_puts p (c := g.c) (t := g.t) (x := v))
theorem pop0 {y : Int} {ys : List Int} (e : g.xs = y :: ys) : prim b .popAt [.ref r, .int 0] (stH h r s g) = .ok (.int y) (stH h r s { g with xs := ys }) := by
  have h1 := stH_r p (g := g)
  rw [e] at h1
  rw [prim_pop h1 (k := 0) (v := .int y) (by show place (ys.map Val.int).length.succ 0 = some 0; exact place_nat (k := 0) (Nat.succ_pos _)) rfl]
  exact congrArg _ (stH_putr p (ys := ys))
end

theorem isL_r {h : Hp} {r s : Nat} {g : Sg} (p : Spot h r s) : (Val.ref r).isL (stH h r s g) = true := by
  show (match (stH h r s g).at r with | some (.lst _) | some (.lck _) => true | _ => false) = _
  rw [stH_r p]
theorem dat_ints {h : Hp} {k : Nat} : ∀ ns : List Int, mapO (Val.dat h k) (ns.map .int) = some (ns.map .int)
  | [] => rfl
  | n :: r => by
    have : Val.dat h k (.int n) = some (.int n) := by cases k <;> rfl
    simp [mapO, this, dat_ints r]
theorem pyEq_r {h : Hp} {r s : Nat} {g : Sg} (p : Spot h r s) : pyEq (stH h r s g) (.ref r) (.lst []) = some g.xs.isEmpty := by
  have e1 : Val.dat (stH h r s g) 30 (.ref r) = some (.list (g.xs.map .int)) := by
    show (match (stH h r s g).at r with | some (.lst xs) | some (.lck xs) => (mapO (Val.dat (stH h r s g) 29) xs).map PySem.PyData.list | _ => Option.none) = _
    rw [stH_r p]
    show (mapO (Val.dat (stH h r s g) 29) (g.xs.map .int)).map _ = _
    rw [dat_ints]; rfl
  have e2 : Val.dat (stH h r s g) 30 (.lst []) = some (.list []) := rfl
  unfold pyEq
  rw [e1, e2]
  cases e : g.xs with
  | nil => simp [PySem.PyData.eqv, PySem.PyData.eqvAll]
  | cons a b => simp [PySem.PyData.eqv, PySem.PyData.eqvAll]
theorem drawC_ev {C : Cx} {h : Hp} {r s : Nat} {g : Sg} (p : Spot h r s) {ρ : Env} (e : ρ[0]? = some (.v (.ref s))) : ev C ρ (stH h r s g) drawC = .ok (.bool (g.c == 0 && !g.xs.isEmpty)) (stH h r s g) := by
  have g0 : ∀ h, ρ.get h 0 = some (.ref s) := fun h => by simp [Env.get, e]
  simp only [drawC, ev, evs, g0, ofO_some, R.bind, ix1 p, prim_eqI, R.test, Val.tru, ix0 p, newL, Bool.false_eq_true, if_false, prim_ne, pyEq_r p]
  cases g.c == 0 <;> simp [Val.tru]

theorem okI_lt {a : Int} {k : Nat} (h : a.natAbs < 2 ^ k) (hk : k ≤ 500000) (k0 : 0 < k) : okI a = true := by
  unfold okI
  rw [decide_eq_true_eq]
  by_cases z : a.natAbs = 0
  · rw [z]; decide
  · exact Nat.lt_of_lt_of_le ((Nat.log2_lt z).mpr h) hk
/-- one cell of the script is taken -/
def takeC (y : Int) : Int := if y < 0 then -y else y
def feed1 (g : Sg) (y : Int) (ys : List Int) : Sg := ⟨ys, if (10 : Int) ^ 18 ≤ takeC y then takeC y else 0, g.t, (g.x * 8191 + takeC y + 3).fmod 2147483647⟩
theorem feed1_ok {g : Sg} {y : Int} {ys : List Int} (o : g.Ok) (e : g.xs = y :: ys) : (feed1 g y ys).Ok := by
  refine ⟨?_, Int.fmod_nonneg_of_pos _ (by decide), Int.fmod_lt_of_pos _ (by decide), o.t, ?_⟩
  · show 0 ≤ (if (10 : Int) ^ 18 ≤ takeC y then takeC y else 0)
    split
    · rename_i q; exact Int.le_trans (by decide) q
    · exact Int.le_refl 0
  · have := o.n; rw [e] at this; exact Nat.le_of_succ_le this
theorem get_of {ρ : Env} {h : Hp} {i : Nat} {v : Val} (e : ρ[i]? = some (.v v)) : ρ.get h i = some v := by simp [Env.get, e]
theorem drawB_ex {C : Cx} {h : Hp} {r s : Nat} {g : Sg} (p : Spot h r s) (o : g.Ok) {a w : Slot} {y : Int} {ys : List Int} (e : g.xs = y :: ys) (hw : w = .u ∨ ∃ v, w = .v v) :
    exs C [.v (.ref s), a, w, .u, .u] (stH h r s g) drawB = .ok (.nx [.v (.ref s), a, .v (.int (takeC y)), .u, .u]) (stH h r s (feed1 g y ys)) := by
  have k1 : okI g.x = true := okI_lt (k := 40) (by have := o.x0; have := o.x1; omega) (by decide) (by decide)
  have k2 : okI 8191 = true := by decide
  have b2 : ∀ h, bindT C [.v (.ref s), a, w, .u, .u] h (.nm 2) (.int (takeC y)) = .ok [.v (.ref s), a, .v (.int (takeC y)), .u, .u] h := fun h => by
    rcases hw with rfl | ⟨v, rfl⟩ <;> rfl
  have p2 : ∀ h b, prim b .pow [.int 10, .int 18] h = .ok (.int ((10 : Int) ^ 18)) h := fun h b => prim_pow (by decide)
  have g0 : ∀ h (x : Slot), Env.get [.v (.ref s), a, x, .u, .u] h 0 = some (.ref s) := fun h x => rfl
  have g2 : ∀ h, Env.get [.v (.ref s), a, .v (.int (takeC y)), .u, .u] h 2 = some (.int (takeC y)) := fun h => rfl
  have abs' : ∀ h b, prim b .abs [.int y] h = .ok (.int (takeC y)) h := fun h b => rfl
  simp only [drawB, exs, ex, ev, evs, g0, ofO_some, R.bind_ok, ix0 p, isL_r p, if_true, pop0 p e, abs', b2]
  simp only [bindT, ev, evs, g0, g2, ofO_some, R.bind_ok, ix3 p, prim_mul k1 k2, prim_add, prim_int, prim_mod (show (2147483647 : Int) ≠ 0 by decide), set3 p]
  simp only [p2, R.bind_ok, prim_ge, test_b]
  by_cases q : (10 : Int) ^ 18 ≤ takeC y
  · simp only [q, decide_true, if_true, ofO_some, g2, R.bind_ok, bindT, ev, evs, g0, set1 p]
    unfold feed1
    rw [if_pos q]
  · simp only [q, decide_false, Bool.false_eq_true, if_false, ofO_some, g2, R.bind_ok, bindT, ev, evs, g0, set1 p]
    unfold feed1
    rw [if_neg q]

theorem draw_loop {C : Cx} {h : Hp} {r s : Nat} (p : Spot h r s) {a : Slot} : ∀ (n : Nat) (g : Sg) (w : Slot), g.Ok → g.xs.length < n → (w = .u ∨ ∃ v, w = .v v) →
    ∃ g' w', g'.Ok ∧ g'.t = g.t ∧ (w' = .u ∨ ∃ v, w' = .v v) ∧ loopW (fun ρ h => ev C ρ h drawC) (fun ρ h => exs C ρ h drawB) n [.v (.ref s), a, w, .u, .u] (stH h r s g) = .ok (.nx [.v (.ref s), a, w', .u, .u]) (stH h r s g')
  | 0, g, w, o, l, hw => absurd l (Nat.not_lt_zero _)
  | n + 1, g, w, o, l, hw => by
    have hc : ev C [.v (.ref s), a, w, .u, .u] (stH h r s g) drawC = _ := drawC_ev p rfl
    by_cases q : (g.c == 0 && !g.xs.isEmpty) = true
    · cases e : g.xs with
      | nil => rw [e] at q; simp at q
      | cons y ys =>
        obtain ⟨g', w', o', t', hw', e'⟩ := draw_loop p (a := a) n (feed1 g y ys) (.v (.int (takeC y))) (feed1_ok o e) (by show ys.length < n; rw [e] at l; simp at l; exact l) (Or.inr ⟨_, rfl⟩)
        refine ⟨g', w', o', t', hw', ?_⟩
        rw [loopW, hc, q, test_tt, drawB_ex p o e hw]
        exact e'
    · refine ⟨g, w, o, rfl, hw, ?_⟩
      rw [loopW, hc, show (g.c == 0 && !g.xs.isEmpty) = false by simpa using q, test_ff]
theorem log2_lt' {a : Int} {k m : Nat} (h : a.natAbs < 2 ^ k) (hk : k ≤ m) (k0 : 0 < m) : a.natAbs.log2 < m := by
  by_cases z : a.natAbs = 0
  · rw [z]; simpa using k0
  · exact Nat.lt_of_lt_of_le ((Nat.log2_lt z).mpr h) hk
theorem okD_lt {a : Int} (h0 : 0 < a) (h : a < 2 ^ 40) : okD a = true := by
  unfold okD
  simp only [Bool.and_eq_true, decide_eq_true_eq]
  exact ⟨h0, log2_lt' (k := 40) (by omega) (by decide) (by decide)⟩
theorem lv_int {n : Nat} {x : Int} {h : Hp} (e : h.length = n) : leave true n (.ok (.rt (.int x)) h) = .ok (.int x) h := by
  rw [leave_ok (w := .int x) rfl, ← e, List.take_length]
theorem draw_body {C : Cx} {h : Hp} {r s : Nat} {g : Sg} {many : Int} (p : Spot h r s) (o : g.Ok) (m0 : 0 < many) (m1 : many < 2 ^ 40) (ht : g.t < 2 ^ 60) (hW : 64 ≤ C.w) :
    ∃ g' x, g'.Ok ∧ g'.t = g.t + 1 ∧ 0 ≤ x ∧ x < many ∧ exs C [.v (.ref s), .v (.int many), .u, .u, .u] (stH h r s g) drawDf.body = .ok (.rt (.int x)) (stH h r s g') := by
  let g1 : Sg := { g with t := g.t + 1 }
  have o1 : g1.Ok := ⟨o.c, o.x0, o.x1, by have := o.t; show 0 ≤ g.t + 1; omega, o.n⟩
  obtain ⟨g2, w, o2, t2, hw, el⟩ := draw_loop (C := C) p (a := .v (.int many)) C.w g1 .u o1 (Nat.lt_of_lt_of_le (Nat.lt_succ_of_le o1.n) hW) (Or.inl rfl)
  have t2 : g2.t = g.t + 1 := t2
  have g0 : ∀ h (x y z : Slot), Env.get [.v (.ref s), .v (.int many), x, y, z] h 0 = some (.ref s) := fun _ _ _ _ => rfl
  have g1' : ∀ h (x y z : Slot), Env.get [.v (.ref s), .v (.int many), x, y, z] h 1 = some (.int many) := fun _ _ _ _ => rfl
  have s2 : prim C.base .setix [.ref s, .int 2, .int (g.t + 1)] (stH h r s g) = .ok .none (stH h r s g1) := set2 p
  have mn : many ≠ 0 := by omega
  have od : okD many = true := okD_lt m0 m1
  by_cases q : 0 < g2.c
  · refine ⟨{ g2 with c := g2.c.fdiv many }, g2.c.fmod many, ⟨Int.fdiv_nonneg o2.c (by omega), o2.x0, o2.x1, o2.t, o2.n⟩, t2, Int.fmod_nonneg_of_pos _ m0, Int.fmod_lt_of_pos _ m0, ?_⟩
    simp only [drawDf, exs, ex, ev, evs, bindT, g0, g1', ofO_some, R.bind_ok, ix2 p, prim_add, s2, el, ix1 p, prim_gt, q, decide_true, test_tt, prim_int, prim_mod mn, List.getElem?_cons_succ, List.getElem?_cons_zero, List.set_cons_succ, List.set_cons_zero, prim_fdiv od, set1 p]
    rfl
  · have m31 : ∀ z : Int, 0 ≤ z.fmod 2147483629 ∧ z.fmod 2147483629 < 2147483629 := fun z => ⟨Int.fmod_nonneg_of_pos _ (by decide), Int.fmod_lt_of_pos _ (by decide)⟩
    have tt : 0 ≤ g2.t ∧ g2.t ≤ 2 ^ 60 := ⟨o2.t, by rw [t2]; omega⟩
    have x0 := o2.x0
    have x1 := o2.x1
    generalize hM : ((g2.x + 7919 * g2.t + 104729) ^ (5 : Int).toNat).fmod 2147483629 = M
    have mM : 0 ≤ M ∧ M < 2147483629 := by rw [← hM]; exact m31 _
    refine ⟨g2, (((M * 48271 + 30011 * g2.t + 29) ^ (3 : Int).toNat).fmod 1000000007).fmod many, o2, t2, Int.fmod_nonneg_of_pos _ m0, Int.fmod_lt_of_pos _ m0, ?_⟩
    have kt : okI g2.t = true := okI_lt (k := 61) (by omega) (by decide) (by decide)
    have kM : okI M = true := okI_lt (k := 40) (by omega) (by decide) (by decide)
    have ka : okI 7919 = true := by decide
    have kb : okI 48271 = true := by decide
    have kc : okI 30011 = true := by decide
    have pa : (decide ((0 : Int) ≤ 5) && decide ((5 : Int) ≤ 30) && decide ((g2.x + 7919 * g2.t + 104729).natAbs.log2 < 100000)) = true := by
      simp only [Bool.and_eq_true, decide_eq_true_eq]
      exact ⟨by decide, log2_lt' (k := 90) (by omega) (by decide) (by decide)⟩
    have pb : (decide ((0 : Int) ≤ 3) && decide ((3 : Int) ≤ 30) && decide ((M * 48271 + 30011 * g2.t + 29).natAbs.log2 < 100000)) = true := by
      simp only [Bool.and_eq_true, decide_eq_true_eq]
      exact ⟨by decide, log2_lt' (k := 90) (by omega) (by decide) (by decide)⟩
    have n1 : (2147483629 : Int) ≠ 0 := by decide
    have n2 : (1000000007 : Int) ≠ 0 := by decide
    simp only [drawDf, exs, ex, ev, evs, bindT, g0, g1', ofO_some, R.bind_ok, ix2 p, ix3 p, prim_add, s2, el, ix1 p, prim_gt, q, decide_false, test_ff, prim_int, prim_mul ka kt, prim_pow pa, prim_mod n1, hM, List.getElem?_cons_succ, List.getElem?_cons_zero, List.set_cons_succ, List.set_cons_zero, Env.get, prim_mul kM kb, prim_mul kc kt, prim_pow pb, prim_mod n2, prim_mod mn]
/-- a digit is drawn -/
theorem draw_run {P : Prog} {W n b f : Nat} {h : Hp} {r s : Nat} {g : Sg} {many : Int} (d : P.defs f = some drawDf) (p : Spot h r s) (o : g.Ok) (m0 : 0 < many) (m1 : many < 2 ^ 40) (ht : g.t < 2 ^ 60) (hW : 64 ≤ W) :
    ∃ g' x, g'.Ok ∧ g'.t = g.t + 1 ∧ 0 ≤ x ∧ x < many ∧ run P W (n + 1) b f [.ref s, .int many] (stH h r s g) = .ok (.int x) (stH h r s g') := by
  obtain ⟨g', x, o', t', a, b', e⟩ := draw_body (C := ⟨run P W n (stH h r s g).length, runV P W n (stH h r s g).length, P.gv, (stH h r s g).length, W⟩) p o m0 m1 ht hW
  refine ⟨g', x, o', t', a, b', ?_⟩
  rw [run_pure d rfl rfl rfl]
  exact (congrArg (leave true _) e).trans (lv_int (by simp))
end Mp
/-! M2: fractions. -/
namespace Mp
def shareC : E := (.prim .ne (.cons (.var 1) (.cons (.cst (.int 0)) .nil)))
def shareB : Ss := (.cons (.par (.cons (.nm 1) (.cons (.nm 0) .nil)) (.cons (.var 1) (.cons (.prim .mod (.cons (.prim .int (.cons (.var 0) .nil)) (.cons (.var 1) .nil))) .nil))) .nil)
def shareDf : Df := ⟨2, 2, [], true, (.cons (.par (.cons (.nm 1) (.cons (.nm 0) .nil)) (.cons (.prim .abs (.cons (.var 0) .nil)) (.cons (.prim .abs (.cons (.var 1) .nil)) .nil)))
 (.cons (.whil shareC shareB)
 (.cons (.ret (.var 0))
 .nil)))⟩
def fracDf (sh : Nat) : Df := ⟨2, 4, [], true, (.cons (.asg (.nm 2) (.call sh [0, 1] (.cons (.var 0) (.cons (.var 1) .nil))))
 (.cons (.asg (.nm 3) (.ite (.prim .lt (.cons (.var 1) (.cons (.cst (.int 0)) .nil))) (.prim .neg (.cons (.cst (.int 1)) .nil)) (.cst (.int 1))))
 (.cons (.ret (.tup (.cons (.prim .fdiv (.cons (.prim (.mul false) (.cons (.var 3) (.cons (.var 0) .nil))) (.cons (.var 2) .nil))) (.cons (.prim .fdiv (.cons (.prim (.mul false) (.cons (.var 3) (.cons (.var 1) .nil))) (.cons (.var 2) .nil))) .nil))))
 .nil)))⟩
def addDf (fr : Nat) : Df := ⟨2, 2, [], true, (.cons (.ret (.call fr [0, 1] (.cons (.prim (.add false) (.cons (.prim (.mul false) (.cons (.prim .ix (.cons (.var 0) (.cons (.cst (.int 0)) .nil))) (.cons (.prim .ix (.cons (.var 1) (.cons (.cst (.int 1)) .nil))) .nil))) (.cons (.prim (.mul false) (.cons (.prim .ix (.cons (.var 1) (.cons (.cst (.int 0)) .nil))) (.cons (.prim .ix (.cons (.var 0) (.cons (.cst (.int 1)) .nil))) .nil))) .nil))) (.cons (.prim (.mul false) (.cons (.prim .ix (.cons (.var 0) (.cons (.cst (.int 1)) .nil))) (.cons (.prim .ix (.cons (.var 1) (.cons (.cst (.int 1)) .nil))) .nil))) .nil))))
 .nil)⟩
def lessDf (ad : Nat) : Df := ⟨2, 2, [], true, (.cons (.ret (.call ad [0, 1] (.cons (.var 0) (.cons (.tup (.cons (.prim .neg (.cons (.prim .ix (.cons (.var 1) (.cons (.cst (.int 0)) .nil))) .nil)) (.cons (.prim .ix (.cons (.var 1) (.cons (.cst (.int 1)) .nil))) .nil))) .nil))))
 .nil)⟩
def belowDf : Df := ⟨2, 2, [], true, (.cons (.ret (.prim .lt (.cons (.prim (.mul false) (.cons (.prim .ix (.cons (.var 0) (.cons (.cst (.int 0)) .nil))) (.cons (.prim .ix (.cons (.var 1) (.cons (.cst (.int 1)) .nil))) .nil))) (.cons (.prim (.mul false) (.cons (.prim .ix (.cons (.var 1) (.cons (.cst (.int 0)) .nil))) (.cons (.prim .ix (.cons (.var 0) (.cons (.cst (.int 1)) .nil))) .nil))) .nil))))
 .nil)⟩
theorem shareC_ev {C : Cx} {h : Hp} {x y : Int} : ev C [.v (.int x), .v (.int y)] h shareC = .ok (.bool (!(y == 0))) h := by
  have g1 : ∀ h (x y : Val), Env.get [.v x, .v y] h 1 = some y := fun _ _ _ => rfl
  simp only [shareC, ev, evs, g1, ofO_some, R.bind_ok, prim_neI]
theorem shareB_ex {C : Cx} {h : Hp} {x y : Int} (z : y ≠ 0) : exs C [.v (.int x), .v (.int y)] h shareB = .ok (.nx [.v (.int y), .v (.int (x.fmod y))]) h := by
  have g0 : ∀ h (x y : Val), Env.get [.v x, .v y] h 0 = some x := fun _ _ _ => rfl
  have g1 : ∀ h (x y : Val), Env.get [.v x, .v y] h 1 = some y := fun _ _ _ => rfl
  simp only [shareB, exs, ex, evs, ev, g0, g1, ofO_some, R.bind_ok, prim_int, prim_mod z]
  rfl
theorem share_loop {C : Cx} {h : Hp} : ∀ (n x y : Nat), y < n → loopW (fun ρ h => ev C ρ h shareC) (fun ρ h => exs C ρ h shareB) n [.v (.int x), .v (.int y)] h = .ok (.nx [.v (.int (Nat.gcd x y)), .v (.int (0 : Nat))]) h
  | 0, x, y, l => absurd l (Nat.not_lt_zero _)
  | n + 1, x, y, l => by
    rw [loopW, shareC_ev]
    by_cases z : y = 0
    · subst z
      simp only [Nat.gcd_zero_right]
      rfl
    · have b : (!(((y : Nat) : Int) == 0)) = true := by simpa using z
      rw [b, test_tt, shareB_ex (by omega)]
      have e : ((x : Int)).fmod (y : Int) = ((x % y : Nat) : Int) := by rw [Int.fmod_eq_emod_of_nonneg _ (by omega)]; rfl
      rw [e]
      refine (share_loop n y (x % y) (by have := Nat.mod_lt x (Nat.pos_of_ne_zero z); omega)).trans ?_
      rw [Nat.gcd_comm y, ← Nat.gcd_rec y x, Nat.gcd_comm]
theorem abs_nat {a : Int} : (if a < 0 then -a else a) = (a.natAbs : Int) := by split <;> omega
theorem share_run {P : Prog} {W n b f : Nat} {h : Hp} {x y : Int} (d : P.defs f = some shareDf) (l : y.natAbs < W) : run P W (n + 1) b f [.int x, .int y] h = .ok (.int (Int.gcd x y)) h := by
  rw [run_pure d rfl rfl rfl]
  have e : exs ⟨run P W n h.length, runV P W n h.length, P.gv, h.length, W⟩ (slots0 shareDf.ns [.int x, .int y]) h shareDf.body = .ok (.rt (.int (Int.gcd x y))) h := by
    have g0 : ∀ h (x y : Val), Env.get [.v x, .v y] h 0 = some x := fun _ _ _ => rfl
    have g1 : ∀ h (x y : Val), Env.get [.v x, .v y] h 1 = some y := fun _ _ _ => rfl
    have bt : ∀ (C : Cx) (u v : Int), bindTs C [.v (.int x), .v (.int y)] h (.cons (.nm 1) (.cons (.nm 0) .nil)) [Val.int u, Val.int v].reverse = .ok [.v (.int u), .v (.int v)] h := fun _ _ _ => rfl
    simp only [shareDf, slots0, List.map, List.length_cons, List.length_nil, Nat.sub_self, List.replicate, List.append_nil, exs, ex, evs, ev, g0, g1, ofO_some, R.bind_ok, prim_abs, abs_nat, bt]
    rw [share_loop W x.natAbs y.natAbs l]
    rfl
  exact (congrArg (leave true _) e).trans (lv_int rfl)
/-- a fraction as a value -/
def frV (q : Rat) : Val := .tup [.int q.num, .int q.den]
def BIG : Nat := 2 ^ 4000
theorem okI_big {a : Int} (h : a.natAbs < 2 ^ 9000) : okI a = true := okI_lt (k := 9000) h (by decide) (by decide)
theorem okD_big {a : Int} (h0 : 0 < a) (h : a.natAbs < 2 ^ 8000) : okD a = true := by
  unfold okD
  simp only [Bool.and_eq_true, decide_eq_true_eq]
  exact ⟨h0, log2_lt' (k := 8000) h (by decide) (by decide)⟩
theorem freeze_frV {n : Nat} {h : Hp} {q : Rat} : freeze n h (frV q) = some (frV q) := rfl
theorem lv_frV {n : Nat} {q : Rat} {h : Hp} (e : h.length = n) : leave true n (.ok (.rt (frV q)) h) = .ok (frV q) h := by
  rw [leave_ok freeze_frV, ← e, List.take_length]
theorem lv_bool {n : Nat} {x : Bool} {h : Hp} (e : h.length = n) : leave true n (.ok (.rt (.bool x)) h) = .ok (.bool x) h := by
  rw [leave_ok (w := .bool x) rfl, ← e, List.take_length]
theorem frac_num {a b : Int} (z : b ≠ 0) : ((if b < 0 then -1 else 1) * a).fdiv (Int.gcd a b) = (Rat.divInt a b).num := by
  rw [Rat.num_divInt, Int.gcd_comm a b, Int.fdiv_eq_ediv_of_nonneg _ (by omega)]
  have : (if b < 0 then (-1 : Int) else 1) = b.sign := by
    split
    · rw [Int.sign_eq_neg_one_of_neg (by assumption)]
    · rw [Int.sign_eq_one_of_pos (by omega)]
  rw [this]
theorem frac_den {a b : Int} (z : b ≠ 0) : ((if b < 0 then -1 else 1) * b).fdiv (Int.gcd a b) = ((Rat.divInt a b).den : Int) := by
  rw [Rat.den_divInt, if_neg z, Int.gcd_comm a b, Int.fdiv_eq_ediv_of_nonneg _ (by omega)]
  have : (if b < 0 then (-1 : Int) else 1) * b = (b.natAbs : Int) := by split <;> omega
  rw [this]; rfl
theorem frac_run {P : Prog} {W n b f sh : Nat} {h : Hp} {x y : Int} (d : P.defs f = some (fracDf sh)) (ds : P.defs sh = some shareDf) (z : y ≠ 0) (lx : x.natAbs < 2 ^ 8000) (ly : y.natAbs < 2 ^ 8000) (hW : 2 ^ 8000 ≤ W) : run P W (n + 2) b f [.int x, .int y] h = .ok (frV (Rat.divInt x y)) h := by
  rw [run_pure d rfl rfl rfl]
  have e : exs ⟨run P W (n + 1) h.length, runV P W (n + 1) h.length, P.gv, h.length, W⟩ (slots0 (fracDf sh).ns [.int x, .int y]) h (fracDf sh).body = .ok (.rt (frV (Rat.divInt x y))) h := by
    have g0 : ∀ h (u v : Slot), Env.get [.v (.int x), .v (.int y), u, v] h 0 = some (.int x) := fun _ _ _ => rfl
    have g1 : ∀ h (u v : Slot), Env.get [.v (.int x), .v (.int y), u, v] h 1 = some (.int y) := fun _ _ _ => rfl
    have g2 : ∀ h (u : Val) (v : Slot), Env.get [.v (.int x), .v (.int y), .v u, v] h 2 = some u := fun _ _ _ => rfl
    have g3 : ∀ h (u : Slot) (v : Val), Env.get [.v (.int x), .v (.int y), u, .v v] h 3 = some v := fun _ _ _ => rfl
    have sr := share_run (P := P) (W := W) (n := n) (b := h.length) (h := h) (x := x) (y := y) ds (Nat.lt_of_lt_of_le ly hW)
    have gp : 0 < (Int.gcd x y : Int) := by
      have := Int.gcd_pos_of_ne_zero_right x z
      omega
    have gd : okD (Int.gcd x y : Int) = true := okD_big gp (by
      have h1 : Int.gcd x y ≤ y.natAbs := Nat.gcd_le_right _ (by omega)
      show (Int.gcd x y) < _
      omega)
    have ky : okI y = true := okI_big (Nat.lt_of_lt_of_le ly (Nat.pow_le_pow_right (by decide) (by decide)))
    have kx : okI x = true := okI_big (Nat.lt_of_lt_of_le lx (Nat.pow_le_pow_right (by decide) (by decide)))
    have ks : okI (if y < 0 then -1 else 1) = true := by split <;> decide
    have it : (if y < 0 then (R.ok (Val.int (-1)) h) else (R.ok (Val.int 1) h)) = R.ok (Val.int (if y < 0 then -1 else 1)) h := by split <;> rfl
    simp only [fracDf, slots0, List.map, List.length_cons, List.length_nil, List.replicate, List.append_nil, exs, ex, evs, ev, g0, g1, ofO_some, R.bind_ok, List.getD_cons_zero, List.getD_cons_succ, sr, List.cons_append, List.nil_append, bindT, List.getElem?_cons_zero, List.getElem?_cons_succ, List.set_cons_succ, List.set_cons_zero, prim_lt, test_b, decide_eq_true_eq, prim_neg, it, g2, g3, prim_mul ks kx, prim_mul ks ky, prim_fdiv gd, frac_num z, frac_den z]
    rfl
  exact (congrArg (leave true _) e).trans (lv_frV rfl)
/-- a fraction's size -/
def Sz (k : Nat) (q : Rat) : Prop := q.num.natAbs < 2 ^ k ∧ q.den < 2 ^ k
theorem Sz.mono {k m : Nat} {q : Rat} (h : Sz k q) (l : k ≤ m) : Sz m q := ⟨Nat.lt_of_lt_of_le h.1 (Nat.pow_le_pow_right (by decide) l), Nat.lt_of_lt_of_le h.2 (Nat.pow_le_pow_right (by decide) l)⟩
theorem mul_sz {a b : Int} {k : Nat} (ha : a.natAbs < 2 ^ k) (hb : b.natAbs < 2 ^ k) : (a * b).natAbs < 2 ^ (k + k) := by
  rw [Int.natAbs_mul, Nat.pow_add]
  exact Nat.mul_lt_mul'' ha hb
theorem add_eq (p q : Rat) : Rat.divInt (p.num * q.den + q.num * p.den) (p.den * q.den) = p + q := by
  have := Rat.divInt_add_divInt p.num q.num (d₁ := p.den) (d₂ := q.den) (by have := p.den_nz; omega) (by have := q.den_nz; omega)
  rw [Rat.num_divInt_den, Rat.num_divInt_den] at this
  exact this.symm
theorem ixF {b : Nat} {h : Hp} {x y : Int} : prim b .ix [.tup [.int x, .int y], .int 0] h = .ok (.int x) h := prim_ix (xs := [.int x, .int y]) rfl rfl rfl
theorem ixF1 {b : Nat} {h : Hp} {x y : Int} : prim b .ix [.tup [.int x, .int y], .int 1] h = .ok (.int y) h := prim_ix (xs := [.int x, .int y]) rfl rfl rfl
theorem add_run {P : Prog} {W n b f fr sh : Nat} {h : Hp} {p q : Rat} (d : P.defs f = some (addDf fr)) (df : P.defs fr = some (fracDf sh)) (ds : P.defs sh = some shareDf) (sp : Sz 3000 p) (sq : Sz 3000 q) (hW : 2 ^ 8000 ≤ W) : run P W (n + 3) b f [frV p, frV q] h = .ok (frV (p + q)) h := by
  rw [run_pure d rfl rfl rfl]
  have pd : ((p.den : Int)).natAbs < 2 ^ 3000 := sp.2
  have qd : ((q.den : Int)).natAbs < 2 ^ 3000 := sq.2
  have up : ∀ {a : Int}, a.natAbs < 2 ^ 3000 → okI a = true := fun h => okI_big (Nat.lt_of_lt_of_le h (Nat.pow_le_pow_right (by decide) (by decide)))
  have m1 := mul_sz sp.1 qd
  have m2 := mul_sz sq.1 pd
  have m3 := mul_sz pd qd
  have big : (2 : Nat) ^ (3000 + 3000) + 2 ^ (3000 + 3000) ≤ 2 ^ 8000 := by
    rw [← Nat.two_mul, ← Nat.pow_succ']
    exact Nat.pow_le_pow_right (by decide) (by decide)
  have e : exs ⟨run P W (n + 2) h.length, runV P W (n + 2) h.length, P.gv, h.length, W⟩ (slots0 (addDf fr).ns [frV p, frV q]) h (addDf fr).body = .ok (.rt (frV (p + q))) h := by
    have g0 : ∀ h, Env.get [.v (frV p), .v (frV q)] h 0 = some (.tup [.int p.num, .int p.den]) := fun _ => rfl
    have g1 : ∀ h, Env.get [.v (frV p), .v (frV q)] h 1 = some (.tup [.int q.num, .int q.den]) := fun _ => rfl
    have fr' := frac_run (P := P) (W := W) (n := n) (b := h.length) (h := h) (x := p.num * q.den + q.num * p.den) (y := p.den * q.den) df ds
      (Int.mul_ne_zero (by have := p.den_nz; omega) (by have := q.den_nz; omega)) (by have := Int.natAbs_add_le (p.num * q.den) (q.num * p.den); omega) (by omega) hW
    rw [add_eq] at fr'
    simp only [addDf, slots0, List.map, List.length_cons, List.length_nil, Nat.sub_self, List.replicate, List.append_nil, exs, ex, evs, ev, g0, g1, ofO_some, R.bind_ok, ixF, ixF1, prim_mul (up sp.1) (up qd), prim_mul (up sq.1) (up pd), prim_mul (up pd) (up qd), prim_add, List.getD_cons_zero, List.getD_cons_succ, fr']
  exact (congrArg (leave true _) e).trans (lv_frV rfl)
theorem less_run {P : Prog} {W n b f ad fr sh : Nat} {h : Hp} {p q : Rat} (d : P.defs f = some (lessDf ad)) (da : P.defs ad = some (addDf fr)) (df : P.defs fr = some (fracDf sh)) (ds : P.defs sh = some shareDf) (sp : Sz 3000 p) (sq : Sz 3000 q) (hW : 2 ^ 8000 ≤ W) : run P W (n + 4) b f [frV p, frV q] h = .ok (frV (p - q)) h := by
  rw [run_pure d rfl rfl rfl]
  have e : exs ⟨run P W (n + 3) h.length, runV P W (n + 3) h.length, P.gv, h.length, W⟩ (slots0 (lessDf ad).ns [frV p, frV q]) h (lessDf ad).body = .ok (.rt (frV (p - q))) h := by
    have g0 : ∀ h, Env.get [.v (frV p), .v (frV q)] h 0 = some (frV p) := fun _ => rfl
    have g1 : ∀ h, Env.get [.v (frV p), .v (frV q)] h 1 = some (.tup [.int q.num, .int q.den]) := fun _ => rfl
    have sn : Sz 3000 (-q) := ⟨by rw [Rat.neg_num, Int.natAbs_neg]; exact sq.1, sq.2⟩
    have ar := add_run (P := P) (W := W) (n := n) (b := h.length) (h := h) da df ds sp sn hW
    have nq : (Val.tup [.int (-q.num), .int q.den]) = frV (-q) := rfl
    simp only [lessDf, slots0, List.map, List.length_cons, List.length_nil, Nat.sub_self, List.replicate, List.append_nil, exs, ex, evs, ev, g0, g1, ofO_some, R.bind_ok, ixF, ixF1, prim_neg, List.getD_cons_zero, List.getD_cons_succ, nq, ar, Rat.sub_eq_add_neg]
  exact (congrArg (leave true _) e).trans (lv_frV rfl)
theorem below_run {P : Prog} {W n b f : Nat} {h : Hp} {p q : Rat} (d : P.defs f = some belowDf) (sp : Sz 3000 p) (sq : Sz 3000 q) : run P W (n + 1) b f [frV p, frV q] h = .ok (.bool (decide (p < q))) h := by
  rw [run_pure d rfl rfl rfl]
  have pd : ((p.den : Int)).natAbs < 2 ^ 3000 := sp.2
  have qd : ((q.den : Int)).natAbs < 2 ^ 3000 := sq.2
  have up : ∀ {a : Int}, a.natAbs < 2 ^ 3000 → okI a = true := fun h => okI_big (Nat.lt_of_lt_of_le h (Nat.pow_le_pow_right (by decide) (by decide)))
  have e : exs ⟨run P W n h.length, runV P W n h.length, P.gv, h.length, W⟩ (slots0 belowDf.ns [frV p, frV q]) h belowDf.body = .ok (.rt (.bool (decide (p < q)))) h := by
    have g0 : ∀ h, Env.get [.v (frV p), .v (frV q)] h 0 = some (.tup [.int p.num, .int p.den]) := fun _ => rfl
    have g1 : ∀ h, Env.get [.v (frV p), .v (frV q)] h 1 = some (.tup [.int q.num, .int q.den]) := fun _ => rfl
    simp only [belowDf, slots0, List.map, List.length_cons, List.length_nil, Nat.sub_self, List.replicate, List.append_nil, exs, ex, evs, ev, g0, g1, ofO_some, R.bind_ok, ixF, ixF1, prim_mul (up sp.1) (up qd), prim_mul (up sq.1) (up pd), prim_lt, Rat.lt_iff]
  exact (congrArg (leave true _) e).trans (lv_bool rfl)
end Mp
/-! M3: comprehensions and loops by rule; copies. -/
namespace Mp
theorem loopC_pure {f : Val → Hp → R (Option Val)} {o : Val → Option Val} {h : Hp} : ∀ {xs : List Val}, (∀ x ∈ xs, f x h = .ok (o x) h) → loopC f xs h = .ok (xs.filterMap o) h
  | [], _ => rfl
  | x :: xs, e => by
    rw [loopC, e x (List.mem_cons_self ..)]
    simp only [R.bind_ok]
    rw [loopC_pure fun y m => e y (List.mem_cons_of_mem _ m)]
    simp only [R.bind_ok, List.filterMap_cons]
    cases o x <;> rfl
/-- a comprehension that changes nothing -/
theorem comp_pure {C : Cx} {ρ : Env} {h : Hp} {elt c : E} {os : List Nat} {t : At} {it : It} {xs : List Val} {o : Val → Option Val} (hi : evIt C ρ h it = .ok (xs, []) h)
    (e : ∀ x ∈ xs, ((bindT C (wipe ρ os) h t x).bind fun ρ2 h => (ev C ρ2 h c).test (fun _ h => (ev C ρ2 h elt).bind fun v h => .ok (some v) h) fun _ h => .ok Option.none h) = .ok (o x) h) :
    ev C ρ h (.comp false elt os t it c) = .ok (.lst (xs.filterMap o)) h := by
  rw [ev, hi]
  simp only [R.bind_ok, lockAll]
  rw [loopC_pure (o := o) e]
  rfl
theorem filterMap_map {α β : Type} {g : α → β} : ∀ xs : List α, xs.filterMap (fun x => some (g x)) = xs.map g := fun xs => by simp
/-- plain values of a depth -/
def Plain : Nat → Val → Prop
  | _, .none => True
  | _, .bool _ => True
  | _, .int _ => True
  | _, .str _ => True
  | k + 1, .tup xs => ∀ x ∈ xs, Plain k x
  | k + 1, .lst xs => ∀ x ∈ xs, Plain k x
  | _, _ => False
def copyC (cp : Nat) : E := (.comp false (.call cp [0] (.cons (.var 3) .nil)) [2, 3] (.nm 3) (.ev (.var 0)) (.cst (.bool true)))
def copyDf (cp : Nat) : Df := ⟨1, 4, [], true, (.cons (.ifs (.prim (.isi [.dict]) (.cons (.var 0) .nil)) (.cons (.ret .bad)
 .nil) .nil)
 (.cons (.asg (.nm 1) (.ite (.prim (.isi [.list, .tuple]) (.cons (.var 0) .nil)) (copyC cp) (.var 0)))
 (.cons (.ret (.ite (.prim (.isi [.tuple]) (.cons (.var 0) .nil)) (.prim .tuple (.cons (.var 1) .nil)) (.var 1)))
 .nil)))⟩
theorem frz_plain {D : Nat → Option Val} : ∀ (k : Nat) (v : Val), Plain k v → Val.frz D v = some v ∧ ∀ n, v.low n = true
  | k, .none, _ => ⟨rfl, fun _ => rfl⟩
  | k, .bool _, _ => ⟨rfl, fun _ => rfl⟩
  | k, .int _, _ => ⟨rfl, fun _ => rfl⟩
  | k, .str _, _ => ⟨rfl, fun _ => rfl⟩
  | k + 1, .tup xs, h => by
    have : ∀ ys : List Val, (∀ x ∈ ys, Plain k x) → Val.frzL D ys = some ys ∧ ∀ n, Val.lowL n ys = true := fun ys => by
      induction ys with
      | nil => exact fun _ => ⟨rfl, fun _ => rfl⟩
      | cons y ys ih =>
        intro h
        obtain ⟨a1, a2⟩ := frz_plain k y (h y (List.mem_cons_self ..))
        obtain ⟨b1, b2⟩ := ih fun x m => h x (List.mem_cons_of_mem _ m)
        exact ⟨by rw [Val.frzL, a1, b1], fun n => by rw [Val.lowL, a2, b2]; rfl⟩
    obtain ⟨a, b⟩ := this xs h
    exact ⟨by rw [Val.frz, a]; rfl, fun n => by rw [Val.low, b]⟩
  | k + 1, .lst xs, h => by
    have : ∀ ys : List Val, (∀ x ∈ ys, Plain k x) → Val.frzL D ys = some ys ∧ ∀ n, Val.lowL n ys = true := fun ys => by
      induction ys with
      | nil => exact fun _ => ⟨rfl, fun _ => rfl⟩
      | cons y ys ih =>
        intro h
        obtain ⟨a1, a2⟩ := frz_plain k y (h y (List.mem_cons_self ..))
        obtain ⟨b1, b2⟩ := ih fun x m => h x (List.mem_cons_of_mem _ m)
        exact ⟨by rw [Val.frzL, a1, b1], fun n => by rw [Val.lowL, a2, b2]; rfl⟩
    obtain ⟨a, b⟩ := this xs h
    exact ⟨by rw [Val.frz, a]; rfl, fun n => by rw [Val.low, b]⟩
  | 0, .tup _, h => h.elim
  | 0, .lst _, h => h.elim
  | k, .dct _ _, h => by cases k <;> exact absurd h id
  | k, .ref _, h => by cases k <;> exact absurd h id
  | k, .fn _, h => by cases k <;> exact absurd h id
  | k, .clo _ _, h => by cases k <;> exact absurd h id
  | k, .exc _ _, h => by cases k <;> exact absurd h id
theorem lv_plain {k n : Nat} {v : Val} {h : Hp} (p : Plain k v) (e : h.length = n) : leave true n (.ok (.rt v) h) = .ok v h := by
  have : freeze n h v = some v := by
    unfold freeze
    rw [(frz_plain k v p).1]
    show (if v.low n then some v else Option.none) = _
    rw [(frz_plain (D := fun _ => Option.none) k v p).2 n, if_pos rfl]
  rw [leave_ok this, ← e, List.take_length]
theorem copy_run {P : Prog} {W f : Nat} {h : Hp} (d : P.defs f = some (copyDf f)) : ∀ (k n b : Nat) (v : Val), Plain k v → run P W (n + k + 1) b f [v] h = .ok v h := fun k => by
  induction k with
  | zero =>
    intro n b v hv
    rw [run_pure d rfl rfl rfl]
    have e : exs ⟨run P W (n + 0) h.length, runV P W (n + 0) h.length, P.gv, h.length, W⟩ (slots0 (copyDf f).ns [v]) h (copyDf f).body = .ok (.rt v) h := by
      cases v <;> first | exact hv.elim | rfl
    exact (congrArg (leave true _) e).trans (lv_plain hv rfl)
  | succ k ih =>
    intro n b v hv
    rw [run_pure d rfl rfl rfl]
    have e : exs ⟨run P W (n + (k + 1)) h.length, runV P W (n + (k + 1)) h.length, P.gv, h.length, W⟩ (slots0 (copyDf f).ns [v]) h (copyDf f).body = .ok (.rt v) h := by
      have step : ∀ xs : List Val, (∀ x ∈ xs, Plain k x) → ∀ (u : Val), (evIt ⟨run P W (n + (k + 1)) h.length, runV P W (n + (k + 1)) h.length, P.gv, h.length, W⟩ [.v u, .u, .u, .u] h (.ev (.var 0)) = .ok (xs, []) h) →
          ev ⟨run P W (n + (k + 1)) h.length, runV P W (n + (k + 1)) h.length, P.gv, h.length, W⟩ [.v u, .u, .u, .u] h (copyC f) = .ok (.lst xs) h := fun xs hx u hi => by
        unfold copyC
        rw [comp_pure (o := fun x => some x) hi fun x m => ?_]
        · simp
        · have := ih n h.length x (hx x m)
          rw [show n + (k + 1) = n + k + 1 from rfl]
          show (((R.ok x h).bind fun v h => R.ok [v] h).bind fun vs h => (run P W (n + k + 1) h.length f ([0].map fun k => vs.getD k .none) h)).bind _ = _
          simp only [R.bind_ok, List.map, List.getD_cons_zero]
          rw [this]
          rfl
      cases v with
      | tup xs =>
        have c := step xs hv (.tup xs) rfl
        have i1 : ∀ h b, prim b (.isi [.dict]) [.tup xs] h = .ok (.bool false) h := fun _ _ => rfl
        have i2 : ∀ h b, prim b (.isi [.list, .tuple]) [.tup xs] h = .ok (.bool true) h := fun _ _ => rfl
        have i3 : ∀ h b, prim b (.isi [.tuple]) [.tup xs] h = .ok (.bool true) h := fun _ _ => rfl
        have i4 : ∀ h b, prim b .tuple [.lst xs] h = .ok (.tup xs) h := fun _ _ => rfl
        have g0 : ∀ h (a b c : Slot), Env.get [.v (.tup xs), a, b, c] h 0 = some (.tup xs) := fun _ _ _ _ => rfl
        have g1 : ∀ h (u : Val) (a b c : Slot), Env.get [a, .v u, b, c] h 1 = some u := fun _ _ _ _ _ => rfl
        simp only [copyDf, slots0, List.map, List.length_cons, List.length_nil, List.replicate, List.append_nil, List.cons_append, List.nil_append, exs, ex, evs, ev, g0, g1, ofO_some, R.bind_ok, i1, test_ff, i2, test_tt, c, bindT, List.getElem?_cons_zero, List.getElem?_cons_succ, List.set_cons_succ, List.set_cons_zero, i3, i4]
      | lst xs =>
        have c := step xs hv (.lst xs) rfl
        have i1 : ∀ h b, prim b (.isi [.dict]) [.lst xs] h = .ok (.bool false) h := fun _ _ => rfl
        have i2 : ∀ h b, prim b (.isi [.list, .tuple]) [.lst xs] h = .ok (.bool true) h := fun _ _ => rfl
        have i3 : ∀ h b, prim b (.isi [.tuple]) [.lst xs] h = .ok (.bool false) h := fun _ _ => rfl
        have g0 : ∀ h (a b c : Slot), Env.get [.v (.lst xs), a, b, c] h 0 = some (.lst xs) := fun _ _ _ _ => rfl
        have g1 : ∀ h (u : Val) (a b c : Slot), Env.get [a, .v u, b, c] h 1 = some u := fun _ _ _ _ _ => rfl
        simp only [copyDf, slots0, List.map, List.length_cons, List.length_nil, List.replicate, List.append_nil, List.cons_append, List.nil_append, exs, ex, evs, ev, g0, g1, ofO_some, R.bind_ok, i1, test_ff, i2, test_tt, c, bindT, List.getElem?_cons_zero, List.getElem?_cons_succ, List.set_cons_succ, List.set_cons_zero, i3]
      | none => rfl
      | bool _ => rfl
      | int _ => rfl
      | str _ => rfl
      | _ => exact absurd hv id
    exact (congrArg (leave true _) e).trans (lv_plain hv rfl)
end Mp
/-! M4: sameness. -/
namespace Mp
def sameC (sm : Nat) : E := (.comp false (.call sm [0, 1] (.cons (.var 3) (.cons (.var 4) .nil))) [2, 3, 4] (.tup (.cons (.nm 3) (.cons (.nm 4) .nil))) (.zip (.cons (.var 0) (.cons (.var 1) .nil))) (.cst (.bool true)))
def sameDf (sm : Nat) : Df := ⟨2, 5, [], true, (.cons (.ifs (.prim (.isi [.list, .tuple]) (.cons (.var 1) .nil)) (.cons (.ifs (.or (.prim .ne (.cons (.prim (.isi [.list]) (.cons (.var 0) .nil)) (.cons (.prim (.isi [.list]) (.cons (.var 1) .nil)) .nil))) (.prim .ne (.cons (.prim (.isi [.tuple]) (.cons (.var 0) .nil)) (.cons (.prim (.isi [.tuple]) (.cons (.var 1) .nil)) .nil)))) (.cons (.ret (.cst (.bool false)))
 .nil) .nil)
 (.cons (.ret (.and (.prim .eq (.cons (.prim .len (.cons (.var 0) .nil)) (.cons (.prim .len (.cons (.var 1) .nil)) .nil))) (.prim .all (.cons (sameC sm) .nil))))
 .nil)) .nil)
 (.cons (.ifs (.prim (.isi [.dict]) (.cons (.var 1) .nil)) (.cons (.ret (.and (.prim (.isi [.dict]) (.cons (.var 0) .nil)) (.call sm [0, 1] (.cons (.prim (.list false) (.cons .bad .nil)) (.cons (.prim (.list false) (.cons .bad .nil)) .nil)))))
 .nil) .nil)
 (.cons (.ifs (.or (.prim (.isi [.bool]) (.cons (.var 1) .nil)) (.prim (.isi [.bool]) (.cons (.var 0) .nil))) (.cons (.ret (.and (.prim (.isi [.bool]) (.cons (.var 1) .nil)) (.and (.prim (.isi [.bool]) (.cons (.var 0) .nil)) (.prim .eq (.cons (.var 0) (.cons (.var 1) .nil))))))
 .nil) .nil)
 (.cons (.ifs (.or (.prim .isN (.cons (.var 1) .nil)) (.prim .isN (.cons (.var 0) .nil))) (.cons (.ret (.and (.prim .isN (.cons (.var 1) .nil)) (.prim .isN (.cons (.var 0) .nil))))
 .nil) .nil)
 (.cons (.ifs (.or (.prim .ne (.cons (.prim (.isi [.int]) (.cons (.var 1) .nil)) (.cons (.prim (.isi [.int]) (.cons (.var 0) .nil)) .nil))) (.prim .ne (.cons (.prim (.isi [.str]) (.cons (.var 1) .nil)) (.cons (.prim (.isi [.str]) (.cons (.var 0) .nil)) .nil)))) (.cons (.ret (.cst (.bool false)))
 .nil) .nil)
 (.cons (.ret (.and (.prim .not (.cons (.prim (.isi [.list, .tuple, .dict]) (.cons (.var 0) .nil)) .nil)) (.prim .eq (.cons (.var 0) (.cons (.var 1) .nil)))))
 .nil))))))⟩

/-- plain values whose strings are in order -/
def PlainS : Nat → Val → Prop
  | _, .none => True
  | _, .bool _ => True
  | _, .int _ => True
  | _, .str s => PySem.PyData.strOk s = true
  | k + 1, .tup xs => ∀ x ∈ xs, PlainS k x
  | k + 1, .lst xs => ∀ x ∈ xs, PlainS k x
  | _, _ => False
theorem zipV_self : ∀ xs : List Val, zipV xs xs = xs.map fun x => .tup [x, x]
  | [] => rfl
  | x :: r => by rw [zipV, zipV_self r]; rfl
theorem bools_true : ∀ xs : List Val, bools (xs.map fun _ => Val.bool true) = some (xs.map fun _ => true)
  | [] => rfl
  | x :: r => by
    have := bools_true r
    simp [bools, this]
theorem all_true {xs : List Val} {h : Hp} {b : Nat} : prim b .all [.lst (xs.map fun _ => Val.bool true)] h = .ok (.bool true) h := by
  show (match (Val.lst (xs.map fun _ => Val.bool true)).items h with | some xs => (ofO (bools xs) h).bind fun bs h => R.ok (Val.bool (bs.all id)) h | Option.none => .no) = _
  show (ofO (bools (xs.map fun _ => Val.bool true)) h).bind _ = _
  rw [bools_true]
  simp only [ofO_some, R.bind_ok]
  have : (xs.map fun _ => true).all id = true := by simp
  rw [this]
theorem fm_const {g : Val → Val} {c : Val} : ∀ xs : List Val, (xs.map g).filterMap (fun _ => some c) = xs.map fun _ => c
  | [] => rfl
  | x :: r => by simp only [List.map_cons, List.filterMap_cons, fm_const r]
theorem neBF {b : Nat} {h : Hp} {x : Bool} : prim b .ne [.bool x, .bool x] h = .ok (.bool false) h := by
  rw [prim_ne]; cases x <;> simp [pyEq, Val.dat, PySem.PyData.eqv]
theorem eqBT {b : Nat} {h : Hp} {x : Bool} : prim b .eq [.bool x, .bool x] h = .ok (.bool true) h := by
  rw [prim_eq]; cases x <;> simp [pyEq, Val.dat, PySem.PyData.eqv]
theorem eqIT {b : Nat} {h : Hp} {x : Int} : prim b .eq [.int x, .int x] h = .ok (.bool true) h := by
  rw [prim_eqI]; simp
theorem eqST {b : Nat} {h : Hp} {x : Txt} (o : PySem.PyData.strOk x = true) : prim b .eq [.str x, .str x] h = .ok (.bool true) h := by
  rw [prim_eq]; simp [pyEq, Val.dat, PySem.PyData.eqv, o]
theorem same_atom {P : Prog} {W f : Nat} {h : Hp} {n : Nat} {v : Val} (hv : PlainS 0 v) (sm : Nat) (C : Cx) : exs C (slots0 (sameDf sm).ns [v, v]) h (sameDf sm).body = .ok (.rt (.bool true)) h := by
  have g0 : ∀ h (a b c d : Slot), Env.get [.v v, a, b, c, d] h 0 = some v := fun _ _ _ _ _ => rfl
  have g1 : ∀ h (a b c d : Slot), Env.get [a, .v v, b, c, d] h 1 = some v := fun _ _ _ _ _ => rfl
  cases v with
  | int i =>
    have ia : ∀ h b, prim b (.isi [.list, .tuple]) [.int i] h = .ok (.bool false) h := fun _ _ => rfl
    have ib : ∀ h b, prim b (.isi [.dict]) [.int i] h = .ok (.bool false) h := fun _ _ => rfl
    have ic : ∀ h b, prim b (.isi [.bool]) [.int i] h = .ok (.bool false) h := fun _ _ => rfl
    have id' : ∀ h b, prim b (.isi [.int]) [.int i] h = .ok (.bool true) h := fun _ _ => rfl
    have ie : ∀ h b, prim b (.isi [.str]) [.int i] h = .ok (.bool false) h := fun _ _ => rfl
    have if_ : ∀ h b, prim b (.isi [.list, .tuple, .dict]) [.int i] h = .ok (.bool false) h := fun _ _ => rfl
    have il : ∀ h b, prim b (.isi [.list]) [.int i] h = .ok (.bool false) h := fun _ _ => rfl
    have it : ∀ h b, prim b (.isi [.tuple]) [.int i] h = .ok (.bool false) h := fun _ _ => rfl
    have in_ : ∀ h b, prim b .isN [.int i] h = .ok (.bool false) h := fun _ _ => rfl
    simp only [sameDf, slots0, List.map, List.length_cons, List.length_nil, List.replicate, List.append_nil, List.cons_append, List.nil_append, exs, ex, evs, ev, g0, g1, ofO_some, R.bind_ok, ia, ib, ic, id', ie, if_, il, it, in_, neBF, test_tt, test_ff, prim_notB, Bool.not_false, Bool.not_true, eqIT]
  | bool x =>
    have ia : ∀ h b, prim b (.isi [.list, .tuple]) [.bool x] h = .ok (.bool false) h := fun _ _ => rfl
    have ib : ∀ h b, prim b (.isi [.dict]) [.bool x] h = .ok (.bool false) h := fun _ _ => rfl
    have ic : ∀ h b, prim b (.isi [.bool]) [.bool x] h = .ok (.bool true) h := fun _ _ => rfl
    have id' : ∀ h b, prim b (.isi [.int]) [.bool x] h = .ok (.bool true) h := fun _ _ => rfl
    have ie : ∀ h b, prim b (.isi [.str]) [.bool x] h = .ok (.bool false) h := fun _ _ => rfl
    have if_ : ∀ h b, prim b (.isi [.list, .tuple, .dict]) [.bool x] h = .ok (.bool false) h := fun _ _ => rfl
    have il : ∀ h b, prim b (.isi [.list]) [.bool x] h = .ok (.bool false) h := fun _ _ => rfl
    have it : ∀ h b, prim b (.isi [.tuple]) [.bool x] h = .ok (.bool false) h := fun _ _ => rfl
    have in_ : ∀ h b, prim b .isN [.bool x] h = .ok (.bool false) h := fun _ _ => rfl
    simp only [sameDf, slots0, List.map, List.length_cons, List.length_nil, List.replicate, List.append_nil, List.cons_append, List.nil_append, exs, ex, evs, ev, g0, g1, ofO_some, R.bind_ok, ia, ib, ic, id', ie, if_, il, it, in_, neBF, test_tt, test_ff, prim_notB, Bool.not_false, Bool.not_true, eqBT]
  | none =>
    have ia : ∀ h b, prim b (.isi [.list, .tuple]) [.none] h = .ok (.bool false) h := fun _ _ => rfl
    have ib : ∀ h b, prim b (.isi [.dict]) [.none] h = .ok (.bool false) h := fun _ _ => rfl
    have ic : ∀ h b, prim b (.isi [.bool]) [.none] h = .ok (.bool false) h := fun _ _ => rfl
    have id' : ∀ h b, prim b (.isi [.int]) [.none] h = .ok (.bool false) h := fun _ _ => rfl
    have ie : ∀ h b, prim b (.isi [.str]) [.none] h = .ok (.bool false) h := fun _ _ => rfl
    have if_ : ∀ h b, prim b (.isi [.list, .tuple, .dict]) [.none] h = .ok (.bool false) h := fun _ _ => rfl
    have il : ∀ h b, prim b (.isi [.list]) [.none] h = .ok (.bool false) h := fun _ _ => rfl
    have it : ∀ h b, prim b (.isi [.tuple]) [.none] h = .ok (.bool false) h := fun _ _ => rfl
    have in_ : ∀ h b, prim b .isN [.none] h = .ok (.bool true) h := fun _ _ => rfl
    simp only [sameDf, slots0, List.map, List.length_cons, List.length_nil, List.replicate, List.append_nil, List.cons_append, List.nil_append, exs, ex, evs, ev, g0, g1, ofO_some, R.bind_ok, ia, ib, ic, id', ie, if_, il, it, in_, neBF, test_tt, test_ff, prim_notB, Bool.not_false, Bool.not_true]
  | str t =>
    have ia : ∀ h b, prim b (.isi [.list, .tuple]) [.str t] h = .ok (.bool false) h := fun _ _ => rfl
    have ib : ∀ h b, prim b (.isi [.dict]) [.str t] h = .ok (.bool false) h := fun _ _ => rfl
    have ic : ∀ h b, prim b (.isi [.bool]) [.str t] h = .ok (.bool false) h := fun _ _ => rfl
    have id' : ∀ h b, prim b (.isi [.int]) [.str t] h = .ok (.bool false) h := fun _ _ => rfl
    have ie : ∀ h b, prim b (.isi [.str]) [.str t] h = .ok (.bool true) h := fun _ _ => rfl
    have if_ : ∀ h b, prim b (.isi [.list, .tuple, .dict]) [.str t] h = .ok (.bool false) h := fun _ _ => rfl
    have il : ∀ h b, prim b (.isi [.list]) [.str t] h = .ok (.bool false) h := fun _ _ => rfl
    have it : ∀ h b, prim b (.isi [.tuple]) [.str t] h = .ok (.bool false) h := fun _ _ => rfl
    have in_ : ∀ h b, prim b .isN [.str t] h = .ok (.bool false) h := fun _ _ => rfl
    simp only [sameDf, slots0, List.map, List.length_cons, List.length_nil, List.replicate, List.append_nil, List.cons_append, List.nil_append, exs, ex, evs, ev, g0, g1, ofO_some, R.bind_ok, ia, ib, ic, id', ie, if_, il, it, in_, neBF, test_tt, test_ff, prim_notB, Bool.not_false, Bool.not_true, eqST (show PySem.PyData.strOk t = true from hv)]
  | _ => exact absurd hv id
theorem same_run {P : Prog} {W f : Nat} {h : Hp} (d : P.defs f = some (sameDf f)) : ∀ (k n b : Nat) (v : Val), PlainS k v → run P W (n + k + 1) b f [v, v] h = .ok (.bool true) h := fun k => by
  induction k with
  | zero =>
    intro n b v hv
    rw [run_pure d rfl rfl rfl]
    have e : exs ⟨run P W (n + 0) h.length, runV P W (n + 0) h.length, P.gv, h.length, W⟩ (slots0 (sameDf f).ns [v, v]) h (sameDf f).body = .ok (.rt (.bool true)) h := by
      exact same_atom (P := P) (W := W) (f := f) (n := n) hv f _
    exact (congrArg (leave true _) e).trans (lv_bool rfl)
  | succ k ih =>
    intro n b v hv
    rw [run_pure d rfl rfl rfl]
    have e : exs ⟨run P W (n + (k + 1)) h.length, runV P W (n + (k + 1)) h.length, P.gv, h.length, W⟩ (slots0 (sameDf f).ns [v, v]) h (sameDf f).body = .ok (.rt (.bool true)) h := by
      have step : ∀ xs : List Val, (∀ x ∈ xs, PlainS k x) → ∀ (u : Val), (evIt ⟨run P W (n + (k + 1)) h.length, runV P W (n + (k + 1)) h.length, P.gv, h.length, W⟩ [.v u, .v u, .u, .u, .u] h (.zip (.cons (.var 0) (.cons (.var 1) .nil))) = .ok (zipV xs xs, []) h) →
          ev ⟨run P W (n + (k + 1)) h.length, runV P W (n + (k + 1)) h.length, P.gv, h.length, W⟩ [.v u, .v u, .u, .u, .u] h (sameC f) = .ok (.lst (xs.map fun _ => Val.bool true)) h := fun xs hx u hi => by
        unfold sameC
        rw [comp_pure (o := fun x => some (.bool true)) hi fun x m => ?_]
        · rw [zipV_self]; exact congrArg (fun l => R.ok (Val.lst l) h) (fm_const xs)
        · rw [zipV_self] at m
          obtain ⟨y, my, rfl⟩ := List.mem_map.mp m
          have := ih n h.length y (hx y my)
          show (((R.ok y h).bind fun v h => ((R.ok y h).bind fun v h => R.ok [v] h).bind fun vs h => R.ok (v :: vs) h).bind fun vs h => (run P W (n + k + 1) h.length f ([0, 1].map fun k => vs.getD k .none) h)).bind _ = _
          simp only [R.bind_ok, List.map, List.getD_cons_zero, List.getD_cons_succ]
          rw [this]
          rfl
      have at0 := fun (hv : PlainS 0 v) => same_atom (h := h) (P := P) (W := W) (f := f) (n := n) hv f ⟨run P W (n + (k + 1)) h.length, runV P W (n + (k + 1)) h.length, P.gv, h.length, W⟩
      cases v with
      | tup xs =>
        have c := step xs hv (.tup xs) rfl
        have ia : ∀ h b, prim b (.isi [.list, .tuple]) [.tup xs] h = .ok (.bool true) h := fun _ _ => rfl
        have ib : ∀ h b, prim b (.isi [.dict]) [.tup xs] h = .ok (.bool false) h := fun _ _ => rfl
        have ic : ∀ h b, prim b (.isi [.bool]) [.tup xs] h = .ok (.bool false) h := fun _ _ => rfl
        have id' : ∀ h b, prim b (.isi [.int]) [.tup xs] h = .ok (.bool false) h := fun _ _ => rfl
        have ie : ∀ h b, prim b (.isi [.str]) [.tup xs] h = .ok (.bool false) h := fun _ _ => rfl
        have if_ : ∀ h b, prim b (.isi [.list, .tuple, .dict]) [.tup xs] h = .ok (.bool true) h := fun _ _ => rfl
        have il : ∀ h b, prim b (.isi [.list]) [.tup xs] h = .ok (.bool false) h := fun _ _ => rfl
        have it : ∀ h b, prim b (.isi [.tuple]) [.tup xs] h = .ok (.bool true) h := fun _ _ => rfl
        have in_ : ∀ h b, prim b .isN [.tup xs] h = .ok (.bool false) h := fun _ _ => rfl
        have g0 : ∀ h (a b c d : Slot), Env.get [.v (.tup xs), a, b, c, d] h 0 = some (.tup xs) := fun _ _ _ _ _ => rfl
        have g1 : ∀ h (a b c d : Slot), Env.get [a, .v (.tup xs), b, c, d] h 1 = some (.tup xs) := fun _ _ _ _ _ => rfl
        simp only [sameDf, slots0, List.map, List.length_cons, List.length_nil, List.replicate, List.append_nil, List.cons_append, List.nil_append, exs, ex, evs, ev, g0, g1, ofO_some, R.bind_ok, ia, ib, ic, id', ie, if_, il, it, in_, neBF, test_tt, test_ff, prim_notB, Bool.not_false, Bool.not_true, c, all_true, eqIT, prim_lenT]
      | lst xs =>
        have c := step xs hv (.lst xs) rfl
        have ia : ∀ h b, prim b (.isi [.list, .tuple]) [.lst xs] h = .ok (.bool true) h := fun _ _ => rfl
        have ib : ∀ h b, prim b (.isi [.dict]) [.lst xs] h = .ok (.bool false) h := fun _ _ => rfl
        have ic : ∀ h b, prim b (.isi [.bool]) [.lst xs] h = .ok (.bool false) h := fun _ _ => rfl
        have id' : ∀ h b, prim b (.isi [.int]) [.lst xs] h = .ok (.bool false) h := fun _ _ => rfl
        have ie : ∀ h b, prim b (.isi [.str]) [.lst xs] h = .ok (.bool false) h := fun _ _ => rfl
        have if_ : ∀ h b, prim b (.isi [.list, .tuple, .dict]) [.lst xs] h = .ok (.bool true) h := fun _ _ => rfl
        have il : ∀ h b, prim b (.isi [.list]) [.lst xs] h = .ok (.bool true) h := fun _ _ => rfl
        have it : ∀ h b, prim b (.isi [.tuple]) [.lst xs] h = .ok (.bool false) h := fun _ _ => rfl
        have in_ : ∀ h b, prim b .isN [.lst xs] h = .ok (.bool false) h := fun _ _ => rfl
        have g0 : ∀ h (a b c d : Slot), Env.get [.v (.lst xs), a, b, c, d] h 0 = some (.lst xs) := fun _ _ _ _ _ => rfl
        have g1 : ∀ h (a b c d : Slot), Env.get [a, .v (.lst xs), b, c, d] h 1 = some (.lst xs) := fun _ _ _ _ _ => rfl
        simp only [sameDf, slots0, List.map, List.length_cons, List.length_nil, List.replicate, List.append_nil, List.cons_append, List.nil_append, exs, ex, evs, ev, g0, g1, ofO_some, R.bind_ok, ia, ib, ic, id', ie, if_, il, it, in_, neBF, test_tt, test_ff, prim_notB, Bool.not_false, Bool.not_true, c, all_true, eqIT, prim_lenL]
      | none => exact at0 hv
      | bool _ => exact at0 hv
      | int _ => exact at0 hv
      | str _ => exact at0 hv
      | _ => exact absurd hv id
    exact (congrArg (leave true _) e).trans (lv_bool rfl)
end Mp
/-! M5: what is drawn. -/
namespace Mp
def pickDf (dr : Nat) : Df := ⟨2, 2, [], true, (.cons (.ret (.prim .ix (.cons (.var 1) (.cons (.call dr [0, 1] (.cons (.var 0) (.cons (.prim .len (.cons (.var 1) .nil)) .nil))) .nil))))
 .nil)⟩
theorem pick_run {P : Prog} {W n b f dr k : Nat} {h : Hp} {r s : Nat} {g : Sg} {xs : List Val} (d : P.defs f = some (pickDf dr)) (dd : P.defs dr = some drawDf) (p : Spot h r s) (o : g.Ok) (m0 : 0 < xs.length) (m1 : xs.length < 2 ^ 40) (ht : g.t < 2 ^ 60) (hW : 64 ≤ W) (hx : ∀ x ∈ xs, Plain k x) :
    ∃ g' x, g'.Ok ∧ g'.t = g.t + 1 ∧ x ∈ xs ∧ run P W (n + 2) b f [.ref s, .lst xs] (stH h r s g) = .ok x (stH h r s g') := by
  obtain ⟨g', i, o', t', a, b', e⟩ := draw_run (n := n) (b := (stH h r s g).length) (many := (xs.length : Int)) dd p o (by omega) (by omega) ht hW
  obtain ⟨j, rfl⟩ := Int.eq_ofNat_of_zero_le a
  have hj : j < xs.length := by omega
  refine ⟨g', xs[j], o', t', List.getElem_mem hj, ?_⟩
  rw [run_pure d rfl rfl rfl]
  have ee : exs ⟨run P W (n + 1) (stH h r s g).length, runV P W (n + 1) (stH h r s g).length, P.gv, (stH h r s g).length, W⟩ (slots0 (pickDf dr).ns [.ref s, .lst xs]) (stH h r s g) (pickDf dr).body = .ok (.rt xs[j]) (stH h r s g') := by
    have g0 : ∀ h, Env.get [.v (.ref s), .v (.lst xs)] h 0 = some (.ref s) := fun _ => rfl
    have g1 : ∀ h, Env.get [.v (.ref s), .v (.lst xs)] h 1 = some (.lst xs) := fun _ => rfl
    have ix : ∀ h b, prim b .ix [.lst xs, .int (j : Int)] h = .ok xs[j] h := fun h b => prim_ix (xs := xs) rfl (place_nat hj) (List.getElem?_eq_getElem hj)
    simp only [pickDf, slots0, List.map, List.length_cons, List.length_nil, Nat.sub_self, List.replicate, List.append_nil, exs, ex, evs, ev, g0, g1, ofO_some, R.bind_ok, prim_lenL, List.getD_cons_zero, List.getD_cons_succ, e, ix]
  exact (congrArg (leave true _) ee).trans (lv_plain (hx _ (List.getElem_mem hj)) (by simp))
/-- a comprehension, a state carried along -/
theorem loopC_st {f : Val → Hp → R (Option Val)} {I : Nat → Hp → Prop} {Q : Val → Option Val → Prop} : ∀ (xs : List Val) (i : Nat) (h : Hp), I i h → (∀ x ∈ xs, ∀ i h, I i h → ∃ y h', f x h = .ok y h' ∧ I (i + 1) h' ∧ Q x y) →
    ∃ (ys : List (Option Val)) (h' : Hp), loopC f xs h = .ok (ys.filterMap id) h' ∧ I (i + xs.length) h' ∧ ys.length = xs.length ∧ ∀ (k : Nat) (x : Val) (y : Option Val), xs[k]? = some x → ys[k]? = some y → Q x y
  | [], i, h, hi, _ => ⟨[], h, rfl, hi, rfl, fun k x y e => by cases e⟩
  | x :: xs, i, h, hi, st => by
    obtain ⟨y, h1, e1, i1, q1⟩ := st x (List.mem_cons_self ..) i h hi
    obtain ⟨ys, h2, e2, i2, l2, q2⟩ := loopC_st xs (i + 1) h1 i1 fun x m => st x (List.mem_cons_of_mem _ m)
    refine ⟨y :: ys, h2, ?_, by rw [List.length_cons, show i + (xs.length + 1) = i + 1 + xs.length by omega]; exact i2, by simp [l2], fun k a c ea ec => ?_⟩
    · rw [loopC, e1]
      simp only [R.bind_ok, e2, List.filterMap_cons]
      cases y <;> rfl
    · cases k with
      | zero => cases ea; cases ec; exact q1
      | succ k => exact q2 k a c ea ec
end Mp
/-! M6: for loops by an invariant. -/
namespace Mp
/-- every round goes on, and keeps the invariant (of how many rounds are done) -/
theorem loopF_inv {f : Env → Val → Hp → R Fl} {I : Nat → Env → Hp → Prop} : ∀ (xs : List Val) (i : Nat) (ρ : Env) (h : Hp), I i ρ h →
    (∀ (k : Nat) (x : Val) (ρ : Env) (h : Hp), xs[k]? = some x → I (i + k) ρ h → ∃ ρ' h', (f ρ x h = .ok (.nx ρ') h' ∨ f ρ x h = .ok (.ct ρ') h') ∧ I (i + k + 1) ρ' h') →
    ∃ ρ' h', loopF f xs ρ h = .ok (.nx ρ') h' ∧ I (i + xs.length) ρ' h'
  | [], i, ρ, h, hi, _ => ⟨ρ, h, rfl, hi⟩
  | x :: xs, i, ρ, h, hi, st => by
    obtain ⟨ρ1, h1, e1, i1⟩ := st 0 x ρ h rfl hi
    obtain ⟨ρ2, h2, e2, i2⟩ := loopF_inv xs (i + 1) ρ1 h1 i1 fun k y ρ h e ik => by
      obtain ⟨a, b, c, d⟩ := st (k + 1) y ρ h e (by rw [show i + (k + 1) = i + 1 + k by omega]; exact ik)
      exact ⟨a, b, c, by rw [show i + 1 + k + 1 = i + (k + 1) + 1 by omega]; exact d⟩
    refine ⟨ρ2, h2, ?_, by rw [List.length_cons, show i + (xs.length + 1) = i + 1 + xs.length by omega]; exact i2⟩
    rw [loopF]
    rcases e1 with e | e <;> rw [e] <;> exact e2
/-- what `for k in range(n)` walks -/
theorem range_walk {C : Cx} {ρ : Env} {h : Hp} {e : E} {n : Int} (he : ev C ρ h e = .ok (.int n) h) (h0 : 0 ≤ n) (h1 : n ≤ 100000) : evIt C ρ h (.rng (.cons e .nil)) = .ok (rangeV 0 1 n.toNat, []) h := by
  simp only [evIt, evs, he, R.bind_ok, rngOp]
  rw [if_pos ⟨h1, by omega⟩]
theorem rangeV_get {n k : Nat} (hk : k < n) : (rangeV 0 1 n)[k]? = some (.int k) := by
  simp [rangeV, hk]
theorem rangeV_len {a c : Int} {n : Nat} : (rangeV a c n).length = n := by simp [rangeV]
end Mp
/-! M7: rules: names, comprehensions over a list of anything, runs that draw. -/
namespace Mp
/-! ### names -/
/-- no slot is a cell -/
def NoC (ρ : Env) : Prop := ∀ (i : Nat) (a : Nat), ρ[i]? ≠ some (.c a)
theorem NoC.set {ρ : Env} (n : NoC ρ) {i : Nat} {v : Val} : NoC (ρ.set i (.v v)) := fun j a e => by
  by_cases h : i = j
  · subst h
    rw [List.getElem?_set] at e
    split at e
    · split at e <;> simp at e
    · exact n _ _ e
  · rw [List.getElem?_set_ne h] at e; exact n j a e
theorem NoC.setu {ρ : Env} (n : NoC ρ) {i : Nat} : NoC (ρ.set i .u) := fun j a e => by
  by_cases h : i = j
  · subst h
    rw [List.getElem?_set] at e
    split at e
    · split at e <;> simp at e
    · exact n _ _ e
  · rw [List.getElem?_set_ne h] at e; exact n j a e
theorem bindT_nm {C : Cx} {ρ : Env} {h : Hp} {i : Nat} {v : Val} (n : NoC ρ) (l : i < ρ.length) : bindT C ρ h (.nm i) v = .ok (ρ.set i (.v v)) h := by
  simp only [bindT]
  cases q : ρ[i]? with
  | none => rw [List.getElem?_eq_none_iff] at q; omega
  | some s =>
    cases s with
    | c a => exact absurd q (n i a)
    | _ => rfl
theorem bindT_sub {C : Cx} {ρ : Env} {h : Hp} {o i : E} {v : Val} : bindT C ρ h (.sub o i) v = (ev C ρ h o).bind fun x h => (ev C ρ h i).bind fun k h => (prim C.base .setix [x, k, v] h).bind fun _ h => .ok ρ h := by simp only [bindT]
theorem get_set {ρ : Env} {h : Hp} {i : Nat} {v : Val} (l : i < ρ.length) : Env.get (ρ.set i (.v v)) h i = some v := by
  unfold Env.get; rw [List.getElem?_set_self l]
theorem get_ne {ρ : Env} {h : Hp} {i j : Nat} {s : Slot} (n : i ≠ j) : Env.get (ρ.set i s) h j = Env.get ρ h j := by
  unfold Env.get; rw [List.getElem?_set_ne n]
theorem bind_if {α β : Type} {c : Prop} [Decidable c] {a b : R α} {f : α → Hp → R β} : (if c then a else b).bind f = if c then a.bind f else b.bind f := by split <;> rfl
theorem R.bind_assoc {α β γ : Type} {x : R α} {f : α → Hp → R β} {k : β → Hp → R γ} : (x.bind f).bind k = x.bind fun a h => (f a h).bind k := by cases x <;> rfl
/-! ### comprehensions -/
theorem comp_map {α : Type} {C : Cx} {ρ : Env} {h : Hp} {elt c : E} {os : List Nat} {t : At} {it : It} {xs : List α} (inj g : α → Val) (hi : evIt C ρ h it = .ok (xs.map inj, []) h)
    (e : ∀ x ∈ xs, ((bindT C (wipe ρ os) h t (inj x)).bind fun ρ2 h => (ev C ρ2 h c).test (fun _ h => (ev C ρ2 h elt).bind fun v h => .ok (some v) h) fun _ h => .ok Option.none h) = .ok (some (g x)) h) :
    ev C ρ h (.comp false elt os t it c) = .ok (.lst (xs.map g)) h := by
  rw [ev, hi]
  simp only [R.bind_ok, lockAll]
  have go : ∀ (ys : List α), (∀ x ∈ ys, x ∈ xs) → loopC (fun x h => (bindT C (wipe ρ os) h t x).bind fun ρ2 h => (ev C ρ2 h c).test (fun _ h => (ev C ρ2 h elt).bind fun v h => .ok (some v) h) fun _ h => .ok Option.none h) (ys.map inj) h = .ok (ys.map g) h := by
    intro ys
    induction ys with
    | nil => intro _; rfl
    | cons y ys ih =>
      intro m
      rw [List.map_cons, loopC, e y (m y (List.mem_cons_self ..))]
      simp only [R.bind_ok, ih fun x hx => m x (List.mem_cons_of_mem _ hx)]
      rfl
  rw [go xs fun x m => m]
  rfl
theorem comp_filt {α : Type} {C : Cx} {ρ : Env} {h : Hp} {elt c : E} {os : List Nat} {t : At} {it : It} {xs : List α} (inj : α → Val) (o : α → Option Val) (hi : evIt C ρ h it = .ok (xs.map inj, []) h)
    (e : ∀ x ∈ xs, ((bindT C (wipe ρ os) h t (inj x)).bind fun ρ2 h => (ev C ρ2 h c).test (fun _ h => (ev C ρ2 h elt).bind fun v h => .ok (some v) h) fun _ h => .ok Option.none h) = .ok (o x) h) :
    ev C ρ h (.comp false elt os t it c) = .ok (.lst (xs.filterMap o)) h := by
  rw [ev, hi]
  simp only [R.bind_ok, lockAll]
  have go : ∀ (ys : List α), (∀ x ∈ ys, x ∈ xs) → loopC (fun x h => (bindT C (wipe ρ os) h t x).bind fun ρ2 h => (ev C ρ2 h c).test (fun _ h => (ev C ρ2 h elt).bind fun v h => .ok (some v) h) fun _ h => .ok Option.none h) (ys.map inj) h = .ok (ys.filterMap o) h := by
    intro ys
    induction ys with
    | nil => intro _; rfl
    | cons y ys ih =>
      intro m
      rw [List.map_cons, loopC, e y (m y (List.mem_cons_self ..))]
      simp only [R.bind_ok, ih fun x hx => m x (List.mem_cons_of_mem _ hx), List.filterMap_cons]
      cases o y <;> rfl
  rw [go xs fun x m => m]
  rfl
/-- ranges, as lists of numbers -/
theorem rangeV_map {a c : Int} {n : Nat} : rangeV a c n = (List.range n).map fun k : Nat => .int (a + (k : Int) * c) := rfl
theorem range1 {C : Cx} {ρ : Env} {h : Hp} {e : E} {n : Nat} (he : ev C ρ h e = .ok (.int n) h) (h1 : n ≤ 100000) : evIt C ρ h (.rng (.cons e .nil)) = .ok ((List.range n).map (fun k : Nat => Val.int k), []) h := by
  rw [range_walk he (by omega) (by omega), rangeV_map]
  simp
theorem range2 {C : Cx} {ρ : Env} {h : Hp} {e e' : E} {a n : Nat} (ha : ev C ρ h e = .ok (.int a) h) (he : ev C ρ h e' = .ok (.int n) h) (h1 : n ≤ 100000) (h2 : a ≤ 100000) : evIt C ρ h (.rng (.cons e (.cons e' .nil))) = .ok ((List.range' a (n - a)).map (fun k : Nat => Val.int k), []) h := by
  simp only [evIt, evs, ha, he, R.bind_ok, rngOp]
  rw [if_pos (by omega)]
  have : ((n : Int) - (a : Int)).toNat = n - a := by omega
  rw [this, rangeV_map, List.range'_eq_map_range]
  simp
/-- entering and leaving a def that keeps what it makes -/
theorem run_imp {P : Prog} {W n b f : Nat} {vs : List Val} {h : Hp} {d : Df} (e : P.defs f = some d) (hl : vs.length = d.np) (hc : d.cs = []) (hp : d.pure = false) :
    run P W (n + 1) b f vs h = leave false h.length (exs ⟨run P W n b, runV P W n b, P.gv, b, W⟩ (slots0 d.ns vs) h d.body) := by
  simp only [run, e, if_pos hl, hc, hp, mkCells, Bool.false_eq_true, if_false]
/-! ### runs that draw -/
/-- a run that ends well, the stream moved on by at most K -/
def Pr {α : Type} (x : R α) (h : Hp) (r s : Nat) (g : Sg) (K : Int) (Q : α → Prop) : Prop := ∃ a g', x = .ok a (stH h r s g') ∧ g'.Ok ∧ g.t ≤ g'.t ∧ g'.t ≤ g.t + K ∧ Q a
theorem Pr.bind {α β : Type} {x : R α} {f : α → Hp → R β} {h : Hp} {r s : Nat} {g : Sg} {K K2 : Int} {Q : α → Prop} {Q2 : β → Prop} (p : Pr x h r s g K Q)
    (q : ∀ a g', g'.Ok → g.t ≤ g'.t → g'.t ≤ g.t + K → Q a → Pr (f a (stH h r s g')) h r s g' K2 Q2) : Pr (x.bind f) h r s g (K + K2) Q2 := by
  obtain ⟨a, g1, e, o, t0, t, qa⟩ := p
  obtain ⟨b, g2, e2, o2, t20, t2, qb⟩ := q a g1 o t0 t qa
  exact ⟨b, g2, by rw [e]; exact e2, o2, by omega, by omega, qb⟩
theorem Pr.ok {α : Type} {a : α} {h : Hp} {r s : Nat} {g : Sg} {Q : α → Prop} (o : g.Ok) (q : Q a) : Pr (.ok a (stH h r s g)) h r s g 0 Q := ⟨a, g, rfl, o, by omega, by omega, q⟩
theorem Pr.mono {α : Type} {x : R α} {h : Hp} {r s : Nat} {g : Sg} {K K2 : Int} {Q Q2 : α → Prop} (p : Pr x h r s g K Q) (k : K ≤ K2) (q : ∀ a, Q a → Q2 a) : Pr x h r s g K2 Q2 := by
  obtain ⟨a, g1, e, o, t0, t, qa⟩ := p
  exact ⟨a, g1, e, o, t0, by omega, q a qa⟩
theorem Pr.weak {α : Type} {x : R α} {h : Hp} {r s : Nat} {g : Sg} {K K2 : Int} {Q : α → Prop} (p : Pr x h r s g K Q) (k : K ≤ K2) : Pr x h r s g K2 Q := p.mono k fun _ q => q
theorem Pr.seq {α β : Type} {x : R α} {f : α → Hp → R β} {h : Hp} {r s : Nat} {g : Sg} {K K1 : Int} {Q : α → Prop} {Q2 : β → Prop} (p : Pr x h r s g K1 Q)
    (q : ∀ a g', g'.Ok → g.t ≤ g'.t → g'.t ≤ g.t + K1 → Q a → Pr (f a (stH h r s g')) h r s g' (K - K1) Q2) : Pr (x.bind f) h r s g K Q2 :=
  (Pr.bind p q).weak (by omega)
theorem Pr.fin {α : Type} {a : α} {h : Hp} {r s : Nat} {g : Sg} {K : Int} {Q : α → Prop} (o : g.Ok) (k : 0 ≤ K) (q : Q a) : Pr (.ok a (stH h r s g)) h r s g K Q := (Pr.ok o q).weak k
theorem Pr.eq {α : Type} {x y : R α} {h : Hp} {r s : Nat} {g : Sg} {K : Int} {Q : α → Prop} (p : Pr x h r s g K Q) (e : y = x) : Pr y h r s g K Q := e ▸ p
/-- leaving a def that draws -/
theorem Pr.pure {P : Prog} {W n b f : Nat} {vs : List Val} {h : Hp} {d : Df} {r s : Nat} {g : Sg} {K : Int} {Q : Val → Prop} {k : Nat} (e : P.defs f = some d) (hl : vs.length = d.np) (hc : d.cs = []) (hp : d.pure = true) (hQ : ∀ v, Q v → Plain k v)
    (p : Pr (exs ⟨run P W n h.length, runV P W n h.length, P.gv, h.length, W⟩ (slots0 d.ns vs) (stH h r s g) d.body) h r s g K (fun f => ∃ v, f = .rt v ∧ Q v)) : Pr (run P W (n + 1) b f vs (stH h r s g)) h r s g K Q := by
  obtain ⟨fl, g', e2, o, t0, t, v, rfl, q⟩ := p
  refine ⟨v, g', ?_, o, t0, t, q⟩
  rw [run_pure e hl hc hp, stH_len, e2]
  exact lv_plain (hQ v q) (by simp)
theorem draw_pr {P : Prog} {W m b f : Nat} {h : Hp} {r s : Nat} {g : Sg} {many : Int} (d : P.defs f = some drawDf) (p : Spot h r s) (o : g.Ok) (m0 : 0 < many) (m1 : many < 2 ^ 40) (ht : g.t < 2 ^ 60) (hW : 64 ≤ W) (hm : 1 ≤ m) :
    Pr (run P W m b f [.ref s, .int many] (stH h r s g)) h r s g 1 (fun v => ∃ x : Int, v = .int x ∧ 0 ≤ x ∧ x < many) := by
  obtain ⟨m, rfl⟩ : ∃ n, m = n + 1 := ⟨m - 1, by omega⟩
  obtain ⟨g', x, o', t', a, b', e⟩ := draw_run (n := m) (b := b) d p o m0 m1 ht hW
  exact ⟨_, g', e, o', by omega, by omega, x, rfl, a, b'⟩
theorem pick_pr {P : Prog} {W m b f dr k : Nat} {h : Hp} {r s : Nat} {g : Sg} {xs : List Val} (d : P.defs f = some (pickDf dr)) (dd : P.defs dr = some drawDf) (p : Spot h r s) (o : g.Ok) (m0 : 0 < xs.length) (m1 : xs.length < 2 ^ 40) (ht : g.t < 2 ^ 60) (hW : 64 ≤ W) (hx : ∀ x ∈ xs, Plain k x) (hm : 2 ≤ m) :
    Pr (run P W m b f [.ref s, .lst xs] (stH h r s g)) h r s g 1 (fun v => v ∈ xs) := by
  obtain ⟨m, rfl⟩ : ∃ n, m = n + 2 := ⟨m - 2, by omega⟩
  obtain ⟨g', x, o', t', a, e⟩ := pick_run (n := m) (b := b) d dd p o m0 m1 ht hW hx
  exact ⟨_, g', e, o', by omega, by omega, a⟩
theorem pickI_pr {P : Prog} {W m b f dr : Nat} {h : Hp} {r s : Nat} {g : Sg} (ns : List Int) (d : P.defs f = some (pickDf dr)) (dd : P.defs dr = some drawDf) (p : Spot h r s) (o : g.Ok) (m0 : 0 < ns.length) (m1 : ns.length < 1000) (ht : g.t < 2 ^ 60) (hW : 64 ≤ W) (hm : 2 ≤ m) :
    Pr (run P W m b f [.ref s, .lst (ns.map .int)] (stH h r s g)) h r s g 1 (fun v => ∃ y ∈ ns, v = .int y) := by
  refine (pick_pr (k := 0) d dd p o (by simpa using m0) (by simp only [List.length_map]; omega) ht hW (fun x hx => ?_) hm).mono (by omega) fun v hv => ?_
  · obtain ⟨y, _, rfl⟩ := List.mem_map.mp hx; trivial
  · obtain ⟨y, hy, rfl⟩ := List.mem_map.mp hv; exact ⟨y, hy, rfl⟩
/-- pairwise -/
inductive All2 {α β : Type} (Q : α → β → Prop) : List α → List β → Prop
  | nil : All2 Q [] []
  | cons {a b as bs} : Q a b → All2 Q as bs → All2 Q (a :: as) (b :: bs)
theorem All2.len {α β : Type} {Q : α → β → Prop} {xs : List α} {ys : List β} (a : All2 Q xs ys) : xs.length = ys.length := by
  induction a with
  | nil => rfl
  | cons _ _ ih => simp [ih]
theorem All2.imp {α β : Type} {Q Q2 : α → β → Prop} {xs : List α} {ys : List β} (a : All2 Q xs ys) (k : ∀ x y, Q x y → Q2 x y) : All2 Q2 xs ys := by
  induction a with
  | nil => exact .nil
  | cons h _ ih => exact .cons (k _ _ h) ih
theorem All2.right {α β : Type} {Q : α → β → Prop} {xs : List α} {ys : List β} (a : All2 Q xs ys) : ∀ y ∈ ys, ∃ x ∈ xs, Q x y := by
  induction a with
  | nil => intro y m; cases m
  | cons h _ ih =>
    intro y m
    rcases List.mem_cons.mp m with rfl | m
    · exact ⟨_, List.mem_cons_self .., h⟩
    · obtain ⟨x, m, q⟩ := ih y m
      exact ⟨x, List.mem_cons_of_mem _ m, q⟩
theorem comp_st {C : Cx} {ρ : Env} {h : Hp} {elt c : E} {os : List Nat} {t : At} {it : It} {r s : Nat} {g : Sg} {K : Int} {Q : Val → Val → Prop} {xs : List Val} (hK : 0 ≤ K) (o : g.Ok) (hi : evIt C ρ (stH h r s g) it = .ok (xs, []) (stH h r s g))
    (e : ∀ x ∈ xs, ∀ g', g'.Ok → g.t ≤ g'.t → g'.t ≤ g.t + K * xs.length → Pr ((bindT C (wipe ρ os) (stH h r s g') t x).bind fun ρ2 h => (ev C ρ2 h c).test (fun _ h => (ev C ρ2 h elt).bind fun v h => .ok (some v) h) fun _ h => .ok Option.none h) h r s g' K (fun y => ∃ v, y = some v ∧ Q x v)) :
    Pr (ev C ρ (stH h r s g) (.comp false elt os t it c)) h r s g (K * xs.length) (fun v => ∃ ys, v = .lst ys ∧ All2 Q xs ys) := by
  rw [ev, hi]
  simp only [R.bind_ok, lockAll]
  have go : ∀ (ys : List Val) (g1 : Sg), (∀ x ∈ ys, x ∈ xs) → g1.Ok → g.t ≤ g1.t → g1.t + K * ys.length ≤ g.t + K * xs.length → Pr (loopC (fun x h => (bindT C (wipe ρ os) h t x).bind fun ρ2 h => (ev C ρ2 h c).test (fun _ h => (ev C ρ2 h elt).bind fun v h => .ok (some v) h) fun _ h => .ok Option.none h) ys (stH h r s g1)) h r s g1 (K * ys.length) (fun zs => All2 Q ys zs) := by
    intro ys
    induction ys with
    | nil => intro g1 _ o1 _ _; simpa [loopC] using Pr.ok o1 All2.nil
    | cons y ys ih =>
      intro g1 m o1 t1 t2
      have hk : K * ((y :: ys).length : Nat) = K + K * (ys.length : Nat) := by rw [show ((y :: ys).length : Int) = ys.length + 1 by simp]; grind
      have hp : 0 ≤ K * (ys.length : Nat) := Int.mul_nonneg hK (by omega)
      rw [loopC, hk]
      rw [hk] at t2
      refine Pr.bind (e y (m y (List.mem_cons_self ..)) g1 o1 t1 (by omega)) fun z g2 o2 t3 t4 ⟨v, hz, q⟩ => ?_
      subst hz
      refine Pr.weak (Pr.bind (ih g2 (fun x hx => m x (List.mem_cons_of_mem _ hx)) o2 (by omega) (by omega)) (K2 := 0) fun zs g3 o3 t5 t6 a => ?_) (by omega)
      exact Pr.ok o3 (.cons q a)
  obtain ⟨zs, g1, e1, o1, t1, t2, a⟩ := go xs g (fun x m => m) o (by omega) (by omega)
  rw [e1]
  exact ⟨_, g1, rfl, o1, t1, t2, _, rfl, a⟩
theorem ex_map {α : Type} {f : α → Val} {Q : α → Prop} : ∀ {ys : List Val}, (∀ y ∈ ys, ∃ q, y = f q ∧ Q q) → ∃ qs : List α, ys = qs.map f ∧ ∀ q ∈ qs, Q q
  | [], _ => ⟨[], rfl, fun q m => by cases m⟩
  | y :: ys, h => by
    obtain ⟨q, e, hq⟩ := h y (List.mem_cons_self ..)
    obtain ⟨qs, e2, hqs⟩ := ex_map (f := f) (Q := Q) fun z m => h z (List.mem_cons_of_mem _ m)
    refine ⟨q :: qs, by rw [e, e2]; rfl, fun z m => ?_⟩
    rcases List.mem_cons.mp m with rfl | m
    · exact hq
    · exact hqs z m
/-! ### for -/
theorem for_map {α : Type} {C : Cx} {ρ : Env} {h : Hp} {t : At} {it : It} {b : Ss} {xs : List α} (inj : α → Val) (hi : evIt C ρ h it = .ok (xs.map inj, []) h) (I : Nat → Env → Hp → Prop) (h0 : I 0 ρ h)
    (st : ∀ k x ρ h, xs[k]? = some x → I k ρ h → ∃ ρ' h', ((bindT C ρ h t (inj x)).bind fun ρ h => exs C ρ h b) = .ok (.nx ρ') h' ∧ I (k + 1) ρ' h') : ∃ ρ' h', ex C ρ h (.for_ t it b) = .ok (.nx ρ') h' ∧ I xs.length ρ' h' := by
  rw [ex, hi]
  simp only [R.bind_ok, lockAll]
  obtain ⟨ρ', h', e, i⟩ := loopF_inv (f := fun ρ x h => (bindT C ρ h t x).bind fun ρ h => exs C ρ h b) (I := I) (xs.map inj) 0 ρ h h0 fun k x ρ h e ik => by
    rw [List.getElem?_map] at e
    obtain ⟨y, hy, rfl⟩ := Option.map_eq_some_iff.mp e
    rw [Nat.zero_add] at ik ⊢
    obtain ⟨ρ', h', e1, i1⟩ := st k y ρ h hy ik
    exact ⟨ρ', h', .inl e1, i1⟩
  rw [e]
  rw [Nat.zero_add, List.length_map] at i
  exact ⟨ρ', h', rfl, i⟩
theorem for_mapK {α : Type} {C : Cx} {ρ : Env} {h : Hp} (t : At) {it : It} (b : Ss) {xs : List α} {G : Prop} (inj : α → Val) (hi : evIt C ρ h it = .ok (xs.map inj, []) h) (I : Nat → Env → Hp → Prop) (h0 : I 0 ρ h)
    (st : ∀ k x ρ h, xs[k]? = some x → I k ρ h → ∃ ρ' h', ((bindT C ρ h t (inj x)).bind fun ρ h => exs C ρ h b) = .ok (.nx ρ') h' ∧ I (k + 1) ρ' h') (fin : ∀ ρ' h', ex C ρ h (.for_ t it b) = .ok (.nx ρ') h' → I xs.length ρ' h' → G) : G := by
  obtain ⟨ρ', h', e, i⟩ := for_map inj hi I h0 st
  exact fin ρ' h' e i
theorem NoC.of {ρ : Env} (h : ρ.all (fun s => match s with | .c _ => false | _ => true) = true) : NoC ρ := fun i a e => by
  have := List.all_eq_true.mp h _ (List.mem_of_getElem? e)
  cases this
theorem prim_slTo {b : Nat} {xs : List Val} {i : Nat} {h : Hp} : prim b (.sl false false true false) [.lst xs, .int i] h = .ok (.lst (xs.take i)) h := by
  have e : slice xs Option.none (some (i : Int)) Option.none = xs.take i := by
    simp only [slice, HT.sIx_none, HT.sIx_nat, Nat.sub_zero, List.drop_zero]
    rw [← List.take_length (l := xs.take i), List.length_take, List.take_take]
    congr 1; omega
  show slOp false (.lst xs) Option.none (some (i : Int)) Option.none h = _
  show (if (slice xs Option.none (some (i : Int)) Option.none).length ≤ xs.length then newL false (slice xs Option.none (some (i : Int)) Option.none) h else R.no) = _
  rw [e, if_pos (by rw [List.length_take]; omega)]; rfl
theorem prim_slFrom {b : Nat} {xs : List Val} {i : Nat} {h : Hp} : prim b (.sl false true false false) [.lst xs, .int i] h = .ok (.lst (xs.drop i)) h := by
  have e : slice xs (some (i : Int)) Option.none Option.none = xs.drop i := by
    simp only [slice, HT.sIx_none, HT.sIx_nat]
    by_cases c : i ≤ xs.length
    · rw [Nat.min_eq_left c]
      exact List.take_of_length_le (by rw [List.length_drop]; omega)
    · rw [Nat.min_eq_right (by omega), Nat.sub_self, List.take_zero]
      exact (List.drop_eq_nil_of_le (by omega)).symm
  show slOp false (.lst xs) (some (i : Int)) Option.none Option.none h = _
  show (if (slice xs (some (i : Int)) Option.none Option.none).length ≤ xs.length then newL false (slice xs (some (i : Int)) Option.none Option.none) h else R.no) = _
  rw [e, if_pos (by rw [List.length_drop]; omega)]; rfl
theorem prim_appendI {b a : Nat} {v : Val} {h : Hp} {xs : List Val} (e : h.at a = some (.lst xs)) (w : wok b a v = true) (l : xs.length < 100000) : prim b .append [.ref a, v] h = .ok .none (h.put a (.lst (xs ++ [v]))) := by
  show (match h.at a with | some (.lst xs) => _ | _ => _) = _
  rw [e]
  simp only [w, l, decide_true, Bool.and_true, if_true]
theorem isL_ref {h : Hp} {a : Nat} {xs : List Val} (e : h.at a = some (.lst xs)) : (Val.ref a).isL h = true := by
  show (match h.at a with | some (.lst _) | some (.lck _) => true | _ => false) = _
  rw [e]
theorem at_app {h X : Hp} {i : Nat} (l : i < h.length) : Hp.at (h ++ X) i = h.at i := by unfold Hp.at; rw [List.getElem?_append_left l]
theorem at_app2 {h X : Hp} {i : Nat} : Hp.at (h ++ X) (h.length + i) = X.at i := by unfold Hp.at; rw [List.getElem?_append_right (by omega)]; congr 2; omega
theorem put_app {h X : Hp} {i : Nat} {o : Ob} (l : i < h.length) : (h ++ X).put i o = h.put i o ++ X := by unfold Hp.put; rw [List.set_append_left _ _ l]
theorem put_app2 {h X : Hp} {i : Nat} {o : Ob} : (h ++ X).put (h.length + i) o = h ++ X.put i o := by unfold Hp.put; rw [List.set_append_right _ _ (by omega)]; congr 2; omega
theorem put_app0 {h X : Hp} {o : Ob} : (h ++ X).put h.length o = h ++ X.put 0 o := put_app2 (i := 0)
theorem ix_lst {α : Type} {b : Nat} {h : Hp} {inj : α → Val} {xs : List α} {k : Nat} {x : α} (e : xs[k]? = some x) : prim b .ix [.lst (xs.map inj), .int k] h = .ok (inj x) h := by
  obtain ⟨l, _⟩ := List.getElem?_eq_some_iff.mp e
  exact prim_ix (xs := xs.map inj) rfl (place_nat (by simpa using l)) (by rw [List.getElem?_map, e]; rfl)
end Mp
/-! M8: tables that are drawn. -/
namespace Mp
/-! ### sizes -/
theorem Sz.div {k : Nat} {a b : Int} (z : b ≠ 0) (ha : a.natAbs < 2 ^ k) (hb : b.natAbs < 2 ^ k) : Sz k (Rat.divInt a b) := by
  constructor
  · rw [Rat.num_divInt]
    refine Nat.lt_of_le_of_lt (Int.natAbs_ediv_le_natAbs _ _) ?_
    rw [Int.natAbs_mul, Int.natAbs_sign_of_ne_zero z, Nat.one_mul]
    exact ha
  · rw [Rat.den_divInt, if_neg z]
    exact Nat.lt_of_le_of_lt (Nat.div_le_self _ _) hb
theorem Sz.add {a b : Nat} {p q : Rat} (hp : Sz a p) (hq : Sz b q) : Sz (a + b + 1) (p + q) := by
  have m1 : (p.num * q.den).natAbs < 2 ^ (a + b) := by
    rw [Int.natAbs_mul, Nat.pow_add]; exact Nat.mul_lt_mul'' hp.1 hq.2
  have m2 : (q.num * p.den).natAbs < 2 ^ (a + b) := by
    rw [Int.natAbs_mul, Nat.add_comm a b, Nat.pow_add]; exact Nat.mul_lt_mul'' hq.1 hp.2
  have m3 : ((p.den : Int) * q.den).natAbs < 2 ^ (a + b) := by rw [Int.natAbs_mul, Nat.pow_add]; exact Nat.mul_lt_mul'' hp.2 hq.2
  have z : ((p.den : Int) * q.den) ≠ 0 := Int.mul_ne_zero (by have := p.den_nz; omega) (by have := q.den_nz; omega)
  have e2 : (2 : Nat) ^ (a + b + 1) = 2 ^ (a + b) + 2 ^ (a + b) := by rw [Nat.pow_succ]; omega
  rw [← add_eq]
  refine Sz.div z ?_ (by omega)
  have := Int.natAbs_add_le (p.num * q.den) (q.num * p.den)
  omega
theorem Sz.neg {a : Nat} {q : Rat} (h : Sz a q) : Sz a (-q) := ⟨by rw [Rat.neg_num, Int.natAbs_neg]; exact h.1, h.2⟩
theorem Sz.sub {a b : Nat} {p q : Rat} (hp : Sz a p) (hq : Sz b q) : Sz (a + b + 1) (p - q) := by
  rw [Rat.sub_eq_add_neg]; exact hp.add hq.neg
theorem Sz.zero : Sz 1 0 := ⟨by decide, by decide⟩
theorem plain_frV {q : Rat} : Plain 1 (frV q) := fun x m => by
  simp only [List.mem_cons, List.not_mem_nil, or_false] at m
  rcases m with rfl | rfl <;> trivial
theorem Plain.up : ∀ {k : Nat} {v : Val}, Plain k v → Plain (k + 1) v
  | _, .none, _ => trivial
  | _, .bool _, _ => trivial
  | _, .int _, _ => trivial
  | _, .str _, _ => trivial
  | k + 1, .tup xs, h => fun x m => Plain.up (h x m)
  | k + 1, .lst xs, h => fun x m => Plain.up (h x m)
  | 0, .tup _, h => h.elim
  | 0, .lst _, h => h.elim
  | k, .dct _ _, h => by cases k <;> exact absurd h id
  | k, .ref _, h => by cases k <;> exact absurd h id
  | k, .fn _, h => by cases k <;> exact absurd h id
  | k, .clo _ _, h => by cases k <;> exact absurd h id
  | k, .exc _ _, h => by cases k <;> exact absurd h id
def rowV (r : List Rat) : Val := .lst (r.map frV)
def tabV (t : List (List Rat)) : Val := .lst (t.map rowV)
theorem slTo_row {b : Nat} {r : List Rat} {i : Nat} {h : Hp} : prim b (.sl false false true false) [rowV r, .int i] h = .ok (rowV (r.take i)) h := by
  unfold rowV; rw [prim_slTo, List.map_take]
theorem slTo_tab {b : Nat} {r : List (List Rat)} {i : Nat} {h : Hp} : prim b (.sl false false true false) [tabV r, .int i] h = .ok (tabV (r.take i)) h := by
  unfold tabV; rw [prim_slTo, List.map_take]
theorem ix_row {b : Nat} {h : Hp} {r : List Rat} {k : Nat} {x : Rat} (e : r[k]? = some x) : prim b .ix [rowV r, .int k] h = .ok (frV x) h := ix_lst e
theorem ix_tab {b : Nat} {h : Hp} {r : List (List Rat)} {k : Nat} {x : List Rat} (e : r[k]? = some x) : prim b .ix [tabV r, .int k] h = .ok (rowV x) h := ix_lst e
theorem len_row {b : Nat} {h : Hp} {r : List Rat} : prim b .len [rowV r] h = .ok (.int r.length) h := by unfold rowV; rw [prim_lenL, List.length_map]
theorem len_tab {b : Nat} {h : Hp} {r : List (List Rat)} : prim b .len [tabV r] h = .ok (.int r.length) h := by unfold tabV; rw [prim_lenL, List.length_map]
theorem walk_row {h : Hp} {r : List Rat} : walkOf h (rowV r) = some (r.map frV, []) := rfl
theorem walk_tab {h : Hp} {r : List (List Rat)} : walkOf h (tabV r) = some (r.map rowV, []) := rfl
theorem plain_row {r : List Rat} : Plain 2 (rowV r) := fun x m => by
  obtain ⟨q, _, rfl⟩ := List.mem_map.mp m
  exact plain_frV
theorem plain_tab {t : List (List Rat)} : Plain 3 (tabV t) := fun x m => by
  obtain ⟨q, _, rfl⟩ := List.mem_map.mp m
  exact plain_row
/-! ### one number -/
def oneDf (fr dr pk : Nat) : Df := ⟨2, 2, [], true, (.cons (.ret (.call fr [0, 1] (.cons (.prim .sub (.cons (.call dr [0, 1] (.cons (.var 0) (.cons (.prim (.add false) (.cons (.prim (.mul false) (.cons (.cst (.int 2)) (.cons (.var 1) .nil))) (.cons (.cst (.int 1)) .nil))) .nil))) (.cons (.var 1) .nil))) (.cons (.call pk [0, 1] (.cons (.var 0) (.cons (.lst false (.cons (.cst (.int 1)) (.cons (.cst (.int 1)) (.cons (.cst (.int 1)) (.cons (.cst (.int 2)) (.cons (.cst (.int 3)) .nil)))))) .nil))) .nil))))
 .nil)⟩
def someDf (fr dr pk : Nat) : Df := ⟨2, 2, [], true, (.cons (.ret (.call fr [0, 1] (.cons (.call dr [0, 1] (.cons (.var 0) (.cons (.prim (.add false) (.cons (.var 1) (.cons (.cst (.int 1)) .nil))) .nil))) (.cons (.call pk [0, 1] (.cons (.var 0) (.cons (.lst false (.cons (.cst (.int 1)) (.cons (.cst (.int 1)) (.cons (.cst (.int 1)) (.cons (.cst (.int 2)) (.cons (.cst (.int 3)) .nil)))))) .nil))) .nil))))
 .nil)⟩
/-- the defs that tables are drawn with -/
structure Drs (P : Prog) (W : Nat) (sh fr ad le dr pk : Nat) : Prop where
  w : 2 ^ 8000 ≤ W
  dsh : P.defs sh = some shareDf
  dfr : P.defs fr = some (fracDf sh)
  dad : P.defs ad = some (addDf fr)
  dle : P.defs le = some (lessDf ad)
  ddr : P.defs dr = some drawDf
  dpk : P.defs pk = some (pickDf dr)
theorem Drs.w64 {P : Prog} {W sh fr ad le dr pk : Nat} (D : Drs P W sh fr ad le dr pk) : 64 ≤ W := Nat.le_trans (Nat.le_trans (by decide) (Nat.pow_le_pow_right (show 0 < 2 by decide) (show 6 ≤ 8000 by decide))) D.w
section
variable {P : Prog} {W sh fr ad le dr pk : Nat} (D : Drs P W sh fr ad le dr pk)
include D
theorem add_m {m b : Nat} {h : Hp} {p q : Rat} (sp : Sz 3000 p) (sq : Sz 3000 q) (hm : 3 ≤ m) : run P W m b ad [frV p, frV q] h = .ok (frV (p + q)) h := by
  obtain ⟨n, rfl⟩ : ∃ n, m = n + 3 := ⟨m - 3, by omega⟩
  exact add_run D.dad D.dfr D.dsh sp sq D.w
theorem less_m {m b : Nat} {h : Hp} {p q : Rat} (sp : Sz 3000 p) (sq : Sz 3000 q) (hm : 4 ≤ m) : run P W m b le [frV p, frV q] h = .ok (frV (p - q)) h := by
  obtain ⟨n, rfl⟩ : ∃ n, m = n + 4 := ⟨m - 4, by omega⟩
  exact less_run D.dle D.dad D.dfr D.dsh sp sq D.w
theorem frac_m {m b : Nat} {h : Hp} {x y : Int} (z : y ≠ 0) (lx : x.natAbs < 2 ^ 3000) (ly : y.natAbs < 2 ^ 3000) (hm : 2 ≤ m) : run P W m b fr [.int x, .int y] h = .ok (frV (Rat.divInt x y)) h := by
  obtain ⟨n, rfl⟩ : ∃ n, m = n + 2 := ⟨m - 2, by omega⟩
  exact frac_run D.dfr D.dsh z (Nat.lt_of_lt_of_le lx (Nat.pow_le_pow_right (by decide) (by decide))) (Nat.lt_of_lt_of_le ly (Nat.pow_le_pow_right (by decide) (by decide))) D.w
theorem frac_s {m b : Nat} {h : Hp} {x y : Int} (z : y ≠ 0) (lx : x.natAbs < 2 ^ 8) (ly : y.natAbs < 2 ^ 8) (hm : 2 ≤ m) : run P W m b fr [.int x, .int y] h = .ok (frV (Rat.divInt x y)) h :=
  frac_m D z (Nat.lt_of_lt_of_le lx (Nat.pow_le_pow_right (by decide) (by decide))) (Nat.lt_of_lt_of_le ly (Nat.pow_le_pow_right (by decide) (by decide))) hm
theorem one_pr {on m b : Nat} {h : Hp} {r s : Nat} {g : Sg} {k : Int} (d : P.defs on = some (oneDf fr dr pk)) (p : Spot h r s) (o : g.Ok) (k0 : 0 ≤ k) (k1 : k ≤ 100) (ht : g.t < 2 ^ 50) (hm : 3 ≤ m) :
    Pr (run P W m b on [.ref s, .int k] (stH h r s g)) h r s g 2 (fun v => ∃ q, v = frV q ∧ Sz 8 q) := by
  obtain ⟨m, rfl⟩ : ∃ n, m = n + 3 := ⟨m - 3, by omega⟩
  refine Pr.pure d rfl rfl rfl (k := 1) (fun v ⟨q, e, _⟩ => e ▸ plain_frV) ?_
  have g0 : ∀ h, Env.get [.v (.ref s), .v (.int k)] h 0 = some (.ref s) := fun _ => rfl
  have g1 : ∀ h, Env.get [.v (.ref s), .v (.int k)] h 1 = some (.int k) := fun _ => rfl
  have ok1 : okI 2 = true := by decide
  have ok2 : okI k = true := okI_lt (k := 40) (by omega) (by decide) (by decide)
  simp only [oneDf, slots0, List.map, List.length_cons, List.length_nil, Nat.sub_self, List.replicate, List.append_nil, exs, ex, ev, evs, g0, g1, ofO_some, R.bind_ok, R.bind_assoc, prim_mul ok1 ok2, prim_add, List.getD_cons_zero, List.getD_cons_succ, newL, Bool.false_eq_true, if_false]
  refine Pr.seq (draw_pr (many := 2 * k + 1) D.ddr p o (by omega) (by omega) (by omega) D.w64 (by omega)) fun v g' o' t0 t1 ⟨x, hx, x0, x1⟩ => ?_
  subst hx
  simp only [prim_sub, R.bind_ok]
  refine Pr.seq (pickI_pr [1, 1, 1, 2, 3] D.dpk D.ddr p o' (by decide) (by decide) (by omega) D.w64 (by omega)) fun v g2 o2 t2 t3 ⟨y, hy, hv⟩ => ?_
  subst hv
  have y1 : 1 ≤ y ∧ y ≤ 3 := by
    simp only [List.mem_cons, List.not_mem_nil, or_false] at hy
    omega
  rw [frac_s D (by omega) (by omega) (by omega) (by omega)]
  exact Pr.fin o2 (by omega) ⟨_, rfl, _, rfl, Sz.div (by omega) (by omega) (by omega)⟩
theorem some_pr {on m b : Nat} {h : Hp} {r s : Nat} {g : Sg} {k : Int} (d : P.defs on = some (someDf fr dr pk)) (p : Spot h r s) (o : g.Ok) (k0 : 0 ≤ k) (k1 : k ≤ 100) (ht : g.t < 2 ^ 50) (hm : 3 ≤ m) :
    Pr (run P W m b on [.ref s, .int k] (stH h r s g)) h r s g 2 (fun v => ∃ q, v = frV q ∧ Sz 8 q) := by
  obtain ⟨m, rfl⟩ : ∃ n, m = n + 3 := ⟨m - 3, by omega⟩
  refine Pr.pure d rfl rfl rfl (k := 1) (fun v ⟨q, e, _⟩ => e ▸ plain_frV) ?_
  have g0 : ∀ h, Env.get [.v (.ref s), .v (.int k)] h 0 = some (.ref s) := fun _ => rfl
  have g1 : ∀ h, Env.get [.v (.ref s), .v (.int k)] h 1 = some (.int k) := fun _ => rfl
  simp only [someDf, slots0, List.map, List.length_cons, List.length_nil, Nat.sub_self, List.replicate, List.append_nil, exs, ex, ev, evs, g0, g1, ofO_some, R.bind_ok, R.bind_assoc, prim_add, List.getD_cons_zero, List.getD_cons_succ, newL, Bool.false_eq_true, if_false]
  refine Pr.seq (draw_pr (many := k + 1) D.ddr p o (by omega) (by omega) (by omega) D.w64 (by omega)) fun v g' o' t0 t1 ⟨x, hx, x0, x1⟩ => ?_
  subst hx
  refine Pr.seq (pickI_pr [1, 1, 1, 2, 3] D.dpk D.ddr p o' (by decide) (by decide) (by omega) D.w64 (by omega)) fun v g2 o2 t2 t3 ⟨y, hy, hv⟩ => ?_
  subst hv
  have y1 : 1 ≤ y ∧ y ≤ 3 := by
    simp only [List.mem_cons, List.not_mem_nil, or_false] at hy
    omega
  rw [frac_s D (by omega) (by omega) (by omega) (by omega)]
  exact Pr.fin o2 (by omega) ⟨_, rfl, _, rfl, Sz.div (by omega) (by omega) (by omega)⟩
end
/-! ### a table by its densities -/
def madeB3 (le : Nat) : Ss := (.cons (.asg (.nm 7) (.call le [0, 1] (.cons (.var 7) (.cons (.var 9) .nil)))) .nil)
def madeB2 (le : Nat) : Ss := (.cons (.for_ (.nm 9) (.ev (.prim (.sl false false true false) (.cons (.var 8) (.cons (.var 6) .nil)))) (madeB3 le)) .nil)
def madeF2 (le : Nat) : S := (.for_ (.nm 8) (.ev (.prim (.sl false false true false) (.cons (.var 2) (.cons (.var 4) .nil)))) (madeB2 le))
def madeB1 (ad le : Nat) : Ss := (.cons (.asg (.nm 7) (.call ad [0, 1] (.cons (.prim .ix (.cons (.var 0) (.cons (.var 6) .nil))) (.cons (.prim .ix (.cons (.var 1) (.cons (.var 4) .nil))) .nil))))
 (.cons (madeF2 le)
 (.cons (.expr (.meth .append (.var 5) (.cons (.var 7) .nil)))
 .nil)))
def madeF1 (ad le : Nat) : S := (.for_ (.nm 6) (.rng (.cons (.prim .len (.cons (.var 0) .nil)) .nil)) (madeB1 ad le))
def madeB0 (ad le : Nat) : Ss := (.cons (.asg (.nm 5) (.lst true .nil))
 (.cons (madeF1 ad le)
 (.cons (.expr (.meth .append (.var 3) (.cons (.var 5) .nil)))
 .nil)))
def madeF0 (ad le : Nat) : S := (.for_ (.nm 4) (.rng (.cons (.prim .len (.cons (.var 1) .nil)) .nil)) (madeB0 ad le))
def madeDf (ad le : Nat) : Df := ⟨3, 10, [], false, (.cons (.asg (.nm 3) (.lst true .nil))
 (.cons (madeF0 ad le)
 (.cons (.ret (.var 3))
 .nil)))⟩
/-- the heap with a table in it: the list of rows, the rows -/
def mh (h : Hp) (T : List (List Rat)) : Hp := h ++ (some (.lst ((List.range T.length).map fun i => .ref (h.length + 1 + i))) :: T.map fun r => some (.lst (r.map frV)))
theorem mh_len {h : Hp} {T : List (List Rat)} : (mh h T).length = h.length + 1 + T.length := by simp [mh]; omega
theorem mh_at {h X : Hp} {T : List (List Rat)} : Hp.at (mh h T ++ X) h.length = some (.lst ((List.range T.length).map fun i => .ref (h.length + 1 + i))) := by
  rw [at_app (by rw [mh_len]; omega)]
  exact at_app2 (i := 0)
theorem mh_at0 {h : Hp} {T : List (List Rat)} : Hp.at (mh h T) h.length = some (.lst ((List.range T.length).map fun i => .ref (h.length + 1 + i))) := by
  have := mh_at (h := h) (X := []) (T := T)
  rwa [List.append_nil] at this
theorem mh_row {h : Hp} {T : List (List Rat)} {i : Nat} {q : List Rat} (e : T[i]? = some q) : Hp.at (mh h T) (h.length + 1 + i) = some (.lst (q.map frV)) := by
  rw [Nat.add_assoc]
  refine at_app2.trans ?_
  rw [Nat.add_comm 1 i]
  show Hp.at _ (i + 1) = _
  unfold Hp.at
  rw [List.getElem?_cons_succ, List.getElem?_map, e]; rfl
theorem mh_put {h : Hp} {T : List (List Rat)} {q : List Rat} : Hp.put (mh h T ++ [some (Ob.lst (q.map frV))]) h.length (Ob.lst ((List.range T.length).map (fun i => Val.ref (h.length + 1 + i)) ++ [.ref (mh h T).length])) = mh h (T ++ [q]) := by
  rw [put_app (by rw [mh_len]; omega)]
  unfold mh
  rw [put_app0]
  show h ++ (some _ :: _) ++ _ = _
  rw [List.append_assoc, List.cons_append]
  congr 2
  · rw [show (T ++ [q]).length = T.length + 1 by simp, List.range_succ, List.map_append]
    simp
    omega
  · simp
section
variable {P : Prog} {W sh fr ad le dr pk : Nat} (D : Drs P W sh fr ad le dr pk)
include D
theorem made_f2 {m b : Nat} {h : Hp} {ρ : Env} {q0 : Rat} {dens : List (List Rat)} {i j : Nat} (hm : 4 ≤ m) (nc : NoC ρ) (hl : ρ.length = 10) (b2 : ρ[2]? = some (.v (tabV dens))) (b4 : ρ[4]? = some (.v (.int i))) (b6 : ρ[6]? = some (.v (.int j))) (b7 : ρ[7]? = some (.v (frV q0))) (sq : Sz 20 q0)
    (hd : dens.length ≤ 8) (hd2 : ∀ r ∈ dens, r.length ≤ 8 ∧ ∀ q ∈ r, Sz 8 q) :
    ∃ ρ' q, ex ⟨run P W m b, runV P W m b, P.gv, b, W⟩ ρ h (madeF2 le) = .ok (.nx ρ') h ∧ NoC ρ' ∧ ρ'.length = 10 ∧ (∀ k, k < 7 → ρ'[k]? = ρ[k]?) ∧ ρ'[7]? = some (.v (frV q)) ∧ Sz 1000 q := by
  unfold madeF2
  have hi : evIt ⟨run P W m b, runV P W m b, P.gv, b, W⟩ ρ h (.ev (.prim (.sl false false true false) (.cons (.var 2) (.cons (.var 4) .nil)))) = .ok ((dens.take i).map rowV, []) h := by
    simp only [evIt, ev, evs, Env.get, b2, b4, ofO_some, R.bind_ok, slTo_tab, walk_tab]
  refine for_mapK (.nm 8) (madeB2 le) rowV hi (fun k ρ' h' => h' = h ∧ NoC ρ' ∧ ρ'.length = 10 ∧ (∀ k, k < 7 → ρ'[k]? = ρ[k]?) ∧ ∃ q, ρ'[7]? = some (.v (frV q)) ∧ Sz (20 + 80 * k) q) ⟨rfl, nc, hl, fun _ _ => rfl, q0, b7, sq⟩ ?_ ?_
  rotate_left
  · rintro ρ' h' e ⟨e1, e2, e3, e4, q, e5, e6⟩
    have hk : (dens.take i).length ≤ 8 := by rw [List.length_take]; omega
    exact ⟨ρ', q, by rw [e, e1], e2, e3, e4, e5, e6.mono (by omega)⟩
  rintro k x ρ1 h1 hx ⟨rfl, n1, l1, k1, q1, b71, s1⟩
  have hk : k < 8 := by
    obtain ⟨z, _⟩ := List.getElem?_eq_some_iff.mp hx
    rw [List.length_take] at z; omega
  obtain ⟨x1, x2⟩ := hd2 x (List.mem_of_mem_take (List.mem_of_getElem? hx))
  rw [bindT_nm n1 (by omega), R.bind_ok]
  have hi2 : evIt ⟨run P W m b, runV P W m b, P.gv, b, W⟩ (ρ1.set 8 (.v (rowV x))) h1 (.ev (.prim (.sl false false true false) (.cons (.var 8) (.cons (.var 6) .nil)))) = .ok ((x.take j).map frV, []) h1 := by
    have g8 : (ρ1.set 8 (.v (rowV x)))[8]? = some (.v (rowV x)) := List.getElem?_set_self (by omega)
    have g6 : (ρ1.set 8 (.v (rowV x)))[6]? = some (.v (.int j)) := by rw [List.getElem?_set_ne (by decide), k1 6 (by decide), b6]
    simp only [evIt, ev, evs, Env.get, g8, g6, ofO_some, R.bind_ok, slTo_row, walk_row]
  refine for_mapK (.nm 9) (madeB3 le) frV hi2 (fun a ρ' h' => h' = h1 ∧ NoC ρ' ∧ ρ'.length = 10 ∧ (∀ k, k < 7 → ρ'[k]? = ρ[k]?) ∧ ∃ q, ρ'[7]? = some (.v (frV q)) ∧ Sz (20 + 80 * k + 9 * a) q) ⟨rfl, n1.set, by simpa using l1, fun z hz => by rw [List.getElem?_set_ne (by omega), k1 z hz], q1, by rw [List.getElem?_set_ne (by decide), b71], s1⟩ ?_ ?_
  rotate_left
  · rintro ρ' h' e ⟨e1, e2, e3, e4, q, e5, e6⟩
    have ha : (x.take j).length ≤ 8 := by rw [List.length_take]; omega
    subst e1
    refine ⟨ρ', h', ?_, rfl, e2, e3, e4, q, e5, e6.mono (by omega)⟩
    simp only [madeB2, exs, e, R.bind_ok]
  rintro a y ρ2 h2 hy ⟨rfl, n2, l2, k2, q2, b72, s2⟩
  have ha : a < 8 := by
    obtain ⟨z, _⟩ := List.getElem?_eq_some_iff.mp hy
    rw [List.length_take] at z; omega
  have sy := x2 y (List.mem_of_mem_take (List.mem_of_getElem? hy))
  rw [bindT_nm n2 (by omega), R.bind_ok]
  have g9 : (ρ2.set 9 (.v (frV y)))[9]? = some (.v (frV y)) := List.getElem?_set_self (by omega)
  have g7 : (ρ2.set 9 (.v (frV y)))[7]? = some (.v (frV q2)) := by rw [List.getElem?_set_ne (by decide), b72]
  refine ⟨(ρ2.set 9 (.v (frV y))).set 7 (.v (frV (q2 - y))), h2, ?_, rfl, n2.set.set, by simpa using l2, fun z hz => by rw [List.getElem?_set_ne (by omega), List.getElem?_set_ne (by omega), k2 z hz], q2 - y, List.getElem?_set_self (by simpa using by omega), ?_⟩
  · simp only [madeB3, exs, ex, ev, evs, Env.get, g9, g7, ofO_some, R.bind_ok, List.map, List.getD_cons_zero, List.getD_cons_succ, less_m D (s2.mono (by omega)) (sy.mono (by omega)) hm, bindT_nm n2.set (show 7 < (ρ2.set 9 (.v (frV y))).length by simpa using by omega)]
  · exact (s2.sub sy).mono (by omega)
theorem made_f1 {m b : Nat} {h0 : Hp} {ρ : Env} {row col : List Rat} {dens : List (List Rat)} {i : Nat} {c : Rat} (hm : 4 ≤ m) (hb : b ≤ h0.length) (nc : NoC ρ) (hl : ρ.length = 10) (b0 : ρ[0]? = some (.v (rowV row))) (b1 : ρ[1]? = some (.v (rowV col))) (b2 : ρ[2]? = some (.v (tabV dens))) (b4 : ρ[4]? = some (.v (.int i))) (b5 : ρ[5]? = some (.v (.ref h0.length)))
    (hc : col[i]? = some c) (sc : Sz 8 c) (hr : ∀ q ∈ row, Sz 8 q) (hrl : row.length ≤ 8) (hd : dens.length ≤ 8) (hd2 : ∀ r ∈ dens, r.length ≤ 8 ∧ ∀ q ∈ r, Sz 8 q) :
    ∃ (ρ' : Env) (qs : List Rat), ex ⟨run P W m b, runV P W m b, P.gv, b, W⟩ ρ (h0 ++ [some (.lst [])]) (madeF1 ad le) = .ok (.nx ρ') (h0 ++ [some (.lst (qs.map frV))]) ∧ NoC ρ' ∧ ρ'.length = 10 ∧ (∀ k, k < 6 → ρ'[k]? = ρ[k]?) ∧ qs.length = row.length ∧ ∀ q ∈ qs, Sz 1000 q := by
  unfold madeF1
  have hi : evIt ⟨run P W m b, runV P W m b, P.gv, b, W⟩ ρ (h0 ++ [some (.lst [])]) (.rng (.cons (.prim .len (.cons (.var 0) .nil)) .nil)) = .ok ((List.range row.length).map (fun k : Nat => Val.int k), []) (h0 ++ [some (.lst [])]) :=
    range1 (by simp only [ev, evs, Env.get, b0, ofO_some, R.bind_ok, len_row]) (by omega)
  refine for_mapK (.nm 6) (madeB1 ad le) (fun k : Nat => Val.int k) hi (fun k ρ' h' => NoC ρ' ∧ ρ'.length = 10 ∧ (∀ k, k < 6 → ρ'[k]? = ρ[k]?) ∧ ∃ qs : List Rat, h' = h0 ++ [some (.lst (qs.map frV))] ∧ qs.length = k ∧ ∀ q ∈ qs, Sz 1000 q) ⟨nc, hl, fun _ _ => rfl, [], rfl, rfl, fun q m => by cases m⟩ ?_ ?_
  rotate_left
  · rintro ρ' h' e ⟨e2, e3, e4, qs, rfl, e6, e7⟩
    exact ⟨ρ', qs, e, e2, e3, e4, by simpa using e6, e7⟩
  rintro k x ρ1 h1 hx ⟨n1, l1, k1, qs, rfl, lq, sq⟩
  obtain ⟨hk, rfl⟩ : k < row.length ∧ x = k := by
    obtain ⟨z, e⟩ := List.getElem?_eq_some_iff.mp hx
    simp at z e; exact ⟨z, e.symm⟩
  obtain ⟨rj, hrj⟩ : ∃ rj, row[x]? = some rj := ⟨row[x], List.getElem?_eq_getElem hk⟩
  have srj := hr rj (List.mem_of_getElem? hrj)
  rw [bindT_nm n1 (by omega), R.bind_ok]
  let ρ2 := ρ1.set 6 (.v (.int (x : Nat)))
  have n2 : NoC ρ2 := n1.set
  have l2 : ρ2.length = 10 := by simpa [ρ2] using l1
  have k2 : ∀ z, z < 6 → ρ2[z]? = ρ[z]? := fun z hz => by show (ρ1.set 6 _)[z]? = _; rw [List.getElem?_set_ne (by omega), k1 z hz]
  have c6 : ρ2[6]? = some (.v (.int (x : Nat))) := List.getElem?_set_self (by omega)
  have c0 := (k2 0 (by decide)).trans b0
  have c1 := (k2 1 (by decide)).trans b1
  let ρ3 := ρ2.set 7 (.v (frV (rj + c)))
  have n3 : NoC ρ3 := n2.set
  have l3 : ρ3.length = 10 := by simpa [ρ3] using l2
  have k3 : ∀ z, z < 7 → ρ3[z]? = ρ2[z]? := fun z hz => List.getElem?_set_ne (by omega)
  obtain ⟨ρ4, q, e4, n4, l4, k4, c7, s4⟩ := made_f2 D (h := h0 ++ [some (.lst (qs.map frV))]) (b := b) hm n3 l3 (by rw [k3 2 (by decide), k2 2 (by decide), b2]) (by rw [k3 4 (by decide), k2 4 (by decide), b4]) ((k3 6 (by decide)).trans c6) (List.getElem?_set_self (by omega)) ((srj.add sc).mono (by decide)) hd hd2
  have d5 : ρ4[5]? = some (.v (.ref h0.length)) := by rw [k4 5 (by decide), k3 5 (by decide), k2 5 (by decide), b5]
  have at5 : Hp.at (h0 ++ [some (Ob.lst (qs.map frV))]) h0.length = some (.lst (qs.map frV)) := at_app2 (i := 0)
  have bt : bindT ⟨run P W m b, runV P W m b, P.gv, b, W⟩ ρ2 (h0 ++ [some (.lst (qs.map frV))]) (.nm 7) (frV (rj + c)) = .ok ρ3 (h0 ++ [some (.lst (qs.map frV))]) := bindT_nm n2 (by omega)
  have ap : prim b .append [.ref h0.length, frV q] (h0 ++ [some (Ob.lst (qs.map frV))]) = .ok .none (h0 ++ [some (Ob.lst ((qs ++ [q]).map frV))]) := by
    rw [prim_appendI at5 (by simp [wok, hb]) (by rw [List.length_map]; omega), put_app0, List.map_append]; rfl
  have il : (Val.ref h0.length).isL (h0 ++ [some (Ob.lst (qs.map frV))]) = true := isL_ref at5
  refine ⟨ρ4, _, ?_, n4, l4, fun z hz => by rw [k4 z (by omega), k3 z (by omega), k2 z hz], qs ++ [q], rfl, by simp [lq], fun y m => ?_⟩
  · show exs _ ρ2 _ (madeB1 ad le) = _
    simp only [madeB1, exs]
    simp only [ex, ev, evs, Env.get, c0, c1, c6, (k2 4 (by decide)).trans b4, ofO_some, R.bind_ok, ix_row hrj, ix_row hc, List.map, List.getD_cons_zero, List.getD_cons_succ, add_m D (srj.mono (by decide)) (sc.mono (by decide)) (show 3 ≤ m by omega), bt, e4, d5, c7, il, if_true, ap]
  · rcases List.mem_append.mp m with m | m
    · exact sq y m
    · rw [List.mem_singleton.mp m]; exact s4
theorem made_f0 {m b : Nat} {h : Hp} {ρ : Env} {row col : List Rat} {dens : List (List Rat)} (hm : 4 ≤ m) (hb : b ≤ h.length) (nc : NoC ρ) (hl : ρ.length = 10) (b0 : ρ[0]? = some (.v (rowV row))) (b1 : ρ[1]? = some (.v (rowV col))) (b2 : ρ[2]? = some (.v (tabV dens))) (b3 : ρ[3]? = some (.v (.ref h.length)))
    (hc : ∀ q ∈ col, Sz 8 q) (hcl : col.length ≤ 8) (hr : ∀ q ∈ row, Sz 8 q) (hrl : row.length ≤ 8) (hd : dens.length ≤ 8) (hd2 : ∀ r ∈ dens, r.length ≤ 8 ∧ ∀ q ∈ r, Sz 8 q) :
    ∃ ρ' T, ex ⟨run P W m b, runV P W m b, P.gv, b, W⟩ ρ (mh h []) (madeF0 ad le) = .ok (.nx ρ') (mh h T) ∧ ρ'[3]? = some (.v (.ref h.length)) ∧ T.length = col.length ∧ ∀ r ∈ T, r.length = row.length ∧ ∀ q ∈ r, Sz 1000 q := by
  unfold madeF0
  have hi : evIt ⟨run P W m b, runV P W m b, P.gv, b, W⟩ ρ (mh h []) (.rng (.cons (.prim .len (.cons (.var 1) .nil)) .nil)) = .ok ((List.range col.length).map (fun k : Nat => Val.int k), []) (mh h []) :=
    range1 (by simp only [ev, evs, Env.get, b1, ofO_some, R.bind_ok, len_row]) (by omega)
  refine for_mapK (.nm 4) (madeB0 ad le) (fun k : Nat => Val.int k) hi (fun k ρ' h' => NoC ρ' ∧ ρ'.length = 10 ∧ (∀ k, k < 4 → ρ'[k]? = ρ[k]?) ∧ ∃ T : List (List Rat), h' = mh h T ∧ T.length = k ∧ ∀ r ∈ T, r.length = row.length ∧ ∀ q ∈ r, Sz 1000 q) ⟨nc, hl, fun _ _ => rfl, [], rfl, rfl, fun q m => by cases m⟩ ?_ ?_
  rotate_left
  · rintro ρ' h' e ⟨e2, e3, e4, T, rfl, e6, e7⟩
    exact ⟨ρ', T, e, by rw [e4 3 (by decide), b3], by simpa using e6, e7⟩
  rintro k x ρ1 h1 hx ⟨n1, l1, k1, T, rfl, lT, sT⟩
  obtain ⟨hk, rfl⟩ : k < col.length ∧ x = k := by
    obtain ⟨z, e⟩ := List.getElem?_eq_some_iff.mp hx
    simp at z e; exact ⟨z, e.symm⟩
  obtain ⟨c, hcx⟩ : ∃ c, col[x]? = some c := ⟨col[x], List.getElem?_eq_getElem hk⟩
  have sc := hc c (List.mem_of_getElem? hcx)
  rw [bindT_nm n1 (by omega), R.bind_ok]
  let ρ2 := ρ1.set 4 (.v (.int (x : Nat)))
  have n2 : NoC ρ2 := n1.set
  have l2 : ρ2.length = 10 := by simpa [ρ2] using l1
  have k2 : ∀ z, z < 4 → ρ2[z]? = ρ[z]? := fun z hz => by show (ρ1.set 4 _)[z]? = _; rw [List.getElem?_set_ne (by omega), k1 z hz]
  have c4 : ρ2[4]? = some (.v (.int (x : Nat))) := List.getElem?_set_self (by omega)
  let ρ3 := ρ2.set 5 (.v (.ref (mh h T).length))
  have n3 : NoC ρ3 := n2.set
  have l3 : ρ3.length = 10 := by simpa [ρ3] using l2
  have k3 : ∀ z, z < 5 → ρ3[z]? = ρ2[z]? := fun z hz => List.getElem?_set_ne (by omega)
  have bt : bindT ⟨run P W m b, runV P W m b, P.gv, b, W⟩ ρ2 (mh h T ++ [some (.lst [])]) (.nm 5) (.ref (mh h T).length) = .ok ρ3 (mh h T ++ [some (.lst [])]) := bindT_nm n2 (by omega)
  obtain ⟨ρ4, q, e4, n4, l4, k4, lq, sq⟩ := made_f1 D (h0 := mh h T) (b := b) (ρ := ρ3) hm (by rw [mh_len]; omega) n3 l3 (by rw [k3 0 (by decide), k2 0 (by decide), b0]) (by rw [k3 1 (by decide), k2 1 (by decide), b1]) (by rw [k3 2 (by decide), k2 2 (by decide), b2]) ((k3 4 (by decide)).trans c4) (List.getElem?_set_self (by omega)) hcx sc hr hrl hd hd2
  have d3 : ρ4[3]? = some (.v (.ref h.length)) := by rw [k4 3 (by decide), k3 3 (by decide), k2 3 (by decide), b3]
  have d5 : ρ4[5]? = some (.v (.ref (mh h T).length)) := (k4 5 (by decide)).trans (List.getElem?_set_self (by omega))
  have at3 : Hp.at (mh h T ++ [some (Ob.lst (q.map frV))]) h.length = some (.lst ((List.range T.length).map fun i => .ref (h.length + 1 + i))) := mh_at
  have ap : prim b .append [.ref h.length, .ref (mh h T).length] (mh h T ++ [some (Ob.lst (q.map frV))]) = .ok .none (mh h (T ++ [q])) := by
    rw [prim_appendI at3 (by simp [wok, hb]) (by simp; omega), mh_put]
  have il : (Val.ref h.length).isL (mh h T ++ [some (Ob.lst (q.map frV))]) = true := isL_ref at3
  refine ⟨ρ4, _, ?_, n4, l4, fun z hz => by rw [k4 z (by omega), k3 z (by omega), k2 z hz], T ++ [q], rfl, by simp [lT], fun y m => ?_⟩
  · show exs _ ρ2 _ (madeB0 ad le) = _
    simp only [madeB0, exs]
    simp only [ex, ev, evs, newL, if_true, Env.get, ofO_some, R.bind_ok, bt, e4, d3, d5, il, ap]
  · rcases List.mem_append.mp m with m | m
    · exact sT y m
    · rw [List.mem_singleton.mp m]; exact ⟨lq, sq⟩
theorem made_run {f m b : Nat} {h : Hp} {row col : List Rat} {dens : List (List Rat)} (d : P.defs f = some (madeDf ad le)) (hm : 5 ≤ m) (hb : b ≤ h.length)
    (hc : ∀ q ∈ col, Sz 8 q) (hcl : col.length ≤ 8) (hr : ∀ q ∈ row, Sz 8 q) (hrl : row.length ≤ 8) (hd : dens.length ≤ 8) (hd2 : ∀ r ∈ dens, r.length ≤ 8 ∧ ∀ q ∈ r, Sz 8 q) :
    ∃ T, run P W m b f [rowV row, rowV col, tabV dens] h = .ok (.ref h.length) (mh h T) ∧ T.length = col.length ∧ ∀ r ∈ T, r.length = row.length ∧ ∀ q ∈ r, Sz 1000 q := by
  obtain ⟨m, rfl⟩ : ∃ n, m = n + 1 := ⟨m - 1, by omega⟩
  obtain ⟨ρ', T, e, e3, lT, sT⟩ := made_f0 D (m := m) (b := b) (h := h) (ρ := [.v (rowV row), .v (rowV col), .v (tabV dens), .v (.ref h.length), .u, .u, .u, .u, .u, .u]) (by omega) hb (NoC.of rfl) rfl rfl rfl rfl rfl hc hcl hr hrl hd hd2
  refine ⟨T, ?_, lT, sT⟩
  rw [run_imp d rfl rfl rfl]
  have e0 : mh h [] = h ++ [some (.lst [])] := rfl
  rw [e0] at e
  simp only [madeDf, slots0, List.map, List.length_cons, List.length_nil, List.replicate, List.cons_append, List.nil_append, exs]
  simp only [ex, ev, evs, newL, if_true, R.bind_ok, bindT, List.getElem?_cons_succ, List.getElem?_cons_zero, List.set_cons_succ, List.set_cons_zero, e, Env.get, e3, ofO_some]
  rfl
end
end Mp
/-! M9: tables that are drawn, done. -/
namespace Mp
theorem stH_app {h X : Hp} {r s : Nat} {g : Sg} (p : Spot h r s) : stH (h ++ X) r s g = stH h r s g ++ X := by
  unfold stH
  rw [put_app p.hr, put_app (by simpa using p.hs)]
theorem Spot.app {h X : Hp} {r s : Nat} (p : Spot h r s) : Spot (h ++ X) r s := ⟨by have := p.hr; simp; omega, by have := p.hs; simp; omega, p.hn⟩
theorem mh_st {h : Hp} {T : List (List Rat)} {r s : Nat} {g : Sg} (p : Spot h r s) : mh (stH h r s g) T = stH (mh h T) r s g := by
  unfold mh
  rw [stH_app p, stH_len]
/-- a table of a shape, of small numbers -/
structure TOk (k : Nat) (rows cols : Nat) (T : List (List Rat)) : Prop where
  rows : T.length = rows
  cols : ∀ r ∈ T, r.length = cols
  sz : ∀ r ∈ T, ∀ q ∈ r, Sz k q
def downR (on : Nat) : E := (.comp false (.call on [0, 1] (.cons (.var 0) (.cons (.cst (.int 4)) .nil))) [7, 8] (.nm 8) (.rng (.cons (.var 2) .nil)) (.cst (.bool true)))
def downC (on : Nat) : E := (.comp false (.call on [0, 1] (.cons (.var 0) (.cons (.cst (.int 4)) .nil))) [5, 6] (.nm 6) (.rng (.cons (.prim .sub (.cons (.var 1) (.cons (.cst (.int 1)) .nil))) .nil)) (.cst (.bool true)))
def downI (so : Nat) : E := (.comp false (.call so [0, 1] (.cons (.var 0) (.cons (.cst (.int 2)) .nil))) [11, 12] (.nm 12) (.rng (.cons (.prim .sub (.cons (.var 2) (.cons (.cst (.int 1)) .nil))) .nil)) (.cst (.bool true)))
def downD (so : Nat) : E := (.comp false (downI so) [9, 10] (.nm 10) (.rng (.cons (.prim .sub (.cons (.var 1) (.cons (.cst (.int 1)) .nil))) .nil)) (.cst (.bool true)))
def downDf (on so md : Nat) : Df := ⟨3, 13, [], false, (.cons (.par (.cons (.nm 4) (.cons (.nm 3) .nil)) (.cons (downR on) (.cons (.prim (.add false) (.cons (.lst false (.cons (.tup (.cons (.cst (.int 0)) (.cons (.cst (.int 1)) .nil))) .nil)) (.cons (downC on) .nil))) .nil)))
 (.cons (.ret (.call md [0, 1, 2] (.cons (.var 3) (.cons (.var 4) (.cons (downD so) .nil)))))
 .nil))⟩
section
variable {P : Prog} {W sh fr ad le dr pk : Nat} (D : Drs P W sh fr ad le dr pk)
include D
theorem downR_pr {on m b : Nat} {h : Hp} {r s : Nat} {g : Sg} {ρ : Env} {n : Nat} (d : P.defs on = some (oneDf fr dr pk)) (p : Spot h r s) (o : g.Ok) (hn : n ≤ 8) (ht : g.t < 2 ^ 49) (hm : 3 ≤ m) (b0 : ρ[0]? = some (.v (.ref s))) (b2 : ρ[2]? = some (.v (.int n))) (nc : NoC ρ) (hl : 9 ≤ ρ.length) :
    Pr (ev ⟨run P W m b, runV P W m b, P.gv, b, W⟩ ρ (stH h r s g) (downR on)) h r s g 100 (fun v => ∃ qs, v = rowV qs ∧ qs.length = n ∧ ∀ q ∈ qs, Sz 8 q) := by
  have hi : evIt ⟨run P W m b, runV P W m b, P.gv, b, W⟩ ρ (stH h r s g) (.rng (.cons (.var 2) .nil)) = .ok ((List.range n).map (fun k : Nat => Val.int k), []) (stH h r s g) :=
    range1 (by simp only [ev, Env.get, b2, ofO_some]) (by omega)
  refine (comp_st (K := 2) (Q := fun _ v => ∃ q, v = frV q ∧ Sz 8 q) (by omega) o hi fun x hx g' o' t0 t1 => ?_).mono (by simp; omega) fun v ⟨ys, e, a⟩ => ?_
  · have nw : NoC (wipe ρ [7, 8]) := nc.setu.setu
    have lw : (wipe ρ [7, 8]).length = ρ.length := by simp [wipe]
    have c0 : ((wipe ρ [7, 8]).set 8 (.v x))[0]? = some (.v (.ref s)) := by
      rw [List.getElem?_set_ne (by decide)]; simp only [wipe]; rw [List.getElem?_set_ne (by decide), List.getElem?_set_ne (by decide), b0]
    rw [bindT_nm nw (by omega), R.bind_ok]
    simp only [ev, evs, test_tt, Env.get, c0, ofO_some, R.bind_ok, List.map, List.getD_cons_zero, List.getD_cons_succ]
    refine Pr.seq (one_pr D d p o' (k := 4) (by omega) (by omega) (by simp at t1; omega) hm) fun v g2 o2 t2 t3 ⟨q, hq, sq⟩ => ?_
    exact Pr.fin o2 (by omega) ⟨v, rfl, q, hq, sq⟩
  · obtain ⟨qs, rfl, hq⟩ := ex_map (f := frV) (Q := fun q => Sz 8 q) fun y my => by
      obtain ⟨x, _, q⟩ := a.right y my
      exact q
    exact ⟨qs, e, by simpa using a.len.symm, hq⟩
theorem downC_pr {on m b : Nat} {h : Hp} {r s : Nat} {g : Sg} {ρ : Env} {n : Nat} (d : P.defs on = some (oneDf fr dr pk)) (p : Spot h r s) (o : g.Ok) (hn : n ≤ 8) (ht : g.t < 2 ^ 49) (hm : 3 ≤ m) (b0 : ρ[0]? = some (.v (.ref s))) (b1 : ρ[1]? = some (.v (.int (n + 1 : Nat)))) (nc : NoC ρ) (hl : 9 ≤ ρ.length) :
    Pr (ev ⟨run P W m b, runV P W m b, P.gv, b, W⟩ ρ (stH h r s g) (downC on)) h r s g 100 (fun v => ∃ qs, v = rowV qs ∧ qs.length = n ∧ ∀ q ∈ qs, Sz 8 q) := by
  have hi : evIt ⟨run P W m b, runV P W m b, P.gv, b, W⟩ ρ (stH h r s g) (.rng (.cons (.prim .sub (.cons (.var 1) (.cons (.cst (.int 1)) .nil))) .nil)) = .ok ((List.range n).map (fun k : Nat => Val.int k), []) (stH h r s g) :=
    range1 (by simp only [ev, evs, Env.get, b1, ofO_some, R.bind_ok, prim_sub]; congr 2; omega) (by omega)
  refine (comp_st (K := 2) (Q := fun _ v => ∃ q, v = frV q ∧ Sz 8 q) (by omega) o hi fun x hx g' o' t0 t1 => ?_).mono (by simp; omega) fun v ⟨ys, e, a⟩ => ?_
  · have nw : NoC (wipe ρ [5, 6]) := nc.setu.setu
    have lw : (wipe ρ [5, 6]).length = ρ.length := by simp [wipe]
    have c0 : ((wipe ρ [5, 6]).set 6 (.v x))[0]? = some (.v (.ref s)) := by
      rw [List.getElem?_set_ne (by decide)]; simp only [wipe]; rw [List.getElem?_set_ne (by decide), List.getElem?_set_ne (by decide), b0]
    rw [bindT_nm nw (by omega), R.bind_ok]
    simp only [ev, evs, test_tt, Env.get, c0, ofO_some, R.bind_ok, List.map, List.getD_cons_zero, List.getD_cons_succ]
    refine Pr.seq (one_pr D d p o' (k := 4) (by omega) (by omega) (by simp at t1; omega) hm) fun v g2 o2 t2 t3 ⟨q, hq, sq⟩ => ?_
    exact Pr.fin o2 (by omega) ⟨v, rfl, q, hq, sq⟩
  · obtain ⟨qs, rfl, hq⟩ := ex_map (f := frV) (Q := fun q => Sz 8 q) fun y my => by
      obtain ⟨x, _, q⟩ := a.right y my
      exact q
    exact ⟨qs, e, by simpa using a.len.symm, hq⟩
theorem downI_pr {so m b : Nat} {h : Hp} {r s : Nat} {g : Sg} {ρ : Env} {n : Nat} (d : P.defs so = some (someDf fr dr pk)) (p : Spot h r s) (o : g.Ok) (hn : n ≤ 8) (ht : g.t < 2 ^ 49) (hm : 3 ≤ m) (b0 : ρ[0]? = some (.v (.ref s))) (b2 : ρ[2]? = some (.v (.int (n + 1 : Nat)))) (nc : NoC ρ) (hl : 13 ≤ ρ.length) :
    Pr (ev ⟨run P W m b, runV P W m b, P.gv, b, W⟩ ρ (stH h r s g) (downI so)) h r s g 100 (fun v => ∃ qs, v = rowV qs ∧ qs.length = n ∧ ∀ q ∈ qs, Sz 8 q) := by
  have hi : evIt ⟨run P W m b, runV P W m b, P.gv, b, W⟩ ρ (stH h r s g) (.rng (.cons (.prim .sub (.cons (.var 2) (.cons (.cst (.int 1)) .nil))) .nil)) = .ok ((List.range n).map (fun k : Nat => Val.int k), []) (stH h r s g) :=
    range1 (by simp only [ev, evs, Env.get, b2, ofO_some, R.bind_ok, prim_sub]; congr 2; omega) (by omega)
  refine (comp_st (K := 2) (Q := fun _ v => ∃ q, v = frV q ∧ Sz 8 q) (by omega) o hi fun x hx g' o' t0 t1 => ?_).mono (by simp; omega) fun v ⟨ys, e, a⟩ => ?_
  · have nw : NoC (wipe ρ [11, 12]) := nc.setu.setu
    have lw : (wipe ρ [11, 12]).length = ρ.length := by simp [wipe]
    have c0 : ((wipe ρ [11, 12]).set 12 (.v x))[0]? = some (.v (.ref s)) := by
      rw [List.getElem?_set_ne (by decide)]; simp only [wipe]; rw [List.getElem?_set_ne (by decide), List.getElem?_set_ne (by decide), b0]
    rw [bindT_nm nw (by omega), R.bind_ok]
    simp only [ev, evs, test_tt, Env.get, c0, ofO_some, R.bind_ok, List.map, List.getD_cons_zero, List.getD_cons_succ]
    refine Pr.seq (some_pr D d p o' (k := 2) (by omega) (by omega) (by simp at t1; omega) hm) fun v g2 o2 t2 t3 ⟨q, hq, sq⟩ => ?_
    exact Pr.fin o2 (by omega) ⟨v, rfl, q, hq, sq⟩
  · obtain ⟨qs, rfl, hq⟩ := ex_map (f := frV) (Q := fun q => Sz 8 q) fun y my => by
      obtain ⟨x, _, q⟩ := a.right y my
      exact q
    exact ⟨qs, e, by simpa using a.len.symm, hq⟩
theorem downD_pr {so m b : Nat} {h : Hp} {r s : Nat} {g : Sg} {ρ : Env} {n k : Nat} (d : P.defs so = some (someDf fr dr pk)) (p : Spot h r s) (o : g.Ok) (hn : n ≤ 8) (hk : k ≤ 8) (ht : g.t < 2 ^ 48) (hm : 3 ≤ m) (b0 : ρ[0]? = some (.v (.ref s))) (b1 : ρ[1]? = some (.v (.int (k + 1 : Nat)))) (b2 : ρ[2]? = some (.v (.int (n + 1 : Nat)))) (nc : NoC ρ) (hl : 13 ≤ ρ.length) :
    Pr (ev ⟨run P W m b, runV P W m b, P.gv, b, W⟩ ρ (stH h r s g) (downD so)) h r s g 1000 (fun v => ∃ T, v = tabV T ∧ TOk 8 k n T) := by
  have hi : evIt ⟨run P W m b, runV P W m b, P.gv, b, W⟩ ρ (stH h r s g) (.rng (.cons (.prim .sub (.cons (.var 1) (.cons (.cst (.int 1)) .nil))) .nil)) = .ok ((List.range k).map (fun k : Nat => Val.int k), []) (stH h r s g) :=
    range1 (by simp only [ev, evs, Env.get, b1, ofO_some, R.bind_ok, prim_sub]; congr 2; omega) (by omega)
  refine (comp_st (K := 100) (Q := fun _ v => ∃ qs, v = rowV qs ∧ qs.length = n ∧ ∀ q ∈ qs, Sz 8 q) (by omega) o hi fun x hx g' o' t0 t1 => ?_).mono (by simp; omega) fun v ⟨ys, e, a⟩ => ?_
  · have nw : NoC (wipe ρ [9, 10]) := nc.setu.setu
    have lw : (wipe ρ [9, 10]).length = ρ.length := by simp [wipe]
    have cc : ∀ j, j < 9 → ((wipe ρ [9, 10]).set 10 (.v x))[j]? = ρ[j]? := fun j hj => by
      rw [List.getElem?_set_ne (by omega)]; simp only [wipe]; rw [List.getElem?_set_ne (by omega), List.getElem?_set_ne (by omega)]
    rw [bindT_nm nw (by omega), R.bind_ok]
    rw [show ∀ ρ h, ev ⟨run P W m b, runV P W m b, P.gv, b, W⟩ ρ h (.cst (.bool true)) = .ok (.bool true) h from fun _ _ => by simp only [ev], test_tt]
    refine Pr.seq (downI_pr D d p o' hn (by simp at t1; omega) hm ((cc 0 (by decide)).trans b0) ((cc 2 (by decide)).trans b2) nw.set (by simp; omega)) fun v g2 o2 t2 t3 q => ?_
    exact Pr.fin o2 (by omega) ⟨v, rfl, q⟩
  · obtain ⟨qs, rfl, hq⟩ := ex_map (f := rowV) (Q := fun r => r.length = n ∧ ∀ q ∈ r, Sz 8 q) fun y my => by
      obtain ⟨x, _, q⟩ := a.right y my
      exact q
    exact ⟨qs, e, by simpa using a.len.symm, fun r m => (hq r m).1, fun r m => (hq r m).2⟩
theorem down_run {f on so md m b : Nat} {h : Hp} {r s : Nat} {g : Sg} {rows cols : Nat} (d : P.defs f = some (downDf on so md)) (d1 : P.defs on = some (oneDf fr dr pk)) (d2 : P.defs so = some (someDf fr dr pk)) (d3 : P.defs md = some (madeDf ad le)) (p : Spot h r s) (o : g.Ok)
    (r0 : 1 ≤ rows) (r1 : rows ≤ 8) (c0 : 1 ≤ cols) (c1 : cols ≤ 8) (ht : g.t < 2 ^ 47) (hm : 6 ≤ m) (hb : b ≤ h.length) :
    ∃ T g', run P W m b f [.ref s, .int rows, .int cols] (stH h r s g) = .ok (.ref h.length) (stH (mh h T) r s g') ∧ g'.Ok ∧ g.t ≤ g'.t ∧ g'.t ≤ g.t + 1200 ∧ TOk 1000 rows cols T := by
  obtain ⟨m, rfl⟩ : ∃ n, m = n + 1 := ⟨m - 1, by omega⟩
  obtain ⟨rows, rfl⟩ : ∃ n, rows = n + 1 := ⟨rows - 1, by omega⟩
  obtain ⟨cols, rfl⟩ : ∃ n, cols = n + 1 := ⟨cols - 1, by omega⟩
  let ρ0 : Env := [.v (.ref s), .v (.int (rows + 1 : Nat)), .v (.int (cols + 1 : Nat)), .u, .u, .u, .u, .u, .u, .u, .u, .u, .u]
  have n0 : NoC ρ0 := NoC.of rfl
  obtain ⟨v1, g1, e1, o1, t1, t1', row, rfl, lr, sr⟩ := downR_pr D (on := on) (m := m) (b := b) (ρ := ρ0) (n := cols + 1) d1 p o c1 (by omega) (by omega) rfl rfl n0 (by simp [ρ0])
  obtain ⟨v2, g2, e2, o2, t2, t2', col, rfl, lc, sc⟩ := downC_pr D (on := on) (m := m) (b := b) (ρ := ρ0) (n := rows) d1 p o1 (by omega) (by omega) (by omega) rfl rfl n0 (by simp [ρ0])
  let ρ1 : Env := [.v (.ref s), .v (.int (rows + 1 : Nat)), .v (.int (cols + 1 : Nat)), .v (rowV row), .v (rowV ((0 : Rat) :: col)), .u, .u, .u, .u, .u, .u, .u, .u]
  have n1 : NoC ρ1 := NoC.of rfl
  obtain ⟨v3, g3, e3, o3, t3, t3', T0, rfl, k0⟩ := downD_pr D (so := so) (m := m) (b := b) (ρ := ρ1) (n := cols) (k := rows) d2 p o2 (by omega) (by omega) (by omega) (by omega) rfl rfl rfl n1 (by simp [ρ1])
  obtain ⟨T, e4, lT, sT⟩ := made_run D (f := md) (m := m) (b := b) (h := stH h r s g3) (row := row) (col := (0 : Rat) :: col) (dens := T0) d3 (by omega) (by simpa using hb) (fun q mq => by
    rcases List.mem_cons.mp mq with rfl | mq
    · exact Sz.zero.mono (by decide)
    · exact sc q mq) (by simp; omega) sr (by omega) (by rw [k0.rows]; omega) (fun r mr => ⟨by rw [k0.cols r mr]; omega, k0.sz r mr⟩)
  refine ⟨T, g3, ?_, o3, by omega, by omega, by simpa [lc] using lT, fun r mr => by rw [(sT r mr).1, lr], fun r mr => (sT r mr).2⟩
  rw [mh_st p, stH_len] at e4
  have pa : ∀ h, prim b (.add false) [.lst [.tup [.int 0, .int 1]], rowV col] h = .ok (rowV ((0 : Rat) :: col)) h := fun h => by
    show (if ([Val.tup [.int 0, .int 1]].length + (col.map frV).length ≤ 100000) then newL false ([Val.tup [.int 0, .int 1]] ++ col.map frV) h else R.no) = _
    rw [if_pos (by simp; omega)]; rfl
  have e1 : ev ⟨run P W m b, runV P W m b, P.gv, b, W⟩ ρ0 (stH h r s g) (downR on) = _ := e1
  have e2 : ev ⟨run P W m b, runV P W m b, P.gv, b, W⟩ ρ0 (stH h r s g1) (downC on) = _ := e2
  have e3 : ev ⟨run P W m b, runV P W m b, P.gv, b, W⟩ ρ1 (stH h r s g2) (downD so) = _ := e3
  have bt : ∀ h, bindTs ⟨run P W m b, runV P W m b, P.gv, b, W⟩ ρ0 h (.cons (.nm 4) (.cons (.nm 3) .nil)) [rowV ((0 : Rat) :: col), rowV row] = .ok ρ1 h := fun _ => rfl
  have g3' : ∀ h, Env.get ρ1 h 3 = some (rowV row) := fun _ => rfl
  have g4' : ∀ h, Env.get ρ1 h 4 = some (rowV ((0 : Rat) :: col)) := fun _ => rfl
  rw [run_imp d rfl rfl rfl]
  have sl : slots0 (downDf on so md).ns [.ref s, .int (rows + 1 : Nat), .int (cols + 1 : Nat)] = ρ0 := rfl
  rw [sl]
  simp only [downDf, exs]
  simp only [ex, evs, e1, R.bind_ok]
  rw [show ∀ h, ev ⟨run P W m b, runV P W m b, P.gv, b, W⟩ ρ0 h (.prim (.add false) (.cons (.lst false (.cons (.tup (.cons (.cst (.int 0)) (.cons (.cst (.int 1)) .nil))) .nil)) (.cons (downC on) .nil))) = (ev ⟨run P W m b, runV P W m b, P.gv, b, W⟩ ρ0 h (downC on)).bind fun v h => prim b (.add false) [.lst [.tup [.int 0, .int 1]], v] h from fun h => by
    simp only [ev, evs, R.bind_ok, newL, Bool.false_eq_true, if_false]
    cases ev ⟨run P W m b, runV P W m b, P.gv, b, W⟩ ρ0 h (downC on) <;> rfl, e2]
  simp only [R.bind_ok, pa, List.reverse_cons, List.reverse_nil, List.nil_append, List.cons_append, bt]
  rw [show ∀ h, ev ⟨run P W m b, runV P W m b, P.gv, b, W⟩ ρ1 h (.call md [0, 1, 2] (.cons (.var 3) (.cons (.var 4) (.cons (downD so) .nil)))) = (ev ⟨run P W m b, runV P W m b, P.gv, b, W⟩ ρ1 h (downD so)).bind fun v h => run P W m b md [rowV row, rowV ((0 : Rat) :: col), v] h from fun h => by
    simp only [ev, evs, R.bind_ok, g3', g4', ofO_some]
    cases ev ⟨run P W m b, runV P W m b, P.gv, b, W⟩ ρ1 h (downD so) <;> rfl, e3, R.bind_ok, e4]
  rfl
end
/-! ### a table -/
theorem frzL_map {α : Type} {D : Nat → Option Val} {f g : α → Val} : ∀ {xs : List α}, (∀ x ∈ xs, Val.frz D (f x) = some (g x)) → Val.frzL D (xs.map f) = some (xs.map g)
  | [], _ => rfl
  | x :: xs, h => by
    rw [List.map_cons, Val.frzL, h x (List.mem_cons_self ..), frzL_map fun y m => h y (List.mem_cons_of_mem _ m)]; rfl
theorem frz_mh {h h2 : Hp} {T : List (List Rat)} {r s : Nat} {g : Sg} (p : Spot h r s) : freeze h.length (stH (mh h T) r s g) (.ref h.length) = some (tabV T) := by
  have ne : ∀ i, h.length ≤ i → Hp.at (stH (mh h T) r s g) i = Hp.at (mh h T) i := fun i hi => by
    have := p.hr; have := p.hs
    exact stH_ne (p := ⟨by rw [mh_len]; omega, by rw [mh_len]; omega, p.hn⟩) (by omega) (by omega)
  have rowf : ∀ i ∈ List.range T.length, Val.frz (Hp.frz h.length (stH (mh h T) r s g) 5) (.ref (h.length + 1 + i)) = some (rowV (T.getD i [])) := fun i mi => by
    have hi : i < T.length := by simpa using mi
    have e : T[i]? = some (T.getD i []) := by rw [List.getD_eq_getElem?_getD, List.getElem?_eq_getElem hi]; rfl
    rw [Val.frz, Hp.frz, if_neg (by omega), ne _ (by omega), mh_row e]
    simp only
    rw [frzL_map (g := frV) fun q _ => (frz_plain 1 (frV q) plain_frV).1]
    rfl
  have top : Val.frz (Hp.frz h.length (stH (mh h T) r s g) 6) (.ref h.length) = some (tabV T) := by
    rw [Val.frz, Hp.frz, if_neg (by omega), ne _ (Nat.le_refl _)]
    rw [mh_at0]
    simp only
    rw [frzL_map (g := fun i => rowV (T.getD i [])) rowf]
    show some (Val.lst _) = some (Val.lst _)
    congr 2
    refine List.ext_getElem? fun i => ?_
    rw [List.getElem?_map, List.getElem?_map]
    by_cases hi : i < T.length
    · rw [List.getElem?_range hi, List.getElem?_eq_getElem hi]
      simp [hi]
    · rw [List.getElem?_eq_none (by simpa using hi), List.getElem?_eq_none (by simpa using hi)]
      rfl
  unfold freeze
  rw [top]
  show (if (tabV T).low h.length = true then _ else _) = _
  rw [(frz_plain (D := fun _ => none) 3 (tabV T) plain_tab).2, if_pos rfl]
theorem take_mh {h : Hp} {T : List (List Rat)} {r s : Nat} {g : Sg} (p : Spot h r s) : (stH (mh h T) r s g).take h.length = stH h r s g := by
  unfold mh
  rw [stH_app p, List.take_append_of_le_length (by simp)]
  exact List.take_of_length_le (by simp)
theorem mh_set {h : Hp} {T : List (List Rat)} {i : Nat} {q : List Rat} : Hp.put (mh h T) (h.length + 1 + i) (.lst (q.map frV)) = mh h (T.set i q) := by
  unfold mh
  rw [Nat.add_assoc, put_app2, Nat.add_comm 1 i]
  show h ++ (some _ :: (T.map _).set i _) = _
  rw [List.length_set, ← List.map_set]
def tabI (on : Nat) : E := (.comp false (.call on [0, 1] (.cons (.var 0) (.cons (.cst (.int 4)) .nil))) [9, 10] (.nm 10) (.rng (.cons (.var 2) .nil)) (.cst (.bool true)))
def tabR (on : Nat) : E := (.comp false (tabI on) [7, 8] (.nm 8) (.rng (.cons (.var 1) .nil)) (.cst (.bool true)))
def tabS (ad pk : Nat) : S := (.asg (.sub (.prim .ix (.cons (.var 5) (.cons (.var 6) .nil))) (.var 4)) (.call ad [0, 1] (.cons (.prim .ix (.cons (.prim .ix (.cons (.var 5) (.cons (.var 6) .nil))) (.cons (.var 4) .nil))) (.cons (.call pk [0, 1] (.cons (.var 0) (.cons (.lst false (.cons (.tup (.cons (.cst (.int 1)) (.cons (.cst (.int 1)) .nil))) (.cons (.tup (.cons (.prim .neg (.cons (.cst (.int 1)) .nil)) (.cons (.cst (.int 1)) .nil))) (.cons (.tup (.cons (.cst (.int 1)) (.cons (.cst (.int 2)) .nil))) (.cons (.tup (.cons (.cst (.int 3)) (.cons (.cst (.int 1)) .nil))) .nil))))) .nil))) .nil))))
def tableDf (on dn ad dr pk : Nat) : Df := ⟨3, 11, [], true, (.cons (.asg (.nm 3) (.call dr [0, 1] (.cons (.var 0) (.cons (.cst (.int 3)) .nil))))
 (.cons (.ifs (.prim .eq (.cons (.var 3) (.cons (.cst (.int 0)) .nil))) (.cons (.ret (tabR on))
 .nil) .nil)
 (.cons (.asg (.nm 5) (.call dn [0, 1, 2] (.cons (.var 0) (.cons (.var 1) (.cons (.var 2) .nil)))))
 (.cons (.ifs (.prim .eq (.cons (.var 3) (.cons (.cst (.int 1)) .nil))) (.cons (.par (.cons (.nm 4) (.cons (.nm 6) .nil)) (.cons (.call dr [0, 1] (.cons (.var 0) (.cons (.var 1) .nil))) (.cons (.call dr [0, 1] (.cons (.var 0) (.cons (.var 2) .nil))) .nil)))
 (.cons (tabS ad pk)
 .nil)) .nil)
 (.cons (.ret (.var 5))
 .nil)))))⟩
section
variable {P : Prog} {W sh fr ad le dr pk : Nat} (D : Drs P W sh fr ad le dr pk)
include D
theorem tabI_pr {on m b : Nat} {h : Hp} {r s : Nat} {g : Sg} {ρ : Env} {n : Nat} (d : P.defs on = some (oneDf fr dr pk)) (p : Spot h r s) (o : g.Ok) (hn : n ≤ 8) (ht : g.t < 2 ^ 49) (hm : 3 ≤ m) (b0 : ρ[0]? = some (.v (.ref s))) (b2 : ρ[2]? = some (.v (.int n))) (nc : NoC ρ) (hl : 11 ≤ ρ.length) :
    Pr (ev ⟨run P W m b, runV P W m b, P.gv, b, W⟩ ρ (stH h r s g) (tabI on)) h r s g 100 (fun v => ∃ qs, v = rowV qs ∧ qs.length = n ∧ ∀ q ∈ qs, Sz 8 q) := by
  have hi : evIt ⟨run P W m b, runV P W m b, P.gv, b, W⟩ ρ (stH h r s g) (.rng (.cons (.var 2) .nil)) = .ok ((List.range n).map (fun k : Nat => Val.int k), []) (stH h r s g) :=
    range1 (by simp only [ev, Env.get, b2, ofO_some]) (by omega)
  refine (comp_st (K := 2) (Q := fun _ v => ∃ q, v = frV q ∧ Sz 8 q) (by omega) o hi fun x hx g' o' t0 t1 => ?_).mono (by simp; omega) fun v ⟨ys, e, a⟩ => ?_
  · have nw : NoC (wipe ρ [9, 10]) := nc.setu.setu
    have lw : (wipe ρ [9, 10]).length = ρ.length := by simp [wipe]
    have c0 : ((wipe ρ [9, 10]).set 10 (.v x))[0]? = some (.v (.ref s)) := by
      rw [List.getElem?_set_ne (by decide)]; simp only [wipe]; rw [List.getElem?_set_ne (by decide), List.getElem?_set_ne (by decide), b0]
    rw [bindT_nm nw (by omega), R.bind_ok]
    simp only [ev, evs, test_tt, Env.get, c0, ofO_some, R.bind_ok, List.map, List.getD_cons_zero, List.getD_cons_succ]
    refine Pr.seq (one_pr D d p o' (k := 4) (by omega) (by omega) (by simp at t1; omega) hm) fun v g2 o2 t2 t3 ⟨q, hq, sq⟩ => ?_
    exact Pr.fin o2 (by omega) ⟨v, rfl, q, hq, sq⟩
  · obtain ⟨qs, rfl, hq⟩ := ex_map (f := frV) (Q := fun q => Sz 8 q) fun y my => by
      obtain ⟨x, _, q⟩ := a.right y my
      exact q
    exact ⟨qs, e, by simpa using a.len.symm, hq⟩
theorem tabR_pr {on m b : Nat} {h : Hp} {r s : Nat} {g : Sg} {ρ : Env} {n k : Nat} (d : P.defs on = some (oneDf fr dr pk)) (p : Spot h r s) (o : g.Ok) (hn : n ≤ 8) (hk : k ≤ 8) (ht : g.t < 2 ^ 48) (hm : 3 ≤ m) (b0 : ρ[0]? = some (.v (.ref s))) (b1 : ρ[1]? = some (.v (.int k))) (b2 : ρ[2]? = some (.v (.int n))) (nc : NoC ρ) (hl : 11 ≤ ρ.length) :
    Pr (ev ⟨run P W m b, runV P W m b, P.gv, b, W⟩ ρ (stH h r s g) (tabR on)) h r s g 1000 (fun v => ∃ T, v = tabV T ∧ TOk 8 k n T) := by
  have hi : evIt ⟨run P W m b, runV P W m b, P.gv, b, W⟩ ρ (stH h r s g) (.rng (.cons (.var 1) .nil)) = .ok ((List.range k).map (fun k : Nat => Val.int k), []) (stH h r s g) :=
    range1 (by simp only [ev, Env.get, b1, ofO_some]) (by omega)
  refine (comp_st (K := 100) (Q := fun _ v => ∃ qs, v = rowV qs ∧ qs.length = n ∧ ∀ q ∈ qs, Sz 8 q) (by omega) o hi fun x hx g' o' t0 t1 => ?_).mono (by simp; omega) fun v ⟨ys, e, a⟩ => ?_
  · have nw : NoC (wipe ρ [7, 8]) := nc.setu.setu
    have lw : (wipe ρ [7, 8]).length = ρ.length := by simp [wipe]
    have cc : ∀ j, j < 7 → ((wipe ρ [7, 8]).set 8 (.v x))[j]? = ρ[j]? := fun j hj => by
      rw [List.getElem?_set_ne (by omega)]; simp only [wipe]; rw [List.getElem?_set_ne (by omega), List.getElem?_set_ne (by omega)]
    rw [bindT_nm nw (by omega), R.bind_ok]
    rw [show ∀ ρ h, ev ⟨run P W m b, runV P W m b, P.gv, b, W⟩ ρ h (.cst (.bool true)) = .ok (.bool true) h from fun _ _ => by simp only [ev], test_tt]
    refine Pr.seq (tabI_pr D d p o' hn (by simp at t1; omega) hm ((cc 0 (by decide)).trans b0) ((cc 2 (by decide)).trans b2) nw.set (by simp; omega)) fun v g2 o2 t2 t3 q => ?_
    exact Pr.fin o2 (by omega) ⟨v, rfl, q⟩
  · obtain ⟨qs, rfl, hq⟩ := ex_map (f := rowV) (Q := fun r => r.length = n ∧ ∀ q ∈ r, Sz 8 q) fun y my => by
      obtain ⟨x, _, q⟩ := a.right y my
      exact q
    exact ⟨qs, e, by simpa using a.len.symm, fun r m => (hq r m).1, fun r m => (hq r m).2⟩
theorem TOk.mono {k k2 rows cols : Nat} {T : List (List Rat)} (t : TOk k rows cols T) (l : k ≤ k2) : TOk k2 rows cols T := ⟨t.rows, t.cols, fun r m q n => (t.sz r m q n).mono l⟩
theorem table_run {f on so md dn m b : Nat} {h : Hp} {r s : Nat} {g : Sg} {rows cols : Nat} (d : P.defs f = some (tableDf on dn ad dr pk)) (d0 : P.defs dn = some (downDf on so md)) (d1 : P.defs on = some (oneDf fr dr pk)) (d2 : P.defs so = some (someDf fr dr pk)) (d3 : P.defs md = some (madeDf ad le)) (p : Spot h r s) (o : g.Ok)
    (r0 : 1 ≤ rows) (r1 : rows ≤ 8) (c0 : 1 ≤ cols) (c1 : cols ≤ 8) (ht : g.t < 2 ^ 46) (hm : 7 ≤ m) :
    Pr (run P W m b f [.ref s, .int rows, .int cols] (stH h r s g)) h r s g 1300 (fun v => ∃ T, v = tabV T ∧ TOk 1009 rows cols T) := by
  obtain ⟨m, rfl⟩ : ∃ n, m = n + 1 := ⟨m - 1, by omega⟩
  let C : Cx := ⟨run P W m (stH h r s g).length, runV P W m (stH h r s g).length, P.gv, (stH h r s g).length, W⟩
  have slot : ∀ (a b c d : Slot) h, Env.get [.v (.ref s), .v (.int rows), .v (.int cols), a, b, c, d, .u, .u, .u, .u] h 0 = some (.ref s) := fun _ _ _ _ _ => rfl
  have slot1 : ∀ (a b c d : Slot) h, Env.get [.v (.ref s), .v (.int rows), .v (.int cols), a, b, c, d, .u, .u, .u, .u] h 1 = some (.int rows) := fun _ _ _ _ _ => rfl
  have slot2 : ∀ (a b c d : Slot) h, Env.get [.v (.ref s), .v (.int rows), .v (.int cols), a, b, c, d, .u, .u, .u, .u] h 2 = some (.int cols) := fun _ _ _ _ _ => rfl
  have slot3 : ∀ (x : Val) (b c d : Slot) h, Env.get [.v (.ref s), .v (.int rows), .v (.int cols), .v x, b, c, d, .u, .u, .u, .u] h 3 = some x := fun _ _ _ _ _ => rfl
  obtain ⟨v, g1, e1, o1, t1, t1', w, rfl, w0, w1⟩ := draw_pr (m := m) (b := (stH h r s g).length) (many := 3) D.ddr p o (by omega) (by omega) (by omega) D.w64 (by omega)
  rw [Pr]
  -- what is left: the body's run
  suffices H : ∃ (T : Hp × Val) (g' : Sg), exs C [.v (.ref s), .v (.int rows), .v (.int cols), .v (.int w), .u, .u, .u, .u, .u, .u, .u] (stH h r s g1) (.cons (.ifs (.prim .eq (.cons (.var 3) (.cons (.cst (.int 0)) .nil))) (.cons (.ret (tabR on)) .nil) .nil)
     (.cons (.asg (.nm 5) (.call dn [0, 1, 2] (.cons (.var 0) (.cons (.var 1) (.cons (.var 2) .nil)))))
     (.cons (.ifs (.prim .eq (.cons (.var 3) (.cons (.cst (.int 1)) .nil))) (.cons (.par (.cons (.nm 4) (.cons (.nm 6) .nil)) (.cons (.call dr [0, 1] (.cons (.var 0) (.cons (.var 1) .nil))) (.cons (.call dr [0, 1] (.cons (.var 0) (.cons (.var 2) .nil))) .nil)))
     (.cons (tabS ad pk) .nil)) .nil)
     (.cons (.ret (.var 5)) .nil)))) = .ok (.rt T.2) T.1 ∧ (∃ T', freeze h.length T.1 T.2 = some (tabV T') ∧ TOk 1009 rows cols T') ∧ T.1.take h.length = stH h r s g' ∧ g'.Ok ∧ g.t ≤ g'.t ∧ g'.t ≤ g.t + 1300 by
    obtain ⟨⟨h2, v2⟩, g2, e2, ⟨T', e3, k3⟩, e4, o2, t2, t2'⟩ := H
    refine ⟨tabV T', g2, ?_, o2, t2, t2', T', rfl, k3⟩
    rw [run_pure d rfl rfl rfl]
    have sl : slots0 (tableDf on dn ad dr pk).ns [.ref s, .int rows, .int cols] = [.v (.ref s), .v (.int rows), .v (.int cols), .u, .u, .u, .u, .u, .u, .u, .u] := rfl
    rw [sl]
    have : exs C [.v (.ref s), .v (.int rows), .v (.int cols), .u, .u, .u, .u, .u, .u, .u, .u] (stH h r s g) (tableDf on dn ad dr pk).body = .ok (.rt v2) h2 := by
      simp only [tableDf]
      rw [exs]
      rw [show ex C [.v (.ref s), .v (.int rows), .v (.int cols), .u, .u, .u, .u, .u, .u, .u, .u] (stH h r s g) (.asg (.nm 3) (.call dr [0, 1] (.cons (.var 0) (.cons (.cst (.int 3)) .nil)))) = .ok (.nx [.v (.ref s), .v (.int rows), .v (.int cols), .v (.int w), .u, .u, .u, .u, .u, .u, .u]) (stH h r s g1) from by
        simp only [ex, ev, evs, slot, ofO_some, R.bind_ok, List.map, List.getD_cons_zero, List.getD_cons_succ]
        show ((run P W m (stH h r s g).length dr [.ref s, .int 3] (stH h r s g)).bind _) = _
        rw [e1]; rfl]
      exact e2
    refine (congrArg (leave true _) this).trans ?_
    rw [stH_len]
    show (match freeze h.length h2 v2 with | some w => R.ok w (h2.take h.length) | Option.none => .no) = _
    rw [e3]
    show R.ok _ (h2.take h.length) = _
    rw [e4]
  by_cases w00 : w = 0
  · -- any numbers
    subst w00
    obtain ⟨v2, g2, e2, o2, t2, t2', T, rfl, k2⟩ := tabR_pr D (on := on) (m := m) (b := (stH h r s g).length) (ρ := [.v (.ref s), .v (.int rows), .v (.int cols), .v (.int 0), .u, .u, .u, .u, .u, .u, .u]) (n := cols) (k := rows) d1 p o1 c1 r1 (by omega) (by omega) rfl rfl rfl (NoC.of rfl) (by simp)
    refine ⟨(stH h r s g2, tabV T), g2, ?_, ⟨T, ?_, k2.mono D (by decide)⟩, List.take_of_length_le (by simp), o2, by omega, by omega⟩
    · simp only [exs, ex, ev, evs, slot3, ofO_some, R.bind_ok, prim_eqI, beq_self_eq_true, test_tt]
      show R.bind (R.bind (R.bind (ev C _ (stH h r s g1) (tabR on)) _) _) _ = _
      rw [show ev C _ (stH h r s g1) (tabR on) = _ from e2]; rfl
    · unfold freeze
      rw [(frz_plain 3 (tabV T) plain_tab).1]
      show (if (tabV T).low h.length = true then _ else _) = _
      rw [(frz_plain (D := fun _ => none) 3 (tabV T) plain_tab).2, if_pos rfl]
  obtain ⟨T, g2, e2, o2, t2, t2', k2⟩ := down_run D (m := m) (b := (stH h r s g).length) (rows := rows) (cols := cols) d0 d1 d2 d3 p o1 r0 r1 c0 c1 (by omega) (by omega) (by simp)
  have f0 : (w == 0) = false := by simpa using w00
  have cdn : C.call dn [.ref s, .int rows, .int cols] (stH h r s g1) = _ := e2
  have pm : Spot (mh h T) r s := p.app
  by_cases w11 : w = 1
  · subst w11
    obtain ⟨va, g3, e3, o3, t3, t3', at', rfl, a0, a1⟩ := draw_pr (m := m) (b := (stH h r s g).length) (many := rows) D.ddr pm o2 (by omega) (by omega) (by omega) D.w64 (by omega)
    obtain ⟨vp, g4, e4, o4, t4, t4', pl, rfl, p0, p1⟩ := draw_pr (m := m) (b := (stH h r s g).length) (many := cols) D.ddr pm o3 (by omega) (by omega) (by omega) D.w64 (by omega)
    obtain ⟨i, rfl⟩ := Int.eq_ofNat_of_zero_le a0
    obtain ⟨j, rfl⟩ := Int.eq_ofNat_of_zero_le p0
    obtain ⟨vx, g5, e5, o5, t5, t5', hx⟩ := pick_pr (m := m) (b := (stH h r s g).length) (k := 1) (xs := [.tup [.int 1, .int 1], .tup [.int (-1), .int 1], .tup [.int 1, .int 2], .tup [.int 3, .int 1]]) D.dpk D.ddr pm o4 (by decide) (by decide) (by omega) D.w64 (fun x mx => by
      simp only [List.mem_cons, List.not_mem_nil, or_false] at mx
      rcases mx with rfl | rfl | rfl | rfl <;> (intro y my; simp only [List.mem_cons, List.not_mem_nil, or_false] at my; rcases my with rfl | rfl <;> trivial)) (by omega)
    obtain ⟨q, rfl, sq⟩ : ∃ q, vx = frV q ∧ Sz 8 q := by
      simp only [List.mem_cons, List.not_mem_nil, or_false] at hx
      rcases hx with rfl | rfl | rfl | rfl
      · exact ⟨1, rfl, by decide, by decide⟩
      · exact ⟨-1, rfl, by decide, by decide⟩
      · have e1 : (Rat.divInt 1 2).num = 1 := by decide +kernel
        have e2 : (Rat.divInt 1 2).den = 2 := by decide +kernel
        exact ⟨Rat.divInt 1 2, by unfold frV; rw [e1, e2]; rfl, by rw [e1]; decide, by rw [e2]; decide⟩
      · exact ⟨3, rfl, by decide, by decide⟩
    have hi : i < T.length := by rw [k2.rows]; omega
    have eT : T[i]? = some T[i] := List.getElem?_eq_getElem hi
    have hj : j < T[i].length := by rw [k2.cols _ (List.getElem_mem hi)]; omega
    have eR : T[i][j]? = some T[i][j] := List.getElem?_eq_getElem hj
    have sz := k2.sz _ (List.getElem_mem hi) _ (List.getElem_mem hj)
    let T2 := T.set i (T[i].set j (T[i][j] + q))
    refine ⟨(stH (mh h T2) r s g5, .ref h.length), g5, ?_, ⟨T2, frz_mh (h2 := h) p, ?_⟩, take_mh p, o5, by omega, by omega⟩
    · have ne : ∀ g i, h.length ≤ i → Hp.at (stH (mh h T) r s g) i = Hp.at (mh h T) i := fun g i hi => by
        have := p.hr; have := p.hs
        exact stH_ne (p := pm) (by omega) (by omega)
      have ixA : ∀ g b, prim b .ix [.ref h.length, .int (i : Nat)] (stH (mh h T) r s g) = .ok (.ref (h.length + 1 + i)) (stH (mh h T) r s g) := fun g b => by
        refine prim_ix (xs := (List.range T.length).map fun i => Val.ref (h.length + 1 + i)) ?_ (place_nat (by simpa using hi)) (by rw [List.getElem?_map, List.getElem?_range hi]; rfl)
        show (match (stH (mh h T) r s g).at h.length with | some (.lst xs) | some (.lck xs) => some xs | _ => Option.none) = _
        rw [ne g _ (Nat.le_refl _), mh_at0]
      have atR : ∀ g, Hp.at (stH (mh h T) r s g) (h.length + 1 + i) = some (.lst (T[i].map frV)) := fun g => by rw [ne g _ (by omega), mh_row eT]
      have ixB : ∀ g b, prim b .ix [.ref (h.length + 1 + i), .int (j : Nat)] (stH (mh h T) r s g) = .ok (frV T[i][j]) (stH (mh h T) r s g) := fun g b => by
        refine prim_ix (xs := T[i].map frV) ?_ (place_nat (by simpa using hj)) (by rw [List.getElem?_map, eR]; rfl)
        show (match (stH (mh h T) r s g).at (h.length + 1 + i) with | some (.lst xs) | some (.lck xs) => some xs | _ => Option.none) = _
        rw [atR]
      have st : prim C.base .setix [.ref (h.length + 1 + i), .int (j : Nat), frV (T[i][j] + q)] (stH (mh h T) r s g5) = .ok .none (stH (mh h T2) r s g5) := by
        rw [prim_set (atR g5) (place_nat (by simpa using hj)) (by have : C.base ≤ h.length + 1 + i := by simp [C]; omega
                                                                  simp [wok, this])]
        have : (List.map frV T[i]).set j (frV (T[i][j] + q)) = (T[i].set j (T[i][j] + q)).map frV := by rw [List.map_set]
        rw [this]
        have hr := p.hr; have hs := p.hs
        unfold stH
        rw [Hp.put_comm (by omega), Hp.put_comm (i := r) (by omega), mh_set]
      have bt5 : ∀ h', bindT C [.v (.ref s), .v (.int rows), .v (.int cols), .v (.int 1), .u, .u, .u, .u, .u, .u, .u] h' (.nm 5) (.ref h.length) = .ok [.v (.ref s), .v (.int rows), .v (.int cols), .v (.int 1), .u, .v (.ref h.length), .u, .u, .u, .u, .u] h' := fun _ => rfl
      have bt46 : ∀ h', bindTs C [.v (.ref s), .v (.int rows), .v (.int cols), .v (.int 1), .u, .v (.ref h.length), .u, .u, .u, .u, .u] h' (.cons (.nm 4) (.cons (.nm 6) .nil)) [.int (j : Nat), .int (i : Nat)] = .ok [.v (.ref s), .v (.int rows), .v (.int cols), .v (.int 1), .v (.int (j : Nat)), .v (.ref h.length), .v (.int (i : Nat)), .u, .u, .u, .u] h' := fun _ => rfl
      have ca : C.call dr [.ref s, .int rows] (stH (mh h T) r s g2) = _ := e3
      have cb : C.call dr [.ref s, .int cols] (stH (mh h T) r s g3) = _ := e4
      have cp : C.call pk [.ref s, .lst [.tup [.int 1, .int 1], .tup [.int (-1), .int 1], .tup [.int 1, .int 2], .tup [.int 3, .int 1]]] (stH (mh h T) r s g4) = _ := e5
      have cad : ∀ h, C.call ad [frV T[i][j], frV q] h = .ok (frV (T[i][j] + q)) h := fun h => add_m D (sz.mono (by decide)) (sq.mono (by decide)) (by omega)
      have s4 : ∀ h', Env.get [.v (.ref s), .v (.int rows), .v (.int cols), .v (.int 1), .v (.int (j : Nat)), .v (.ref h.length), .v (.int (i : Nat)), .u, .u, .u, .u] h' 4 = some (.int (j : Nat)) := fun _ => rfl
      have s5 : ∀ h', Env.get [.v (.ref s), .v (.int rows), .v (.int cols), .v (.int 1), .v (.int (j : Nat)), .v (.ref h.length), .v (.int (i : Nat)), .u, .u, .u, .u] h' 5 = some (.ref h.length) := fun _ => rfl
      have s6 : ∀ h', Env.get [.v (.ref s), .v (.int rows), .v (.int cols), .v (.int 1), .v (.int (j : Nat)), .v (.ref h.length), .v (.int (i : Nat)), .u, .u, .u, .u] h' 6 = some (.int (i : Nat)) := fun _ => rfl
      have cb0 : C.base = (stH h r s g).length := rfl
      simp only [exs, ex, ev, evs, slot3, slot, slot1, slot2, ofO_some, R.bind_ok, prim_eqI, f0, test_ff, beq_self_eq_true, test_tt, List.map, List.getD_cons_zero, List.getD_cons_succ, cdn, bt5, ca, cb, List.reverse_cons, List.reverse_nil, List.nil_append, List.cons_append, bt46, tabS, s4, s5, s6, ixA, ixB, prim_neg, newL, Bool.false_eq_true, if_false, cp, cad, bindT_sub, st]
    · refine ⟨by simpa [T2] using k2.rows, fun y my => ?_, fun y my z mz => ?_⟩
      · rcases List.mem_or_eq_of_mem_set my with my | rfl
        · exact k2.cols y my
        · rw [List.length_set]; exact k2.cols _ (List.getElem_mem hi)
      · rcases List.mem_or_eq_of_mem_set my with my | rfl
        · exact (k2.sz y my z mz).mono (by decide)
        · rcases List.mem_or_eq_of_mem_set mz with mz | rfl
          · exact (k2.sz _ (List.getElem_mem hi) z mz).mono (by decide)
          · exact sz.add sq
  · have f1 : (w == 1) = false := by simpa using w11
    refine ⟨(stH (mh h T) r s g2, .ref h.length), g2, ?_, ⟨T, frz_mh (h2 := h) p, k2.mono D (by decide)⟩, take_mh p, o2, by omega, by omega⟩
    have bt5 : ∀ h', bindT C [.v (.ref s), .v (.int rows), .v (.int cols), .v (.int w), .u, .u, .u, .u, .u, .u, .u] h' (.nm 5) (.ref h.length) = .ok [.v (.ref s), .v (.int rows), .v (.int cols), .v (.int w), .u, .v (.ref h.length), .u, .u, .u, .u, .u] h' := fun _ => rfl
    have s5 : ∀ h', Env.get [.v (.ref s), .v (.int rows), .v (.int cols), .v (.int w), .u, .v (.ref h.length), .u, .u, .u, .u, .u] h' 5 = some (.ref h.length) := fun _ => rfl
    simp only [exs, ex, ev, evs, slot3, slot, slot1, slot2, ofO_some, R.bind_ok, prim_eqI, f0, f1, test_ff, List.map, List.getD_cons_zero, List.getD_cons_succ, cdn, bt5, s5]
end
end Mp
/-! M10: values handed in loosely, lists or tuples. -/
namespace Mp
def isAtom : Val → Bool
  | .none | .bool _ | .int _ | .str _ => true
  | _ => false
/-- depth at most k, at most 8 parts each -/
def Wd : Nat → Val → Prop
  | 0, v => isAtom v = true
  | k + 1, .tup xs => xs.length ≤ 8 ∧ ∀ x ∈ xs, Wd k x
  | k + 1, .lst xs => xs.length ≤ 8 ∧ ∀ x ∈ xs, Wd k x
  | _, v => isAtom v = true
/-- w loosely: each list or tuple in it is now a list or a tuple -/
def Lo : Nat → Val → Val → Prop
  | 0, w, v => v = w
  | k + 1, .tup xs, v => ∃ ys, (v = .lst ys ∨ v = .tup ys) ∧ All2 (Lo k) xs ys
  | k + 1, .lst xs, v => ∃ ys, (v = .lst ys ∨ v = .tup ys) ∧ All2 (Lo k) xs ys
  | _, w, v => v = w
theorem Wd.plain : ∀ {k : Nat} {v : Val}, Wd k v → Plain k v
  | 0, v, h => by cases v <;> first | trivial | simp [Wd, isAtom] at h
  | k + 1, .tup xs, h => fun x m => (h.2 x m).plain
  | k + 1, .lst xs, h => fun x m => (h.2 x m).plain
  | k + 1, .none, _ => trivial
  | k + 1, .bool _, _ => trivial
  | k + 1, .int _, _ => trivial
  | k + 1, .str _, _ => trivial
  | k + 1, .dct _ _, h => by simp [Wd, isAtom] at h
  | k + 1, .ref _, h => by simp [Wd, isAtom] at h
  | k + 1, .fn _, h => by simp [Wd, isAtom] at h
  | k + 1, .clo _ _, h => by simp [Wd, isAtom] at h
  | k + 1, .exc _ _, h => by simp [Wd, isAtom] at h
theorem Lo.plain : ∀ {k : Nat} {w v : Val}, Wd k w → Lo k w v → Plain k v
  | 0, w, v, h, e => by rw [show v = w from e]; exact h.plain
  | k + 1, .tup xs, v, h, ⟨ys, e, a⟩ => by
    have : ∀ y ∈ ys, Plain k y := fun y m => by
      obtain ⟨x, mx, q⟩ := a.right y m
      exact Lo.plain (h.2 x mx) q
    rcases e with rfl | rfl <;> exact this
  | k + 1, .lst xs, v, h, ⟨ys, e, a⟩ => by
    have : ∀ y ∈ ys, Plain k y := fun y m => by
      obtain ⟨x, mx, q⟩ := a.right y m
      exact Lo.plain (h.2 x mx) q
    rcases e with rfl | rfl <;> exact this
  | k + 1, .none, v, h, e => by rw [show v = .none from e]; trivial
  | k + 1, .bool _, v, h, e => by rw [show v = .bool _ from e]; trivial
  | k + 1, .int _, v, h, e => by rw [show v = .int _ from e]; trivial
  | k + 1, .str _, v, h, e => by rw [show v = .str _ from e]; trivial
  | k + 1, .dct _ _, v, h, e => by simp [Wd, isAtom] at h
  | k + 1, .ref _, v, h, e => by simp [Wd, isAtom] at h
  | k + 1, .fn _, v, h, e => by simp [Wd, isAtom] at h
  | k + 1, .clo _ _, v, h, e => by simp [Wd, isAtom] at h
  | k + 1, .exc _ _, v, h, e => by simp [Wd, isAtom] at h
def looseC (lo : Nat) : E := (.comp false (.call lo [0, 1] (.cons (.var 0) (.cons (.var 4) .nil))) [3, 4] (.nm 4) (.ev (.var 1)) (.cst (.bool true)))
def looseDf (lo dr : Nat) : Df := ⟨2, 5, [], true, (.cons (.ifs (.prim .not (.cons (.prim (.isi [.list, .tuple]) (.cons (.var 1) .nil)) .nil)) (.cons (.ret (.var 1))
 .nil) .nil)
 (.cons (.asg (.nm 2) (looseC lo))
 (.cons (.ret (.ite (.prim .eq (.cons (.call dr [0, 1] (.cons (.var 0) (.cons (.cst (.int 2)) .nil))) (.cons (.cst (.int 0)) .nil))) (.prim .tuple (.cons (.var 2) .nil)) (.var 2)))
 .nil)))⟩
/-- draws of a loosening -/
def KK : Nat → Int
  | 0 => 0
  | k + 1 => 1 + 8 * KK k
theorem KK0 : ∀ k, 0 ≤ KK k
  | 0 => by decide
  | k + 1 => by have := KK0 k; simp only [KK]; omega
theorem loose_pr {P : Prog} {W f dr : Nat} {h : Hp} {r s : Nat} (d : P.defs f = some (looseDf f dr)) (dd : P.defs dr = some drawDf) (p : Spot h r s) (hW : 64 ≤ W) : ∀ (k m b : Nat) (g : Sg) (w : Val), g.Ok → g.t + 2 * KK k < 2 ^ 50 → k + 2 ≤ m → Wd k w →
    Pr (run P W m b f [.ref s, w] (stH h r s g)) h r s g (KK k) (fun v => Lo k w v) := fun k => by
  induction k with
  | zero =>
    intro m b g w o ht hm hw
    obtain ⟨m, rfl⟩ : ∃ n, m = n + 1 := ⟨m - 1, by omega⟩
    refine Pr.pure d rfl rfl rfl (k := 0) (fun v q => Lo.plain hw q) ?_
    have : exs ⟨run P W m h.length, runV P W m h.length, P.gv, h.length, W⟩ (slots0 (looseDf f dr).ns [.ref s, w]) (stH h r s g) (looseDf f dr).body = .ok (.rt w) (stH h r s g) := by
      cases w <;> first | rfl | simp [Wd, isAtom] at hw
    rw [this]
    exact Pr.fin o (by decide) ⟨w, rfl, rfl⟩
  | succ k ih =>
    intro m b g w o ht hm hw
    obtain ⟨m, rfl⟩ : ∃ n, m = n + 1 := ⟨m - 1, by omega⟩
    have k0 := KK0 k
    have kk : KK (k + 1) = 1 + 8 * KK k := rfl
    refine Pr.pure d rfl rfl rfl (k := k + 1) (fun v q => Lo.plain hw q) ?_
    have seqc : ∀ (xs : List Val), xs.length ≤ 8 → (∀ x ∈ xs, Wd k x) → (∀ h, walkOf h w = some (xs, [])) → (∀ h b, prim b (.isi [.list, .tuple]) [w] h = .ok (.bool true) h) → Pr (exs ⟨run P W m h.length, runV P W m h.length, P.gv, h.length, W⟩ (slots0 (looseDf f dr).ns [.ref s, w]) (stH h r s g) (looseDf f dr).body) h r s g (KK (k + 1)) (fun fl => ∃ v, fl = .rt v ∧ ∃ ys, (v = .lst ys ∨ v = .tup ys) ∧ All2 (Lo k) xs ys) := fun xs hl hx hwk hisi => by
      have g0 : ∀ h (a b c : Slot), Env.get [.v (.ref s), .v w, a, b, c] h 0 = some (.ref s) := fun _ _ _ _ => rfl
      have g1 : ∀ h (a b c : Slot), Env.get [.v (.ref s), .v w, a, b, c] h 1 = some w := fun _ _ _ _ => rfl
      have g2 : ∀ h (a : Val) (b c : Slot), Env.get [.v (.ref s), .v w, .v a, b, c] h 2 = some a := fun _ _ _ _ => rfl
      have cc : Pr (ev ⟨run P W m h.length, runV P W m h.length, P.gv, h.length, W⟩ [.v (.ref s), .v w, .u, .u, .u] (stH h r s g) (looseC f)) h r s g (KK k * xs.length) (fun v => ∃ ys, v = .lst ys ∧ All2 (Lo k) xs ys) := by
        refine comp_st (K := KK k) (Q := Lo k) k0 o (by simp only [evIt, ev, g1, ofO_some, R.bind_ok, hwk]) fun x mx g' o' t0 t1 => ?_
        have hb : KK k * (xs.length : Int) ≤ KK k * 8 := Int.mul_le_mul_of_nonneg_left (by omega) k0
        simp only [wipe, List.set_cons_succ, List.set_cons_zero, bindT, List.getElem?_cons_succ, List.getElem?_cons_zero, R.bind_ok, ev, evs, test_tt, Env.get, ofO_some, List.map, List.getD_cons_zero, List.getD_cons_succ]
        refine Pr.seq (ih m h.length g' x o' (by omega) (by omega) (hx x mx)) fun v g2 o2 t2 t3 q => ?_
        exact Pr.fin o2 (by omega) ⟨v, rfl, q⟩
      have hb : KK k * (xs.length : Int) ≤ KK k * 8 := Int.mul_le_mul_of_nonneg_left (by omega) k0
      have sl : slots0 (looseDf f dr).ns [.ref s, w] = [.v (.ref s), .v w, .u, .u, .u] := rfl
      rw [sl]
      simp only [looseDf, exs, ex, ev, evs, g1, ofO_some, R.bind_ok, hisi, prim_notB, Bool.not_true, test_ff, R.bind_assoc]
      refine Pr.seq cc fun v g2' o2 t2 t3 ⟨ys, hv, a⟩ => ?_
      subst hv
      simp only [bindT, List.getElem?_cons_succ, List.getElem?_cons_zero, List.set_cons_succ, List.set_cons_zero, R.bind_ok, g0]
      obtain ⟨v, g3, e3, o3, t4, t5, x, rfl, x0, x1⟩ := draw_pr (m := m) (b := h.length) (many := 2) dd p o2 (by omega) (by omega) (by omega) hW (by omega)
      by_cases z : x = 0
      · subst z
        refine ⟨.rt (.tup ys), g3, ?_, o3, t4, by omega, _, rfl, ys, .inr rfl, a⟩
        simp only [List.map, List.getD_cons_zero, List.getD_cons_succ, e3, R.bind_ok, prim_eqI, beq_self_eq_true, test_tt, g2, ofO_some]
        rfl
      · refine ⟨.rt (.lst ys), g3, ?_, o3, t4, by omega, _, rfl, ys, .inl rfl, a⟩
        simp only [List.map, List.getD_cons_zero, List.getD_cons_succ, e3, R.bind_ok, prim_eqI, show (x == 0) = false by simpa using z, test_ff, g2, ofO_some]
    cases w with
    | tup xs => exact seqc xs hw.1 hw.2 (fun _ => rfl) (fun _ _ => rfl)
    | lst xs => exact seqc xs hw.1 hw.2 (fun _ => rfl) (fun _ _ => rfl)
    | none => exact ⟨_, g, rfl, o, by omega, by omega, _, rfl, rfl⟩
    | bool _ => exact ⟨_, g, rfl, o, by omega, by omega, _, rfl, rfl⟩
    | int _ => exact ⟨_, g, rfl, o, by omega, by omega, _, rfl, rfl⟩
    | str _ => exact ⟨_, g, rfl, o, by omega, by omega, _, rfl, rfl⟩
    | _ => simp [Wd, isAtom] at hw
/-- fractions, rows, tables handed in loosely -/
def FrIn (v : Val) (q : Rat) : Prop := v = .tup [.int q.num, .int q.den] ∨ v = .lst [.int q.num, .int q.den]
def RowIn (v : Val) (r : List Rat) : Prop := ∃ ys, (v = .lst ys ∨ v = .tup ys) ∧ All2 FrIn ys r
def TabIn (v : Val) (T : List (List Rat)) : Prop := ∃ ys, (v = .lst ys ∨ v = .tup ys) ∧ All2 RowIn ys T
theorem All2.map_left {α β γ : Type} {f : α → β} {Q : β → γ → Prop} : ∀ {xs : List α} {ys : List γ}, All2 (fun x y => Q (f x) y) xs ys → All2 Q (xs.map f) ys
  | _, _, .nil => .nil
  | _, _, .cons h t => .cons h t.map_left
theorem All2.of_map {α β γ : Type} {f : α → β} {Q : β → γ → Prop} : ∀ {xs : List α} {ys : List γ}, All2 Q (xs.map f) ys → All2 (fun x y => Q (f x) y) xs ys
  | [], _, h => by cases h; exact .nil
  | x :: xs, _, h => by cases h with | cons h t => exact .cons h t.of_map
theorem All2.flip {α β : Type} {Q : α → β → Prop} : ∀ {xs : List α} {ys : List β}, All2 Q xs ys → All2 (fun y x => Q x y) ys xs
  | _, _, .nil => .nil
  | _, _, .cons h t => .cons h t.flip
theorem All2.same {α : Type} {Q : α → α → Prop} : ∀ {xs : List α}, (∀ x ∈ xs, Q x x) → All2 Q xs xs
  | [], _ => .nil
  | x :: xs, h => .cons (h x (List.mem_cons_self ..)) (All2.same fun y m => h y (List.mem_cons_of_mem _ m))
theorem FrIn.same {q : Rat} : FrIn (frV q) q := .inl rfl
theorem RowIn.same {r : List Rat} : RowIn (rowV r) r := ⟨_, .inl rfl, (All2.same (Q := fun q q' => FrIn (frV q) q') fun _ _ => .same).map_left⟩
theorem TabIn.same {T : List (List Rat)} : TabIn (tabV T) T := ⟨_, .inl rfl, (All2.same (Q := fun q q' => RowIn (rowV q) q') fun _ _ => .same).map_left⟩
theorem Lo.fr {q : Rat} {v : Val} (h : Lo 1 (frV q) v) : FrIn v q := by
  obtain ⟨ys, e, a⟩ := h
  cases a with
  | cons h1 a => cases a with
    | cons h2 a => cases a with
      | nil =>
        rw [show _ = _ from h1, show _ = _ from h2] at e
        exact e.symm
theorem Lo.row {r : List Rat} {v : Val} (h : Lo 2 (rowV r) v) : RowIn v r := by
  obtain ⟨ys, e, a⟩ := h
  exact ⟨ys, e, (a.of_map.imp fun q v h => Lo.fr h).flip⟩
theorem Lo.tab {T : List (List Rat)} {v : Val} (h : Lo 3 (tabV T) v) : TabIn v T := by
  obtain ⟨ys, e, a⟩ := h
  exact ⟨ys, e, (a.of_map.imp fun q v h => Lo.row h).flip⟩
theorem Wd.fr {q : Rat} : Wd 1 (frV q) := ⟨by simp, fun x m => by
  simp only [List.mem_cons, List.not_mem_nil, or_false] at m
  rcases m with rfl | rfl <;> rfl⟩
theorem Wd.row {r : List Rat} (l : r.length ≤ 8) : Wd 2 (rowV r) := ⟨by simpa using l, fun x m => by
  obtain ⟨q, _, rfl⟩ := List.mem_map.mp m
  exact Wd.fr⟩
theorem Wd.tab {T : List (List Rat)} (l : T.length ≤ 8) (h : ∀ r ∈ T, r.length ≤ 8) : Wd 3 (tabV T) := ⟨by simpa using l, fun x m => by
  obtain ⟨q, mq, rfl⟩ := List.mem_map.mp m
  exact Wd.row (h q mq)⟩
end Mp
/-! M11: the program's look at a table. -/
namespace Mp
def isListDf : Df := ⟨1, 1, [], true, (.cons (.ret (.prim (.isi [.list, .tuple]) (.cons (.var 0) .nil)))
 .nil)⟩
def isWholeDf : Df := ⟨1, 1, [], true, (.cons (.ret (.and (.prim (.isi [.int]) (.cons (.var 0) .nil)) (.prim .not (.cons (.prim (.isi [.bool]) (.cons (.var 0) .nil)) .nil))))
 .nil)⟩
def isRowDf (il : Nat) : Df := ⟨2, 2, [], true, (.cons (.ret (.and (.call il [0] (.cons (.var 0) .nil)) (.prim .eq (.cons (.prim .len (.cons (.var 0) .nil)) (.cons (.var 1) .nil)))))
 .nil)⟩
def divC : E := (.var 1)
def divB : Ss := (.cons (.par (.cons (.nm 1) (.cons (.nm 0) .nil)) (.cons (.var 1) (.cons (.prim .mod (.cons (.var 0) (.cons (.var 1) .nil))) .nil)))
 .nil)
def divDf : Df := ⟨2, 2, [], true, (.cons (.par (.cons (.nm 1) (.cons (.nm 0) .nil)) (.cons (.prim .abs (.cons (.var 0) .nil)) (.cons (.prim .abs (.cons (.var 1) .nil)) .nil)))
 (.cons (.whil divC divB)
 (.cons (.ret (.var 0))
 .nil)))⟩
def keptFDf (ir iw cd : Nat) : Df := ⟨1, 1, [], true, (.cons (.ifs (.or (.prim .not (.cons (.call ir [0, 1] (.cons (.var 0) (.cons (.cst (.int 2)) .nil))) .nil)) (.or (.prim .not (.cons (.call iw [0] (.cons (.prim .ix (.cons (.var 0) (.cons (.cst (.int 0)) .nil))) .nil)) .nil)) (.prim .not (.cons (.call iw [0] (.cons (.prim .ix (.cons (.var 0) (.cons (.cst (.int 1)) .nil))) .nil)) .nil)))) (.cons (.ret (.cst .none))
 .nil) .nil)
 (.cons (.ifs (.or (.prim .lt (.cons (.prim .ix (.cons (.var 0) (.cons (.cst (.int 1)) .nil))) (.cons (.cst (.int 1)) .nil))) (.prim .ne (.cons (.call cd [0, 1] (.cons (.prim .ix (.cons (.var 0) (.cons (.cst (.int 0)) .nil))) (.cons (.prim .ix (.cons (.var 0) (.cons (.cst (.int 1)) .nil))) .nil))) (.cons (.cst (.int 1)) .nil)))) (.cons (.ret (.cst .none))
 .nil) .nil)
 (.cons (.ret (.tup (.cons (.prim .ix (.cons (.var 0) (.cons (.cst (.int 0)) .nil))) (.cons (.prim .ix (.cons (.var 0) (.cons (.cst (.int 1)) .nil))) .nil))))
 .nil)))⟩
def keptTA (il : Nat) : E := (.comp false (.call il [0] (.cons (.var 3) .nil)) [2, 3] (.nm 3) (.ev (.var 0)) (.cst (.bool true)))
def keptTI (kf : Nat) : E := (.comp false (.call kf [0] (.cons (.var 7) .nil)) [6, 7] (.nm 7) (.ev (.var 5)) (.cst (.bool true)))
def keptTF (kf : Nat) : E := (.comp false (keptTI kf) [4, 5] (.nm 5) (.ev (.var 0)) (.cst (.bool true)))
def keptTB : E := (.comp false (.and (.prim .eq (.cons (.prim .len (.cons (.var 9) .nil)) (.cons (.prim .len (.cons (.prim .ix (.cons (.var 1) (.cons (.cst (.int 0)) .nil))) .nil)) .nil))) (.prim .nin (.cons (.cst .none) (.cons (.var 9) .nil)))) [8, 9] (.nm 9) (.ev (.var 1)) (.cst (.bool true)))
def keptTDf (il kf : Nat) : Df := ⟨1, 10, [], true, (.cons (.ifs (.or (.prim .not (.cons (.call il [0] (.cons (.var 0) .nil)) .nil)) (.or (.prim .eq (.cons (.prim .len (.cons (.var 0) .nil)) (.cons (.cst (.int 0)) .nil))) (.prim .not (.cons (.prim .all (.cons (keptTA il) .nil)) .nil)))) (.cons (.ret (.cst .none))
 .nil) .nil)
 (.cons (.asg (.nm 1) (keptTF kf))
 (.cons (.ifs (.or (.prim .eq (.cons (.prim .ix (.cons (.var 1) (.cons (.cst (.int 0)) .nil))) (.cons (.lst false .nil) .nil))) (.prim .not (.cons (.prim .all (.cons keptTB .nil)) .nil))) (.cons (.ret (.cst .none))
 .nil) .nil)
 (.cons (.ret (.var 1))
 .nil))))⟩
def needTDf (kt : Nat) : Df := ⟨1, 2, [], true, (.cons (.asg (.nm 1) (.call kt [0] (.cons (.var 0) .nil)))
 (.cons (.ifs (.prim .isN (.cons (.var 1) .nil)) (.cons .bad
 .nil) .nil)
 (.cons (.ret (.var 1))
 .nil)))⟩
structure Kts (P : Prog) (W : Nat) (il iw ir cd kf kt nt : Nat) : Prop where
  w : 2 ^ 8000 ≤ W
  dil : P.defs il = some isListDf
  diw : P.defs iw = some isWholeDf
  dir : P.defs ir = some (isRowDf il)
  dcd : P.defs cd = some divDf
  dkf : P.defs kf = some (keptFDf ir iw cd)
  dkt : P.defs kt = some (keptTDf il kf)
  dnt : P.defs nt = some (needTDf kt)
def isSeq : Val → Bool
  | .lst _ | .tup _ => true
  | _ => false
theorem isi_seq {v : Val} {b : Nat} {h : Hp} (e : isSeq v = true) : prim b (.isi [.list, .tuple]) [v] h = .ok (.bool true) h := by
  cases v <;> first | rfl | simp [isSeq] at e
theorem div_loop {C : Cx} {h : Hp} : ∀ (n x y : Nat), y < n → loopW (fun ρ h => ev C ρ h divC) (fun ρ h => exs C ρ h divB) n [.v (.int x), .v (.int y)] h = .ok (.nx [.v (.int (Nat.gcd x y)), .v (.int (0 : Nat))]) h
  | 0, x, y, l => absurd l (Nat.not_lt_zero _)
  | n + 1, x, y, l => by
    have g0 : ∀ h (x y : Val), Env.get [.v x, .v y] h 0 = some x := fun _ _ _ => rfl
    have g1 : ∀ h (x y : Val), Env.get [.v x, .v y] h 1 = some y := fun _ _ _ => rfl
    rw [loopW]
    simp only [divC, ev, g1, ofO_some]
    by_cases z : y = 0
    · subst z
      simp only [Nat.gcd_zero_right]
      rfl
    · have t : (Val.int (y : Nat)).tru h = some true := by
        show some ((y : Int) != 0) = _
        congr 1; simpa using z
      have tt : ∀ {β : Type} {f g : Val → Hp → R β}, R.test (.ok (.int (y : Nat)) h) f g = f (.int (y : Nat)) h := fun {β f g} => by
        simp only [R.test, R.bind_ok, t]
      rw [tt]
      simp only [divB, exs, ex, evs, ev, g0, g1, ofO_some, R.bind_ok, prim_mod (show ((y : Nat) : Int) ≠ 0 by omega)]
      have e : ((x : Int)).fmod (y : Int) = ((x % y : Nat) : Int) := by rw [Int.fmod_eq_emod_of_nonneg _ (by omega)]; rfl
      rw [e]
      refine (show _ = loopW (fun ρ h => ev C ρ h divC) (fun ρ h => exs C ρ h divB) n [.v (.int y), .v (.int ((x % y : Nat)))] h from rfl).trans ((div_loop n y (x % y) (by have := Nat.mod_lt x (Nat.pos_of_ne_zero z); omega)).trans ?_)
      rw [Nat.gcd_comm y, ← Nat.gcd_rec y x, Nat.gcd_comm]
theorem dat_row {h : Hp} {k : Nat} {r : List Rat} : mapO (Val.dat h (k + 1)) (r.map frV) = some (r.map fun q => PySem.PyData.tuple [.int q.num, .int q.den]) := by
  induction r with
  | nil => rfl
  | cons q r ih =>
    have : Val.dat h (k + 1) (frV q) = some (.tuple [.int q.num, .int q.den]) := by cases k <;> rfl
    simp only [List.map_cons, mapO, this, ih]
theorem nin_row {b : Nat} {h : Hp} {r : List Rat} : prim b .nin [.none, rowV r] h = .ok (.bool true) h := by
  have : pyIn h .none (r.map frV) = some false := by
    unfold pyIn
    rw [dat_row (k := 28)]
    show some _ = _
    congr 1
    rw [List.any_eq_false]
    intro x m
    obtain ⟨q, _, rfl⟩ := List.mem_map.mp m
    simp [PySem.PyData.eqv]
  show (match (rowV r).seq h with | some xs => (ofO (pyIn h .none xs) h).bind fun b h => R.ok (Val.bool (!b)) h | Option.none => .no) = _
  show (ofO (pyIn h .none (r.map frV)) h).bind _ = _
  rw [this]; rfl
theorem eqNil_row {b : Nat} {h : Hp} {r : List Rat} (ne : r ≠ []) : prim b .eq [rowV r, .lst []] h = .ok (.bool false) h := by
  rw [prim_eq]
  have e1 : Val.dat h 30 (rowV r) = some (.list (r.map fun q => PySem.PyData.tuple [.int q.num, .int q.den])) := by
    show (mapO (Val.dat h 29) (r.map frV)).map PySem.PyData.list = _
    rw [dat_row (k := 28)]; rfl
  have e2 : Val.dat h 30 (.lst []) = some (.list []) := rfl
  unfold pyEq
  rw [e1, e2]
  cases r with
  | nil => exact absurd rfl ne
  | cons a t => simp [PySem.PyData.eqv, PySem.PyData.eqvAll]
theorem all2_map_comp {α : Type} {inj : α → Val} {Q : Val → α → Prop} {C : Cx} {ρ : Env} {h : Hp} {elt c : E} {os : List Nat} {t : At} {it : It} {vs : List Val} {xs : List α} (g : α → Val) (a : All2 Q vs xs) (hi : evIt C ρ h it = .ok (vs, []) h)
    (e : ∀ v x, v ∈ vs → x ∈ xs → Q v x → ((bindT C (wipe ρ os) h t v).bind fun ρ2 h => (ev C ρ2 h c).test (fun _ h => (ev C ρ2 h elt).bind fun v h => .ok (some v) h) fun _ h => .ok Option.none h) = .ok (some (g x)) h) :
    ev C ρ h (.comp false elt os t it c) = .ok (.lst (xs.map g)) h := by
  rw [ev, hi]
  simp only [R.bind_ok, lockAll]
  have go : ∀ (ws : List Val) (ys : List α), All2 Q ws ys → (∀ v ∈ ws, v ∈ vs) → (∀ x ∈ ys, x ∈ xs) → loopC (fun x h => (bindT C (wipe ρ os) h t x).bind fun ρ2 h => (ev C ρ2 h c).test (fun _ h => (ev C ρ2 h elt).bind fun v h => .ok (some v) h) fun _ h => .ok Option.none h) ws h = .ok (ys.map g) h := by
    intro ws ys a
    induction a with
    | nil => intro _ _; rfl
    | cons q _ ih =>
      intro m1 m2
      rw [List.map_cons, loopC, e _ _ (m1 _ (List.mem_cons_self ..)) (m2 _ (List.mem_cons_self ..)) q]
      simp only [R.bind_ok, ih (fun x hx => m1 x (List.mem_cons_of_mem _ hx)) fun x hx => m2 x (List.mem_cons_of_mem _ hx)]
  rw [go vs xs a (fun _ m => m) fun _ m => m]
  simp only [R.unlock, unlockAll, R.calm, R.bind_ok, newL, Bool.false_eq_true, if_false]
theorem allTrue {b : Nat} {h : Hp} {α : Type} {xs : List α} : prim b .all [.lst (xs.map fun _ => Val.bool true)] h = .ok (.bool true) h := by
  have := all_true (xs := xs.map fun _ => Val.none) (h := h) (b := b)
  rwa [List.map_map] at this
section
variable {P : Prog} {W il iw ir cd kf kt nt : Nat} (D : Kts P W il iw ir cd kf kt nt)
include D
theorem isList_m {m b : Nat} {h : Hp} {v : Val} (e : isSeq v = true) (hm : 1 ≤ m) : run P W m b il [v] h = .ok (.bool true) h := by
  obtain ⟨m, rfl⟩ : ∃ n, m = n + 1 := ⟨m - 1, by omega⟩
  rw [run_pure D.dil rfl rfl rfl]
  have : exs ⟨run P W m h.length, runV P W m h.length, P.gv, h.length, W⟩ (slots0 isListDf.ns [v]) h isListDf.body = .ok (.rt (.bool true)) h := by
    have g0 : ∀ h, Env.get [.v v] h 0 = some v := fun _ => rfl
    simp only [isListDf, slots0, List.map, List.length_cons, List.length_nil, Nat.sub_self, List.replicate, List.append_nil, exs, ex, ev, evs, g0, ofO_some, R.bind_ok, isi_seq e]
  exact (congrArg (leave true _) this).trans (lv_bool rfl)
theorem isWhole_m {m b : Nat} {h : Hp} {x : Int} (hm : 1 ≤ m) : run P W m b iw [.int x] h = .ok (.bool true) h := by
  obtain ⟨m, rfl⟩ : ∃ n, m = n + 1 := ⟨m - 1, by omega⟩
  rw [run_pure D.diw rfl rfl rfl]
  exact lv_bool (x := true) rfl
theorem isRow_m {m b : Nat} {h : Hp} {v : Val} {x y : Int} (e : v = .tup [.int x, .int y] ∨ v = .lst [.int x, .int y]) (hm : 2 ≤ m) : run P W m b ir [v, .int 2] h = .ok (.bool true) h := by
  obtain ⟨m, rfl⟩ : ∃ n, m = n + 1 := ⟨m - 1, by omega⟩
  rw [run_pure D.dir rfl rfl rfl]
  have : exs ⟨run P W m h.length, runV P W m h.length, P.gv, h.length, W⟩ (slots0 (isRowDf il).ns [v, .int 2]) h (isRowDf il).body = .ok (.rt (.bool true)) h := by
    have g0 : ∀ h, Env.get [.v v, .v (.int 2)] h 0 = some v := fun _ => rfl
    have g1 : ∀ h, Env.get [.v v, .v (.int 2)] h 1 = some (.int 2) := fun _ => rfl
    have sq : isSeq v = true := by rcases e with rfl | rfl <;> rfl
    have ln : ∀ b, prim b .len [v] h = .ok (.int 2) h := fun b => by rcases e with rfl | rfl <;> rfl
    have e22 : ((2 : Int) == 2) = true := rfl
    simp only [isRowDf, slots0, List.map, List.length_cons, List.length_nil, Nat.sub_self, List.replicate, List.append_nil, exs, ex, ev, evs, g0, g1, ofO_some, R.bind_ok, List.getD_cons_zero, isList_m D sq (show 1 ≤ m by omega), test_tt, ln, prim_eqI, e22]
  exact (congrArg (leave true _) this).trans (lv_bool rfl)
theorem div_m {m b : Nat} {h : Hp} {x y : Int} (l : y.natAbs < W) (hm : 1 ≤ m) : run P W m b cd [.int x, .int y] h = .ok (.int (Int.gcd x y)) h := by
  obtain ⟨m, rfl⟩ : ∃ n, m = n + 1 := ⟨m - 1, by omega⟩
  rw [run_pure D.dcd rfl rfl rfl]
  have e : exs ⟨run P W m h.length, runV P W m h.length, P.gv, h.length, W⟩ (slots0 divDf.ns [.int x, .int y]) h divDf.body = .ok (.rt (.int (Int.gcd x y))) h := by
    have g0 : ∀ h (x y : Val), Env.get [.v x, .v y] h 0 = some x := fun _ _ _ => rfl
    have g1 : ∀ h (x y : Val), Env.get [.v x, .v y] h 1 = some y := fun _ _ _ => rfl
    have bt : ∀ (C : Cx) (u v : Int), bindTs C [.v (.int x), .v (.int y)] h (.cons (.nm 1) (.cons (.nm 0) .nil)) [Val.int u, Val.int v].reverse = .ok [.v (.int u), .v (.int v)] h := fun _ _ _ => rfl
    simp only [divDf, slots0, List.map, List.length_cons, List.length_nil, Nat.sub_self, List.replicate, List.append_nil, exs, ex, evs, ev, g0, g1, ofO_some, R.bind_ok, prim_abs, abs_nat, bt]
    rw [div_loop W x.natAbs y.natAbs l]
    rfl
  exact (congrArg (leave true _) e).trans (lv_int rfl)
theorem keptF_m {m b : Nat} {h : Hp} {v : Val} {q : Rat} (e : FrIn v q) (sq : Sz 3000 q) (hm : 3 ≤ m) : run P W m b kf [v] h = .ok (frV q) h := by
  obtain ⟨m, rfl⟩ : ∃ n, m = n + 1 := ⟨m - 1, by omega⟩
  rw [run_pure D.dkf rfl rfl rfl]
  have dl : (q.den : Int).natAbs < W := Nat.lt_of_lt_of_le sq.2 (Nat.le_trans (Nat.pow_le_pow_right (by decide) (by decide)) D.w)
  have gc : Int.gcd q.num (q.den : Int) = 1 := q.reduced
  have d1 : ¬ ((q.den : Int) < 1) := by have := q.den_nz; omega
  have x0 : ∀ h b, prim b .ix [v, .int 0] h = .ok (.int q.num) h := fun h b => by rcases e with rfl | rfl <;> exact prim_ix (xs := [.int q.num, .int q.den]) rfl rfl rfl
  have x1 : ∀ h b, prim b .ix [v, .int 1] h = .ok (.int q.den) h := fun h b => by rcases e with rfl | rfl <;> exact prim_ix (xs := [.int q.num, .int q.den]) rfl rfl rfl
  have : exs ⟨run P W m h.length, runV P W m h.length, P.gv, h.length, W⟩ (slots0 (keptFDf ir iw cd).ns [v]) h (keptFDf ir iw cd).body = .ok (.rt (frV q)) h := by
    have g0 : ∀ h, Env.get [.v v] h 0 = some v := fun _ => rfl
    have e11 : (((1 : Nat) : Int) == 1) = true := rfl
    simp only [keptFDf, slots0, List.map, List.length_cons, List.length_nil, Nat.sub_self, List.replicate, List.append_nil, exs, ex, ev, evs, g0, ofO_some, R.bind_ok, List.getD_cons_zero, List.getD_cons_succ, isRow_m D e (show 2 ≤ m by omega), prim_notB, Bool.not_true, test_ff, x0, x1, isWhole_m D (show 1 ≤ m by omega), prim_lt, d1, decide_false, div_m D dl (show 1 ≤ m by omega), gc, prim_neI, e11]
    rfl
  exact (congrArg (leave true _) this).trans (lv_frV rfl)
theorem keptTI_ev {m b : Nat} {h : Hp} {ρ : Env} {v : Val} {r : List Rat} (e : RowIn v r) (sz : ∀ q ∈ r, Sz 3000 q) (b5 : ρ[5]? = some (.v v)) (nc : NoC ρ) (hl : ρ.length = 10) (hm : 3 ≤ m) : ev ⟨run P W m b, runV P W m b, P.gv, b, W⟩ ρ h (keptTI kf) = .ok (rowV r) h := by
  obtain ⟨ys, hv, a⟩ := e
  refine all2_map_comp (inj := frV) frV a ?_ fun v q mv mq hq => ?_
  · simp only [evIt, ev, Env.get, b5, ofO_some, R.bind_ok]
    rcases hv with rfl | rfl <;> rfl
  · have nw : NoC (wipe ρ [6, 7]) := nc.setu.setu
    have lw : (wipe ρ [6, 7]).length = 10 := by simp [wipe, hl]
    rw [bindT_nm nw (by omega), R.bind_ok]
    have c7 : ((wipe ρ [6, 7]).set 7 (.v v))[7]? = some (.v v) := List.getElem?_set_self (by omega)
    simp only [ev, evs, test_tt, Env.get, c7, ofO_some, R.bind_ok, List.map, List.getD_cons_zero, keptF_m D hq (sz q mq) hm]
theorem keptTF_ev {m b : Nat} {h : Hp} {ρ : Env} {v : Val} {T : List (List Rat)} (e : TabIn v T) (sz : ∀ r ∈ T, ∀ q ∈ r, Sz 3000 q) (b0 : ρ[0]? = some (.v v)) (nc : NoC ρ) (hl : ρ.length = 10) (hm : 3 ≤ m) : ev ⟨run P W m b, runV P W m b, P.gv, b, W⟩ ρ h (keptTF kf) = .ok (tabV T) h := by
  obtain ⟨ys, hv, a⟩ := e
  refine all2_map_comp (inj := rowV) rowV a ?_ fun v q mv mq hq => ?_
  · simp only [evIt, ev, Env.get, b0, ofO_some, R.bind_ok]
    rcases hv with rfl | rfl <;> rfl
  · have nw : NoC (wipe ρ [4, 5]) := nc.setu.setu
    have lw : (wipe ρ [4, 5]).length = 10 := by simp [wipe, hl]
    rw [bindT_nm nw (by omega), R.bind_ok]
    have c5 : ((wipe ρ [4, 5]).set 5 (.v v))[5]? = some (.v v) := List.getElem?_set_self (by omega)
    have k := keptTI_ev D (m := m) (b := b) (h := h) hq (sz q mq) c5 nw.set (by simpa using lw) hm
    rw [show ∀ ρ h, ev ⟨run P W m b, runV P W m b, P.gv, b, W⟩ ρ h (.cst (.bool true)) = .ok (.bool true) h from fun _ _ => by simp only [ev], test_tt, k, R.bind_ok]
theorem keptT_m {m b : Nat} {h : Hp} {v : Val} {T : List (List Rat)} {cols : Nat} (e : TabIn v T) (sz : ∀ r ∈ T, ∀ q ∈ r, Sz 3000 q) (ne : T ≠ []) (c0 : 1 ≤ cols) (hc : ∀ r ∈ T, r.length = cols) (hm : 4 ≤ m) : run P W m b kt [v] h = .ok (tabV T) h := by
  obtain ⟨m, rfl⟩ : ∃ n, m = n + 1 := ⟨m - 1, by omega⟩
  rw [run_pure D.dkt rfl rfl rfl]
  obtain ⟨ys, hv, a⟩ := id e
  have sq : isSeq v = true := by rcases hv with rfl | rfl <;> rfl
  let C : Cx := ⟨run P W m h.length, runV P W m h.length, P.gv, h.length, W⟩
  have c1 : ev C [.v v, .u, .u, .u, .u, .u, .u, .u, .u, .u] h (keptTA il) = .ok (.lst (T.map fun _ => Val.bool true)) h := by
    refine all2_map_comp (inj := rowV) (fun _ => Val.bool true) a ?_ fun v q mv mq hq => ?_
    · have g0 : ∀ h, Env.get [.v v, .u, .u, .u, .u, .u, .u, .u, .u, .u] h 0 = some v := fun _ => rfl
      simp only [evIt, ev, g0, ofO_some, R.bind_ok]
      rcases hv with rfl | rfl <;> rfl
    · have sv : isSeq v = true := by obtain ⟨_, z, _⟩ := hq; rcases z with rfl | rfl <;> rfl
      simp only [wipe, List.set_cons_succ, List.set_cons_zero, bindT, List.getElem?_cons_succ, List.getElem?_cons_zero, R.bind_ok, ev, evs, test_tt, Env.get, ofO_some, List.map, List.getD_cons_zero]
      show (R.bind (run P W m h.length il [v] h) _) = _
      rw [isList_m D sv (by omega)]; rfl
  have c2 : ev C [.v v, .u, .u, .u, .u, .u, .u, .u, .u, .u] h (keptTF kf) = .ok (tabV T) h := keptTF_ev D e sz rfl (NoC.of rfl) rfl (by omega)
  obtain ⟨r0, hr0⟩ : ∃ r0, T[0]? = some r0 := by
    cases T with
    | nil => exact absurd rfl ne
    | cons r _ => exact ⟨r, rfl⟩
  have m0 : r0 ∈ T := List.mem_of_getElem? hr0
  have x0 : ∀ h b, prim b .ix [tabV T, .int 0] h = .ok (rowV r0) h := fun h b => ix_tab (k := 0) hr0
  have c3 : ev C [.v v, .v (tabV T), .u, .u, .u, .u, .u, .u, .u, .u] h keptTB = .ok (.lst (T.map fun _ => Val.bool true)) h := by
    refine comp_map (xs := T) rowV (fun _ => Val.bool true) rfl fun r mr => ?_
    have g1 : ∀ h, Env.get [.v v, .v (tabV T), .u, .u, .u, .u, .u, .u, .u, .v (rowV r)] h 1 = some (tabV T) := fun _ => rfl
    have g9 : ∀ h, Env.get [.v v, .v (tabV T), .u, .u, .u, .u, .u, .u, .u, .v (rowV r)] h 9 = some (rowV r) := fun _ => rfl
    have ll : (((r.length : Nat) : Int) == ((r0.length : Nat) : Int)) = true := by rw [hc r mr, hc r0 m0]; simp
    simp only [wipe, List.set_cons_succ, List.set_cons_zero, bindT, List.getElem?_cons_succ, List.getElem?_cons_zero, R.bind_ok, ev, evs, test_tt, g1, g9, ofO_some, x0, len_row, prim_eqI, ll, nin_row]
  have ex1 : exs C (slots0 (keptTDf il kf).ns [v]) h (keptTDf il kf).body = .ok (.rt (tabV T)) h := by
    have sl : slots0 (keptTDf il kf).ns [v] = [.v v, .u, .u, .u, .u, .u, .u, .u, .u, .u] := rfl
    have g0 : ∀ h, Env.get [.v v, .u, .u, .u, .u, .u, .u, .u, .u, .u] h 0 = some v := fun _ => rfl
    have g1 : ∀ h, Env.get [.v v, .v (tabV T), .u, .u, .u, .u, .u, .u, .u, .u] h 1 = some (tabV T) := fun _ => rfl
    have il1 : C.call il [v] h = .ok (.bool true) h := isList_m D sq (by omega)
    have ln : prim C.base .len [v] h = .ok (.int ys.length) h := by rcases hv with rfl | rfl <;> rfl
    have y0 : (((ys.length : Nat) : Int) == 0) = false := by
      have : ys.length ≠ 0 := by rw [a.len]; exact fun z => ne (List.length_eq_zero_iff.mp z)
      simp; exact fun z => this (by rw [z]; rfl)
    have rne : r0 ≠ [] := fun z => by have := hc r0 m0; rw [z] at this; simp at this; omega
    rw [sl]
    simp only [keptTDf, exs, ex, ev, evs, g0, ofO_some, R.bind_ok, List.map, List.getD_cons_zero, il1, prim_notB, Bool.not_true, test_ff, ln, prim_eqI, y0, c1, allTrue, c2, bindT, List.getElem?_cons_succ, List.getElem?_cons_zero, List.set_cons_succ, List.set_cons_zero, g1, x0, newL, Bool.false_eq_true, if_false, eqNil_row rne, c3]
  exact (congrArg (leave true _) ex1).trans (lv_plain plain_tab rfl)
theorem needT_m {m b : Nat} {h : Hp} {v : Val} {T : List (List Rat)} {cols : Nat} (e : TabIn v T) (sz : ∀ r ∈ T, ∀ q ∈ r, Sz 3000 q) (ne : T ≠ []) (c0 : 1 ≤ cols) (hc : ∀ r ∈ T, r.length = cols) (hm : 5 ≤ m) : run P W m b nt [v] h = .ok (tabV T) h := by
  obtain ⟨m, rfl⟩ : ∃ n, m = n + 1 := ⟨m - 1, by omega⟩
  rw [run_pure D.dnt rfl rfl rfl]
  have ex1 : exs ⟨run P W m h.length, runV P W m h.length, P.gv, h.length, W⟩ (slots0 (needTDf kt).ns [v]) h (needTDf kt).body = .ok (.rt (tabV T)) h := by
    have sl : slots0 (needTDf kt).ns [v] = [.v v, .u] := rfl
    have g0 : ∀ h, Env.get [.v v, .u] h 0 = some v := fun _ => rfl
    have g1 : ∀ h, Env.get [.v v, .v (tabV T)] h 1 = some (tabV T) := fun _ => rfl
    have isn : ∀ h b, prim b .isN [tabV T] h = .ok (.bool false) h := fun _ _ => rfl
    rw [sl]
    simp only [needTDf, exs, ex, ev, evs, g0, ofO_some, R.bind_ok, List.map, List.getD_cons_zero, keptT_m D e sz ne c0 hc (show 4 ≤ m by omega), bindT, List.getElem?_cons_succ, List.getElem?_cons_zero, List.set_cons_succ, List.set_cons_zero, g1, isn, test_ff]
  exact (congrArg (leave true _) ex1).trans (lv_plain plain_tab rfl)
end
end Mp
/-! M12: lists in the heap: locks, what a value denotes, sameness. -/
namespace Mp
/-! ### locks -/
def lckE : Option Ob → Option Ob
  | some (.lst xs) => some (.lck xs)
  | o => o
def unlE : Option Ob → Option Ob
  | some (.lck xs) => some (.lst xs)
  | o => o
theorem lockAll_len : ∀ (l : List Nat) (h : Hp), (lockAll h l).length = h.length
  | [], _ => rfl
  | a :: r, h => by
    unfold lockAll
    split
    · rw [lockAll_len]; simp
    · rw [lockAll_len]
theorem unlockAll_len : ∀ (l : List Nat) (h : Hp), (unlockAll h l).length = h.length
  | [], _ => rfl
  | a :: r, h => by
    unfold unlockAll
    split
    · rw [unlockAll_len]; simp
    · rw [unlockAll_len]
theorem lockAll_at : ∀ (l : List Nat) (h : Hp) (i : Nat), (lockAll h l).at i = if i ∈ l then lckE (h.at i) else h.at i
  | [], h, i => by simp [lockAll]
  | a :: r, h, i => by
    unfold lockAll
    split
    · rename_i xs e
      rw [lockAll_at r, Hp.at_put0 (Hp.at_lt0 e)]
      by_cases hi : i = a
      · subst hi
        simp only [if_true, List.mem_cons, true_or, e, lckE]
        split <;> rfl
      · simp only [if_neg hi, List.mem_cons, hi, false_or, if_false]
    · rename_i e
      rw [lockAll_at r]
      by_cases hi : i = a
      · subst hi
        simp only [List.mem_cons, true_or, if_true]
        have : lckE (h.at i) = h.at i := by
          cases q : h.at i with
          | none => rfl
          | some o => cases o <;> first | rfl | exact absurd q (e _)
        rw [this]; split <;> rfl
      · simp only [List.mem_cons, hi, false_or]
theorem unlockAll_at : ∀ (l : List Nat) (h : Hp) (i : Nat), (unlockAll h l).at i = if i ∈ l then unlE (h.at i) else h.at i
  | [], h, i => by simp [unlockAll]
  | a :: r, h, i => by
    unfold unlockAll
    split
    · rename_i xs e
      rw [unlockAll_at r, Hp.at_put0 (Hp.at_lt0 e)]
      by_cases hi : i = a
      · subst hi
        simp only [if_true, List.mem_cons, true_or, e, unlE]
        split <;> rfl
      · simp only [if_neg hi, List.mem_cons, hi, false_or, if_false]
    · rename_i e
      rw [unlockAll_at r]
      by_cases hi : i = a
      · subst hi
        simp only [List.mem_cons, true_or, if_true]
        have : unlE (h.at i) = h.at i := by
          cases q : h.at i with
          | none => rfl
          | some o => cases o <;> first | rfl | exact absurd q (e _)
        rw [this]; split <;> rfl
      · simp only [List.mem_cons, hi, false_or]
theorem Hp.ext {h h' : Hp} (l : h.length = h'.length) (e : ∀ i, h.at i = h'.at i) : h = h' := by
  refine List.ext_getElem? fun i => ?_
  by_cases hi : i < h.length
  · have := e i
    unfold Hp.at at this
    rw [List.getElem?_eq_getElem hi, List.getElem?_eq_getElem (l ▸ hi)] at this ⊢
    simpa using this
  · rw [List.getElem?_eq_none (by omega), List.getElem?_eq_none (by omega)]
theorem unlock_lock {h : Hp} {l : List Nat} (e : ∀ a ∈ l, ∃ xs, h.at a = some (.lst xs)) : unlockAll (lockAll h l) l = h := by
  refine Hp.ext (by rw [unlockAll_len, lockAll_len]) fun i => ?_
  rw [unlockAll_at, lockAll_at]
  by_cases m : i ∈ l
  · obtain ⟨xs, q⟩ := e i m
    simp only [if_pos m, q]; rfl
  · simp only [if_neg m]
theorem items_lock {h : Hp} {l : List Nat} {v : Val} : v.items (lockAll h l) = v.items h := by
  cases v with
  | ref a =>
    show (match (lockAll h l).at a with | some (.lst xs) | some (.lck xs) => some xs | _ => Option.none) = (match h.at a with | some (.lst xs) | some (.lck xs) => some xs | _ => Option.none)
    rw [lockAll_at]
    by_cases m : a ∈ l
    · rw [if_pos m]
      cases h.at a with
      | none => rfl
      | some o => cases o <;> rfl
    · rw [if_neg m]
  | _ => rfl
theorem walk_items {h : Hp} {v : Val} {xs : List Val} (e : v.items h = some xs) : ∃ l, walkOf h v = some (xs, l) ∧ ∀ a ∈ l, ∃ ys, h.at a = some (.lst ys) := by
  cases v with
  | lst ys => cases e; exact ⟨[], rfl, fun a m => by cases m⟩
  | ref a =>
    have e : (match h.at a with | some (.lst xs) | some (.lck xs) => some xs | _ => Option.none) = some xs := e
    cases q : h.at a with
    | none => rw [q] at e; cases e
    | some o =>
      rw [q] at e
      cases o with
      | lst ys => cases e; exact ⟨[a], by simp only [walkOf, q], fun b m => by rw [List.mem_singleton.mp m]; exact ⟨_, q⟩⟩
      | lck ys => cases e; exact ⟨[], by simp only [walkOf, q], fun a m => by cases m⟩
      | _ => cases e
  | _ => cases e
theorem comp_lock {C : Cx} {ρ : Env} {h : Hp} {elt c : E} {os : List Nat} {t : At} {it : It} {xs : List Val} {l : List Nat} {o : Val → Option Val} (hi : evIt C ρ h it = .ok (xs, l) h) (hl : ∀ a ∈ l, ∃ ys, h.at a = some (.lst ys))
    (e : ∀ x ∈ xs, ((bindT C (wipe ρ os) (lockAll h l) t x).bind fun ρ2 h => (ev C ρ2 h c).test (fun _ h => (ev C ρ2 h elt).bind fun v h => .ok (some v) h) fun _ h => .ok Option.none h) = .ok (o x) (lockAll h l)) :
    ev C ρ h (.comp false elt os t it c) = .ok (.lst (xs.filterMap o)) h := by
  rw [ev, hi]
  simp only [R.bind_ok]
  rw [loopC_pure (o := o) e]
  simp only [R.unlock, unlock_lock hl, R.calm, R.bind_ok, newL, Bool.false_eq_true, if_false]
/-! ### what a value denotes -/
def Den (h : Hp) : Nat → Val → Val → Prop
  | 0, v, w => isAtom w = true ∧ v = w
  | k + 1, v, w => match w with
    | .tup ws => ∃ vs, v = .tup vs ∧ All2 (Den h k) vs ws
    | .lst ws => ∃ vs, v.items h = some vs ∧ All2 (Den h k) vs ws
    | w => isAtom w = true ∧ v = w
theorem Den.lock {h : Hp} {l : List Nat} : ∀ {k : Nat} {v w : Val}, Den h k v w → Den (lockAll h l) k v w
  | 0, v, w, d => d
  | k + 1, v, .tup ws, ⟨vs, e, a⟩ => ⟨vs, e, a.imp fun _ _ d => Den.lock d⟩
  | k + 1, v, .lst ws, ⟨vs, e, a⟩ => ⟨vs, by rw [items_lock]; exact e, a.imp fun _ _ d => Den.lock d⟩
  | k + 1, v, .none, d => d
  | k + 1, v, .bool _, d => d
  | k + 1, v, .int _, d => d
  | k + 1, v, .str _, d => d
  | k + 1, v, .dct _ _, d => d
  | k + 1, v, .ref _, d => d
  | k + 1, v, .fn _, d => d
  | k + 1, v, .clo _ _, d => d
  | k + 1, v, .exc _ _, d => d
theorem All2.refl' {α : Type} {Q : α → α → Prop} {xs : List α} (h : ∀ x ∈ xs, Q x x) : All2 Q xs xs := All2.same h
theorem Den.refl {h : Hp} : ∀ {k : Nat} {w : Val}, Plain k w → Den h k w w
  | 0, v, p => by cases v <;> first | exact ⟨rfl, rfl⟩ | exact p.elim
  | k + 1, .tup ws, p => ⟨ws, rfl, All2.same fun x m => Den.refl (p x m)⟩
  | k + 1, .lst ws, p => ⟨ws, rfl, All2.same fun x m => Den.refl (p x m)⟩
  | k + 1, .none, _ => ⟨rfl, rfl⟩
  | k + 1, .bool _, _ => ⟨rfl, rfl⟩
  | k + 1, .int _, _ => ⟨rfl, rfl⟩
  | k + 1, .str _, _ => ⟨rfl, rfl⟩
  | k + 1, .dct _ _, p => p.elim
  | k + 1, .ref _, p => p.elim
  | k + 1, .fn _, p => p.elim
  | k + 1, .clo _ _, p => p.elim
  | k + 1, .exc _ _, p => p.elim
theorem PlainS.plain : ∀ {k : Nat} {v : Val}, PlainS k v → Plain k v
  | 0, v, p => by cases v <;> first | trivial | exact p.elim
  | k + 1, .tup ws, p => fun x m => (p x m).plain
  | k + 1, .lst ws, p => fun x m => (p x m).plain
  | k + 1, .none, _ => trivial
  | k + 1, .bool _, _ => trivial
  | k + 1, .int _, _ => trivial
  | k + 1, .str _, _ => trivial
  | k + 1, .dct _ _, p => p.elim
  | k + 1, .ref _, p => p.elim
  | k + 1, .fn _, p => p.elim
  | k + 1, .clo _ _, p => p.elim
  | k + 1, .exc _ _, p => p.elim
theorem kind_items {h : Hp} {v : Val} {xs : List Val} (e : v.items h = some xs) : v.kind h = some "list" := by
  cases v with
  | lst _ => rfl
  | ref a =>
    have e : (match h.at a with | some (.lst xs) | some (.lck xs) => some xs | _ => Option.none) = some xs := e
    show (match h.at a with | some (.lst _) | some (.lck _) => some "list" | _ => Option.none) = _
    cases q : h.at a with
    | none => rw [q] at e; cases e
    | some o => rw [q] at e; cases o <;> first | rfl | cases e
  | _ => cases e
theorem len_items {b : Nat} {h : Hp} {v : Val} {xs : List Val} (e : v.items h = some xs) : prim b .len [v] h = .ok (.int xs.length) h := by
  cases v with
  | lst _ => cases e; rfl
  | ref a => exact prim_lenR (xs := xs) e
  | _ => cases e
theorem All2.zip {α : Type} {Q : Val → α → Prop} {vs us : List Val} {ws : List α} (a : All2 Q vs ws) : ∀ (b : All2 Q us ws), ∀ z ∈ zipV vs us, ∃ x y w, z = .tup [x, y] ∧ w ∈ ws ∧ Q x w ∧ Q y w := by
  induction a generalizing us with
  | nil => intro b z m; cases b; cases m
  | cons h _ ih =>
    intro b z m
    cases b with
    | cons h2 b =>
      rw [zipV] at m
      rcases List.mem_cons.mp m with rfl | m
      · exact ⟨_, _, _, rfl, List.mem_cons_self .., h, h2⟩
      · obtain ⟨x, y, w, e, mw, q⟩ := ih b z m
        exact ⟨x, y, w, e, List.mem_cons_of_mem _ mw, q⟩
/-- two values that denote the same -/
theorem same2_run {P : Prog} {W f : Nat} (d : P.defs f = some (sameDf f)) : ∀ (k n b : Nat) (h : Hp) (v u w : Val), PlainS k w → Den h k v w → Den h k u w → run P W (n + k + 1) b f [v, u] h = .ok (.bool true) h := fun k => by
  induction k with
  | zero =>
    intro n b h v u w pw dv du
    rw [dv.2, du.2]
    exact same_run d 0 n b w pw
  | succ k ih =>
    intro n b h v u w pw dv du
    have atom : isAtom w = true → v = w → u = w → run P W (n + (k + 1) + 1) b f [v, u] h = .ok (.bool true) h := fun _ e1 e2 => by
      rw [e1, e2]; exact same_run d (k + 1) n b w pw
    rw [show n + (k + 1) + 1 = n + k + 1 + 1 by omega] at atom ⊢
    have seqc : ∀ (vs us ws : List Val) (lv lu : List Nat), (∀ x ∈ ws, PlainS k x) → All2 (Den h k) vs ws → All2 (Den h k) us ws → walkOf h v = some (vs, lv) → walkOf h u = some (us, lu) → (∀ a ∈ lv ++ lu, ∃ xs, h.at a = some (.lst xs)) →
        (∀ b, prim b .len [v] h = .ok (.int vs.length) h) → (∀ b, prim b .len [u] h = .ok (.int us.length) h) → v.kind h = u.kind h → (v.kind h = some "list" ∨ v.kind h = some "tuple") → run P W (n + k + 1 + 1) b f [v, u] h = .ok (.bool true) h := by
      intro vs us ws lv lu hw av au wv wu hl lv' lu' ek kd
      rw [run_pure d rfl rfl rfl]
      let C : Cx := ⟨run P W (n + k + 1) h.length, runV P W (n + k + 1) h.length, P.gv, h.length, W⟩
      have g0 : ∀ h (a b c : Slot), Env.get [.v v, .v u, a, b, c] h 0 = some v := fun _ _ _ _ => rfl
      have g1 : ∀ h (a b c : Slot), Env.get [.v v, .v u, a, b, c] h 1 = some u := fun _ _ _ _ => rfl
      have cc : ev C [.v v, .v u, .u, .u, .u] h (sameC f) = .ok (.lst ((zipV vs us).map fun _ => Val.bool true)) h := by
        unfold sameC
        have hi : evIt C [.v v, .v u, .u, .u, .u] h (.zip (.cons (.var 0) (.cons (.var 1) .nil))) = .ok (zipV vs us, lv ++ lu) h := by
          simp only [evIt, ev, evs, g0, g1, ofO_some, R.bind_ok, zipOp, wv, wu]
        rw [comp_lock (o := fun x => some (.bool true)) hi hl fun z mz => ?_]
        · have := fm_const (g := id) (c := Val.bool true) (zipV vs us)
          rw [List.map_id] at this
          rw [this]
        · obtain ⟨x, y, w', rfl, mw, q1, q2⟩ := av.zip au z mz
          have := ih n h.length (lockAll h (lv ++ lu)) x y w' (hw w' mw) q1.lock q2.lock
          have e34 : bindT C (wipe [.v v, .v u, .u, .u, .u] [2, 3, 4]) (lockAll h (lv ++ lu)) (.tup (.cons (.nm 3) (.cons (.nm 4) .nil))) (.tup [x, y]) = .ok [.v v, .v u, .u, .v x, .v y] (lockAll h (lv ++ lu)) := rfl
          have k3 : ∀ h, Env.get [.v v, .v u, .u, .v x, .v y] h 3 = some x := fun _ => rfl
          have k4 : ∀ h, Env.get [.v v, .v u, .u, .v x, .v y] h 4 = some y := fun _ => rfl
          rw [e34]
          simp only [R.bind_ok, ev, evs, test_tt, k3, k4, ofO_some, List.map, List.getD_cons_zero, List.getD_cons_succ]
          show R.bind (run P W (n + k + 1) h.length f [x, y] (lockAll h (lv ++ lu))) _ = _
          rw [this]; rfl
      have e : exs C (slots0 (sameDf f).ns [v, u]) h (sameDf f).body = .ok (.rt (.bool true)) h := by
        have sl : slots0 (sameDf f).ns [v, u] = [.v v, .v u, .u, .u, .u] := rfl
        have ll : ((vs.length : Int) == (us.length : Int)) = true := by rw [av.len, au.len]; simp
        rcases kd with kd | kd
        · have ku := ek.symm.trans kd
          have ia : ∀ b, prim b (.isi [.list, .tuple]) [u] h = .ok (.bool true) h := fun b => prim_isi ku
          have il : ∀ b, prim b (.isi [.list]) [v] h = .ok (.bool true) h := fun b => prim_isi kd
          have il2 : ∀ b, prim b (.isi [.list]) [u] h = .ok (.bool true) h := fun b => prim_isi ku
          have it : ∀ b, prim b (.isi [.tuple]) [v] h = .ok (.bool false) h := fun b => prim_isi kd
          have it2 : ∀ b, prim b (.isi [.tuple]) [u] h = .ok (.bool false) h := fun b => prim_isi ku
          rw [sl]
          simp only [sameDf, exs, ex, evs, ev, g0, g1, ofO_some, R.bind_ok, ia, il, il2, it, it2, neBF, test_tt, test_ff, lv', lu', prim_eqI, ll, cc, allTrue]
        · have ku := ek.symm.trans kd
          have ia : ∀ b, prim b (.isi [.list, .tuple]) [u] h = .ok (.bool true) h := fun b => prim_isi ku
          have il : ∀ b, prim b (.isi [.list]) [v] h = .ok (.bool false) h := fun b => prim_isi kd
          have il2 : ∀ b, prim b (.isi [.list]) [u] h = .ok (.bool false) h := fun b => prim_isi ku
          have it : ∀ b, prim b (.isi [.tuple]) [v] h = .ok (.bool true) h := fun b => prim_isi kd
          have it2 : ∀ b, prim b (.isi [.tuple]) [u] h = .ok (.bool true) h := fun b => prim_isi ku
          rw [sl]
          simp only [sameDf, exs, ex, evs, ev, g0, g1, ofO_some, R.bind_ok, ia, il, il2, it, it2, neBF, test_tt, test_ff, lv', lu', prim_eqI, ll, cc, allTrue]
      exact (congrArg (leave true _) e).trans (lv_bool rfl)
    cases w with
    | tup ws =>
      obtain ⟨vs, rfl, av⟩ := dv
      obtain ⟨us, rfl, au⟩ := du
      exact seqc vs us ws [] [] pw av au rfl rfl (fun a m => by cases m) (fun _ => rfl) (fun _ => rfl) rfl (.inr rfl)
    | lst ws =>
      obtain ⟨vs, ev', av⟩ := dv
      obtain ⟨us, eu, au⟩ := du
      obtain ⟨lv, wv, hv⟩ := walk_items ev'
      obtain ⟨lu, wu, hu⟩ := walk_items eu
      exact seqc vs us ws lv lu pw av au wv wu (fun a m => (List.mem_append.mp m).elim (hv a) (hu a)) (fun _ => len_items ev') (fun _ => len_items eu) ((kind_items ev').trans (kind_items eu).symm) (.inl (kind_items ev'))
    | none => exact atom rfl dv.2 du.2
    | bool _ => exact atom rfl dv.2 du.2
    | int _ => exact atom rfl dv.2 du.2
    | str _ => exact atom rfl dv.2 du.2
    | _ => exact pw.elim
end Mp
/-! M13: values whose lists are their own; spoiling them. -/
namespace Mp
inductive OwnL (O : Val → Val → List Nat → Prop) : List Val → List Val → List Nat → Prop
  | nil : OwnL O [] [] []
  | cons {v w F vs ws F2} : O v w F → OwnL O vs ws F2 → (∀ a ∈ F, a ∉ F2) → OwnL O (v :: vs) (w :: ws) (F ++ F2)
theorem OwnL.snoc {O : Val → Val → List Nat → Prop} {vs ws : List Val} {F : List Nat} {x y : Val} (o : OwnL O vs ws F) (h : O x y []) : OwnL O (vs ++ [x]) (ws ++ [y]) F := by
  induction o with
  | nil => exact OwnL.cons h .nil (fun a m => by cases m)
  | cons h1 _ n ih => exact OwnL.cons h1 ih n
/-- v denotes w, its lists, at F, are its own -/
def Own (h : Hp) : Nat → Val → Val → List Nat → Prop
  | 0, v, w, F => isAtom w = true ∧ v = w ∧ F = []
  | k + 1, v, w, F => match w with
    | .tup ws => ∃ vs, v = .tup vs ∧ OwnL (Own h k) vs ws F
    | .lst ws => ∃ a vs F', v = .ref a ∧ F = a :: F' ∧ a ∉ F' ∧ h.at a = some (.lst vs) ∧ OwnL (Own h k) vs ws F'
    | w => isAtom w = true ∧ v = w ∧ F = []
theorem OwnL.imp {O O2 : Val → Val → List Nat → Prop} {vs ws : List Val} {F : List Nat} (o : OwnL O vs ws F) (k : ∀ v w G, (∀ a ∈ G, a ∈ F) → O v w G → O2 v w G) : OwnL O2 vs ws F := by
  induction o with
  | nil => exact .nil
  | cons h _ n ih => exact .cons (k _ _ _ (fun a m => List.mem_append_left _ m) h) (ih fun v w G m => k v w G fun a ma => List.mem_append_right _ (m a ma)) n
theorem OwnL.all2 {O : Val → Val → List Nat → Prop} {Q : Val → Val → Prop} {vs ws : List Val} {F : List Nat} (o : OwnL O vs ws F) (k : ∀ v w G, O v w G → Q v w) : All2 Q vs ws := by
  induction o with
  | nil => exact .nil
  | cons h _ _ ih => exact .cons (k _ _ _ h) ih
theorem Own.frame {h h' : Hp} : ∀ {k : Nat} {v w : Val} {F : List Nat}, (∀ a ∈ F, h'.at a = h.at a) → Own h k v w F → Own h' k v w F
  | 0, v, w, F, _, o => o
  | k + 1, v, .tup ws, F, e, ⟨vs, h1, h2⟩ => ⟨vs, h1, h2.imp fun v w G m o => Own.frame (fun a ma => e a (m a ma)) o⟩
  | k + 1, v, .lst ws, F, e, ⟨a, vs, F', h1, h2, h3, h4, h5⟩ => ⟨a, vs, F', h1, h2, h3, by rw [e a (by rw [h2]; exact List.mem_cons_self ..)]; exact h4, h5.imp fun v w G m o => Own.frame (fun a ma => e a (by rw [h2]; exact List.mem_cons_of_mem _ (m a ma))) o⟩
  | k + 1, v, .none, F, _, o => o
  | k + 1, v, .bool _, F, _, o => o
  | k + 1, v, .int _, F, _, o => o
  | k + 1, v, .str _, F, _, o => o
  | k + 1, v, .dct _ _, F, _, o => o
  | k + 1, v, .ref _, F, _, o => o
  | k + 1, v, .fn _, F, _, o => o
  | k + 1, v, .clo _ _, F, _, o => o
  | k + 1, v, .exc _ _, F, _, o => o
theorem Own.den {h : Hp} : ∀ {k : Nat} {v w : Val} {F : List Nat}, Own h k v w F → Den h k v w
  | 0, v, w, F, o => ⟨o.1, o.2.1⟩
  | k + 1, v, .tup ws, F, ⟨vs, h1, h2⟩ => ⟨vs, h1, h2.all2 fun v w G o => Own.den o⟩
  | k + 1, v, .lst ws, F, ⟨a, vs, F', h1, h2, h3, h4, h5⟩ => ⟨vs, by rw [h1]; show (match h.at a with | some (.lst xs) | some (.lck xs) => some xs | _ => Option.none) = _; rw [h4], h5.all2 fun v w G o => Own.den o⟩
  | k + 1, v, .none, F, o => ⟨o.1, o.2.1⟩
  | k + 1, v, .bool _, F, o => ⟨o.1, o.2.1⟩
  | k + 1, v, .int _, F, o => ⟨o.1, o.2.1⟩
  | k + 1, v, .str _, F, o => ⟨o.1, o.2.1⟩
  | k + 1, v, .dct _ _, F, o => ⟨o.1, o.2.1⟩
  | k + 1, v, .ref _, F, o => ⟨o.1, o.2.1⟩
  | k + 1, v, .fn _, F, o => ⟨o.1, o.2.1⟩
  | k + 1, v, .clo _ _, F, o => ⟨o.1, o.2.1⟩
  | k + 1, v, .exc _ _, F, o => ⟨o.1, o.2.1⟩
def late : Val := .str (PySem.Str.ofString "late")
/-- each list gets a word more -/
def spoil : Nat → Val → Val
  | k + 1, .lst ws => .lst (ws.map (spoil k) ++ [late])
  | k + 1, .tup ws => .tup (ws.map (spoil k))
  | _, w => w
/-- at most n parts each -/
def Few (n : Nat) : Nat → Val → Prop
  | k + 1, .tup ws => ws.length ≤ n ∧ ∀ w ∈ ws, Few n k w
  | k + 1, .lst ws => ws.length ≤ n ∧ ∀ w ∈ ws, Few n k w
  | _, _ => True
def spoiltB (sp : Nat) : Ss := (.cons (.expr (.call sp [0] (.cons (.var 1) .nil))) .nil)
def spoiltDf (sp : Nat) : Df := ⟨1, 2, [], true, (.cons (.ifs (.prim (.isi [.list, .tuple]) (.cons (.var 0) .nil)) (.cons (.for_ (.nm 1) (.ev (.var 0)) (spoiltB sp))
 .nil) .nil)
 (.cons (.ifs (.prim (.isi [.list]) (.cons (.var 0) .nil)) (.cons (.expr (.meth .append (.var 0) (.cons (.cst (.str (PySem.Str.ofString "late"))) .nil)))
 .nil) .nil)
 .nil))⟩
theorem lv_none {n : Nat} {ρ : Env} {h : Hp} (e : h.length = n) : leave true n (.ok (.nx ρ) h) = .ok .none h := by
  show (match freeze n h .none with | some w => R.ok w (h.take n) | Option.none => .no) = _
  have : freeze n h .none = some .none := rfl
  rw [this, ← e, List.take_length]
theorem spoilt_run {P : Prog} {W f : Nat} (d : P.defs f = some (spoiltDf f)) : ∀ (k n b : Nat) (h : Hp) (v w : Val) (F : List Nat), Own h k v w F → Few 50000 k w →
    ∃ h', run P W (n + k + 1) b f [v] h = .ok .none h' ∧ h'.length = h.length ∧ (∀ i, i ∉ F → h'.at i = h.at i) ∧ Own h' k v (spoil k w) F := fun k => by
  have atomc : ∀ (n b : Nat) (h : Hp) (v : Val), isAtom v = true → run P W (n + 1) b f [v] h = .ok .none h := fun n b h v ha => by
    rw [run_pure d rfl rfl rfl]
    have e : exs ⟨run P W n h.length, runV P W n h.length, P.gv, h.length, W⟩ (slots0 (spoiltDf f).ns [v]) h (spoiltDf f).body = .ok (.nx [.v v, .u]) h := by
      cases v <;> first | rfl | simp [isAtom] at ha
    exact (congrArg (leave true _) e).trans (lv_none rfl)
  induction k with
  | zero =>
    rintro n b h v w F ⟨ha, rfl, rfl⟩ _
    exact ⟨h, atomc (n + 0) b h v ha, rfl, fun _ _ => rfl, ha, rfl, rfl⟩
  | succ k ih =>
    intro n b h v w F o fw
    -- the parts, one by one
    have parts : ∀ (vs ws : List Val) (F : List Nat) (h : Hp) (hb : Nat) (s1 : Slot), OwnL (Own h k) vs ws F → (∀ w ∈ ws, Few 50000 k w) → (∀ a, s1 ≠ .c a) →
        ∃ h' s2, loopF (fun ρ x h => (bindT ⟨run P W (n + k + 1) hb, runV P W (n + k + 1) hb, P.gv, hb, W⟩ ρ h (.nm 1) x).bind fun ρ h => exs ⟨run P W (n + k + 1) hb, runV P W (n + k + 1) hb, P.gv, hb, W⟩ ρ h (spoiltB f)) vs [.v v, s1] h = .ok (.nx [.v v, s2]) h' ∧ h'.length = h.length ∧ (∀ i, i ∉ F → h'.at i = h.at i) ∧ OwnL (Own h' k) vs (ws.map (spoil k)) F := by
      intro vs
      induction vs with
      | nil => intro ws F h hb s1 o _ _; cases o; exact ⟨h, s1, rfl, rfl, fun _ _ => rfl, .nil⟩
      | cons x vs ihv =>
        intro ws F h hb s1 o hf hs
        cases o with
        | @cons _ w G _ ws F2 o1 o2 nd =>
          obtain ⟨h1, e1, l1, a1, ow1⟩ := ih n hb h x w G o1 (hf w (List.mem_cons_self ..))
          have o2' : OwnL (Own h1 k) vs ws F2 := o2.imp fun v w G' m o => Own.frame (fun a ma => a1 a fun z => nd a z (m a ma)) o
          obtain ⟨h2, s2, e2, l2, a2, ow2⟩ := ihv ws F2 h1 hb (.v x) o2' (fun w mw => hf w (List.mem_cons_of_mem _ mw)) (fun a z => by cases z)
          refine ⟨h2, s2, ?_, l2.trans l1, fun i hi => ?_, .cons (Own.frame (fun a ma => a2 a (nd a ma)) ow1) ow2 nd⟩
          · have bt : ∀ h, bindT ⟨run P W (n + k + 1) hb, runV P W (n + k + 1) hb, P.gv, hb, W⟩ [.v v, s1] h (.nm 1) x = .ok [.v v, .v x] h := fun h => by
              cases s1 with
              | c a => exact absurd rfl (hs a)
              | _ => rfl
            have g1 : ∀ h, Env.get [.v v, .v x] h 1 = some x := fun _ => rfl
            rw [loopF, bt]
            simp only [R.bind_ok, spoiltB, exs, ex, ev, evs, g1, ofO_some, List.map, List.getD_cons_zero, e1]
            exact e2
          · rw [a2 i fun z => hi (List.mem_append_right _ z), a1 i fun z => hi (List.mem_append_left _ z)]
    let C : Cx := ⟨run P W (n + k + 1) h.length, runV P W (n + k + 1) h.length, P.gv, h.length, W⟩
    have g0 : ∀ h (s : Slot), Env.get [.v v, s] h 0 = some v := fun _ _ => rfl
    have sl : slots0 (spoiltDf f).ns [v] = [.v v, .u] := rfl
    cases w with
    | tup ws =>
      obtain ⟨vs, rfl, ol⟩ := o
      obtain ⟨h', s2, e, l, a, ow⟩ := parts vs ws F h h.length .u ol fw.2 (fun a z => by cases z)
      refine ⟨h', ?_, l, a, vs, rfl, ow⟩
      rw [show n + (k + 1) + 1 = n + k + 1 + 1 by omega, run_pure d rfl rfl rfl]
      have i1 : ∀ h b, prim b (.isi [.list, .tuple]) [.tup vs] h = .ok (.bool true) h := fun _ _ => rfl
      have i2 : ∀ h b, prim b (.isi [.list]) [.tup vs] h = .ok (.bool false) h := fun _ _ => rfl
      have wk : walkOf h (.tup vs) = some (vs, []) := rfl
      have ee : exs C (slots0 (spoiltDf f).ns [.tup vs]) h (spoiltDf f).body = .ok (.nx [.v (.tup vs), s2]) h' := by
        rw [sl]
        simp only [spoiltDf, exs, ex, evIt, ev, evs, g0, ofO_some, R.bind_ok, i1, test_tt, wk, lockAll, e, C, R.unlock, unlockAll, i2, test_ff]
      exact (congrArg (leave true _) ee).trans (lv_none l)
    | lst ws =>
      obtain ⟨a, vs, F', rfl, rfl, na, ea, ol⟩ := o
      have al : a < h.length := Hp.at_lt0 ea
      have ol' : OwnL (Own (h.put a (.lck vs)) k) vs ws F' := ol.imp fun v w G m o => Own.frame (fun b mb => Hp.at_put_ne fun z => na (m a (z ▸ mb))) o
      obtain ⟨h1, s2, e, l, a1, ow⟩ := parts vs ws F' (h.put a (.lck vs)) h.length .u ol' fw.2 (fun a z => by cases z)
      have at1 : h1.at a = some (.lck vs) := by rw [a1 a na, Hp.at_put_same ea]
      have un : unlockAll h1 [a] = h1.put a (.lst vs) := by simp only [unlockAll, at1]
      have at2 : Hp.at (h1.put a (.lst vs)) a = some (.lst vs) := Hp.at_put_same at1
      have vl : vs.length ≤ 50000 := by
        have := (ol.all2 (Q := fun _ _ => True) fun _ _ _ _ => trivial).len
        have := fw.1; omega
      have len1 : (h1.put a (.lst vs)).length = h.length := by rw [Hp.len_put0, l, Hp.len_put0]
      have ap : prim h.length .append [.ref a, .str (PySem.Str.ofString "late")] (h1.put a (.lst vs)) = .ok .none (h1.put a (.lst (vs ++ [late]))) := by
        rw [prim_appendI at2 (by simp [wok, Val.low]) (by omega), Hp.put_put]; rfl
      refine ⟨h1.put a (.lst (vs ++ [late])), ?_, by rw [Hp.len_put0, l, Hp.len_put0], fun i hi => ?_, a, vs ++ [late], F', rfl, rfl, na, Hp.at_put_same at1, ?_⟩
      · rw [show n + (k + 1) + 1 = n + k + 1 + 1 by omega, run_pure d rfl rfl rfl]
        have it0 : (Val.ref a).items h = some vs := by show (match h.at a with | some (.lst xs) | some (.lck xs) => some xs | _ => Option.none) = _; rw [ea]
        have it2 : (Val.ref a).items (h1.put a (.lst vs)) = some vs := by show (match Hp.at (h1.put a (.lst vs)) a with | some (.lst xs) | some (.lck xs) => some xs | _ => Option.none) = _; rw [at2]
        have i1 : ∀ b, prim b (.isi [.list, .tuple]) [.ref a] h = .ok (.bool true) h := fun b => prim_isi (kind_items it0)
        have i2 : ∀ b, prim b (.isi [.list]) [.ref a] (h1.put a (.lst vs)) = .ok (.bool true) (h1.put a (.lst vs)) := fun b => prim_isi (kind_items it2)
        have wk : walkOf h (.ref a) = some (vs, [a]) := by simp only [walkOf, ea]
        have lk : lockAll h [a] = h.put a (.lck vs) := by simp only [lockAll, ea]
        have ee : exs C (slots0 (spoiltDf f).ns [.ref a]) h (spoiltDf f).body = .ok (.nx [.v (.ref a), s2]) (h1.put a (.lst (vs ++ [late]))) := by
          rw [sl]
          simp only [spoiltDf, exs, ex, evIt, ev, evs, g0, ofO_some, R.bind_ok, i1, test_tt, wk, lk, e, C, R.unlock, un, i2, isL_ref at2, if_true, ap]
        exact (congrArg (leave true _) ee).trans (lv_none (by rw [Hp.len_put0, l, Hp.len_put0]))
      · have : i ≠ a := fun z => hi (by rw [z]; exact List.mem_cons_self ..)
        rw [Hp.at_put_ne this, a1 i fun z => hi (List.mem_cons_of_mem _ z), Hp.at_put_ne this]
      · have ow' : OwnL (Own (h1.put a (.lst (vs ++ [late]))) k) vs (ws.map (spoil k)) F' := ow.imp fun v w G m o => Own.frame (fun b mb => Hp.at_put_ne fun z => na (m a (z ▸ mb))) o
        have : OwnL (Own (h1.put a (.lst (vs ++ [late]))) k) (vs ++ [late]) (ws.map (spoil k) ++ [late]) F' := by
          have lt : Own (h1.put a (.lst (vs ++ [late]))) k late late [] := by cases k <;> exact ⟨rfl, rfl, rfl⟩
          exact ow'.snoc lt
        exact this
    | none => exact ⟨h, by have := o.2.1; subst this; exact atomc _ b h _ rfl, rfl, fun _ _ => rfl, o⟩
    | bool _ => exact ⟨h, by have := o.2.1; subst this; exact atomc _ b h _ rfl, rfl, fun _ _ => rfl, o⟩
    | int _ => exact ⟨h, by have := o.2.1; subst this; exact atomc _ b h _ rfl, rfl, fun _ _ => rfl, o⟩
    | str _ => exact ⟨h, by have := o.2.1; subst this; exact atomc _ b h _ rfl, rfl, fun _ _ => rfl, o⟩
    | dct _ _ => exact absurd o.1 (by simp [isAtom])
    | ref _ => exact absurd o.1 (by simp [isAtom])
    | fn _ => exact absurd o.1 (by simp [isAtom])
    | clo _ _ => exact absurd o.1 (by simp [isAtom])
    | exc _ _ => exact absurd o.1 (by simp [isAtom])
end Mp
/-! M14: loops that look for something; two generators; entries of a table. -/
namespace Mp
/-- a loop that ends at the first thing found -/
theorem for_some {α β : Type} {C : Cx} {ρ : Env} {h : Hp} (t : At) {it : It} (b : Ss) {xs : List α} (inj : α → Val) (Inv : Env → Prop) (o : α → Option β) (val : β → Val) (hp : β → Hp) (hi : evIt C ρ h it = .ok (xs.map inj, []) h) (h0 : Inv ρ)
    (st : ∀ x ∈ xs, ∀ ρ, Inv ρ → match o x with
      | Option.none => ∃ ρ', ((bindT C ρ h t (inj x)).bind fun ρ h => exs C ρ h b) = .ok (.nx ρ') h ∧ Inv ρ'
      | some y => ((bindT C ρ h t (inj x)).bind fun ρ h => exs C ρ h b) = .ok (.rt (val y)) (hp y)) :
    match xs.findSome? o with
      | Option.none => ∃ ρ', ex C ρ h (.for_ t it b) = .ok (.nx ρ') h ∧ Inv ρ'
      | some y => ex C ρ h (.for_ t it b) = .ok (.rt (val y)) (hp y) := by
  have go : ∀ (ys : List α) (ρ : Env), (∀ x ∈ ys, x ∈ xs) → Inv ρ → match ys.findSome? o with
      | Option.none => ∃ ρ', loopF (fun ρ x h => (bindT C ρ h t x).bind fun ρ h => exs C ρ h b) (ys.map inj) ρ h = .ok (.nx ρ') h ∧ Inv ρ'
      | some y => loopF (fun ρ x h => (bindT C ρ h t x).bind fun ρ h => exs C ρ h b) (ys.map inj) ρ h = .ok (.rt (val y)) (hp y) := by
    intro ys
    induction ys with
    | nil => intro ρ _ i; exact ⟨ρ, rfl, i⟩
    | cons y ys ih =>
      intro ρ m i
      have s := st y (m y (List.mem_cons_self ..)) ρ i
      rw [List.findSome?_cons]
      cases q : o y with
      | none =>
        rw [q] at s
        obtain ⟨ρ1, e, i1⟩ := s
        have := ih ρ1 (fun x hx => m x (List.mem_cons_of_mem _ hx)) i1
        simp only
        rw [List.map_cons, loopF, e]
        exact this
      | some z =>
        rw [q] at s
        simp only at s ⊢
        rw [List.map_cons, loopF, s]
        rfl
  have e0 : ex C ρ h (.for_ t it b) = (loopF (fun ρ x h => (bindT C ρ h t x).bind fun ρ h => exs C ρ h b) (xs.map inj) ρ h).unlock [] := by
    rw [ex, hi]; rfl
  have g := go xs ρ (fun _ m => m) h0
  cases q : xs.findSome? o with
  | none =>
    rw [q] at g
    obtain ⟨ρ', e, i⟩ := g
    exact ⟨ρ', by rw [e0, e]; rfl, i⟩
  | some y =>
    rw [q] at g
    simp only at g ⊢
    rw [e0, g]; rfl
/-- a loop that appends -/
theorem for_app {α : Type} {C : Cx} {ρ : Env} (H : List Val → Hp) (t : At) {it : It} (b : Ss) {xs : List α} (inj : α → Val) (Inv : Env → Prop) (f : α → List Val) (N : Nat) {vs : List Val} (hi : evIt C ρ (H vs) it = .ok (xs.map inj, []) (H vs)) (h0 : Inv ρ) (hN : vs.length + (xs.flatMap f).length ≤ N)
    (st : ∀ x ∈ xs, ∀ ρ vs, Inv ρ → vs.length + (f x).length ≤ N → ∃ ρ', ((bindT C ρ (H vs) t (inj x)).bind fun ρ h => exs C ρ h b) = .ok (.nx ρ') (H (vs ++ f x)) ∧ Inv ρ') :
    ∃ ρ', ex C ρ (H vs) (.for_ t it b) = .ok (.nx ρ') (H (vs ++ xs.flatMap f)) ∧ Inv ρ' := by
  have go : ∀ (ys : List α) (ρ : Env) (vs : List Val), (∀ x ∈ ys, x ∈ xs) → Inv ρ → vs.length + (ys.flatMap f).length ≤ N → ∃ ρ', loopF (fun ρ x h => (bindT C ρ h t x).bind fun ρ h => exs C ρ h b) (ys.map inj) ρ (H vs) = .ok (.nx ρ') (H (vs ++ ys.flatMap f)) ∧ Inv ρ' := by
    intro ys
    induction ys with
    | nil => intro ρ vs _ i _; exact ⟨ρ, by simp [loopF], i⟩
    | cons y ys ih =>
      intro ρ vs m i l
      rw [List.flatMap_cons, List.length_append] at l
      obtain ⟨ρ1, e, i1⟩ := st y (m y (List.mem_cons_self ..)) ρ vs i (by omega)
      obtain ⟨ρ2, e2, i2⟩ := ih ρ1 (vs ++ f y) (fun x hx => m x (List.mem_cons_of_mem _ hx)) i1 (by rw [List.length_append]; omega)
      refine ⟨ρ2, ?_, i2⟩
      rw [List.map_cons, loopF, e]
      simp only [R.bind_ok]
      rw [e2, List.flatMap_cons, List.append_assoc]
  obtain ⟨ρ', e, i⟩ := go xs ρ vs (fun _ m => m) h0 hN
  refine ⟨ρ', ?_, i⟩
  have e0 : ex C ρ (H vs) (.for_ t it b) = (loopF (fun ρ x h => (bindT C ρ h t x).bind fun ρ h => exs C ρ h b) (xs.map inj) ρ (H vs)).unlock [] := by
    rw [ex, hi]; rfl
  rw [e0, e]; rfl
theorem lockAll_nil {h : Hp} : lockAll h [] = h := rfl
theorem unlock_nil {α : Type} {a : α} {h : Hp} : (R.ok a h).unlock [] = .ok a h := rfl
/-- two generators -/
theorem comp2_map {α β : Type} {C : Cx} {ρ : Env} {h : Hp} {elt c c2 : E} {os : List Nat} {t t2 : At} {it it2 : It} {xs : List α} (inj : α → Val) (ys : α → List β) (inj2 : β → Val) (g : α → β → Val) (env : α → Env) (hi : evIt C ρ h it = .ok (xs.map inj, []) h) (hl : (xs.flatMap fun x => (ys x).map (g x)).length ≤ 100000)
    (e1 : ∀ x ∈ xs, bindT C (wipe ρ os) h t (inj x) = .ok (env x) h ∧ ev C (env x) h c = .ok (.bool true) h ∧ evIt C (env x) h it2 = .ok ((ys x).map inj2, []) h)
    (e2 : ∀ x ∈ xs, ∀ y ∈ ys x, ((bindT C (wipe (env x) t2.slots) h t2 (inj2 y)).bind fun ρ2 h => (ev C ρ2 h c2).test (fun _ h => (ev C ρ2 h elt).bind fun v h => .ok (some v) h) fun _ h => .ok Option.none h) = .ok (some (g x y)) h) :
    ev C ρ h (.comp2 false elt os t it c t2 it2 c2) = .ok (.lst (xs.flatMap fun x => (ys x).map (g x))) h := by
  rw [ev, hi]
  simp only [R.bind_ok, lockAll]
  have go : ∀ (zs : List α), (∀ x ∈ zs, x ∈ xs) → loopC2 (fun x h => (bindT C (wipe ρ os) h t x).bind fun ρ1 h => (ev C ρ1 h c).test (fun _ h =>
          (evIt C ρ1 h it2).bind fun w2 h => (loopC (fun x h => (bindT C (wipe ρ1 t2.slots) h t2 x).bind fun ρ2 h => (ev C ρ2 h c2).test (fun _ h => (ev C ρ2 h elt).bind fun v h => .ok (some v) h) fun _ h => .ok Option.none h) w2.1 (lockAll h w2.2)).unlock w2.2)
        fun _ h => .ok [] h) (zs.map inj) h = .ok (zs.flatMap fun x => (ys x).map (g x)) h := by
    intro zs
    induction zs with
    | nil => intro _; rfl
    | cons z zs ih =>
      intro m
      obtain ⟨a1, a2, a3⟩ := e1 z (m z (List.mem_cons_self ..))
      have inner : ∀ (us : List β), (∀ y ∈ us, y ∈ ys z) → loopC (fun x h => (bindT C (wipe (env z) t2.slots) h t2 x).bind fun ρ2 h => (ev C ρ2 h c2).test (fun _ h => (ev C ρ2 h elt).bind fun v h => .ok (some v) h) fun _ h => .ok Option.none h) (us.map inj2) h = .ok (us.map (g z)) h := by
        intro us
        induction us with
        | nil => intro _; rfl
        | cons u us ihu =>
          intro mu
          rw [List.map_cons, loopC, e2 z (m z (List.mem_cons_self ..)) u (mu u (List.mem_cons_self ..))]
          simp only [R.bind_ok, ihu fun x hx => mu x (List.mem_cons_of_mem _ hx)]
          rfl
      rw [List.map_cons, loopC2, a1]
      rw [R.bind_ok, a2, test_tt, a3, R.bind_ok]
      rw [lockAll_nil, inner (ys z) fun _ m => m, unlock_nil]
      rw [R.bind_ok, ih fun x hx => m x (List.mem_cons_of_mem _ hx), R.bind_ok, List.flatMap_cons]
  rw [go xs fun _ m => m]
  simp only [R.unlock, unlockAll, R.calm, R.bind_ok, if_pos hl, newL, Bool.false_eq_true, if_false]
theorem bind_pair {C : Cx} {ρ : Env} {h : Hp} {a b : Nat} {x y : Val} (n : NoC ρ) (la : a < ρ.length) (lb : b < ρ.length) : bindT C ρ h (.tup (.cons (.nm a) (.cons (.nm b) .nil))) (.tup [x, y]) = .ok ((ρ.set a (.v x)).set b (.v y)) h := by
  have e : bindT C ρ h (.tup (.cons (.nm a) (.cons (.nm b) .nil))) (.tup [x, y]) = bindTs C ρ h (.cons (.nm a) (.cons (.nm b) .nil)) [x, y] := by
    rw [bindT]; rfl
  rw [e, bindTs, bindT_nm n la, R.bind_ok, bindTs, bindT_nm n.set (by simpa using lb), R.bind_ok, bindTs]
/-! ### entries -/
def ent (T : List (List Rat)) (i j : Nat) : Rat := (T.getD i []).getD j 0
theorem TOk.at {k rows cols : Nat} {T : List (List Rat)} (t : TOk k rows cols T) {i j : Nat} (hi : i < rows) (hj : j < cols) : ∃ row, T[i]? = some row ∧ row[j]? = some (ent T i j) ∧ Sz k (ent T i j) ∧ row.length = cols := by
  have hi' : i < T.length := by rw [t.rows]; exact hi
  have e : T[i]? = some T[i] := List.getElem?_eq_getElem hi'
  have m := List.getElem_mem hi'
  have hj' : j < T[i].length := by rw [t.cols _ m]; exact hj
  have e2 : T[i][j]? = some T[i][j] := List.getElem?_eq_getElem hj'
  have ee : ent T i j = T[i][j] := by
    unfold ent
    have : T.getD i [] = T[i] := by rw [List.getD_eq_getElem?_getD, e, Option.getD_some]
    rw [this, List.getD_eq_getElem?_getD, e2, Option.getD_some]
  exact ⟨T[i], e, by rw [ee]; exact e2, by rw [ee]; exact t.sz _ m _ (List.getElem_mem hj'), t.cols _ m⟩
theorem below_m {P : Prog} {W m b f : Nat} {h : Hp} {p q : Rat} (d : P.defs f = some belowDf) (sp : Sz 3000 p) (sq : Sz 3000 q) (hm : 1 ≤ m) : run P W m b f [frV p, frV q] h = .ok (.bool (decide (p < q))) h := by
  obtain ⟨m, rfl⟩ : ∃ n, m = n + 1 := ⟨m - 1, by omega⟩
  exact below_run d sp sq
/-- table[i][j] -/
theorem ent_ev {C : Cx} {ρ : Env} {h : Hp} {k rows cols : Nat} {T : List (List Rat)} {e1 e2 e3 : E} {i j : Nat} (t : TOk k rows cols T) (hi : i < rows) (hj : j < cols) (h1 : ev C ρ h e1 = .ok (tabV T) h) (h2 : ev C ρ h e2 = .ok (.int i) h) (h3 : ev C ρ h e3 = .ok (.int j) h) :
    ev C ρ h (.prim .ix (.cons (.prim .ix (.cons e1 (.cons e2 .nil))) (.cons e3 .nil))) = .ok (frV (ent T i j)) h := by
  obtain ⟨row, a, b, _⟩ := t.at hi hj
  simp only [ev, evs, h1, h2, h3, R.bind_ok, ix_tab a, ix_row b]
/-! ### bars -/
def bar (T : List (List Rat)) (i k j l : Nat) : Bool := decide (ent T i l < ent T i j) && !decide (ent T k l < ent T k j)
def goesDf (iu : Nat) : Df := ⟨5, 5, [], true, (.cons (.ret (.and (.call iu [0, 1] (.cons (.prim .ix (.cons (.prim .ix (.cons (.var 0) (.cons (.var 1) .nil))) (.cons (.var 4) .nil))) (.cons (.prim .ix (.cons (.prim .ix (.cons (.var 0) (.cons (.var 1) .nil))) (.cons (.var 3) .nil))) .nil))) (.prim .not (.cons (.call iu [0, 1] (.cons (.prim .ix (.cons (.prim .ix (.cons (.var 0) (.cons (.var 2) .nil))) (.cons (.var 4) .nil))) (.cons (.prim .ix (.cons (.prim .ix (.cons (.var 0) (.cons (.var 2) .nil))) (.cons (.var 3) .nil))) .nil))) .nil))))
 .nil)⟩
theorem goes_m {P : Prog} {W m b f iu K rows cols : Nat} {h : Hp} {T : List (List Rat)} {i k j l : Nat} (d : P.defs f = some (goesDf iu)) (d1 : P.defs iu = some belowDf) (t : TOk K rows cols T) (hK : K ≤ 3000) (hi : i < rows) (hk : k < rows) (hj : j < cols) (hl : l < cols) (hm : 2 ≤ m) :
    run P W m b f [tabV T, .int i, .int k, .int j, .int l] h = .ok (.bool (bar T i k j l)) h := by
  obtain ⟨m, rfl⟩ : ∃ n, m = n + 1 := ⟨m - 1, by omega⟩
  rw [run_pure d rfl rfl rfl]
  let C : Cx := ⟨run P W m h.length, runV P W m h.length, P.gv, h.length, W⟩
  let ρ : Env := [.v (tabV T), .v (.int i), .v (.int k), .v (.int j), .v (.int l)]
  have sl : slots0 (goesDf iu).ns [tabV T, .int i, .int k, .int j, .int l] = ρ := rfl
  have v0 : ev C ρ h (.var 0) = .ok (tabV T) h := by simp only [ev]; rfl
  have v1 : ev C ρ h (.var 1) = .ok (.int i) h := by simp only [ev]; rfl
  have v2 : ev C ρ h (.var 2) = .ok (.int k) h := by simp only [ev]; rfl
  have v3 : ev C ρ h (.var 3) = .ok (.int j) h := by simp only [ev]; rfl
  have v4 : ev C ρ h (.var 4) = .ok (.int l) h := by simp only [ev]; rfl
  have sz : ∀ a b, a < rows → b < cols → Sz 3000 (ent T a b) := fun a b ha hb => by
    obtain ⟨_, _, _, z, _⟩ := t.at ha hb
    exact z.mono hK
  have c1 : ∀ p q, Sz 3000 p → Sz 3000 q → C.call iu [frV p, frV q] h = .ok (.bool (decide (p < q))) h := fun p q sp sq => below_m d1 sp sq (by omega)
  have e : exs C ρ h (goesDf iu).body = .ok (.rt (.bool (bar T i k j l))) h := by
    simp only [goesDf, exs, ex]
    rw [ev, ev, evs, ent_ev t hi hl v0 v1 v4, R.bind_ok, evs, ent_ev t hi hj v0 v1 v3, R.bind_ok, evs, R.bind_ok, R.bind_ok, R.bind_ok]
    show R.bind (R.bind (R.test (C.call iu [frV (ent T i l), frV (ent T i j)] h) _ _) _) _ = _
    rw [c1 _ _ (sz i l hi hl) (sz i j hi hj)]
    cases q : decide (ent T i l < ent T i j) with
    | false => rw [test_ff]; simp only [bar, q, Bool.false_and]; rfl
    | true =>
      rw [test_tt]
      rw [ev, evs, ev, evs, ent_ev t hk hl v0 v2 v4, R.bind_ok, evs, ent_ev t hk hj v0 v2 v3, R.bind_ok, evs, R.bind_ok, R.bind_ok, R.bind_ok]
      show R.bind (R.bind (R.bind (R.bind (C.call iu [frV (ent T k l), frV (ent T k j)] h) _) _) _) _ = _
      rw [c1 _ _ (sz k l hk hl) (sz k j hk hj)]
      simp only [bar, q, Bool.true_and]
      simp only [R.bind_ok, evs, prim_notB]
  rw [sl]
  exact (congrArg (leave true _) e).trans (lv_bool rfl)
end Mp
/-! M15: steady or two (k25). -/
namespace Mp
def pairs (cols : Nat) : List (Nat × Nat) := (List.range cols).flatMap fun a => (List.range' (a + 1) (cols - (a + 1))).map fun b => (a, b)
def firstBar (T : List (List Rat)) (rows cols : Nat) : Option (Nat × Nat × Nat × Nat) := (List.range rows).findSome? fun i => (List.range' (i + 1) (rows - (i + 1))).findSome? fun k => (pairs cols).findSome? fun p => if bar T i k p.1 p.2 then some (i, k, p.1, p.2) else none
def steadyP : E := (.comp2 false (.tup (.cons (.var 8) (.cons (.var 9) .nil))) [7, 8, 9] (.nm 8) (.rng (.cons (.prim .len (.cons (.prim .ix (.cons (.var 1) (.cons (.cst (.int 0)) .nil))) .nil)) .nil)) (.cst (.bool true)) (.nm 9) (.rng (.cons (.prim (.add false) (.cons (.var 8) (.cons (.cst (.int 1)) .nil))) (.cons (.prim .len (.cons (.prim .ix (.cons (.var 1) (.cons (.cst (.int 0)) .nil))) .nil)) .nil))) (.cst (.bool true)))
def steadyB2 (gl : Nat) : Ss := (.cons (.ifs (.call gl [0, 1, 2, 3, 4] (.cons (.var 1) (.cons (.var 5) (.cons (.var 6) (.cons (.var 2) (.cons (.var 3) .nil)))))) (.cons (.ret (.tup (.cons (.cst (.str (PySem.Str.ofString "two"))) (.cons (.lst true (.cons (.var 5) (.cons (.var 6) .nil))) (.cons (.lst true (.cons (.var 2) (.cons (.var 3) .nil))) .nil)))))
 .nil) .nil)
 .nil)
def steadyB1 (gl : Nat) : Ss := (.cons (.for_ (.tup (.cons (.nm 2) (.cons (.nm 3) .nil))) (.ev (.var 4)) (steadyB2 gl))
 .nil)
def steadyB0 (gl : Nat) : Ss := (.cons (.for_ (.nm 6) (.rng (.cons (.prim (.add false) (.cons (.var 5) (.cons (.cst (.int 1)) .nil))) (.cons (.prim .len (.cons (.var 1) .nil)) .nil))) (steadyB1 gl))
 .nil)
def steadyDf (nt gl : Nat) : Df := ⟨1, 10, [], false, (.cons (.asg (.nm 1) (.call nt [0] (.cons (.var 0) .nil)))
 (.cons (.asg (.nm 4) steadyP)
 (.cons (.for_ (.nm 5) (.rng (.cons (.prim .len (.cons (.var 1) .nil)) .nil)) (steadyB0 gl))
 (.cons (.ret (.tup (.cons (.cst (.str (PySem.Str.ofString "steady"))) .nil)))
 .nil))))⟩
def pairsV (cols : Nat) : Val := .lst ((pairs cols).map fun p => .tup [.int p.1, .int p.2])
def twoV (n : Nat) : Val := .tup [.str (PySem.Str.ofString "two"), .ref n, .ref (n + 1)]
def twoH (h : Hp) (q : Nat × Nat × Nat × Nat) : Hp := h ++ [some (.lst [.int q.1, .int q.2.1]), some (.lst [.int q.2.2.1, .int q.2.2.2])]
theorem pairs_lt {cols : Nat} {p : Nat × Nat} (m : p ∈ pairs cols) : p.1 < p.2 ∧ p.2 < cols := by
  obtain ⟨a, ma, m⟩ := List.mem_flatMap.mp m
  obtain ⟨b, mb, rfl⟩ := List.mem_map.mp m
  have := List.mem_range'_1.mp mb
  have := List.mem_range.mp ma
  simp only; omega
theorem pairs_len (cols : Nat) (h : cols ≤ 8) : (pairs cols).length ≤ 64 := by
  have : ∀ c : Nat, c ≤ 8 → (pairs c).length ≤ 64 := by decide
  exact this cols h
theorem steady_run {P : Prog} {W m b f iu gl il iw ir cd kf kt nt K rows cols : Nat} {h : Hp} {v : Val} {T : List (List Rat)} (D : Kts P W il iw ir cd kf kt nt) (d : P.defs f = some (steadyDf nt gl)) (d2 : P.defs gl = some (goesDf iu)) (d1 : P.defs iu = some belowDf)
    (t : TOk K rows cols T) (hK : K ≤ 3000) (hv : TabIn v T) (r0 : 1 ≤ rows) (r1 : rows ≤ 8) (c0 : 1 ≤ cols) (c1 : cols ≤ 8) (hm : 6 ≤ m) :
    run P W m b f [v] h = match firstBar T rows cols with
      | Option.none => .ok (.tup [.str (PySem.Str.ofString "steady")]) h
      | some q => .ok (twoV h.length) (twoH h q) := by
  obtain ⟨m, rfl⟩ : ∃ n, m = n + 1 := ⟨m - 1, by omega⟩
  let C : Cx := ⟨run P W m b, runV P W m b, P.gv, b, W⟩
  have ne : T ≠ [] := fun z => by have := t.rows; rw [z] at this; simp at this; omega
  have nT : C.call nt [v] h = .ok (tabV T) h := needT_m D hv (fun r mr q mq => (t.sz r mr q mq).mono hK) ne c0 t.cols (by omega)
  obtain ⟨r00, e00, l00⟩ : ∃ r, T[0]? = some r ∧ r.length = cols := by
    obtain ⟨r, a, _, _, l⟩ := t.at (i := 0) (j := 0) (by omega) (by omega)
    exact ⟨r, a, l⟩
  have ix0 : ∀ h b, prim b .ix [tabV T, .int 0] h = .ok (rowV r00) h := fun h b => ix_tab (k := 0) e00
  let ρ1 : Env := [.v v, .v (tabV T), .u, .u, .u, .u, .u, .u, .u, .u]
  -- the pairs
  have ep : ev C ρ1 h steadyP = .ok (pairsV cols) h := by
    have g1 : ∀ h, Env.get ρ1 h 1 = some (tabV T) := fun _ => rfl
    have hi : evIt C ρ1 h (.rng (.cons (.prim .len (.cons (.prim .ix (.cons (.var 1) (.cons (.cst (.int 0)) .nil))) .nil)) .nil)) = .ok ((List.range cols).map (fun k : Nat => Val.int k), []) h :=
      range1 (by simp only [ev, evs, g1, ofO_some, R.bind_ok, ix0, len_row, l00]) (by omega)
    have := comp2_map (C := C) (ρ := ρ1) (h := h) (elt := (.tup (.cons (.var 8) (.cons (.var 9) .nil)))) (c := .cst (.bool true)) (c2 := .cst (.bool true)) (os := [7, 8, 9]) (t := .nm 8) (t2 := .nm 9) (it2 := (.rng (.cons (.prim (.add false) (.cons (.var 8) (.cons (.cst (.int 1)) .nil))) (.cons (.prim .len (.cons (.prim .ix (.cons (.var 1) (.cons (.cst (.int 0)) .nil))) .nil)) .nil))))
      (fun k : Nat => Val.int k) (fun a => List.range' (a + 1) (cols - (a + 1))) (fun k : Nat => Val.int k) (fun a b => .tup [.int a, .int b]) (fun a => [.v v, .v (tabV T), .u, .u, .u, .u, .u, .u, .v (.int a), .u]) hi ?_ ?_ ?_
    · unfold steadyP pairsV pairs
      rw [this]
      congr 2
      rw [List.map_flatMap]
      congr 1
      funext a
      rw [List.map_map]; rfl
    · have := pairs_len cols c1
      have e : ((List.range cols).flatMap fun x => (List.range' (x + 1) (cols - (x + 1))).map fun b => Val.tup [.int (x : Nat), .int (b : Nat)]).length = (pairs cols).length := by
        have : ((pairs cols).map fun p => Val.tup [.int p.1, .int p.2]) = ((List.range cols).flatMap fun x => (List.range' (x + 1) (cols - (x + 1))).map fun b => Val.tup [.int (x : Nat), .int (b : Nat)]) := by
          unfold pairs
          rw [List.map_flatMap]
          congr 1
          funext a
          rw [List.map_map]; rfl
        rw [← this, List.length_map]
      omega
    · intro a ma
      have ha := List.mem_range.mp ma
      refine ⟨rfl, by simp only [ev], ?_⟩
      have k1 : ∀ h, Env.get [.v v, .v (tabV T), .u, .u, .u, .u, .u, .u, .v (.int (a : Nat)), .u] h 1 = some (tabV T) := fun _ => rfl
      have k8 : ∀ h, Env.get [.v v, .v (tabV T), .u, .u, .u, .u, .u, .u, .v (.int (a : Nat)), .u] h 8 = some (.int (a : Nat)) := fun _ => rfl
      exact range2 (a := a + 1) (n := cols) (by simp only [ev, evs, k8, ofO_some, R.bind_ok, prim_add]; rfl) (by simp only [ev, evs, k1, ofO_some, R.bind_ok, ix0, len_row, l00]) (by omega) (by omega)
    · intro a ma y my
      have bt : bindT C (wipe [.v v, .v (tabV T), .u, .u, .u, .u, .u, .u, .v (.int (a : Nat)), .u] (At.slots (.nm 9))) h (.nm 9) (.int (y : Nat)) = .ok [.v v, .v (tabV T), .u, .u, .u, .u, .u, .u, .v (.int (a : Nat)), .v (.int (y : Nat))] h := rfl
      have k8 : ∀ h, Env.get [.v v, .v (tabV T), .u, .u, .u, .u, .u, .u, .v (.int (a : Nat)), .v (.int (y : Nat))] h 8 = some (.int (a : Nat)) := fun _ => rfl
      have k9 : ∀ h, Env.get [.v v, .v (tabV T), .u, .u, .u, .u, .u, .u, .v (.int (a : Nat)), .v (.int (y : Nat))] h 9 = some (.int (y : Nat)) := fun _ => rfl
      rw [bt, R.bind_ok]
      simp only [ev, evs, test_tt, k8, k9, ofO_some, R.bind_ok]
  let Inv : Env → Prop := fun ρ => NoC ρ ∧ ρ.length = 10 ∧ ρ[1]? = some (.v (tabV T)) ∧ ρ[4]? = some (.v (pairsV cols))
  -- the innermost loop
  have inner : ∀ (ρ : Env) (i k : Nat), i < rows → k < rows → Inv ρ → ρ[5]? = some (.v (.int i)) → ρ[6]? = some (.v (.int k)) →
      match (pairs cols).findSome? (fun p => if bar T i k p.1 p.2 then some (i, k, p.1, p.2) else Option.none) with
      | Option.none => ∃ ρ', exs C ρ h (steadyB1 gl) = .ok (.nx ρ') h ∧ (Inv ρ' ∧ ρ'[5]? = some (.v (.int i)) ∧ ρ'[6]? = some (.v (.int k)))
      | some q => exs C ρ h (steadyB1 gl) = .ok (.rt (twoV h.length)) (twoH h q) := by
    intro ρ i k hi hk hI h5 h6
    have g := for_some (C := C) (ρ := ρ) (h := h) (.tup (.cons (.nm 2) (.cons (.nm 3) .nil))) (it := .ev (.var 4)) (steadyB2 gl) (fun p : Nat × Nat => Val.tup [.int p.1, .int p.2]) (fun ρ => Inv ρ ∧ ρ[5]? = some (.v (.int i)) ∧ ρ[6]? = some (.v (.int k))) (fun p => if bar T i k p.1 p.2 then some (i, k, p.1, p.2) else Option.none) (fun _ => twoV h.length) (twoH h)
      (xs := pairs cols) (by simp only [evIt, ev, Env.get, hI.2.2.2, ofO_some, R.bind_ok]; rfl) ⟨hI, h5, h6⟩ ?_
    · cases q : (pairs cols).findSome? (fun p => if bar T i k p.1 p.2 then some (i, k, p.1, p.2) else Option.none) with
      | none =>
        rw [q] at g
        obtain ⟨ρ', e, i'⟩ := g
        exact ⟨ρ', by simp only [steadyB1, exs, e, R.bind_ok], i'⟩
      | some y =>
        rw [q] at g
        simp only at g ⊢
        simp only [steadyB1, exs, g, R.bind_ok]
    · rintro ⟨j, l⟩ mp ρ2 ⟨⟨n2, l2, b1, b4⟩, b5, b6⟩
      obtain ⟨jl, lc⟩ := pairs_lt mp
      simp only at jl lc
      have bt : bindT C ρ2 h (.tup (.cons (.nm 2) (.cons (.nm 3) .nil))) (.tup [.int j, .int l]) = .ok ((ρ2.set 2 (.v (.int j))).set 3 (.v (.int l))) h := by
        exact bind_pair n2 (by omega) (by omega)
      let ρ3 : Env := (ρ2.set 2 (.v (.int j))).set 3 (.v (.int l))
      have l3 : ρ3.length = 10 := by simp [ρ3, l2]
      have ot : ∀ x, x ≠ 2 → x ≠ 3 → ρ3[x]? = ρ2[x]? := fun x h1 h2 => by
        show ((ρ2.set 2 _).set 3 _)[x]? = _
        rw [List.getElem?_set_ne (Ne.symm h2), List.getElem?_set_ne (Ne.symm h1)]
      have c2 : ρ3[2]? = some (.v (.int j)) := by
        show ((ρ2.set 2 _).set 3 _)[2]? = _
        rw [List.getElem?_set_ne (by decide), List.getElem?_set_self (by omega)]
      have c3 : ρ3[3]? = some (.v (.int l)) := List.getElem?_set_self (by simp; omega)
      have cl : C.call gl [tabV T, .int i, .int k, .int j, .int l] h = .ok (.bool (bar T i k j l)) h := goes_m d2 d1 t hK hi hk (by omega) lc (by omega)
      have c1' := (ot 1 (by decide) (by decide)).trans b1
      have c5' := (ot 5 (by decide) (by decide)).trans b5
      have c6' := (ot 6 (by decide) (by decide)).trans b6
      rw [bt, R.bind_ok]
      cases q : bar T i k j l with
      | false =>
        rw [q] at cl
        rw [if_neg (by decide)]
        refine ⟨ρ3, ?_, ⟨n2.set.set, l3, c1', (ot 4 (by decide) (by decide)).trans b4⟩, c5', c6'⟩
        show exs C ρ3 h (steadyB2 gl) = _
        simp only [steadyB2, exs, ex, ev, evs, Env.get, c1', c5', c6', c2, c3, ofO_some, R.bind_ok, List.map, List.getD_cons_zero, List.getD_cons_succ, cl, test_ff]
      | true =>
        rw [q] at cl
        rw [if_pos rfl]
        show exs C ρ3 h (steadyB2 gl) = .ok (.rt (twoV h.length)) (twoH h (i, k, j, l))
        simp only [steadyB2, exs, ex, ev, evs, Env.get, c1', c5', c6', c2, c3, ofO_some, R.bind_ok, List.map, List.getD_cons_zero, List.getD_cons_succ, cl, test_tt, newL, if_true]
        simp [twoV, twoH]
  have middle : ∀ (ρ : Env) (i : Nat), i < rows → Inv ρ → ρ[5]? = some (.v (.int i)) →
      match (List.range' (i + 1) (rows - (i + 1))).findSome? (fun k => (pairs cols).findSome? fun p => if bar T i k p.1 p.2 then some (i, k, p.1, p.2) else Option.none) with
      | Option.none => ∃ ρ', exs C ρ h (steadyB0 gl) = .ok (.nx ρ') h ∧ (Inv ρ' ∧ ρ'[5]? = some (.v (.int i)))
      | some q => exs C ρ h (steadyB0 gl) = .ok (.rt (twoV h.length)) (twoH h q) := by
    intro ρ i hi hI h5
    have g := for_some (C := C) (ρ := ρ) (h := h) (.nm 6) (it := (.rng (.cons (.prim (.add false) (.cons (.var 5) (.cons (.cst (.int 1)) .nil))) (.cons (.prim .len (.cons (.var 1) .nil)) .nil)))) (steadyB1 gl) (fun k : Nat => Val.int k) (fun ρ => Inv ρ ∧ ρ[5]? = some (.v (.int i))) (fun k => (pairs cols).findSome? fun p => if bar T i k p.1 p.2 then some (i, k, p.1, p.2) else Option.none) (fun _ => twoV h.length) (twoH h)
      (xs := List.range' (i + 1) (rows - (i + 1))) (range2 (a := i + 1) (n := rows) (by simp only [ev, evs, Env.get, h5, ofO_some, R.bind_ok, prim_add]; rfl) (by simp only [ev, evs, Env.get, hI.2.2.1, ofO_some, R.bind_ok, len_tab, t.rows]) (by omega) (by omega)) ⟨hI, h5⟩ ?_
    · cases q : (List.range' (i + 1) (rows - (i + 1))).findSome? (fun k => (pairs cols).findSome? fun p => if bar T i k p.1 p.2 then some (i, k, p.1, p.2) else Option.none) with
      | none =>
        rw [q] at g
        obtain ⟨ρ', e, i'⟩ := g
        exact ⟨ρ', by simp only [steadyB0, exs, e, R.bind_ok], i'⟩
      | some y =>
        rw [q] at g
        simp only at g ⊢
        simp only [steadyB0, exs, g, R.bind_ok]
    · rintro k mk ρ2 ⟨⟨n2, l2, b1, b4⟩, b5⟩
      have hk : k < rows := by have := List.mem_range'_1.mp mk; omega
      rw [bindT_nm n2 (by omega), R.bind_ok]
      have ot : ∀ x, x ≠ 6 → (ρ2.set 6 (.v (.int (k : Nat))))[x]? = ρ2[x]? := fun x h1 => List.getElem?_set_ne (Ne.symm h1)
      have := inner (ρ2.set 6 (.v (.int (k : Nat)))) i k hi hk ⟨n2.set, by simpa using l2, (ot 1 (by decide)).trans b1, (ot 4 (by decide)).trans b4⟩ ((ot 5 (by decide)).trans b5) (List.getElem?_set_self (by omega))
      cases q : (pairs cols).findSome? (fun p => if bar T i k p.1 p.2 then some (i, k, p.1, p.2) else Option.none) with
      | none =>
        rw [q] at this
        obtain ⟨ρ', e, i', b5', _⟩ := this
        exact ⟨ρ', e, i', b5'⟩
      | some y => rw [q] at this; exact this
  let ρ2 : Env := [.v v, .v (tabV T), .u, .u, .v (pairsV cols), .u, .u, .u, .u, .u]
  have outer := for_some (C := C) (ρ := ρ2) (h := h) (.nm 5) (it := (.rng (.cons (.prim .len (.cons (.var 1) .nil)) .nil))) (steadyB0 gl) (fun k : Nat => Val.int k) Inv (fun i => (List.range' (i + 1) (rows - (i + 1))).findSome? fun k => (pairs cols).findSome? fun p => if bar T i k p.1 p.2 then some (i, k, p.1, p.2) else Option.none) (fun _ => twoV h.length) (twoH h)
      (xs := List.range rows) (range1 (n := rows) (by have g1 : ∀ h, Env.get ρ2 h 1 = some (tabV T) := fun _ => rfl
                                                      simp only [ev, evs, g1, ofO_some, R.bind_ok, len_tab, t.rows]) (by omega)) ⟨NoC.of rfl, rfl, rfl, rfl⟩ fun i mi ρ3 ⟨n3, l3, b1, b4⟩ => by
    have hi := List.mem_range.mp mi
    rw [bindT_nm n3 (by omega), R.bind_ok]
    have ot : ∀ x, x ≠ 5 → (ρ3.set 5 (.v (.int (i : Nat))))[x]? = ρ3[x]? := fun x h1 => List.getElem?_set_ne (Ne.symm h1)
    have := middle (ρ3.set 5 (.v (.int (i : Nat)))) i hi ⟨n3.set, by simpa using l3, (ot 1 (by decide)).trans b1, (ot 4 (by decide)).trans b4⟩ (List.getElem?_set_self (by omega))
    cases q : (List.range' (i + 1) (rows - (i + 1))).findSome? (fun k => (pairs cols).findSome? fun p => if bar T i k p.1 p.2 then some (i, k, p.1, p.2) else Option.none) with
    | none =>
      rw [q] at this
      obtain ⟨ρ', e, i', _⟩ := this
      exact ⟨ρ', e, i'⟩
    | some y => rw [q] at this; exact this
  rw [run_imp d rfl rfl rfl]
  have sl : slots0 (steadyDf nt gl).ns [v] = [.v v, .u, .u, .u, .u, .u, .u, .u, .u, .u] := rfl
  have s1 : ex C [.v v, .u, .u, .u, .u, .u, .u, .u, .u, .u] h (.asg (.nm 1) (.call nt [0] (.cons (.var 0) .nil))) = .ok (.nx ρ1) h := by
    have g0 : ∀ h, Env.get [.v v, .u, .u, .u, .u, .u, .u, .u, .u, .u] h 0 = some v := fun _ => rfl
    simp only [ex, ev, evs, g0, ofO_some, R.bind_ok, List.map, List.getD_cons_zero, nT]
    rfl
  have s2 : ex C ρ1 h (.asg (.nm 4) steadyP) = .ok (.nx ρ2) h := by
    rw [ex, ep]; rfl
  rw [sl]
  show leave false h.length (exs C _ h (steadyDf nt gl).body) = _
  simp only [steadyDf]
  rw [exs, s1, R.bind_ok]
  simp only
  rw [exs, s2, R.bind_ok]
  simp only
  unfold firstBar
  cases q : (List.range rows).findSome? (fun i => (List.range' (i + 1) (rows - (i + 1))).findSome? fun k => (pairs cols).findSome? fun p => if bar T i k p.1 p.2 then some (i, k, p.1, p.2) else Option.none) with
  | none =>
    rw [q] at outer
    obtain ⟨ρ', e, _⟩ := outer
    rw [exs, e, R.bind_ok]
    simp only [exs, ex, ev, evs, R.bind_ok]
    rfl
  | some y =>
    rw [q] at outer
    simp only at outer ⊢
    rw [exs, outer, R.bind_ok]
    rfl
end Mp
/-! M16: corners, least places, lots. -/
namespace Mp
theorem bools_map {α : Type} {p : α → Bool} : ∀ xs : List α, bools (xs.map fun x => Val.bool (p x)) = some (xs.map p)
  | [] => rfl
  | x :: r => by simp [bools, bools_map r]
theorem any_map {α : Type} {b : Nat} {h : Hp} {xs : List α} {p : α → Bool} : prim b .any [.lst (xs.map fun x => Val.bool (p x))] h = .ok (.bool (xs.any p)) h := by
  show (ofO (bools (xs.map fun x => Val.bool (p x))) h).bind _ = _
  rw [bools_map]
  simp only [ofO_some, R.bind_ok]
  congr 2
  simp [List.any_map]
theorem all_map {α : Type} {b : Nat} {h : Hp} {xs : List α} {p : α → Bool} : prim b .all [.lst (xs.map fun x => Val.bool (p x))] h = .ok (.bool (xs.all p)) h := by
  show (ofO (bools (xs.map fun x => Val.bool (p x))) h).bind _ = _
  rw [bools_map]
  simp only [ofO_some, R.bind_ok]
  congr 2
  simp [List.all_map]
theorem enumV_map {α : Type} {f : α → Val} : ∀ (xs : List α) (k : Nat), enumV k (xs.map f) = (xs.zipIdx k).map fun p => .tup [.int (p.2 : Nat), f p.1]
  | [], _ => rfl
  | x :: r, k => by rw [List.map_cons, enumV, enumV_map r (k + 1), List.zipIdx_cons, List.map_cons]
theorem zipV_map {α β : Type} {f : α → Val} {g : β → Val} : ∀ (xs : List α) (ys : List β), zipV (xs.map f) (ys.map g) = (xs.zip ys).map fun p => .tup [f p.1, g p.2]
  | [], _ => by simp [zipV]
  | _ :: _, [] => by simp [zipV]
  | x :: xs, y :: ys => by simp [zipV, zipV_map xs ys]
theorem get_frV0 {b : Nat} {h : Hp} {q : Rat} : prim b .ix [frV q, .int 0] h = .ok (.int q.num) h := ixF
/-! ### corners -/
def cor (T : List (List Rat)) (i j : Nat) : Rat := (ent T i j + ent T (i + 1) (j + 1)) - (ent T i (j + 1) + ent T (i + 1) j)
def isDn (T : List (List Rat)) (rows cols : Nat) : Bool := !((List.range (rows - 1)).any fun i => (List.range (cols - 1)).any fun j => decide (0 < (cor T i j).num))
def cornerDf (ad le : Nat) : Df := ⟨3, 5, [], true, (.cons (.par (.cons (.nm 4) (.cons (.nm 3) .nil)) (.cons (.call ad [0, 1] (.cons (.prim .ix (.cons (.prim .ix (.cons (.var 0) (.cons (.var 1) .nil))) (.cons (.var 2) .nil))) (.cons (.prim .ix (.cons (.prim .ix (.cons (.var 0) (.cons (.prim (.add false) (.cons (.var 1) (.cons (.cst (.int 1)) .nil))) .nil))) (.cons (.prim (.add false) (.cons (.var 2) (.cons (.cst (.int 1)) .nil))) .nil))) .nil))) (.cons (.call ad [0, 1] (.cons (.prim .ix (.cons (.prim .ix (.cons (.var 0) (.cons (.var 1) .nil))) (.cons (.prim (.add false) (.cons (.var 2) (.cons (.cst (.int 1)) .nil))) .nil))) (.cons (.prim .ix (.cons (.prim .ix (.cons (.var 0) (.cons (.prim (.add false) (.cons (.var 1) (.cons (.cst (.int 1)) .nil))) .nil))) (.cons (.var 2) .nil))) .nil))) .nil)))
 (.cons (.ret (.call le [0, 1] (.cons (.var 3) (.cons (.var 4) .nil))))
 .nil))⟩
def downA (cr : Nat) : E := (.comp false (.prim .gt (.cons (.prim .ix (.cons (.call cr [0, 1, 2] (.cons (.var 0) (.cons (.var 2) (.cons (.var 4) .nil)))) (.cons (.cst (.int 0)) .nil))) (.cons (.cst (.int 0)) .nil))) [3, 4] (.nm 4) (.rng (.cons (.prim .sub (.cons (.prim .len (.cons (.prim .ix (.cons (.var 0) (.cons (.cst (.int 0)) .nil))) .nil)) (.cons (.cst (.int 1)) .nil))) .nil)) (.cst (.bool true)))
def downO (cr : Nat) : E := (.comp false (.prim .any (.cons (downA cr) .nil)) [1, 2] (.nm 2) (.rng (.cons (.prim .sub (.cons (.prim .len (.cons (.var 0) .nil)) (.cons (.cst (.int 1)) .nil))) .nil)) (.cst (.bool true)))
def isDownDf (cr : Nat) : Df := ⟨1, 5, [], true, (.cons (.ret (.prim .not (.cons (.prim .any (.cons (downO cr) .nil)) .nil)))
 .nil)⟩
section
variable {P : Prog} {W sh fr ad le dr pk : Nat} (D : Drs P W sh fr ad le dr pk)
include D
theorem corner_m {f m b K rows cols : Nat} {h : Hp} {T : List (List Rat)} {i j : Nat} (d : P.defs f = some (cornerDf ad le)) (t : TOk K rows cols T) (hK : K ≤ 1100) (hi : i + 1 < rows) (hj : j + 1 < cols) (hm : 5 ≤ m) :
    run P W m b f [tabV T, .int i, .int j] h = .ok (frV (cor T i j)) h := by
  obtain ⟨m, rfl⟩ : ∃ n, m = n + 1 := ⟨m - 1, by omega⟩
  rw [run_pure d rfl rfl rfl]
  let C : Cx := ⟨run P W m h.length, runV P W m h.length, P.gv, h.length, W⟩
  let ρ : Env := [.v (tabV T), .v (.int i), .v (.int j), .u, .u]
  have sl : slots0 (cornerDf ad le).ns [tabV T, .int i, .int j] = ρ := rfl
  have v0 : ev C ρ h (.var 0) = .ok (tabV T) h := by simp only [ev]; rfl
  have v1 : ev C ρ h (.var 1) = .ok (.int i) h := by simp only [ev]; rfl
  have v2 : ev C ρ h (.var 2) = .ok (.int j) h := by simp only [ev]; rfl
  have w1 : ev C ρ h (.prim (.add false) (.cons (.var 1) (.cons (.cst (.int 1)) .nil))) = .ok (.int (i + 1 : Nat)) h := by
    have g : ∀ h, Env.get ρ h 1 = some (.int i) := fun _ => rfl
    simp only [ev, evs, g, ofO_some, R.bind_ok, prim_add]; rfl
  have w2 : ev C ρ h (.prim (.add false) (.cons (.var 2) (.cons (.cst (.int 1)) .nil))) = .ok (.int (j + 1 : Nat)) h := by
    have g : ∀ h, Env.get ρ h 2 = some (.int j) := fun _ => rfl
    simp only [ev, evs, g, ofO_some, R.bind_ok, prim_add]; rfl
  have sz : ∀ a b, a < rows → b < cols → Sz 1100 (ent T a b) := fun a b ha hb => by
    obtain ⟨_, _, _, z, _⟩ := t.at ha hb
    exact z.mono hK
  have s1 := (sz i j (by omega) (by omega))
  have s2 := (sz (i + 1) (j + 1) (by omega) (by omega))
  have s3 := (sz i (j + 1) (by omega) (by omega))
  have s4 := (sz (i + 1) j (by omega) (by omega))
  have c1 : C.call ad [frV (ent T i j), frV (ent T (i + 1) (j + 1))] h = .ok (frV (ent T i j + ent T (i + 1) (j + 1))) h := add_m D (s1.mono (by decide)) (s2.mono (by decide)) (by omega)
  have c2 : C.call ad [frV (ent T i (j + 1)), frV (ent T (i + 1) j)] h = .ok (frV (ent T i (j + 1) + ent T (i + 1) j)) h := add_m D (s3.mono (by decide)) (s4.mono (by decide)) (by omega)
  have c3 : C.call le [frV (ent T i j + ent T (i + 1) (j + 1)), frV (ent T i (j + 1) + ent T (i + 1) j)] h = .ok (frV (cor T i j)) h := less_m D ((s1.add s2).mono (by decide)) ((s3.add s4).mono (by decide)) (by omega)
  have x1 := ent_ev (C := C) (ρ := ρ) (h := h) t (show i < rows by omega) (show j < cols by omega) v0 v1 v2
  have x2 := ent_ev (C := C) (ρ := ρ) (h := h) t hi hj v0 w1 w2
  have x3 := ent_ev (C := C) (ρ := ρ) (h := h) t (show i < rows by omega) hj v0 v1 w2
  have x4 := ent_ev (C := C) (ρ := ρ) (h := h) t hi (show j < cols by omega) v0 w1 v2
  have e : exs C ρ h (cornerDf ad le).body = .ok (.rt (frV (cor T i j))) h := by
    have y1 : ∀ {e1 e2 : E} {p q : Rat}, ev C ρ h e1 = .ok (frV p) h → ev C ρ h e2 = .ok (frV q) h → ev C ρ h (.call ad [0, 1] (.cons e1 (.cons e2 .nil))) = C.call ad [frV p, frV q] h := fun h1 h2 => by
      rw [ev, evs, h1, R.bind_ok, evs, h2, R.bind_ok, evs]; rfl
    simp only [cornerDf, exs, ex]
    rw [evs, y1 x1 x2, c1, R.bind_ok, evs, y1 x3 x4, c2, R.bind_ok, evs, R.bind_ok, R.bind_ok, R.bind_ok]
    show R.bind (R.bind (R.ok ([.v (tabV T), .v (.int i), .v (.int j), .v (frV (ent T i j + ent T (i + 1) (j + 1))), .v (frV (ent T i (j + 1) + ent T (i + 1) j))] : Env) h) _) _ = _
    have g3 : ∀ h, Env.get [.v (tabV T), .v (.int i), .v (.int j), .v (frV (ent T i j + ent T (i + 1) (j + 1))), .v (frV (ent T i (j + 1) + ent T (i + 1) j))] h 3 = some (frV (ent T i j + ent T (i + 1) (j + 1))) := fun _ => rfl
    have g4 : ∀ h, Env.get [.v (tabV T), .v (.int i), .v (.int j), .v (frV (ent T i j + ent T (i + 1) (j + 1))), .v (frV (ent T i (j + 1) + ent T (i + 1) j))] h 4 = some (frV (ent T i (j + 1) + ent T (i + 1) j)) := fun _ => rfl
    simp only [R.bind_ok, ev, evs, g3, g4, ofO_some, List.map, List.getD_cons_zero, List.getD_cons_succ, c3]
  rw [sl]
  exact (congrArg (leave true _) e).trans (lv_frV rfl)
theorem isDown_m {f cr m b K rows cols : Nat} {h : Hp} {T : List (List Rat)} (d : P.defs f = some (isDownDf cr)) (dc : P.defs cr = some (cornerDf ad le)) (t : TOk K rows cols T) (hK : K ≤ 1100) (r0 : 1 ≤ rows) (r1 : rows ≤ 8) (c0 : 1 ≤ cols) (c1 : cols ≤ 8) (hm : 6 ≤ m) :
    run P W m b f [tabV T] h = .ok (.bool (isDn T rows cols)) h := by
  obtain ⟨m, rfl⟩ : ∃ n, m = n + 1 := ⟨m - 1, by omega⟩
  rw [run_pure d rfl rfl rfl]
  let C : Cx := ⟨run P W m h.length, runV P W m h.length, P.gv, h.length, W⟩
  obtain ⟨r00, e00, l00⟩ : ∃ r, T[0]? = some r ∧ r.length = cols := by
    obtain ⟨r, a, _, _, l⟩ := t.at (i := 0) (j := 0) (by omega) (by omega)
    exact ⟨r, a, l⟩
  have ix0 : ∀ h b, prim b .ix [tabV T, .int 0] h = .ok (rowV r00) h := fun h b => ix_tab (k := 0) e00
  have inner : ∀ i, i + 1 < rows → ev C [.v (tabV T), .u, .v (.int (i : Nat)), .u, .u] h (downA cr) = .ok (.lst ((List.range (cols - 1)).map fun j => Val.bool (decide (0 < (cor T i j).num)))) h := fun i hi => by
    have g0 : ∀ h (a b : Slot), Env.get [.v (tabV T), .u, .v (.int (i : Nat)), a, b] h 0 = some (tabV T) := fun _ _ _ => rfl
    have g2 : ∀ h (a b : Slot), Env.get [.v (tabV T), .u, .v (.int (i : Nat)), a, b] h 2 = some (.int (i : Nat)) := fun _ _ _ => rfl
    refine comp_map (xs := List.range (cols - 1)) (fun k : Nat => Val.int k) _ (range1 (n := cols - 1) (by simp only [ev, evs, g0, ofO_some, R.bind_ok, ix0, len_row, l00, prim_sub]; congr 2; omega) (by omega)) fun j mj => ?_
    have hj := List.mem_range.mp mj
    have g4 : ∀ h, Env.get [.v (tabV T), .u, .v (.int (i : Nat)), .u, .v (.int (j : Nat))] h 4 = some (.int (j : Nat)) := fun _ => rfl
    have cc : C.call cr [tabV T, .int (i : Nat), .int (j : Nat)] h = .ok (frV (cor T i j)) h := corner_m D dc t hK hi (by omega) (by omega)
    simp only [wipe, List.set_cons_succ, List.set_cons_zero, bindT, List.getElem?_cons_succ, List.getElem?_cons_zero, R.bind_ok, ev, evs, test_tt, g0, g2, g4, ofO_some, List.map, List.getD_cons_zero, List.getD_cons_succ, cc, get_frV0, prim_gt]
  have outer : ev C [.v (tabV T), .u, .u, .u, .u] h (downO cr) = .ok (.lst ((List.range (rows - 1)).map fun i => Val.bool ((List.range (cols - 1)).any fun j => decide (0 < (cor T i j).num)))) h := by
    have g0 : ∀ h, Env.get [.v (tabV T), .u, .u, .u, .u] h 0 = some (tabV T) := fun _ => rfl
    refine comp_map (xs := List.range (rows - 1)) (fun k : Nat => Val.int k) _ (range1 (n := rows - 1) (by simp only [ev, evs, g0, ofO_some, R.bind_ok, len_tab, t.rows, prim_sub]; congr 2; omega) (by omega)) fun i mi => ?_
    have hi := List.mem_range.mp mi
    have bt : bindT C (wipe [.v (tabV T), .u, .u, .u, .u] [1, 2]) h (.nm 2) (.int (i : Nat)) = .ok [.v (tabV T), .u, .v (.int (i : Nat)), .u, .u] h := rfl
    rw [bt, R.bind_ok]
    simp only [ev, test_tt, evs, inner i (by omega), R.bind_ok, any_map]
  have e : exs C (slots0 (isDownDf cr).ns [tabV T]) h (isDownDf cr).body = .ok (.rt (.bool (isDn T rows cols))) h := by
    have sl : slots0 (isDownDf cr).ns [tabV T] = [.v (tabV T), .u, .u, .u, .u] := rfl
    rw [sl]
    simp only [isDownDf, exs, ex, ev, evs, outer, R.bind_ok, any_map, prim_notB]
    rfl
  exact (congrArg (leave true _) e).trans (lv_bool rfl)
end
/-! ### first least places -/
def leastL (r : List Rat) : List Nat := r.zipIdx.filterMap fun p => if r.any (fun q => decide (q < p.1)) then Option.none else some p.2
def fl (r : List Rat) : Nat := (leastL r).headD 0
theorem exists_least : ∀ (r : List Rat), r ≠ [] → ∃ q ∈ r, ∀ p ∈ r, ¬ p < q
  | [], h => absurd rfl h
  | [a], _ => ⟨a, by simp, fun p m => by rw [List.mem_singleton.mp m]; exact Rat.lt_irrefl⟩
  | a :: b :: r, _ => by
    obtain ⟨q, mq, hq⟩ := exists_least (b :: r) (by simp)
    by_cases c : a < q
    · refine ⟨a, by simp, fun p m => ?_⟩
      rcases List.mem_cons.mp m with rfl | m
      · exact Rat.lt_irrefl
      · intro z; exact hq p m (by grind)
    · refine ⟨q, List.mem_cons_of_mem _ mq, fun p m => ?_⟩
      rcases List.mem_cons.mp m with rfl | m
      · exact c
      · exact hq p m
theorem leastL_ne {r : List Rat} (h : r ≠ []) : leastL r ≠ [] := by
  obtain ⟨q, mq, hq⟩ := exists_least r h
  obtain ⟨i, hi, rfl⟩ := List.mem_iff_getElem.mp mq
  intro z
  have : i ∈ leastL r := by
    unfold leastL
    refine List.mem_filterMap.mpr ⟨(r[i], i), ?_, ?_⟩
    · rw [List.mem_zipIdx_iff_getElem?]; exact List.getElem?_eq_getElem hi
    · simp only
      rw [if_neg]
      intro c
      obtain ⟨p, mp, hp⟩ := List.any_eq_true.mp c
      exact hq p mp (by simpa using hp)
  rw [z] at this; cases this
def flI (be : Nat) : E := (.comp false (.call be [0, 1] (.cons (.var 5) (.cons (.var 3) .nil))) [4, 5] (.nm 5) (.ev (.var 0)) (.cst (.bool true)))
def flO (be : Nat) : E := (.comp false (.var 2) [1, 2, 3] (.tup (.cons (.nm 2) (.cons (.nm 3) .nil))) (.enum (.var 0)) (.prim .not (.cons (.prim .any (.cons (flI be) .nil)) .nil)))
def flDf (be : Nat) : Df := ⟨1, 6, [], true, (.cons (.ret (.prim .ix (.cons (flO be) (.cons (.cst (.int 0)) .nil))))
 .nil)⟩
def leastC (fl : Nat) : E := (.comp false (.call fl [0] (.cons (.var 2) .nil)) [1, 2] (.nm 2) (.ev (.var 0)) (.cst (.bool true)))
def leastDf (fl : Nat) : Df := ⟨1, 3, [], true, (.cons (.ret (leastC fl))
 .nil)⟩
def rightC : E := (.comp false (.prim .le (.cons (.var 2) (.cons (.var 3) .nil))) [1, 2, 3] (.tup (.cons (.nm 2) (.cons (.nm 3) .nil))) (.zip (.cons (.var 0) (.cons (.prim (.sl false true false false) (.cons (.var 0) (.cons (.cst (.int 1)) .nil))) .nil))) (.cst (.bool true)))
def rightDf : Df := ⟨1, 4, [], true, (.cons (.ret (.prim .all (.cons rightC .nil)))
 .nil)⟩
def numsV (ns : List Nat) : Val := .lst (ns.map fun n : Nat => .int n)
def right (ns : List Nat) : Bool := (ns.zip (ns.drop 1)).all fun p => decide ((p.1 : Int) ≤ (p.2 : Int))
theorem plain_nums {ns : List Nat} : Plain 1 (numsV ns) := fun x m => by
  obtain ⟨n, _, rfl⟩ := List.mem_map.mp m; trivial
theorem fl_m {P : Prog} {W m b f be : Nat} {h : Hp} {r : List Rat} (d : P.defs f = some (flDf be)) (d1 : P.defs be = some belowDf) (ne : r ≠ []) (sz : ∀ q ∈ r, Sz 3000 q) (hm : 2 ≤ m) : run P W m b f [rowV r] h = .ok (.int (fl r : Nat)) h := by
  obtain ⟨m, rfl⟩ : ∃ n, m = n + 1 := ⟨m - 1, by omega⟩
  rw [run_pure d rfl rfl rfl]
  let C : Cx := ⟨run P W m h.length, runV P W m h.length, P.gv, h.length, W⟩
  have inner : ∀ (i : Nat) (q : Rat), Sz 3000 q → ev C [.v (rowV r), .u, .v (.int i), .v (frV q), .u, .u] h (flI be) = .ok (.lst (r.map fun p => Val.bool (decide (p < q)))) h := fun i q sq => by
    have g0 : ∀ h (a b : Slot), Env.get [.v (rowV r), .u, .v (.int i), .v (frV q), a, b] h 0 = some (rowV r) := fun _ _ _ => rfl
    have g3 : ∀ h (a b : Slot), Env.get [.v (rowV r), .u, .v (.int i), .v (frV q), a, b] h 3 = some (frV q) := fun _ _ _ => rfl
    refine comp_map (xs := r) frV _ (by simp only [evIt, ev, g0, ofO_some, R.bind_ok, walk_row]) fun p mp => ?_
    have g5 : ∀ h, Env.get [.v (rowV r), .u, .v (.int i), .v (frV q), .u, .v (frV p)] h 5 = some (frV p) := fun _ => rfl
    have cc : C.call be [frV p, frV q] h = .ok (.bool (decide (p < q))) h := below_m d1 (sz p mp) sq (by omega)
    simp only [wipe, List.set_cons_succ, List.set_cons_zero, bindT, List.getElem?_cons_succ, List.getElem?_cons_zero, R.bind_ok, ev, evs, test_tt, g3, g5, ofO_some, List.map, List.getD_cons_zero, List.getD_cons_succ, cc]
  have outer : ev C [.v (rowV r), .u, .u, .u, .u, .u] h (flO be) = .ok (numsV (leastL r)) h := by
    have g0 : ∀ h, Env.get [.v (rowV r), .u, .u, .u, .u, .u] h 0 = some (rowV r) := fun _ => rfl
    have hi : evIt C [.v (rowV r), .u, .u, .u, .u, .u] h (.enum (.var 0)) = .ok (r.zipIdx.map (fun p => .tup [.int (p.2 : Nat), frV p.1]), []) h := by
      simp only [evIt, ev, g0, ofO_some, R.bind_ok]
      show R.ok (enumV 0 (r.map frV), []) h = _
      rw [enumV_map]
    unfold flO
    rw [comp_filt (fun p : Rat × Nat => Val.tup [.int (p.2 : Nat), frV p.1]) (fun p => if r.any (fun q => decide (q < p.1)) then Option.none else some (.int (p.2 : Nat))) hi fun p mp => ?_]
    · unfold numsV leastL
      rw [List.map_filterMap]
      congr 2
      congr 1
      funext p
      split <;> rfl
    · obtain ⟨q, i⟩ := p
      have mq : q ∈ r := by
        rw [List.mem_zipIdx_iff_getElem?] at mp
        exact List.mem_of_getElem? mp
      have bt : bindT C (wipe [.v (rowV r), .u, .u, .u, .u, .u] [1, 2, 3]) h (.tup (.cons (.nm 2) (.cons (.nm 3) .nil))) (.tup [.int (i : Nat), frV q]) = .ok [.v (rowV r), .u, .v (.int (i : Nat)), .v (frV q), .u, .u] h := rfl
      have g2 : ∀ h, Env.get [.v (rowV r), .u, .v (.int (i : Nat)), .v (frV q), .u, .u] h 2 = some (.int (i : Nat)) := fun _ => rfl
      rw [bt, R.bind_ok]
      simp only [ev, evs, inner i q (sz q mq), R.bind_ok, any_map, prim_notB, test_b, g2, ofO_some]
      cases r.any fun p => decide (p < q) <;> rfl
  have ne' := leastL_ne ne
  have e : exs C (slots0 (flDf be).ns [rowV r]) h (flDf be).body = .ok (.rt (.int (fl r : Nat))) h := by
    have sl : slots0 (flDf be).ns [rowV r] = [.v (rowV r), .u, .u, .u, .u, .u] := rfl
    have ix : ∀ h b, prim b .ix [numsV (leastL r), .int 0] h = .ok (.int (fl r : Nat)) h := fun h b => by
      refine ix_lst (k := 0) (x := fl r) ?_
      unfold fl
      cases q : leastL r with
      | nil => exact absurd q ne'
      | cons a t => rfl
    rw [sl]
    simp only [flDf, exs, ex, ev, evs, outer, R.bind_ok, ix]
  exact (congrArg (leave true _) e).trans (lv_int rfl)
theorem least_m {P : Prog} {W m b f g be : Nat} {h : Hp} {T : List (List Rat)} (d : P.defs f = some (leastDf g)) (dg : P.defs g = some (flDf be)) (d1 : P.defs be = some belowDf) (ne : ∀ r ∈ T, r ≠ []) (sz : ∀ r ∈ T, ∀ q ∈ r, Sz 3000 q) (hm : 3 ≤ m) : run P W m b f [tabV T] h = .ok (numsV (T.map fl)) h := by
  obtain ⟨m, rfl⟩ : ∃ n, m = n + 1 := ⟨m - 1, by omega⟩
  rw [run_pure d rfl rfl rfl]
  let C : Cx := ⟨run P W m h.length, runV P W m h.length, P.gv, h.length, W⟩
  have e : exs C (slots0 (leastDf g).ns [tabV T]) h (leastDf g).body = .ok (.rt (numsV (T.map fl))) h := by
    have sl : slots0 (leastDf g).ns [tabV T] = [.v (tabV T), .u, .u] := rfl
    have cc : ev C [.v (tabV T), .u, .u] h (leastC g) = .ok (.lst (T.map fun r => .int (fl r : Nat))) h := by
      have g0 : ∀ h, Env.get [.v (tabV T), .u, .u] h 0 = some (tabV T) := fun _ => rfl
      refine comp_map (xs := T) rowV _ (by simp only [evIt, ev, g0, ofO_some, R.bind_ok, walk_tab]) fun r mr => ?_
      have g2 : ∀ h, Env.get [.v (tabV T), .u, .v (rowV r)] h 2 = some (rowV r) := fun _ => rfl
      have cl : C.call g [rowV r] h = .ok (.int (fl r : Nat)) h := fl_m dg d1 (ne r mr) (sz r mr) (by omega)
      simp only [wipe, List.set_cons_succ, List.set_cons_zero, bindT, List.getElem?_cons_succ, List.getElem?_cons_zero, R.bind_ok, ev, evs, test_tt, g2, ofO_some, List.map, List.getD_cons_zero, cl]
    rw [sl]
    simp only [leastDf, exs, ex, cc, R.bind_ok]
    unfold numsV
    rw [List.map_map]; rfl
  exact (congrArg (leave true _) e).trans (lv_plain plain_nums rfl)
theorem right_m {P : Prog} {W m b f : Nat} {h : Hp} {ns : List Nat} (d : P.defs f = some rightDf) (hm : 1 ≤ m) : run P W m b f [numsV ns] h = .ok (.bool (right ns)) h := by
  obtain ⟨m, rfl⟩ : ∃ n, m = n + 1 := ⟨m - 1, by omega⟩
  rw [run_pure d rfl rfl rfl]
  let C : Cx := ⟨run P W m h.length, runV P W m h.length, P.gv, h.length, W⟩
  have e : exs C (slots0 rightDf.ns [numsV ns]) h rightDf.body = .ok (.rt (.bool (right ns))) h := by
    have sl : slots0 rightDf.ns [numsV ns] = [.v (numsV ns), .u, .u, .u] := rfl
    have cc : ev C [.v (numsV ns), .u, .u, .u] h rightC = .ok (.lst ((ns.zip (ns.drop 1)).map fun p => Val.bool (decide ((p.1 : Int) ≤ (p.2 : Int))))) h := by
      have g0 : ∀ h, Env.get [.v (numsV ns), .u, .u, .u] h 0 = some (numsV ns) := fun _ => rfl
      have sl1 : ∀ b, prim b (.sl false true false false) [numsV ns, .int 1] h = .ok (numsV (ns.drop 1)) h := fun b => by
        unfold numsV
        rw [List.map_drop]
        exact prim_slFrom (i := 1)
      refine comp_map (xs := ns.zip (ns.drop 1)) (fun p => .tup [.int (p.1 : Nat), .int (p.2 : Nat)]) _ ?_ fun p mp => ?_
      · simp only [evIt, ev, evs, g0, ofO_some, R.bind_ok, sl1]
        show R.ok (zipV (ns.map _) ((ns.drop 1).map _), [] ++ []) h = _
        rw [zipV_map]; rfl
      · have bt : bindT C (wipe [.v (numsV ns), .u, .u, .u] [1, 2, 3]) h (.tup (.cons (.nm 2) (.cons (.nm 3) .nil))) (.tup [.int (p.1 : Nat), .int (p.2 : Nat)]) = .ok [.v (numsV ns), .u, .v (.int (p.1 : Nat)), .v (.int (p.2 : Nat))] h := rfl
        have g2 : ∀ h, Env.get [.v (numsV ns), .u, .v (.int (p.1 : Nat)), .v (.int (p.2 : Nat))] h 2 = some (.int (p.1 : Nat)) := fun _ => rfl
        have g3 : ∀ h, Env.get [.v (numsV ns), .u, .v (.int (p.1 : Nat)), .v (.int (p.2 : Nat))] h 3 = some (.int (p.2 : Nat)) := fun _ => rfl
        rw [bt, R.bind_ok]
        simp only [ev, evs, test_tt, g2, g3, ofO_some, R.bind_ok, prim_le]
    rw [sl]
    simp only [rightDf, exs, ex, ev, evs, cc, R.bind_ok, all_map]
    rfl
  exact (congrArg (leave true _) e).trans (lv_bool rfl)
/-! ### lots -/
def lots : Nat → List (List Nat)
  | 0 => [[]]
  | n + 1 => lots n ++ (lots n).map (· ++ [n])
def lotsV (l : List (List Nat)) : Val := .lst (l.map numsV)
def lotsC : E := (.comp false (.prim (.add false) (.cons (.var 4) (.cons (.lst false (.cons (.var 2) .nil)) .nil))) [3, 4] (.nm 4) (.ev (.var 1)) (.cst (.bool true)))
def lotsB : Ss := (.cons (.asg (.nm 1) (.prim (.add false) (.cons (.var 1) (.cons lotsC .nil)))) .nil)
def lotsDf : Df := ⟨1, 5, [], true, (.cons (.asg (.nm 1) (.lst false (.cons (.lst false .nil) .nil)))
 (.cons (.for_ (.nm 2) (.rng (.cons (.var 0) .nil)) lotsB)
 (.cons (.ret (.prim (.sl false true false false) (.cons (.var 1) (.cons (.cst (.int 1)) .nil))))
 .nil)))⟩
theorem lots_len : ∀ n, (lots n).length = 2 ^ n
  | 0 => rfl
  | n + 1 => by rw [lots, List.length_append, List.length_map, lots_len n, Nat.pow_succ]; omega
theorem lots_mem : ∀ (n : Nat) (l : List Nat), l ∈ lots n → l.length ≤ n ∧ ∀ x ∈ l, x < n
  | 0, l, m => by rw [lots, List.mem_singleton] at m; subst m; exact ⟨Nat.le_refl _, fun x m => by cases m⟩
  | n + 1, l, m => by
    rw [lots] at m
    rcases List.mem_append.mp m with m | m
    · obtain ⟨a, b⟩ := lots_mem n l m
      exact ⟨by omega, fun x mx => by have := b x mx; omega⟩
    · obtain ⟨l', m2, rfl⟩ := List.mem_map.mp m
      obtain ⟨a, b⟩ := lots_mem n l' m2
      refine ⟨by simp; omega, fun x mx => ?_⟩
      rcases List.mem_append.mp mx with mx | mx
      · have := b x mx; omega
      · rw [List.mem_singleton.mp mx]; omega
theorem plain_lots {l : List (List Nat)} : Plain 2 (lotsV l) := fun x m => by
  obtain ⟨n, _, rfl⟩ := List.mem_map.mp m; exact plain_nums
theorem add_lst {b : Nat} {h : Hp} {xs ys : List Val} (l : xs.length + ys.length ≤ 100000) : prim b (.add false) [.lst xs, .lst ys] h = .ok (.lst (xs ++ ys)) h := by
  show (if xs.length + ys.length ≤ 100000 then newL false (xs ++ ys) h else R.no) = _
  rw [if_pos l]; rfl
theorem lots_m {P : Prog} {W m b f n : Nat} {h : Hp} (d : P.defs f = some lotsDf) (hn : n ≤ 8) (hm : 1 ≤ m) : run P W m b f [.int n] h = .ok (lotsV ((lots n).drop 1)) h := by
  obtain ⟨m, rfl⟩ : ∃ n, m = n + 1 := ⟨m - 1, by omega⟩
  rw [run_pure d rfl rfl rfl]
  let C : Cx := ⟨run P W m h.length, runV P W m h.length, P.gv, h.length, W⟩
  let ρ1 : Env := [.v (.int n), .v (lotsV (lots 0)), .u, .u, .u]
  have hi : evIt C ρ1 h (.rng (.cons (.var 0) .nil)) = .ok ((List.range n).map (fun k : Nat => Val.int k), []) h :=
    range1 (by have g0 : ∀ h, Env.get ρ1 h 0 = some (.int n) := fun _ => rfl
               simp only [ev, g0, ofO_some]) (by omega)
  have e : exs C (slots0 lotsDf.ns [.int n]) h lotsDf.body = .ok (.rt (lotsV ((lots n).drop 1))) h := by
    have sl : slots0 lotsDf.ns [.int n] = [.v (.int n), .u, .u, .u, .u] := rfl
    rw [sl]
    simp only [lotsDf]
    rw [exs, show ex C [.v (.int n), .u, .u, .u, .u] h (.asg (.nm 1) (.lst false (.cons (.lst false .nil) .nil))) = .ok (.nx ρ1) h from rfl, R.bind_ok]
    simp only
    refine for_mapK (.nm 2) lotsB (fun k : Nat => Val.int k) hi (fun k ρ h' => h' = h ∧ NoC ρ ∧ ρ.length = 5 ∧ ρ[1]? = some (.v (lotsV (lots k)))) ⟨rfl, NoC.of rfl, rfl, rfl⟩ ?_ ?_
    · rintro k x ρ h' hx ⟨rfl, n1, l1, b1⟩
      obtain ⟨hk, rfl⟩ : k < n ∧ x = k := by
        obtain ⟨z, e⟩ := List.getElem?_eq_some_iff.mp hx
        simp at z e; exact ⟨z, e.symm⟩
      rw [bindT_nm n1 (by omega), R.bind_ok]
      let ρ2 : Env := ρ.set 2 (.v (.int (x : Nat)))
      have n2 : NoC ρ2 := n1.set
      have l2 : ρ2.length = 5 := by simp [ρ2, l1]
      have c1 : ρ2[1]? = some (.v (lotsV (lots x))) := (List.getElem?_set_ne (by decide)).trans b1
      have c2 : ρ2[2]? = some (.v (.int (x : Nat))) := List.getElem?_set_self (by omega)
      have cc : ev C ρ2 h' lotsC = .ok (.lst ((lots x).map fun l => numsV (l ++ [x]))) h' := by
        refine comp_map (xs := lots x) numsV _ (by simp only [evIt, ev, Env.get, c1, ofO_some, R.bind_ok]; rfl) fun l ml => ?_
        have nw : NoC (wipe ρ2 [3, 4]) := n2.setu.setu
        have lw : (wipe ρ2 [3, 4]).length = 5 := by simp [wipe, l2]
        rw [bindT_nm nw (by omega), R.bind_ok]
        have d2 : ((wipe ρ2 [3, 4]).set 4 (.v (numsV l)))[2]? = some (.v (.int (x : Nat))) := by
          rw [List.getElem?_set_ne (by decide)]; simp only [wipe]; rw [List.getElem?_set_ne (by decide), List.getElem?_set_ne (by decide), c2]
        have d4 : ((wipe ρ2 [3, 4]).set 4 (.v (numsV l)))[4]? = some (.v (numsV l)) := List.getElem?_set_self (by omega)
        have ad : ∀ b, prim b (.add false) [numsV l, .lst [.int (x : Nat)]] h' = .ok (numsV (l ++ [x])) h' := fun b => by
          unfold numsV
          rw [add_lst (by have := (lots_mem x l ml).1; simp; omega), List.map_append]; rfl
        simp only [ev, evs, test_tt, Env.get, d2, d4, ofO_some, R.bind_ok, newL, Bool.false_eq_true, if_false, ad]
      refine ⟨ρ2.set 1 (.v (lotsV (lots (x + 1)))), h', ?_, rfl, n2.set, by simp [l2], List.getElem?_set_self (by omega)⟩
      show exs C ρ2 h' lotsB = _
      have ad : ∀ b, prim b (.add false) [lotsV (lots x), .lst ((lots x).map fun l => numsV (l ++ [x]))] h' = .ok (lotsV (lots (x + 1))) h' := fun b => by
        unfold lotsV
        rw [add_lst (by
          have : 2 ^ x ≤ 2 ^ 8 := Nat.pow_le_pow_right (by decide) (by omega)
          simp [lots_len]; omega), lots, List.map_append, List.map_map]; rfl
      simp only [lotsB, exs, ex, ev, evs, Env.get, c1, ofO_some, R.bind_ok, cc, ad, bindT_nm n2 (show 1 < ρ2.length by omega)]
    · rintro ρ h' e ⟨rfl, n1, l1, b1⟩
      rw [exs, e, R.bind_ok]
      have b1 : ρ[1]? = some (.v (lotsV (lots n))) := by simpa using b1
      have sl1 : ∀ b, prim b (.sl false true false false) [lotsV (lots n), .int 1] h' = .ok (lotsV ((lots n).drop 1)) h' := fun b => by
        unfold lotsV
        rw [List.map_drop]
        exact prim_slFrom (i := 1)
      simp only [exs, ex, ev, evs, Env.get, b1, ofO_some, R.bind_ok, sl1]
  exact (congrArg (leave true _) e).trans (lv_plain plain_lots rfl)
end Mp
/-! M17: the plain law of k25: down tables have no bars; least places go right just without bars. -/
namespace Mp
def bq (T : List (List Rat)) (rows cols : Nat) : List (Nat × Nat × Nat × Nat) := (List.range rows).flatMap fun i => (List.range' (i + 1) (rows - (i + 1))).flatMap fun k => (List.range cols).flatMap fun j => (List.range' (j + 1) (cols - (j + 1))).flatMap fun l => if bar T i k j l then [(i, k, j, l)] else []
theorem mem_bq {T : List (List Rat)} {rows cols i k j l : Nat} : (i, k, j, l) ∈ bq T rows cols ↔ i < k ∧ k < rows ∧ j < l ∧ l < cols ∧ bar T i k j l = true := by
  unfold bq
  simp only [List.mem_flatMap, List.mem_range, List.mem_range'_1]
  constructor
  · rintro ⟨i', hi, k', hk, j', hj, l', hl, m⟩
    split at m
    · rename_i hb
      rw [List.mem_singleton] at m
      cases m
      exact ⟨by omega, by omega, by omega, by omega, hb⟩
    · cases m
  · rintro ⟨h1, h2, h3, h4, hb⟩
    exact ⟨i, by omega, k, by omega, j, by omega, l, by omega, by rw [if_pos hb]; simp⟩
theorem bq_nil {T : List (List Rat)} {rows cols : Nat} : bq T rows cols = [] ↔ ∀ i k j l, i < k → k < rows → j < l → l < cols → bar T i k j l = false := by
  constructor
  · intro e i k j l h1 h2 h3 h4
    cases q : bar T i k j l with
    | false => rfl
    | true =>
      have := mem_bq.mpr ⟨h1, h2, h3, h4, q⟩
      rw [e] at this; cases this
  · intro h
    cases q : bq T rows cols with
    | nil => rfl
    | cons p t =>
      obtain ⟨i, k, j, l⟩ := p
      have := mem_bq.mp (show (i, k, j, l) ∈ bq T rows cols by rw [q]; simp)
      rw [h i k j l this.1 this.2.1 this.2.2.1 this.2.2.2.1] at this
      exact absurd this.2.2.2.2 (by simp)
theorem findSome_flat {α β γ : Type} {f : α → List β} {g : β → Option γ} : ∀ xs : List α, (xs.flatMap f).findSome? g = xs.findSome? fun x => (f x).findSome? g
  | [] => rfl
  | x :: xs => by
    rw [List.flatMap_cons, List.findSome?_append, findSome_flat xs, List.findSome?_cons]
    cases (f x).findSome? g <;> rfl
theorem num_pos' {q : Rat} : 0 < q.num ↔ 0 < q := by
  rw [Rat.lt_iff]; simp
theorem bq_head {T : List (List Rat)} {rows cols : Nat} : (bq T rows cols).head? = firstBar T rows cols := by
  unfold bq firstBar pairs
  simp only [List.head?_flatMap, findSome_flat, List.findSome?_map]
  congr 1
  funext i
  congr 1
  funext k
  congr 1
  funext j
  congr 1
  funext l
  simp only [Function.comp]
  split <;> rfl
theorem bar_iff {T : List (List Rat)} {i k j l : Nat} : bar T i k j l = false ↔ (ent T i l < ent T i j → ent T k l < ent T k j) := by
  unfold bar
  by_cases a : ent T i l < ent T i j <;> by_cases b : ent T k l < ent T k j <;> simp [a, b]
/-! ### down -/
theorem isDn_iff {T : List (List Rat)} {rows cols : Nat} : isDn T rows cols = true ↔ ∀ i j, i + 1 < rows → j + 1 < cols → ent T i j + ent T (i + 1) (j + 1) ≤ ent T i (j + 1) + ent T (i + 1) j := by
  unfold isDn
  simp only [Bool.not_eq_true', List.any_eq_false, List.mem_range, List.any_eq_true, not_exists, not_and, decide_eq_true_eq]
  constructor
  · intro h i j hi hj
    have := h i (by omega) j (by omega)
    have z : ¬ 0 < cor T i j := fun c => this (num_pos'.mpr c)
    unfold cor at z
    grind
  · intro h i hi j hj c
    have := h i j (by omega) (by omega)
    have z : 0 < cor T i j := num_pos'.mp c
    unfold cor at z
    grind
theorem down_row {T : List (List Rat)} {rows cols : Nat} (d : ∀ i j, i + 1 < rows → j + 1 < cols → ent T i j + ent T (i + 1) (j + 1) ≤ ent T i (j + 1) + ent T (i + 1) j) {i : Nat} (hi : i + 1 < rows) {j : Nat} : ∀ n, j + n < cols → ent T i j + ent T (i + 1) (j + n) ≤ ent T i (j + n) + ent T (i + 1) j
  | 0, _ => by simp only [Nat.add_zero]; grind
  | n + 1, h => by
    have a := down_row d hi (j := j) n (by omega)
    have b := d i (j + n) hi (by omega)
    rw [show j + (n + 1) = j + n + 1 by omega]
    grind
theorem down_all {T : List (List Rat)} {rows cols : Nat} (d : ∀ i j, i + 1 < rows → j + 1 < cols → ent T i j + ent T (i + 1) (j + 1) ≤ ent T i (j + 1) + ent T (i + 1) j) {i j l : Nat} (hj : j ≤ l) (hl : l < cols) : ∀ n, i + n < rows → ent T i j + ent T (i + n) l ≤ ent T i l + ent T (i + n) j
  | 0, _ => by simp only [Nat.add_zero]; grind
  | n + 1, h => by
    have a := down_all d (i := i) hj hl n (by omega)
    have b := down_row d (i := i + n) (by omega) (j := j) (l - j) (by omega)
    rw [show j + (l - j) = l by omega] at b
    rw [show i + (n + 1) = i + n + 1 by omega]
    grind
theorem dn_bars {T : List (List Rat)} {rows cols : Nat} (h : isDn T rows cols = true) : bq T rows cols = [] := by
  rw [isDn_iff] at h
  rw [bq_nil]
  intro i k j l h1 h2 h3 h4
  rw [bar_iff]
  intro c
  have := down_all h (i := i) (j := j) (l := l) (by omega) h4 (k - i) (by omega)
  rw [show i + (k - i) = k by omega] at this
  grind
/-! ### first least places -/
theorem fl_spec {r : List Rat} (ne : r ≠ []) : ∃ q, r[fl r]? = some q ∧ (∀ p ∈ r, ¬ p < q) ∧ ∀ i p, i < fl r → r[i]? = some p → q < p := by
  have hn := leastL_ne ne
  have key : ∀ (x : Nat), x ∈ leastL r ↔ ∃ q, r[x]? = some q ∧ ∀ p ∈ r, ¬ p < q := fun x => by
    unfold leastL
    constructor
    · intro m
      obtain ⟨⟨q, i⟩, m1, m2⟩ := List.mem_filterMap.mp m
      simp only at m2
      split at m2
      · cases m2
      · rename_i c
        cases m2
        rw [List.mem_zipIdx_iff_getElem?] at m1
        refine ⟨q, m1, fun p mp hp => c (List.any_eq_true.mpr ⟨p, mp, by simpa using hp⟩)⟩
    · rintro ⟨q, e, h⟩
      refine List.mem_filterMap.mpr ⟨(q, x), ?_, ?_⟩
      · rw [List.mem_zipIdx_iff_getElem?]; exact e
      · simp only
        rw [if_neg]
        intro c
        obtain ⟨p, mp, hp⟩ := List.any_eq_true.mp c
        exact h p mp (by simpa using hp)
  have sorted : (leastL r).Pairwise (· < ·) := by
    unfold leastL
    have z : (r.zipIdx).Pairwise (fun a b => a.2 < b.2) := by
      rw [List.pairwise_iff_getElem]
      intro i j hi hj hij
      simp
      exact hij
    refine List.Pairwise.filterMap _ (fun a a' h b hb b' hb' => ?_) z
    split at hb <;> first | (cases hb; done) | skip
    split at hb' <;> first | (cases hb'; done) | skip
    cases hb; cases hb'
    exact h
  cases q : leastL r with
  | nil => exact absurd q hn
  | cons a t =>
    have hf : fl r = a := by unfold fl; rw [q]; rfl
    rw [q] at sorted key
    obtain ⟨v, e, h⟩ := (key a).mp (by simp)
    refine ⟨v, by rw [hf]; exact e, h, fun i p hi hp => ?_⟩
    rw [hf] at hi
    have mp : p ∈ r := List.mem_of_getElem? hp
    have mv : v ∈ r := List.mem_of_getElem? e
    by_cases c : v < p
    · exact c
    · -- then p is a least, too, and stands ahead
      have : i ∈ a :: t := (key i).mpr ⟨p, hp, fun u mu hu => h u mu (by grind)⟩
      rcases List.mem_cons.mp this with z | z
      · omega
      · have := List.rel_of_pairwise_cons sorted z
        omega
/-- a table's columns that are picked -/
def pickC (T : List (List Rat)) (c : List Nat) : List (List Rat) := T.map fun row => c.map fun p => row.getD p 0
theorem right_iff {ns : List Nat} : right ns = true ↔ ∀ i, i + 1 < ns.length → ns.getD i 0 ≤ ns.getD (i + 1) 0 := by
  unfold right
  rw [List.all_eq_true]
  constructor
  · intro h i hi
    have := h (ns[i], ns[i + 1]) (by
      rw [List.mem_iff_getElem]
      refine ⟨i, by simp; omega, ?_⟩
      simp [Nat.add_comm])
    simp only [decide_eq_true_eq] at this
    rw [List.getD_eq_getElem?_getD, List.getD_eq_getElem?_getD, List.getElem?_eq_getElem (by omega), List.getElem?_eq_getElem hi]
    simp only [Option.getD_some]
    omega
  · intro h p mp
    obtain ⟨i, hi, rfl⟩ := List.mem_iff_getElem.mp mp
    simp at hi
    have := h i (by omega)
    rw [List.getD_eq_getElem?_getD, List.getD_eq_getElem?_getD, List.getElem?_eq_getElem (by omega), List.getElem?_eq_getElem (show i + 1 < ns.length by omega)] at this
    simp only [Option.getD_some] at this
    simp only [List.getElem_zip, List.getElem_drop, decide_eq_true_eq]
    have e : ns[1 + i]'(by omega) = ns[i + 1]'(by omega) := by congr 1; omega
    rw [e]; omega
theorem right_mono {ns : List Nat} (h : right ns = true) {i k : Nat} (hik : i ≤ k) (hk : k < ns.length) : ns.getD i 0 ≤ ns.getD k 0 := by
  rw [right_iff] at h
  obtain ⟨n, rfl⟩ : ∃ n, k = i + n := ⟨k - i, by omega⟩
  clear hik
  induction n with
  | zero => exact Nat.le_refl _
  | succ n ih => exact Nat.le_trans (ih (by omega)) (h (i + n) (by omega))
theorem lots_inc : ∀ (n : Nat) (l : List Nat), l ∈ lots n → l.Pairwise (· < ·)
  | 0, l, m => by rw [lots, List.mem_singleton] at m; subst m; exact .nil
  | n + 1, l, m => by
    rw [lots] at m
    rcases List.mem_append.mp m with m | m
    · exact lots_inc n l m
    · obtain ⟨l', m2, rfl⟩ := List.mem_map.mp m
      rw [List.pairwise_append]
      refine ⟨lots_inc n l' m2, List.pairwise_singleton _ _, fun a ma b mb => ?_⟩
      rw [List.mem_singleton] at mb
      subst mb
      exact (lots_mem _ l' m2).2 a ma
theorem lots_cons (n : Nat) : ∃ t, lots n = [] :: t ∧ ∀ l ∈ t, l ≠ [] := by
  induction n with
  | zero => exact ⟨[], rfl, fun l m => by cases m⟩
  | succ n ih =>
    obtain ⟨t, e, h⟩ := ih
    refine ⟨t ++ (lots n).map (· ++ [n]), by rw [lots, e]; rfl, fun l m => ?_⟩
    rcases List.mem_append.mp m with m | m
    · exact h l m
    · obtain ⟨l', _, rfl⟩ := List.mem_map.mp m
      simp
theorem lots_drop {n : Nat} {l : List Nat} : l ∈ (lots n).drop 1 ↔ l ∈ lots n ∧ l ≠ [] := by
  obtain ⟨t, e, h⟩ := lots_cons n
  rw [e]
  show l ∈ t ↔ _
  constructor
  · intro m; exact ⟨List.mem_cons_of_mem _ m, h l m⟩
  · rintro ⟨m, ne⟩
    rcases List.mem_cons.mp m with z | z
    · exact absurd z ne
    · exact z
theorem lots_one : ∀ {n j : Nat}, j < n → [j] ∈ lots n
  | 0, j, h => absurd h (Nat.not_lt_zero _)
  | n + 1, j, h => by
    rw [lots, List.mem_append]
    by_cases e : j = n
    · subst e
      obtain ⟨t, e, _⟩ := lots_cons j
      exact .inr (List.mem_map.mpr ⟨[], by rw [e]; simp, rfl⟩)
    · exact .inl (lots_one (by omega))
theorem lots_two : ∀ {n j l : Nat}, j < l → l < n → [j, l] ∈ lots n
  | 0, j, l, _, h => absurd h (Nat.not_lt_zero _)
  | n + 1, j, l, hj, h => by
    rw [lots, List.mem_append]
    by_cases e : l = n
    · subst e
      exact .inr (List.mem_map.mpr ⟨[j], lots_one hj, rfl⟩)
    · exact .inl (lots_two hj (by omega))
/-- all lots' first least places go right, just if there is no bar -/
theorem rights_bars {K rows cols : Nat} {T : List (List Rat)} (t : TOk K rows cols T) : (((lots cols).drop 1).all fun c => right ((pickC T c).map fl)) = (bq T rows cols).isEmpty := by
  have len : ∀ c, ((pickC T c).map fl).length = rows := fun c => by simp [pickC, t.rows]
  have at' : ∀ c i, i < rows → ((pickC T c).map fl).getD i 0 = fl (c.map fun p => ent T i p) := fun c i hi => by
    obtain ⟨i', hi'⟩ : ∃ row, T[i]? = some row := ⟨T[i]'(by rw [t.rows]; exact hi), List.getElem?_eq_getElem _⟩
    rw [List.getD_eq_getElem?_getD, List.getElem?_map]
    unfold pickC
    rw [List.getElem?_map, hi']
    simp only [Option.map_some, Option.getD_some]
    congr 1
    refine List.map_congr_left fun p _ => ?_
    unfold ent
    rw [List.getD_eq_getElem?_getD (l := T), hi']; rfl
  rw [Bool.eq_iff_iff, List.all_eq_true, List.isEmpty_iff, bq_nil]
  constructor
  · intro h i k j l h1 h2 h3 h4
    rw [bar_iff]
    intro c
    have hr := h [j, l] (lots_drop.mpr ⟨lots_two h3 h4, by simp⟩)
    have := right_mono hr (show i ≤ k by omega) (by rw [len]; exact h2)
    rw [at' _ i (by omega), at' _ k h2] at this
    -- row i: 1; row k: 0 or 1
    obtain ⟨q, e1, e2, e3⟩ := fl_spec (r := [j, l].map fun p => ent T i p) (by simp)
    obtain ⟨q', e1', e2', e3'⟩ := fl_spec (r := [j, l].map fun p => ent T k p) (by simp)
    have f1 : fl ([j, l].map fun p => ent T i p) ≠ 0 := fun z => by
      rw [z] at e1
      simp at e1
      exact e2 (ent T i l) (by simp) (by rw [← e1]; exact c)
    have f2 : 0 < fl ([j, l].map fun p => ent T k p) := by omega
    have g1 := e3' 0 (ent T k j) f2 (by simp)
    have lt : fl ([j, l].map fun p => ent T k p) < 2 := by
      have := (List.getElem?_eq_some_iff.mp e1').1
      simpa using this
    have : fl ([j, l].map fun p => ent T k p) = 1 := by omega
    rw [this] at e1'
    simp at e1'
    rw [e1']; exact g1
  · intro h c mc
    obtain ⟨m1, ne⟩ := lots_drop.mp mc
    have inc := lots_inc cols c m1
    have lt := (lots_mem cols c m1).2
    rw [right_iff]
    intro i hi
    rw [len] at hi
    rw [at' _ i (by omega), at' _ (i + 1) hi]
    obtain ⟨q, e1, e2, e3⟩ := fl_spec (r := c.map fun p => ent T i p) (by simpa using ne)
    obtain ⟨q', e1', e2', e3'⟩ := fl_spec (r := c.map fun p => ent T (i + 1) p) (by simpa using ne)
    generalize fl (c.map fun p => ent T i p) = a at *
    generalize fl (c.map fun p => ent T (i + 1) p) = b at *
    by_cases ab : a ≤ b
    · exact ab
    · exfalso
      rw [List.getElem?_map] at e1 e1'
      obtain ⟨ca, ha, rfl⟩ := Option.map_eq_some_iff.mp e1
      obtain ⟨cb, hb, rfl⟩ := Option.map_eq_some_iff.mp e1'
      have g := e3 b (ent T i cb) (by omega) (by rw [List.getElem?_map, hb]; rfl)
      have cc : cb < ca := by
        rw [List.pairwise_iff_getElem] at inc
        obtain ⟨h1, rfl⟩ := List.getElem?_eq_some_iff.mp ha
        obtain ⟨h2, rfl⟩ := List.getElem?_eq_some_iff.mp hb
        exact inc b a h2 h1 (by omega)
      have := (bar_iff.mp (h i (i + 1) cb ca (by omega) hi cc (lt ca (List.mem_of_getElem? ha)))) g
      exact e2' (ent T (i + 1) ca) (List.mem_map.mpr ⟨ca, List.mem_of_getElem? ha, rfl⟩) this
end Mp
/-! L25a: the turn of k25, part by part. -/
namespace Mp
def two : Txt := PySem.Str.ofString "two"
def steadyV : Val := .tup [.str (PySem.Str.ofString "steady")]
def barV (q : Nat × Nat × Nat × Nat) : Val := .tup [.str (PySem.Str.ofString "two"), .lst [.int q.1, .int q.2.1], .lst [.int q.2.2.1, .int q.2.2.2]]
def dueV : Option (Nat × Nat × Nat × Nat) → Val
  | none => steadyV
  | some q => barV q
def told (o : Option (Nat × Nat × Nat × Nat)) (n : Nat) : Val := match o with
  | none => steadyV
  | some _ => twoV n
def dueX : Option (Nat × Nat × Nat × Nat) → Hp
  | none => []
  | some q => [some (.lst [.int q.1, .int q.2.1]), some (.lst [.int q.2.2.1, .int q.2.2.2])]
theorem ok_two : PySem.PyData.strOk (PySem.Str.ofString "two") = true := by decide +kernel
theorem ok_steady : PySem.PyData.strOk (PySem.Str.ofString "steady") = true := by decide +kernel
theorem plain_bar {q : Nat × Nat × Nat × Nat} : PlainS 2 (barV q) := by
  intro x m
  simp only [List.mem_cons, List.not_mem_nil, or_false] at m
  rcases m with rfl | rfl | rfl
  · exact ok_two
  · intro y my; simp only [List.mem_cons, List.not_mem_nil, or_false] at my; rcases my with rfl | rfl <;> trivial
  · intro y my; simp only [List.mem_cons, List.not_mem_nil, or_false] at my; rcases my with rfl | rfl <;> trivial
theorem plain_steady : PlainS 2 steadyV := by
  intro x m
  simp only [List.mem_cons, List.not_mem_nil, or_false] at m
  subst m; exact ok_steady
theorem plain_due {o : Option (Nat × Nat × Nat × Nat)} : PlainS 2 (dueV o) := by cases o with
  | none => exact plain_steady
  | some q => exact plain_bar
theorem PlainS.up : ∀ {k : Nat} {v : Val}, PlainS k v → PlainS (k + 1) v
  | 0, v, h => by cases v <;> first | trivial | exact h | exact h.elim
  | k + 1, .none, _ => trivial
  | k + 1, .bool _, _ => trivial
  | k + 1, .int _, _ => trivial
  | k + 1, .str _, h => h
  | k + 1, .tup xs, h => fun x m => PlainS.up (h x m)
  | k + 1, .lst xs, h => fun x m => PlainS.up (h x m)
  | k + 1, .dct _ _, h => h.elim
  | k + 1, .ref _, h => h.elim
  | k + 1, .fn _, h => h.elim
  | k + 1, .clo _ _, h => h.elim
  | k + 1, .exc _ _, h => h.elim
theorem plainS_tab {T : List (List Rat)} : PlainS 3 (tabV T) := fun x m => by
  obtain ⟨r, _, rfl⟩ := List.mem_map.mp m
  intro y my
  obtain ⟨q, _, rfl⟩ := List.mem_map.mp my
  intro z mz
  simp only [List.mem_cons, List.not_mem_nil, or_false] at mz
  rcases mz with rfl | rfl <;> trivial
/-! ### heaps: the stream, and what the turn makes -/
theorem F_at {h X : Hp} {r s : Nat} {g : Sg} (p : Spot h r s) {i : Nat} : Hp.at (stH (h ++ X) r s g) (h.length + i) = X.at i := by
  have := p.hr; have := p.hs
  rw [stH_ne p.app (by omega) (by omega)]
  exact at_app2
theorem F_len {h X : Hp} {r s : Nat} {g : Sg} : (stH (h ++ X) r s g).length = h.length + X.length := by simp
theorem F_app {h X Y : Hp} {r s : Nat} {g : Sg} (p : Spot h r s) : stH (h ++ X) r s g ++ Y = stH (h ++ (X ++ Y)) r s g := by
  rw [← stH_app p.app, List.append_assoc]
theorem F_split {h X h' : Hp} {r s : Nat} {g : Sg} (p : Spot h r s) (l : h'.length = (stH (h ++ X) r s g).length) (e : ∀ i, i < h.length → h'.at i = Hp.at (stH (h ++ X) r s g) i) : ∃ X' : Hp, X'.length = X.length ∧ h' = stH (h ++ X') r s g ∧ ∀ i, X'.at i = h'.at (h.length + i) := by
  have hl : h'.length = h.length + X.length := by rw [l, F_len]
  refine ⟨h'.drop h.length, by rw [List.length_drop]; omega, ?_, fun i => by unfold Hp.at; rw [List.getElem?_drop]⟩
  refine Hp.ext (by simp; omega) fun i => ?_
  by_cases hi : i < h.length
  · rw [e i hi, stH_app p, stH_app p, at_app (by simpa using hi), at_app (by simpa using hi)]
  · obtain ⟨j, rfl⟩ : ∃ j, i = h.length + j := ⟨i - h.length, by omega⟩
    rw [F_at p]
    unfold Hp.at; rw [List.getElem?_drop]
theorem told_den {H : Hp} {o : Option (Nat × Nat × Nat × Nat)} {n k : Nat} (e : ∀ q, o = some q → H.at n = some (.lst [.int q.1, .int q.2.1]) ∧ H.at (n + 1) = some (.lst [.int q.2.2.1, .int q.2.2.2])) : Den H (k + 2) (told o n) (dueV o) := by
  have at1 : ∀ {k : Nat} {x : Int}, Den H k (.int x) (.int x) := fun {k x} => by cases k <;> exact ⟨rfl, rfl⟩
  have at2 : ∀ {k : Nat} {x : Txt}, Den H k (.str x) (.str x) := fun {k x} => by cases k <;> exact ⟨rfl, rfl⟩
  cases o with
  | none => exact ⟨_, rfl, .cons at2 .nil⟩
  | some q =>
    obtain ⟨e1, e2⟩ := e q rfl
    refine ⟨_, rfl, .cons at2 (.cons ⟨[.int q.1, .int q.2.1], ?_, .cons at1 (.cons at1 .nil)⟩ (.cons ⟨[.int q.2.2.1, .int q.2.2.2], ?_, .cons at1 (.cons at1 .nil)⟩ .nil))⟩
    · show (match H.at n with | some (.lst xs) | some (.lck xs) => some xs | _ => Option.none) = _; rw [e1]
    · show (match H.at (n + 1) with | some (.lst xs) | some (.lck xs) => some xs | _ => Option.none) = _; rw [e2]
theorem bars_eq {h : Hp} {n : Nat} {qs : List (Nat × Nat × Nat × Nat)} (e : h.at n = some (.lst (qs.map barV))) : pyEq h (.ref n) (.lst []) = some qs.isEmpty := by
  have dt : ∀ q, Val.dat h 29 (barV q) = some (.tuple [.str (PySem.Str.ofString "two"), .list [.int q.1, .int q.2.1], .list [.int q.2.2.1, .int q.2.2.2]]) := fun q => by
    simp only [barV, Val.dat, mapO, ok_two, if_true, Option.map]
  have ds : ∀ qs : List (Nat × Nat × Nat × Nat), mapO (Val.dat h 29) (qs.map barV) = some (qs.map fun q => PySem.PyData.tuple [.str (PySem.Str.ofString "two"), .list [.int q.1, .int q.2.1], .list [.int q.2.2.1, .int q.2.2.2]]) := fun qs => by
    induction qs with
    | nil => rfl
    | cons q qs ih => simp only [List.map_cons, mapO, dt, ih]
  have e1 : Val.dat h 30 (.ref n) = some (.list (qs.map fun q => PySem.PyData.tuple [.str (PySem.Str.ofString "two"), .list [.int q.1, .int q.2.1], .list [.int q.2.2.1, .int q.2.2.2]])) := by
    show (match h.at n with | some (.lst xs) | some (.lck xs) => (mapO (Val.dat h 29) xs).map PySem.PyData.list | _ => Option.none) = _
    rw [e]
    simp only
    rw [ds]; rfl
  have e2 : Val.dat h 30 (.lst []) = some (.list []) := rfl
  unfold pyEq
  rw [e1, e2]
  cases qs with
  | nil => simp [PySem.PyData.eqv, PySem.PyData.eqvAll]
  | cons a t => simp [PySem.PyData.eqv, PySem.PyData.eqvAll]
/-! ### the turn's parts -/
structure Lk (P : Prog) (W : Nat) : Prop where
  D : Drs P W 17 18 19 20 11 12
  T : Kts P W 0 1 2 3 5 6 7
  st : P.defs 9 = some (steadyDf 7 8)
  gl : P.defs 8 = some (goesDf 4)
  iu : P.defs 4 = some belowDf
  be : P.defs 21 = some belowDf
  sm : P.defs 13 = some (sameDf 13)
  sp : P.defs 14 = some (spoiltDf 14)
  cp : P.defs 15 = some (copyDf 15)
  lo : P.defs 16 = some (looseDf 16 11)
  on : P.defs 22 = some (oneDf 18 11 12)
  so : P.defs 23 = some (someDf 18 11 12)
  md : P.defs 24 = some (madeDf 19 20)
  dn : P.defs 25 = some (downDf 22 23 24)
  tb : P.defs 26 = some (tableDf 22 25 19 11 12)
  cr : P.defs 27 = some (cornerDf 19 20)
  isd : P.defs 28 = some (isDownDf 27)
  fl : P.defs 29 = some (flDf 21)
  ls : P.defs 30 = some (leastDf 29)
  rt : P.defs 31 = some rightDf
  lt : P.defs 32 = some lotsDf
abbrev Cn (P : Prog) (W m b : Nat) : Cx := ⟨run P W m b, runV P W m b, P.gv, b, W⟩
/-- the names in a turn -/
structure Rn (ρ : Env) (s : Nat) : Prop where
  nc : NoC ρ
  len : ρ.length = 25
  st : ρ[1]? = some (.v (.ref s))
theorem Rn.set {ρ : Env} {s i : Nat} {v : Val} (n : Rn ρ s) (hi : i ≠ 1) : Rn (ρ.set i (.v v)) s := ⟨n.nc.set, by simpa using n.len, by rw [List.getElem?_set_ne hi]; exact n.st⟩
def tA : S := (.asg (.nm 3) (.call 26 [0, 1, 2] (.cons (.var 1) (.cons (.prim (.add false) (.cons (.cst (.int 1)) (.cons (.call 11 [0, 1] (.cons (.var 1) (.cons (.cst (.int 5)) .nil))) .nil))) (.cons (.prim (.add false) (.cons (.cst (.int 1)) (.cons (.call 11 [0, 1] (.cons (.var 1) (.cons (.cst (.int 5)) .nil))) .nil))) .nil)))))
def tBi : E := (.comp false (.call 18 [0, 1] (.cons (.prim (.add false) (.cons (.call 11 [0, 1] (.cons (.var 1) (.cons (.cst (.int 3)) .nil))) (.cons (.ite (.prim .eq (.cons (.call 11 [0, 1] (.cons (.var 1) (.cons (.cst (.int 2)) .nil))) (.cons (.cst (.int 0)) .nil))) (.var 20) (.cst (.int 0))) .nil))) (.cons (.cst (.int 1)) .nil))) [19, 20] (.nm 20) (.rng (.cons (.prim .len (.cons (.var 18) .nil)) .nil)) (.cst (.bool true)))
def tBo : E := (.comp false tBi [17, 18] (.nm 18) (.ev (.var 3)) (.cst (.bool true)))
def tB : S := (.ifs (.prim .eq (.cons (.call 11 [0, 1] (.cons (.var 1) (.cons (.cst (.int 2)) .nil))) (.cons (.cst (.int 0)) .nil))) (.cons (.asg (.nm 3) tBo) .nil) .nil)
section
variable {P : Prog} {W m b : Nat} (L : Lk P W) {h : Hp} {r s : Nat} {g : Sg} (p : Spot h r s)
include L p
theorem tA_pr {ρ : Env} (n : Rn ρ s) (o : g.Ok) (ht : g.t < 2 ^ 45) (hm : 60 ≤ m) : Pr (ex (Cn P W m b) ρ (stH h r s g) tA) h r s g 1310 (fun fl => ∃ rows cols T, 1 ≤ rows ∧ rows ≤ 5 ∧ 1 ≤ cols ∧ cols ≤ 5 ∧ fl = .nx (ρ.set 3 (.v (tabV T))) ∧ TOk 1009 rows cols T) := by
  have g1 : ∀ h, Env.get ρ h 1 = some (.ref s) := fun h => get_of n.st
  simp only [tA, ex, ev, evs, g1, ofO_some, R.bind_ok, R.bind_assoc, List.map, List.getD_cons_zero, List.getD_cons_succ]
  refine Pr.seq (draw_pr (many := 5) L.D.ddr p o (by omega) (by omega) (by omega) L.D.w64 (by omega)) fun v g2 o2 t2 t2' ⟨x, hx, x0, x1⟩ => ?_
  subst hx
  simp only [prim_add, R.bind_ok]
  refine Pr.seq (draw_pr (many := 5) L.D.ddr p o2 (by omega) (by omega) (by omega) L.D.w64 (by omega)) fun v g3 o3 t3 t3' ⟨y, hy, y0, y1⟩ => ?_
  subst hy
  obtain ⟨i, rfl⟩ := Int.eq_ofNat_of_zero_le x0
  obtain ⟨j, rfl⟩ := Int.eq_ofNat_of_zero_le y0
  simp only [prim_add, R.bind_ok]
  rw [show (1 + (i : Int)) = ((i + 1 : Nat) : Int) by omega, show (1 + (j : Int)) = ((j + 1 : Nat) : Int) by omega]
  refine Pr.seq (table_run L.D (rows := i + 1) (cols := j + 1) L.tb L.dn L.on L.so L.md p o3 (by omega) (by omega) (by omega) (by omega) (by omega) (by omega)) fun v g4 o4 t4 t4' ⟨T, hv, kT⟩ => ?_
  subst hv
  rw [bindT_nm n.nc (by rw [n.len]; omega)]
  exact Pr.fin o4 (by omega) ⟨i + 1, j + 1, T, by omega, by omega, by omega, by omega, rfl, kT⟩
theorem tBi_pr {ρ : Env} {c : Nat} {row : List Rat} (n : Rn ρ s) (o : g.Ok) (ht : g.t < 2 ^ 44) (hm : 60 ≤ m) (b18 : ρ[18]? = some (.v (rowV row))) (hc : row.length = c) (c1 : c ≤ 5) : Pr (ev (Cn P W m b) ρ (stH h r s g) tBi) h r s g 10 (fun v => ∃ qs, v = rowV qs ∧ qs.length = c ∧ ∀ q ∈ qs, Sz 8 q) := by
  have hi : evIt (Cn P W m b) ρ (stH h r s g) (.rng (.cons (.prim .len (.cons (.var 18) .nil)) .nil)) = .ok ((List.range c).map (fun k : Nat => Val.int k), []) (stH h r s g) :=
    range1 (by simp only [ev, evs, Env.get, b18, ofO_some, R.bind_ok, len_row, hc]) (by omega)
  refine (comp_st (K := 2) (Q := fun _ v => ∃ q, v = frV q ∧ Sz 8 q) (by omega) o hi fun x hx g' o' t0 t1 => ?_).mono (by simp; omega) fun v ⟨ys, e, a⟩ => ?_
  · obtain ⟨j, mj, rfl⟩ := List.mem_map.mp hx
    have hj := List.mem_range.mp mj
    have nw : NoC (wipe ρ [19, 20]) := n.nc.setu.setu
    have lw : (wipe ρ [19, 20]).length = 25 := by simp [wipe, n.len]
    have c1 : ((wipe ρ [19, 20]).set 20 (.v (.int (j : Nat))))[1]? = some (.v (.ref s)) := by
      rw [List.getElem?_set_ne (by decide)]; simp only [wipe]; rw [List.getElem?_set_ne (by decide), List.getElem?_set_ne (by decide), n.st]
    have c20 : ((wipe ρ [19, 20]).set 20 (.v (.int (j : Nat))))[20]? = some (.v (.int (j : Nat))) := List.getElem?_set_self (by omega)
    have g1 : ∀ h, Env.get ((wipe ρ [19, 20]).set 20 (.v (.int (j : Nat)))) h 1 = some (.ref s) := fun h => get_of c1
    have g20 : ∀ h, Env.get ((wipe ρ [19, 20]).set 20 (.v (.int (j : Nat)))) h 20 = some (.int (j : Nat)) := fun h => get_of c20
    rw [bindT_nm nw (by omega), R.bind_ok]
    simp only [ev, evs, test_tt, g1, ofO_some, R.bind_ok, R.bind_assoc, List.map, List.getD_cons_zero, List.getD_cons_succ]
    simp only [List.length_map, List.length_range] at t1
    refine Pr.seq (draw_pr (many := 3) L.D.ddr p o' (by omega) (by omega) (by omega) L.D.w64 (by omega)) fun v g2 o2 t2 t2' ⟨x, hx, x0, x1⟩ => ?_
    subst hx
    obtain ⟨v, g3, e3, o3, t3, t3', y, rfl, y0, y1⟩ := draw_pr (m := m) (b := b) (many := 2) L.D.ddr p o2 (by omega) (by omega) (by omega) L.D.w64 (by omega)
    have fin : ∀ z : Int, 0 ≤ z → z < 20 → Pr ((run P W m b 18 [.int z, .int 1] (stH h r s g3)).bind fun v h => R.ok (some v) h) h r s g2 1 (fun y => ∃ v, y = some v ∧ ∃ q, v = frV q ∧ Sz 8 q) := fun z z0 z1 => by
      rw [frac_s L.D (by omega) (by omega) (by decide) (by omega)]
      exact ⟨_, g3, rfl, o3, t3, by omega, _, rfl, _, rfl, Sz.div (by omega) (by omega) (by decide)⟩
    rw [e3]
    by_cases z : y = 0
    · subst z
      simp only [R.bind_ok, prim_eqI, beq_self_eq_true, test_tt, g20, ofO_some, prim_add]
      exact (fin _ (by omega) (by omega)).weak (by omega)
    · simp only [R.bind_ok, prim_eqI, show (y == 0) = false by simpa using z, test_ff, prim_add]
      exact (fin _ (by omega) (by omega)).weak (by omega)
  · obtain ⟨qs, rfl, hq⟩ := ex_map (f := frV) (Q := fun q => Sz 8 q) fun y my => by
      obtain ⟨x, _, q⟩ := a.right y my
      exact q
    exact ⟨qs, e, by simpa using a.len.symm, hq⟩
theorem tB_pr {ρ : Env} {rows cols : Nat} {T : List (List Rat)} (n : Rn ρ s) (o : g.Ok) (ht : g.t < 2 ^ 43) (hm : 60 ≤ m) (b3 : ρ[3]? = some (.v (tabV T))) (t : TOk 1009 rows cols T) (r1 : rows ≤ 5) (c1 : cols ≤ 5) :
    Pr (ex (Cn P W m b) ρ (stH h r s g) tB) h r s g 60 (fun fl => ∃ ρ' T', fl = .nx ρ' ∧ Rn ρ' s ∧ ρ'[3]? = some (.v (tabV T')) ∧ TOk 1009 rows cols T') := by
  have g1 : ∀ h, Env.get ρ h 1 = some (.ref s) := fun h => get_of n.st
  have g3 : ∀ h, Env.get ρ h 3 = some (tabV T) := fun h => get_of b3
  obtain ⟨v, g2, e2, o2, t2, t2', y, rfl, y0, y1⟩ := draw_pr (m := m) (b := b) (many := 2) L.D.ddr p o (by omega) (by omega) (by omega) L.D.w64 (by omega)
  simp only [tB, ex, ev, evs, g1, ofO_some, R.bind_ok, List.map, List.getD_cons_zero, List.getD_cons_succ, e2, prim_eqI]
  by_cases z : y = 0
  · subst z
    rw [beq_self_eq_true, test_tt]
    have cc : Pr (ev (Cn P W m b) ρ (stH h r s g2) tBo) h r s g2 50 (fun v => ∃ T', v = tabV T' ∧ TOk 1009 rows cols T') := by
      have hi : evIt (Cn P W m b) ρ (stH h r s g2) (.ev (.var 3)) = .ok (T.map rowV, []) (stH h r s g2) := by
        simp only [evIt, ev, g3, ofO_some, R.bind_ok, walk_tab]
      refine (comp_st (K := 10) (Q := fun _ v => ∃ qs, v = rowV qs ∧ qs.length = cols ∧ ∀ q ∈ qs, Sz 8 q) (by omega) o2 hi fun x hx g' o' t0 t1 => ?_).mono (by have := t.rows; simp; omega) fun v ⟨ys, e, a⟩ => ?_
      · obtain ⟨row, mr, rfl⟩ := List.mem_map.mp hx
        have nw : NoC (wipe ρ [17, 18]) := n.nc.setu.setu
        have lw : (wipe ρ [17, 18]).length = 25 := by simp [wipe, n.len]
        have c1' : ((wipe ρ [17, 18]).set 18 (.v (rowV row)))[1]? = some (.v (.ref s)) := by
          rw [List.getElem?_set_ne (by decide)]; simp only [wipe]; rw [List.getElem?_set_ne (by decide), List.getElem?_set_ne (by decide), n.st]
        rw [bindT_nm nw (by omega), R.bind_ok, show ∀ ρ h, ev (Cn P W m b) ρ h (.cst (.bool true)) = .ok (.bool true) h from fun _ _ => by simp only [ev], test_tt]
        have hl : T.length ≤ 5 := by rw [t.rows]; exact r1
        simp only [List.length_map] at t1
        refine Pr.seq (tBi_pr L p (c := cols) (row := row) ⟨nw.set, by simpa using lw, c1'⟩ o' (by omega) hm (List.getElem?_set_self (by omega)) (t.cols row mr) c1) fun v g4 o4 t4 t4' q => ?_
        exact Pr.fin o4 (by omega) ⟨v, rfl, q⟩
      · obtain ⟨qs, rfl, hq⟩ := ex_map (f := rowV) (Q := fun r => r.length = cols ∧ ∀ q ∈ r, Sz 8 q) fun y my => by
          obtain ⟨x, _, q⟩ := a.right y my
          exact q
        exact ⟨qs, e, by have := a.len; simp at this; rw [← this]; exact t.rows, fun r m => (hq r m).1, fun r m q mq => ((hq r m).2 q mq).mono (by decide)⟩
    simp only [exs, ex]
    obtain ⟨v, g4, e4, o4, t4, t4', T', rfl, k'⟩ := cc
    rw [e4, R.bind_ok, bindT_nm n.nc (by rw [n.len]; omega), R.bind_ok, R.bind_ok]
    exact ⟨_, g4, rfl, o4, by omega, by omega, _, T', rfl, n.set (by decide), List.getElem?_set_self (by rw [n.len]; omega), k'⟩
  · rw [show (y == 0) = false by simpa using z, test_ff]
    exact ⟨_, g2, by simp only [exs], o2, by omega, by omega, ρ, T, rfl, n, b3, t⟩
end
end Mp
/-! L25b: the bars' loops. -/
namespace Mp
theorem copy_m {P : Prog} {W m b f k : Nat} {h : Hp} {v : Val} (d : P.defs f = some (copyDf f)) (pv : Plain k v) (hm : k + 1 ≤ m) : run P W m b f [v] h = .ok v h := by
  obtain ⟨n, rfl⟩ : ∃ n, m = n + k + 1 := ⟨m - (k + 1), by omega⟩
  exact copy_run d k n b v pv
theorem same2_m {P : Prog} {W m b f k : Nat} {h : Hp} {v u w : Val} (d : P.defs f = some (sameDf f)) (pw : PlainS k w) (dv : Den h k v w) (du : Den h k u w) (hm : k + 1 ≤ m) : run P W m b f [v, u] h = .ok (.bool true) h := by
  obtain ⟨n, rfl⟩ : ∃ n, m = n + k + 1 := ⟨m - (k + 1), by omega⟩
  exact same2_run d k n b h v u w pw dv du
theorem flat_len {α β : Type} {f : α → List β} {n : Nat} : ∀ {xs : List α}, (∀ x ∈ xs, (f x).length ≤ n) → (xs.flatMap f).length ≤ xs.length * n
  | [], _ => by simp
  | x :: xs, h => by
    rw [List.flatMap_cons, List.length_append, List.length_cons, Nat.add_mul]
    have := h x (List.mem_cons_self ..)
    have := flat_len (xs := xs) fun y m => h y (List.mem_cons_of_mem _ m)
    omega
def tD4 : Ss := (.cons (.ifs (.and (.call 21 [0, 1] (.cons (.prim .ix (.cons (.prim .ix (.cons (.var 3) (.cons (.var 6) .nil))) (.cons (.var 9) .nil))) (.cons (.prim .ix (.cons (.prim .ix (.cons (.var 3) (.cons (.var 6) .nil))) (.cons (.var 8) .nil))) .nil))) (.prim .not (.cons (.call 21 [0, 1] (.cons (.prim .ix (.cons (.prim .ix (.cons (.var 3) (.cons (.var 7) .nil))) (.cons (.var 9) .nil))) (.cons (.prim .ix (.cons (.prim .ix (.cons (.var 3) (.cons (.var 7) .nil))) (.cons (.var 8) .nil))) .nil))) .nil))) (.cons (.expr (.meth .append (.var 5) (.cons (.tup (.cons (.cst (.str (PySem.Str.ofString "two"))) (.cons (.lst false (.cons (.var 6) (.cons (.var 7) .nil))) (.cons (.lst false (.cons (.var 8) (.cons (.var 9) .nil))) .nil)))) .nil)))
 .nil) .nil)
 .nil)
def tD3 : Ss := (.cons (.for_ (.nm 9) (.rng (.cons (.prim (.add false) (.cons (.var 8) (.cons (.cst (.int 1)) .nil))) (.cons (.prim .len (.cons (.prim .ix (.cons (.var 3) (.cons (.cst (.int 0)) .nil))) .nil)) .nil))) tD4)
 .nil)
def tD2 : Ss := (.cons (.for_ (.nm 8) (.rng (.cons (.prim .len (.cons (.prim .ix (.cons (.var 3) (.cons (.cst (.int 0)) .nil))) .nil)) .nil)) tD3)
 .nil)
def tD1 : Ss := (.cons (.for_ (.nm 7) (.rng (.cons (.prim (.add false) (.cons (.var 6) (.cons (.cst (.int 1)) .nil))) (.cons (.prim .len (.cons (.var 3) .nil)) .nil))) tD2)
 .nil)
def tD : S := (.for_ (.nm 6) (.rng (.cons (.prim .len (.cons (.var 3) .nil)) .nil)) tD1)
def tC : S := (.par (.cons (.nm 5) (.cons (.nm 4) .nil)) (.cons (.call 15 [0] (.cons (.var 3) .nil)) (.cons (.lst true .nil) .nil)))
/-- the names in the bars' loops -/
structure Bn (ρ : Env) (s nb : Nat) (T : List (List Rat)) : Prop where
  r : Rn ρ s
  b3 : ρ[3]? = some (.v (tabV T))
  b4 : ρ[4]? = some (.v (tabV T))
  b5 : ρ[5]? = some (.v (.ref nb))
theorem Bn.set {ρ : Env} {s nb i : Nat} {T : List (List Rat)} {v : Val} (n : Bn ρ s nb T) (hi : 6 ≤ i) : Bn (ρ.set i (.v v)) s nb T :=
  ⟨n.r.set (by omega), by rw [List.getElem?_set_ne (by omega)]; exact n.b3, by rw [List.getElem?_set_ne (by omega)]; exact n.b4, by rw [List.getElem?_set_ne (by omega)]; exact n.b5⟩
section
variable {P : Prog} {W m b : Nat} (L : Lk P W)
include L
theorem tC_ex {ρ : Env} {s : Nat} {h : Hp} {T : List (List Rat)} (n : Rn ρ s) (hm : 60 ≤ m) (b3 : ρ[3]? = some (.v (tabV T))) : ∃ ρ', ex (Cn P W m b) ρ h tC = .ok (.nx ρ') (h ++ [some (.lst [])]) ∧ Bn ρ' s h.length T := by
  have g3 : ∀ h, Env.get ρ h 3 = some (tabV T) := fun h => get_of b3
  have cc : run P W m b 15 [tabV T] h = .ok (tabV T) h := copy_m L.cp plain_tab (by omega)
  have ln := n.len
  refine ⟨(ρ.set 5 (.v (.ref h.length))).set 4 (.v (tabV T)), ?_, ⟨(n.set (by decide)).set (by decide), ?_, List.getElem?_set_self (by simp; omega), ?_⟩⟩
  · simp only [tC, ex, ev, evs, g3, ofO_some, R.bind_ok, List.map, List.getD_cons_zero, cc, newL, if_true]
    rw [show [tabV T, Val.ref h.length].reverse = [Val.ref h.length, tabV T] from rfl, bindTs, bindT_nm n.nc (by omega), R.bind_ok, bindTs, bindT_nm n.nc.set (by simp; omega), R.bind_ok, bindTs, R.bind_ok]
  · rw [List.getElem?_set_ne (by decide), List.getElem?_set_ne (by decide)]; exact b3
  · rw [List.getElem?_set_ne (by decide)]; exact List.getElem?_set_self (by omega)
theorem tD_ex {ρ : Env} {s : Nat} {h0 : Hp} {rows cols : Nat} {T : List (List Rat)} (n : Bn ρ s h0.length T) (hm : 60 ≤ m) (hb : b ≤ h0.length) (t : TOk 1009 rows cols T) (r0 : 1 ≤ rows) (r1 : rows ≤ 5) (c0 : 1 ≤ cols) (c1 : cols ≤ 5) :
    ∃ ρ', ex (Cn P W m b) ρ (h0 ++ [some (.lst [])]) tD = .ok (.nx ρ') (h0 ++ [some (.lst ((bq T rows cols).map barV))]) ∧ Bn ρ' s h0.length T := by
  let H : List Val → Hp := fun vs => h0 ++ [some (.lst vs)]
  obtain ⟨r00, e00, l00⟩ : ∃ r, T[0]? = some r ∧ r.length = cols := by
    obtain ⟨r, a, _, _, l⟩ := t.at (i := 0) (j := 0) (by omega) (by omega)
    exact ⟨r, a, l⟩
  have ix0 : ∀ h b, prim b .ix [tabV T, .int 0] h = .ok (rowV r00) h := fun h b => ix_tab (k := 0) e00
  have sz : ∀ a b, a < rows → b < cols → Sz 3000 (ent T a b) := fun a b ha hb => by
    obtain ⟨_, _, _, z, _⟩ := t.at ha hb
    exact z.mono (by decide)
  have c21 : ∀ (h : Hp) p q, Sz 3000 p → Sz 3000 q → (Cn P W m b).call 21 [frV p, frV q] h = .ok (.bool (decide (p < q))) h := fun h p q sp sq => below_m L.be sp sq (by omega)
  -- one place
  have p4 : ∀ (i k j l : Nat) (ρ : Env) (vs : List Val), i < rows → k < rows → j < cols → l < cols → Bn ρ s h0.length T → ρ[6]? = some (.v (.int i)) → ρ[7]? = some (.v (.int k)) → ρ[8]? = some (.v (.int j)) → ρ[9]? = some (.v (.int l)) → vs.length + ((if bar T i k j l then [(i, k, j, l)] else []).map barV).length ≤ 99999 →
      exs (Cn P W m b) ρ (H vs) tD4 = .ok (.nx ρ) (H (vs ++ (if bar T i k j l then [(i, k, j, l)] else []).map barV)) := fun i k j l ρ vs hi hk hj hl B b6 b7 b8 b9 hN => by
    have g3 : ∀ h, Env.get ρ h 3 = some (tabV T) := fun h => get_of B.b3
    have g5 : ∀ h, Env.get ρ h 5 = some (.ref h0.length) := fun h => get_of B.b5
    have g6 : ∀ h, Env.get ρ h 6 = some (.int i) := fun h => get_of b6
    have g7 : ∀ h, Env.get ρ h 7 = some (.int k) := fun h => get_of b7
    have g8 : ∀ h, Env.get ρ h 8 = some (.int j) := fun h => get_of b8
    have g9 : ∀ h, Env.get ρ h 9 = some (.int l) := fun h => get_of b9
    have v3 : ev (Cn P W m b) ρ (H vs) (.var 3) = .ok (tabV T) (H vs) := by simp only [ev, g3, ofO_some]
    have v6 : ev (Cn P W m b) ρ (H vs) (.var 6) = .ok (.int i) (H vs) := by simp only [ev, g6, ofO_some]
    have v7 : ev (Cn P W m b) ρ (H vs) (.var 7) = .ok (.int k) (H vs) := by simp only [ev, g7, ofO_some]
    have v8 : ev (Cn P W m b) ρ (H vs) (.var 8) = .ok (.int j) (H vs) := by simp only [ev, g8, ofO_some]
    have v9 : ev (Cn P W m b) ρ (H vs) (.var 9) = .ok (.int l) (H vs) := by simp only [ev, g9, ofO_some]
    have y1 : ∀ {e1 e2 : E} {p q : Rat}, ev (Cn P W m b) ρ (H vs) e1 = .ok (frV p) (H vs) → ev (Cn P W m b) ρ (H vs) e2 = .ok (frV q) (H vs) → Sz 3000 p → Sz 3000 q → ev (Cn P W m b) ρ (H vs) (.call 21 [0, 1] (.cons e1 (.cons e2 .nil))) = .ok (.bool (decide (p < q))) (H vs) := fun h1 h2 sp sq => by
      rw [ev, evs, h1, R.bind_ok, evs, h2, R.bind_ok, evs]
      exact c21 _ _ _ sp sq
    have x1 := y1 (ent_ev t hi hl v3 v6 v9) (ent_ev t hi hj v3 v6 v8) (sz i l hi hl) (sz i j hi hj)
    have x2 := y1 (ent_ev t hk hl v3 v7 v9) (ent_ev t hk hj v3 v7 v8) (sz k l hk hl) (sz k j hk hj)
    have x3 : ev (Cn P W m b) ρ (H vs) (.and (.call 21 [0, 1] (.cons (.prim .ix (.cons (.prim .ix (.cons (.var 3) (.cons (.var 6) .nil))) (.cons (.var 9) .nil))) (.cons (.prim .ix (.cons (.prim .ix (.cons (.var 3) (.cons (.var 6) .nil))) (.cons (.var 8) .nil))) .nil))) (.prim .not (.cons (.call 21 [0, 1] (.cons (.prim .ix (.cons (.prim .ix (.cons (.var 3) (.cons (.var 7) .nil))) (.cons (.var 9) .nil))) (.cons (.prim .ix (.cons (.prim .ix (.cons (.var 3) (.cons (.var 7) .nil))) (.cons (.var 8) .nil))) .nil))) .nil))) = .ok (.bool (bar T i k j l)) (H vs) := by
      rw [ev, x1]
      unfold bar
      cases decide (ent T i l < ent T i j) with
      | false => rw [test_ff]; rfl
      | true =>
        rw [test_tt, ev, evs, x2, R.bind_ok, evs]
        simp only [R.bind_ok, evs, prim_notB, Bool.true_and]
    have at5 : Hp.at (H vs) h0.length = some (.lst vs) := at_app2 (i := 0)
    have ap : vs.length + 1 ≤ 99999 → prim b .append [.ref h0.length, barV (i, k, j, l)] (H vs) = .ok .none (H (vs ++ [barV (i, k, j, l)])) := fun hN => by
      rw [prim_appendI at5 (by simp [wok, hb]) (by omega)]
      show R.ok _ (Hp.put (h0 ++ [some (.lst vs)]) h0.length _) = _
      rw [put_app0]; rfl
    simp only [tD4, exs, ex]
    rw [x3]
    cases q : bar T i k j l with
    | false =>
      rw [test_ff]
      simp only [R.bind_ok, Bool.false_eq_true, if_false, List.map_nil, List.append_nil]
    | true =>
      rw [test_tt]
      simp only [ev, evs, g5, g6, g7, g8, g9, ofO_some, R.bind_ok, isL_ref at5, if_true, newL, Bool.false_eq_true, if_false, List.map_cons, List.map_nil]
      rw [show (Val.tup [.str (PySem.Str.ofString "two"), .lst [.int i, .int k], .lst [.int j, .int l]]) = barV (i, k, j, l) from rfl, ap (by rw [q] at hN; simpa using hN)]
      rfl
  have p3 : ∀ (i k j : Nat) (ρ : Env) (vs : List Val), i < rows → k < rows → j < cols → Bn ρ s h0.length T → ρ[6]? = some (.v (.int i)) → ρ[7]? = some (.v (.int k)) → ρ[8]? = some (.v (.int j)) → vs.length + ((List.range' (j + 1) (cols - (j + 1))).flatMap fun l => (if bar T i k j l then [(i, k, j, l)] else []).map barV).length ≤ 99999 →
      ∃ ρ', exs (Cn P W m b) ρ (H vs) tD3 = .ok (.nx ρ') (H (vs ++ (List.range' (j + 1) (cols - (j + 1))).flatMap fun l => (if bar T i k j l then [(i, k, j, l)] else []).map barV)) ∧ Bn ρ' s h0.length T ∧ ρ'[6]? = some (.v (.int i)) ∧ ρ'[7]? = some (.v (.int k)) := fun i k j ρ vs hi hk hj B b6 b7 b8 hN => by
    have g3 : ∀ h, Env.get ρ h 3 = some (tabV T) := fun h => get_of B.b3
    have g8 : ∀ h, Env.get ρ h 8 = some (.int j) := fun h => get_of b8
    have hit : evIt (Cn P W m b) ρ (H vs) (.rng (.cons (.prim (.add false) (.cons (.var 8) (.cons (.cst (.int 1)) .nil))) (.cons (.prim .len (.cons (.prim .ix (.cons (.var 3) (.cons (.cst (.int 0)) .nil))) .nil)) .nil))) = .ok ((List.range' (j + 1) (cols - (j + 1))).map (fun k : Nat => Val.int k), []) (H vs) :=
      range2 (a := j + 1) (n := cols) (by simp only [ev, evs, g8, ofO_some, R.bind_ok, prim_add]; rfl) (by simp only [ev, evs, g3, ofO_some, R.bind_ok, ix0, len_row, l00]) (by omega) (by omega)
    obtain ⟨ρ', e, i1, i2, i3, _⟩ := for_app H (.nm 9) tD4 (fun k : Nat => Val.int k) (fun ρ => Bn ρ s h0.length T ∧ ρ[6]? = some (.v (.int i)) ∧ ρ[7]? = some (.v (.int k)) ∧ ρ[8]? = some (.v (.int j))) (fun l => (if bar T i k j l then [(i, k, j, l)] else []).map barV) 99999 hit ⟨B, b6, b7, b8⟩ hN
      fun l ml ρ vs ⟨B, b6, b7, b8⟩ hN2 => by
      have hl : l < cols := by have := List.mem_range'_1.mp ml; omega
      rw [bindT_nm B.r.nc (by rw [B.r.len]; omega), R.bind_ok]
      have ne : ∀ x, x ≠ 9 → (ρ.set 9 (.v (.int (l : Nat))))[x]? = ρ[x]? := fun x h => List.getElem?_set_ne (Ne.symm h)
      exact ⟨_, p4 i k j l _ vs hi hk hj hl (B.set (by decide)) ((ne 6 (by decide)).trans b6) ((ne 7 (by decide)).trans b7) ((ne 8 (by decide)).trans b8) (List.getElem?_set_self (by rw [B.r.len]; omega)) hN2, B.set (by decide), (ne 6 (by decide)).trans b6, (ne 7 (by decide)).trans b7, (ne 8 (by decide)).trans b8⟩
    exact ⟨ρ', by simp only [tD3, exs, e, R.bind_ok], i1, i2, i3⟩
  let f3 : Nat → Nat → Nat → List Val := fun i k j => (List.range' (j + 1) (cols - (j + 1))).flatMap fun l => (if bar T i k j l then [(i, k, j, l)] else []).map barV
  have p2 : ∀ (i k : Nat) (ρ : Env) (vs : List Val), i < rows → k < rows → Bn ρ s h0.length T → ρ[6]? = some (.v (.int i)) → ρ[7]? = some (.v (.int k)) → vs.length + ((List.range cols).flatMap fun j => f3 i k j).length ≤ 99999 →
      ∃ ρ', exs (Cn P W m b) ρ (H vs) tD2 = .ok (.nx ρ') (H (vs ++ (List.range cols).flatMap fun j => f3 i k j)) ∧ Bn ρ' s h0.length T ∧ ρ'[6]? = some (.v (.int i)) := fun i k ρ vs hi hk B b6 b7 hN => by
    have g3 : ∀ h, Env.get ρ h 3 = some (tabV T) := fun h => get_of B.b3
    have hit : evIt (Cn P W m b) ρ (H vs) (.rng (.cons (.prim .len (.cons (.prim .ix (.cons (.var 3) (.cons (.cst (.int 0)) .nil))) .nil)) .nil)) = .ok ((List.range cols).map (fun k : Nat => Val.int k), []) (H vs) :=
      range1 (n := cols) (by simp only [ev, evs, g3, ofO_some, R.bind_ok, ix0, len_row, l00]) (by omega)
    obtain ⟨ρ', e, i1, i2, _⟩ := for_app H (.nm 8) tD3 (fun k : Nat => Val.int k) (fun ρ => Bn ρ s h0.length T ∧ ρ[6]? = some (.v (.int i)) ∧ ρ[7]? = some (.v (.int k))) (fun j => f3 i k j) 99999 hit ⟨B, b6, b7⟩ hN
      fun j mj ρ vs ⟨B, b6, b7⟩ hN2 => by
      have hj := List.mem_range.mp mj
      rw [bindT_nm B.r.nc (by rw [B.r.len]; omega), R.bind_ok]
      have ne : ∀ x, x ≠ 8 → (ρ.set 8 (.v (.int (j : Nat))))[x]? = ρ[x]? := fun x h => List.getElem?_set_ne (Ne.symm h)
      exact p3 i k j _ vs hi hk hj (B.set (by decide)) ((ne 6 (by decide)).trans b6) ((ne 7 (by decide)).trans b7) (List.getElem?_set_self (by rw [B.r.len]; omega)) hN2
    exact ⟨ρ', by simp only [tD2, exs, e, R.bind_ok], i1, i2⟩
  let f2 : Nat → Nat → List Val := fun i k => (List.range cols).flatMap fun j => f3 i k j
  have p1 : ∀ (i : Nat) (ρ : Env) (vs : List Val), i < rows → Bn ρ s h0.length T → ρ[6]? = some (.v (.int i)) → vs.length + ((List.range' (i + 1) (rows - (i + 1))).flatMap fun k => f2 i k).length ≤ 99999 →
      ∃ ρ', exs (Cn P W m b) ρ (H vs) tD1 = .ok (.nx ρ') (H (vs ++ (List.range' (i + 1) (rows - (i + 1))).flatMap fun k => f2 i k)) ∧ Bn ρ' s h0.length T := fun i ρ vs hi B b6 hN => by
    have g3 : ∀ h, Env.get ρ h 3 = some (tabV T) := fun h => get_of B.b3
    have g6 : ∀ h, Env.get ρ h 6 = some (.int i) := fun h => get_of b6
    have hit : evIt (Cn P W m b) ρ (H vs) (.rng (.cons (.prim (.add false) (.cons (.var 6) (.cons (.cst (.int 1)) .nil))) (.cons (.prim .len (.cons (.var 3) .nil)) .nil))) = .ok ((List.range' (i + 1) (rows - (i + 1))).map (fun k : Nat => Val.int k), []) (H vs) :=
      range2 (a := i + 1) (n := rows) (by simp only [ev, evs, g6, ofO_some, R.bind_ok, prim_add]; rfl) (by simp only [ev, evs, g3, ofO_some, R.bind_ok, len_tab, t.rows]) (by omega) (by omega)
    obtain ⟨ρ', e, i1, _⟩ := for_app H (.nm 7) tD2 (fun k : Nat => Val.int k) (fun ρ => Bn ρ s h0.length T ∧ ρ[6]? = some (.v (.int i))) (fun k => f2 i k) 99999 hit ⟨B, b6⟩ hN
      fun k mk ρ vs ⟨B, b6⟩ hN2 => by
      have hk : k < rows := by have := List.mem_range'_1.mp mk; omega
      rw [bindT_nm B.r.nc (by rw [B.r.len]; omega), R.bind_ok]
      have ne : ∀ x, x ≠ 7 → (ρ.set 7 (.v (.int (k : Nat))))[x]? = ρ[x]? := fun x h => List.getElem?_set_ne (Ne.symm h)
      exact p2 i k _ vs hi hk (B.set (by decide)) ((ne 6 (by decide)).trans b6) (List.getElem?_set_self (by rw [B.r.len]; omega)) hN2
    exact ⟨ρ', by simp only [tD1, exs, e, R.bind_ok], i1⟩
  let f1 : Nat → List Val := fun i => (List.range' (i + 1) (rows - (i + 1))).flatMap fun k => f2 i k
  have l3 : ∀ i k j, (f3 i k j).length ≤ 5 := fun i k j => by
    have := flat_len (xs := List.range' (j + 1) (cols - (j + 1))) (f := fun l => (if bar T i k j l then [(i, k, j, l)] else []).map barV) (n := 1) fun l _ => by split <;> simp
    rw [List.length_range'] at this; show ((List.range' (j + 1) (cols - (j + 1))).flatMap _).length ≤ _; omega
  have l2 : ∀ i k, (f2 i k).length ≤ 25 := fun i k => by
    have := flat_len (xs := List.range cols) (f := fun j => f3 i k j) (n := 5) fun j _ => l3 i k j
    rw [List.length_range] at this; show ((List.range cols).flatMap _).length ≤ _; omega
  have l1 : ∀ i, (f1 i).length ≤ 125 := fun i => by
    have := flat_len (xs := List.range' (i + 1) (rows - (i + 1))) (f := fun k => f2 i k) (n := 25) fun k _ => l2 i k
    rw [List.length_range'] at this; show ((List.range' (i + 1) (rows - (i + 1))).flatMap _).length ≤ _; omega
  have l0 : ((List.range rows).flatMap f1).length ≤ 625 := by
    have := flat_len (xs := List.range rows) (f := f1) (n := 125) fun i _ => l1 i
    rw [List.length_range] at this; omega
  have g3 : ∀ h, Env.get ρ h 3 = some (tabV T) := fun h => get_of n.b3
  have hit : evIt (Cn P W m b) ρ (H []) (.rng (.cons (.prim .len (.cons (.var 3) .nil)) .nil)) = .ok ((List.range rows).map (fun k : Nat => Val.int k), []) (H []) :=
    range1 (n := rows) (by simp only [ev, evs, g3, ofO_some, R.bind_ok, len_tab, t.rows]) (by omega)
  obtain ⟨ρ', e, i1⟩ := for_app H (.nm 6) tD1 (fun k : Nat => Val.int k) (fun ρ => Bn ρ s h0.length T) f1 99999 hit n (by simp only [List.length_nil]; omega)
      fun i mi ρ vs B hN2 => by
      have hi := List.mem_range.mp mi
      rw [bindT_nm B.r.nc (by rw [B.r.len]; omega), R.bind_ok]
      exact p1 i _ vs hi (B.set (by decide)) (List.getElem?_set_self (by rw [B.r.len]; omega)) hN2
  refine ⟨ρ', ?_, i1⟩
  have : (bq T rows cols).map barV = (List.range rows).flatMap f1 := by
    unfold bq
    rw [List.map_flatMap]
    congr 1; funext i
    rw [List.map_flatMap]
    congr 1; funext k
    rw [List.map_flatMap]
    congr 1; funext j
    rw [List.map_flatMap]
  rw [this]
  exact e
end
end Mp
/-! L25c: the rest of the turn, the law. -/
namespace Mp
abbrev Qd := Nat × Nat × Nat × Nat
def tE : S := (.asg (.nm 10) (.ite (.prim .ne (.cons (.var 5) (.cons (.lst false .nil) .nil))) (.prim .ix (.cons (.var 5) (.cons (.cst (.int 0)) .nil))) (.tup (.cons (.cst (.str (PySem.Str.ofString "steady"))) .nil))))
def tF : S := (.asg (.nm 11) (.call 9 [0] (.cons (.var 4) .nil)))
def tG : S := (.ifs (.prim .not (.cons (.call 13 [0, 1] (.cons (.lst false (.cons (.var 11) (.cons (.call 9 [0] (.cons (.call 16 [0, 1] (.cons (.var 1) (.cons (.var 3) .nil))) .nil)) (.cons (.var 4) .nil)))) (.cons (.lst false (.cons (.var 10) (.cons (.var 10) (.cons (.var 3) .nil)))) .nil))) .nil)) (.cons (.ret (.cst (.bool false)))
 .nil) .nil)
def tH : S := (.expr (.call 14 [0] (.cons (.prim (.list true) (.cons (.prim (.sl false true false false) (.cons (.var 11) (.cons (.cst (.int 1)) .nil))) .nil)) .nil)))
def tI : S := (.ifs (.or (.prim .not (.cons (.call 13 [0, 1] (.cons (.call 9 [0] (.cons (.var 4) .nil)) (.cons (.var 10) .nil))) .nil)) (.and (.call 28 [0] (.cons (.var 3) .nil)) (.prim .ne (.cons (.var 5) (.cons (.lst false .nil) .nil))))) (.cons (.ret (.cst (.bool false)))
 .nil) .nil)
def tJi : E := (.comp false (.prim .ix (.cons (.var 22) (.cons (.var 24) .nil))) [23, 24] (.nm 24) (.ev (.var 13)) (.cst (.bool true)))
def tJo : E := (.comp false tJi [21, 22] (.nm 22) (.ev (.var 3)) (.cst (.bool true)))
def tJb : Ss := (.cons (.expr (.meth .append (.var 12) (.cons (.call 31 [0] (.cons (.call 30 [0] (.cons tJo .nil)) .nil)) .nil)))
 .nil)
def tJf : S := (.for_ (.nm 13) (.ev (.call 32 [0] (.cons (.prim .len (.cons (.prim .ix (.cons (.var 3) (.cons (.cst (.int 0)) .nil))) .nil)) .nil))) tJb)
def tJ : S := (.ifs (.and (.prim .lt (.cons (.prim .len (.cons (.var 3) .nil)) (.cons (.cst (.int 5)) .nil))) (.prim .lt (.cons (.prim .len (.cons (.prim .ix (.cons (.var 3) (.cons (.cst (.int 0)) .nil))) .nil)) (.cons (.cst (.int 5)) .nil)))) (.cons (.asg (.nm 12) (.lst true .nil))
 (.cons tJf
 (.cons (.ifs (.prim .ne (.cons (.prim .all (.cons (.var 12) .nil)) (.cons (.prim .eq (.cons (.var 5) (.cons (.lst false .nil) .nil))) .nil))) (.cons (.ret (.cst (.bool false)))
 .nil) .nil)
 .nil))) .nil)
def tAll : Ss := (.cons tA (.cons tB (.cons tC (.cons tD (.cons tE (.cons tF (.cons tG (.cons tH (.cons tI (.cons tJ .nil))))))))))
/-- the names behind the bars -/
structure En (ρ : Env) (s nb : Nat) (T : List (List Rat)) (o : Option Qd) : Prop where
  b : Bn ρ s nb T
  b10 : ρ[10]? = some (.v (dueV o))
theorem En.set {ρ : Env} {s nb i : Nat} {T : List (List Rat)} {o : Option Qd} {v : Val} (n : En ρ s nb T o) (hi : 11 ≤ i) : En (ρ.set i (.v v)) s nb T o :=
  ⟨n.b.set (by omega), by rw [List.getElem?_set_ne (by omega)]; exact n.b10⟩
theorem bars_ne {b : Nat} {h : Hp} {n : Nat} {qs : List Qd} (e : h.at n = some (.lst (qs.map barV))) : prim b .ne [.ref n, .lst []] h = .ok (.bool (!qs.isEmpty)) h := by
  rw [prim_ne, bars_eq e]; rfl
theorem bars_eqE {b : Nat} {h : Hp} {n : Nat} {qs : List Qd} (e : h.at n = some (.lst (qs.map barV))) : prim b .eq [.ref n, .lst []] h = .ok (.bool qs.isEmpty) h := by
  rw [prim_eq, bars_eq e]; rfl
section
variable {P : Prog} {W m b : Nat} (L : Lk P W)
include L
theorem tE_ex {ρ : Env} {s nb : Nat} {H : Hp} {T : List (List Rat)} {qs : List Qd} (n : Bn ρ s nb T) (e : H.at nb = some (.lst (qs.map barV))) : ex (Cn P W m b) ρ H tE = .ok (.nx (ρ.set 10 (.v (dueV qs.head?)))) H ∧ En (ρ.set 10 (.v (dueV qs.head?))) s nb T qs.head? := by
  have g5 : ∀ h, Env.get ρ h 5 = some (.ref nb) := fun h => get_of n.b5
  refine ⟨?_, n.set (by decide), List.getElem?_set_self (by rw [n.r.len]; omega)⟩
  simp only [tE, ex, ev, evs, g5, ofO_some, R.bind_ok, newL, Bool.false_eq_true, if_false, bars_ne e]
  cases qs with
  | nil =>
    rw [show (!([] : List Qd).isEmpty) = false from rfl, test_ff, R.bind_ok, bindT_nm n.r.nc (by rw [n.r.len]; omega), R.bind_ok]; rfl
  | cons q t =>
    have ix : prim b .ix [.ref nb, .int 0] H = .ok (barV q) H := by
      refine prim_ix (k := 0) (xs := (q :: t).map barV) ?_ (place_nat (k := 0) (by simp)) rfl
      show (match H.at nb with | some (.lst xs) | some (.lck xs) => some xs | _ => Option.none) = _
      rw [e]
    rw [show (!(q :: t).isEmpty) = true from rfl, test_tt, ix, R.bind_ok, bindT_nm n.r.nc (by rw [n.r.len]; omega), R.bind_ok]; rfl
theorem steady_F {h X : Hp} {r s : Nat} {g : Sg} {v : Val} {T : List (List Rat)} {rows cols : Nat} (p : Spot h r s) (t : TOk 1009 rows cols T) (hv : TabIn v T) (r0 : 1 ≤ rows) (r1 : rows ≤ 5) (c0 : 1 ≤ cols) (c1 : cols ≤ 5) (hm : 60 ≤ m) :
    run P W m b 9 [v] (stH (h ++ X) r s g) = .ok (told (bq T rows cols).head? (h.length + X.length)) (stH (h ++ (X ++ dueX (bq T rows cols).head?)) r s g) := by
  rw [steady_run L.T L.st L.gl L.iu t (by decide) hv r0 (by omega) c0 (by omega) (by omega), bq_head]
  cases firstBar T rows cols with
  | none => simp only [told, dueX, List.append_nil]; rfl
  | some q =>
    simp only [told, dueX]
    rw [F_len]
    unfold twoH
    rw [F_app p]
theorem tF_ex {ρ : Env} {h X : Hp} {r s : Nat} {g : Sg} {T : List (List Rat)} {rows cols nb : Nat} {o : Option Qd} (n : En ρ s nb T o) (p : Spot h r s) (t : TOk 1009 rows cols T) (r0 : 1 ≤ rows) (r1 : rows ≤ 5) (c0 : 1 ≤ cols) (c1 : cols ≤ 5) (hm : 60 ≤ m) :
    ex (Cn P W m b) ρ (stH (h ++ X) r s g) tF = .ok (.nx (ρ.set 11 (.v (told (bq T rows cols).head? (h.length + X.length))))) (stH (h ++ (X ++ dueX (bq T rows cols).head?)) r s g) := by
  have g4 : ∀ h, Env.get ρ h 4 = some (tabV T) := fun h => get_of n.b.b4
  simp only [tF, ex, ev, evs, g4, ofO_some, R.bind_ok, List.map, List.getD_cons_zero, steady_F L p t TabIn.same r0 r1 c0 c1 hm]
  rw [bindT_nm n.b.r.nc (by rw [n.b.r.len]; omega), R.bind_ok]
/-- the lists that the two tellings made -/
theorem dueX_at {X : Hp} {o : Option Qd} {Y : Hp} : ∀ q, o = some q → Hp.at (X ++ (dueX o ++ Y)) X.length = some (.lst [.int q.1, .int q.2.1]) ∧ Hp.at (X ++ (dueX o ++ Y)) (X.length + 1) = some (.lst [.int q.2.2.1, .int q.2.2.2]) := fun q e => by
  subst e
  exact ⟨at_app2 (i := 0), at_app2 (i := 1)⟩
theorem tG_pr {ρ : Env} {h X : Hp} {r s : Nat} {g : Sg} {T : List (List Rat)} {rows cols nb : Nat} (n : En ρ s nb T (bq T rows cols).head?) (b11 : ρ[11]? = some (.v (told (bq T rows cols).head? (h.length + X.length)))) (p : Spot h r s) (o : g.Ok) (ht : g.t < 2 ^ 45) (t : TOk 1009 rows cols T) (r0 : 1 ≤ rows) (r1 : rows ≤ 5) (c0 : 1 ≤ cols) (c1 : cols ≤ 5) (hm : 60 ≤ m) :
    ∃ g', ex (Cn P W m b) ρ (stH (h ++ (X ++ dueX (bq T rows cols).head?)) r s g) tG = .ok (.nx ρ) (stH (h ++ (X ++ dueX (bq T rows cols).head? ++ dueX (bq T rows cols).head?)) r s g') ∧ g'.Ok ∧ g.t ≤ g'.t ∧ g'.t ≤ g.t + 100 := by
  have g1 : ∀ h, Env.get ρ h 1 = some (.ref s) := fun h => get_of n.b.r.st
  have g3 : ∀ h, Env.get ρ h 3 = some (tabV T) := fun h => get_of n.b.b3
  have g4 : ∀ h, Env.get ρ h 4 = some (tabV T) := fun h => get_of n.b.b4
  have g10 : ∀ h, Env.get ρ h 10 = some (dueV (bq T rows cols).head?) := fun h => get_of n.b10
  have g11 : ∀ H : Hp, Env.get ρ H 11 = some (told (bq T rows cols).head? (h.length + X.length)) := fun H => get_of b11
  generalize ho : (bq T rows cols).head? = oo at *
  have wd : Wd 3 (tabV T) := Wd.tab (by rw [t.rows]; omega) fun r mr => by rw [t.cols r mr]; omega
  obtain ⟨v, g2, e2, o2, t2, t2', lo⟩ := loose_pr (h := h ++ (X ++ dueX oo)) L.lo L.D.ddr p.app L.D.w64 3 m b g (tabV T) o (by have : KK 3 = 73 := rfl; omega) (by omega) wd
  have k3 : KK 3 = 73 := rfl
  have sf := steady_F L (m := m) (b := b) (X := X ++ dueX oo) (g := g2) p t lo.tab r0 r1 c0 c1 hm
  rw [ho] at sf
  refine ⟨g2, ?_, o2, t2, by omega⟩
  let Z : Hp := stH (h ++ (X ++ dueX oo ++ dueX oo)) r s g2
  have d1 : Den Z 4 (told oo (h.length + X.length)) (dueV oo) := told_den (k := 2) fun q hq => by
    have := dueX_at L (X := X) (Y := dueX oo) q hq
    rw [← List.append_assoc] at this
    exact ⟨(F_at p).trans this.1, by rw [Nat.add_assoc]; exact (F_at p).trans this.2⟩
  have d2 : Den Z 4 (told oo (h.length + (X ++ dueX oo).length)) (dueV oo) := told_den (k := 2) fun q hq => by
    have := dueX_at L (X := X ++ dueX oo) (Y := []) q hq
    rw [List.append_nil] at this
    exact ⟨(F_at p).trans this.1, by rw [Nat.add_assoc]; exact (F_at p).trans this.2⟩
  have d3 : Den Z 4 (tabV T) (tabV T) := Den.refl plain_tab.up
  have dd : Den Z 4 (dueV oo) (dueV oo) := Den.refl plain_due.up.up.plain
  have sm : run P W m b 13 [.lst [told oo (h.length + X.length), told oo (h.length + (X ++ dueX oo).length), tabV T], .lst [dueV oo, dueV oo, tabV T]] Z = .ok (.bool true) Z :=
    same2_m (k := 5) L.sm (w := .lst [dueV oo, dueV oo, tabV T]) (fun x mx => by
      simp only [List.mem_cons, List.not_mem_nil, or_false] at mx
      rcases mx with rfl | rfl | rfl
      · exact plain_due.up.up
      · exact plain_due.up.up
      · exact plainS_tab.up) ⟨_, rfl, .cons d1 (.cons d2 (.cons d3 .nil))⟩ ⟨_, rfl, .cons dd (.cons dd (.cons d3 .nil))⟩ (by omega)
  simp only [tG, ex, ev, evs, g1, g3, g4, g10, g11, ofO_some, R.bind_ok, List.map, List.getD_cons_zero, List.getD_cons_succ, e2, sf, newL, Bool.false_eq_true, if_false]
  rw [show stH (h ++ (X ++ dueX oo ++ dueX oo)) r s g2 = Z from rfl, sm]
  simp only [R.bind_ok, prim_notB, Bool.not_true, test_ff, exs]
theorem tH_ex {ρ : Env} {h X : Hp} {r s : Nat} {g : Sg} {oo : Option Qd} {i1 : Nat} (b11 : ρ[11]? = some (.v (told oo (h.length + i1)))) (p : Spot h r s) (hi : 1 ≤ i1) (hX : 1 ≤ X.length) (hq : ∀ q, oo = some q → i1 + 1 < X.length ∧ X.at i1 = some (.lst [.int q.1, .int q.2.1]) ∧ X.at (i1 + 1) = some (.lst [.int q.2.2.1, .int q.2.2.2])) (hm : 60 ≤ m) :
    ∃ X', ex (Cn P W m b) ρ (stH (h ++ X) r s g) tH = .ok (.nx ρ) (stH (h ++ X') r s g) ∧ X'.at 0 = X.at 0 ∧ 1 ≤ X'.length := by
  have g11 : ∀ H : Hp, Env.get ρ H 11 = some (told oo (h.length + i1)) := fun H => get_of b11
  let vs : List Val := match oo with | none => [] | some _ => [.ref (h.length + i1), .ref (h.length + i1 + 1)]
  let ws : List Val := match oo with | none => [] | some q => [.lst [.int q.1, .int q.2.1], .lst [.int q.2.2.1, .int q.2.2.2]]
  let F : List Nat := match oo with | none => [] | some _ => [h.length + i1, h.length + i1 + 1]
  have e1 : ∀ (b : Nat) (H : Hp), prim b (.sl false true false false) [told oo (h.length + i1), .int 1] H = .ok (.tup vs) H := fun b H => by cases oo <;> rfl
  have e2 : ∀ (b : Nat) (H : Hp), prim b (.list true) [.tup vs] H = .ok (.ref H.length) (H ++ [some (.lst vs)]) := fun b H => rfl
  have e3 : stH (h ++ X) r s g ++ [some (Ob.lst vs)] = stH (h ++ (X ++ [some (Ob.lst vs)])) r s g := F_app p
  have at0 : ∀ {k : Nat} {x : Int} {H : Hp}, Own H k (.int x) (.int x) [] := fun {k x H} => by cases k <;> exact ⟨rfl, rfl, rfl⟩
  have fF : ∀ a ∈ F, h.length + 1 ≤ a ∧ a < h.length + X.length := fun a ma => by
    cases oo with
    | none => exact absurd ma List.not_mem_nil
    | some q =>
      have := (hq q rfl).1
      simp only [F, List.mem_cons, List.not_mem_nil, or_false] at ma
      rcases ma with rfl | rfl <;> omega
  have atX : ∀ i, i < X.length → Hp.at (stH (h ++ (X ++ [some (Ob.lst vs)])) r s g) (h.length + i) = X.at i := fun i hi => by rw [F_at p, at_app hi]
  have own : Own (stH (h ++ (X ++ [some (Ob.lst vs)])) r s g) 2 (.ref (h.length + X.length)) (.lst ws) ((h.length + X.length) :: F) := by
    refine ⟨h.length + X.length, vs, F, rfl, rfl, fun ma => by have := fF _ ma; omega, ?_, ?_⟩
    · rw [F_at p]; exact at_app2 (i := 0)
    · cases oo with
      | none => exact .nil
      | some q =>
        obtain ⟨q0, q1, q2⟩ := hq q rfl
        have o1 : Own (stH (h ++ (X ++ [some (Ob.lst vs)])) r s g) 1 (.ref (h.length + i1)) (.lst [.int q.1, .int q.2.1]) [h.length + i1] :=
          ⟨h.length + i1, _, [], rfl, rfl, by simp, (atX i1 (by omega)).trans q1, OwnL.cons at0 (OwnL.cons at0 .nil fun a m => by cases m) fun a m => by cases m⟩
        have o2 : Own (stH (h ++ (X ++ [some (Ob.lst vs)])) r s g) 1 (.ref (h.length + i1 + 1)) (.lst [.int q.2.2.1, .int q.2.2.2]) [h.length + i1 + 1] :=
          ⟨h.length + i1 + 1, _, [], rfl, rfl, by simp, (atX (i1 + 1) (by omega)).trans q2, OwnL.cons at0 (OwnL.cons at0 .nil fun a m => by cases m) fun a m => by cases m⟩
        exact OwnL.cons (F := [h.length + i1]) (F2 := [h.length + i1 + 1]) o1 (OwnL.cons (F := [h.length + i1 + 1]) (F2 := []) o2 .nil fun a _ m => by cases m) fun a ma mb => by simp at ma mb; omega
  have few : Few 50000 2 (.lst ws) := by
    cases oo with
    | none => exact ⟨by simp [ws], fun w mw => absurd mw List.not_mem_nil⟩
    | some q =>
      refine ⟨by simp [ws], fun w mw => ?_⟩
      simp only [ws, List.mem_cons, List.not_mem_nil, or_false] at mw
      rcases mw with rfl | rfl <;> exact ⟨by simp, fun x mx => by simp only [List.mem_cons, List.not_mem_nil, or_false] at mx; rcases mx with rfl | rfl <;> trivial⟩
  obtain ⟨h', er, l', a', _⟩ := spoilt_run L.sp 2 (m - 3) b _ _ _ _ own few
  rw [show m - 3 + 2 + 1 = m by omega] at er
  obtain ⟨X', lX, eX, aX⟩ := F_split (h := h) (X := X ++ [some (Ob.lst vs)]) p l' fun i hi => a' i fun mi => by
    rcases List.mem_cons.mp mi with z | z
    · omega
    · have := fF i z; omega
  refine ⟨X', ?_, ?_, by rw [lX]; simp⟩
  · simp only [tH, ex, ev, evs, g11, ofO_some, R.bind_ok, e1, e2, e3, List.map, List.getD_cons_zero]
    rw [F_len, er, R.bind_ok, eX]
  · rw [aX 0, Nat.add_zero, a' h.length fun mi => by
      rcases List.mem_cons.mp mi with z | z
      · omega
      · have := fF _ z; omega]
    exact atX 0 (by omega)
theorem tI_ex {ρ : Env} {h X : Hp} {r s : Nat} {g : Sg} {T : List (List Rat)} {rows cols : Nat} (n : En ρ s h.length T (bq T rows cols).head?) (hX : X.at 0 = some (.lst ((bq T rows cols).map barV))) (p : Spot h r s) (t : TOk 1009 rows cols T) (r0 : 1 ≤ rows) (r1 : rows ≤ 5) (c0 : 1 ≤ cols) (c1 : cols ≤ 5) (hm : 60 ≤ m) :
    ex (Cn P W m b) ρ (stH (h ++ X) r s g) tI = .ok (.nx ρ) (stH (h ++ (X ++ dueX (bq T rows cols).head?)) r s g) := by
  have g3 : ∀ h, Env.get ρ h 3 = some (tabV T) := fun h => get_of n.b.b3
  have g4 : ∀ h, Env.get ρ h 4 = some (tabV T) := fun h => get_of n.b.b4
  have g5 : ∀ H : Hp, Env.get ρ H 5 = some (.ref h.length) := fun H => get_of n.b.b5
  have g10 : ∀ h, Env.get ρ h 10 = some (dueV (bq T rows cols).head?) := fun h => get_of n.b10
  have sf := steady_F L (m := m) (b := b) (X := X) (g := g) p t TabIn.same r0 r1 c0 c1 hm
  have hl : 0 < X.length := Hp.at_lt0 hX
  let Z : Hp := stH (h ++ (X ++ dueX (bq T rows cols).head?)) r s g
  have d1 : Den Z 4 (told (bq T rows cols).head? (h.length + X.length)) (dueV (bq T rows cols).head?) := told_den (k := 2) fun q hq => by
    have := dueX_at L (X := X) (Y := []) q hq
    rw [List.append_nil] at this
    exact ⟨(F_at p).trans this.1, by rw [Nat.add_assoc]; exact (F_at p).trans this.2⟩
  have sm : run P W m b 13 [told (bq T rows cols).head? (h.length + X.length), dueV (bq T rows cols).head?] Z = .ok (.bool true) Z :=
    same2_m (k := 4) L.sm plain_due.up.up d1 (Den.refl plain_due.up.up.plain) (by omega)
  have isd : run P W m b 28 [tabV T] Z = .ok (.bool (isDn T rows cols)) Z := isDown_m L.D L.isd L.cr t (by decide) r0 (by omega) c0 (by omega) (by omega)
  have bn : prim b .ne [.ref h.length, .lst []] Z = .ok (.bool (!(bq T rows cols).isEmpty)) Z := bars_ne (by
    have : Hp.at Z (h.length + 0) = _ := F_at p
    rw [Nat.add_zero] at this
    rw [this, at_app hl, hX])
  have fin : ev (Cn P W m b) ρ (stH (h ++ X) r s g) (.or (.prim .not (.cons (.call 13 [0, 1] (.cons (.call 9 [0] (.cons (.var 4) .nil)) (.cons (.var 10) .nil))) .nil)) (.and (.call 28 [0] (.cons (.var 3) .nil)) (.prim .ne (.cons (.var 5) (.cons (.lst false .nil) .nil))))) = .ok (.bool false) Z := by
    simp only [ev, evs, g3, g4, g5, g10, ofO_some, R.bind_ok, List.map, List.getD_cons_zero, List.getD_cons_succ, sf]
    rw [show stH (h ++ (X ++ dueX (bq T rows cols).head?)) r s g = Z from rfl, sm]
    simp only [R.bind_ok, prim_notB, Bool.not_true, test_ff, isd, newL, Bool.false_eq_true, if_false, bn]
    cases q : isDn T rows cols with
    | false => rw [test_ff]
    | true => rw [test_tt]; refine bn.trans ?_; rw [dn_bars q]; rfl
  simp only [tI, ex]
  rw [fin, test_ff]
  simp only [exs]
  rfl
theorem all_ref {b n : Nat} {H : Hp} {α : Type} {xs : List α} {f : α → Bool} (e : H.at n = some (.lst (xs.map fun x => Val.bool (f x)))) : prim b .all [.ref n] H = .ok (.bool (xs.all f)) H := by
  show (match (Val.ref n).items H with | some xs => (ofO (bools xs) H).bind fun bs h => R.ok (Val.bool (bs.all id)) h | Option.none => .no) = _
  have : (Val.ref n).items H = some (xs.map fun x => Val.bool (f x)) := by
    show (match H.at n with | some (.lst xs) | some (.lck xs) => some xs | _ => Option.none) = _
    rw [e]
  rw [this]
  simp only
  rw [bools_map]
  simp only [ofO_some, R.bind_ok]
  congr 2
  simp [List.all_map]
theorem tJo_ev {ρ : Env} {H : Hp} {T : List (List Rat)} {rows cols : Nat} {c : List Nat} (nc : NoC ρ) (hl : ρ.length = 25) (b3 : ρ[3]? = some (.v (tabV T))) (b13 : ρ[13]? = some (.v (numsV c))) (t : TOk 1009 rows cols T) (hc : ∀ x ∈ c, x < cols) : ev (Cn P W m b) ρ H tJo = .ok (tabV (pickC T c)) H := by
  have g3 : ∀ h, Env.get ρ h 3 = some (tabV T) := fun h => get_of b3
  have := comp_map (C := Cn P W m b) (ρ := ρ) (h := H) (elt := tJi) (c := .cst (.bool true)) (os := [21, 22]) (t := .nm 22) (it := .ev (.var 3)) (xs := T) rowV (fun row => rowV (c.map fun p => row.getD p 0)) (by simp only [evIt, ev, g3, ofO_some, R.bind_ok, walk_tab]) fun row mr => by
    have nw : NoC (wipe ρ [21, 22]) := nc.setu.setu
    have lw : (wipe ρ [21, 22]).length = 25 := by simp [wipe, hl]
    let ρ2 : Env := (wipe ρ [21, 22]).set 22 (.v (rowV row))
    have c13 : ρ2[13]? = some (.v (numsV c)) := by
      show ((wipe ρ [21, 22]).set 22 _)[13]? = _
      rw [List.getElem?_set_ne (by decide)]; simp only [wipe]; rw [List.getElem?_set_ne (by decide), List.getElem?_set_ne (by decide), b13]
    have c22 : ρ2[22]? = some (.v (rowV row)) := List.getElem?_set_self (by omega)
    have n2 : NoC ρ2 := nw.set
    have l2 : ρ2.length = 25 := by simp [ρ2, lw]
    have k13 : ∀ h, Env.get ρ2 h 13 = some (numsV c) := fun h => get_of c13
    have inner : ev (Cn P W m b) ρ2 H tJi = .ok (.lst (c.map fun p => frV (row.getD p 0))) H := by
      refine comp_map (xs := c) (fun k : Nat => Val.int k) _ (by simp only [evIt, ev, k13, ofO_some, R.bind_ok]; rfl) fun q mq => ?_
      have nw2 : NoC (wipe ρ2 [23, 24]) := n2.setu.setu
      have lw2 : (wipe ρ2 [23, 24]).length = 25 := by simp [wipe, l2]
      have d22 : ((wipe ρ2 [23, 24]).set 24 (.v (.int (q : Nat))))[22]? = some (.v (rowV row)) := by
        rw [List.getElem?_set_ne (by decide)]; simp only [wipe]; rw [List.getElem?_set_ne (by decide), List.getElem?_set_ne (by decide), c22]
      have d24 : ((wipe ρ2 [23, 24]).set 24 (.v (.int (q : Nat))))[24]? = some (.v (.int (q : Nat))) := List.getElem?_set_self (by omega)
      have k22 : ∀ h, Env.get ((wipe ρ2 [23, 24]).set 24 (.v (.int (q : Nat)))) h 22 = some (rowV row) := fun h => get_of d22
      have k24 : ∀ h, Env.get ((wipe ρ2 [23, 24]).set 24 (.v (.int (q : Nat)))) h 24 = some (.int (q : Nat)) := fun h => get_of d24
      have rl : row.length = cols := t.cols row mr
      have ix : ∀ b, prim b .ix [rowV row, .int (q : Nat)] H = .ok (frV (row.getD q 0)) H := fun b => ix_row (by
        have := hc q mq
        rw [List.getD_eq_getElem?_getD, List.getElem?_eq_getElem (by omega)]; rfl)
      rw [bindT_nm nw2 (by omega), R.bind_ok]
      simp only [ev, evs, test_tt, k22, k24, ofO_some, R.bind_ok, ix]
    rw [bindT_nm nw (by omega), R.bind_ok, show ∀ ρ h, ev (Cn P W m b) ρ h (.cst (.bool true)) = .ok (.bool true) h from fun _ _ => by simp only [ev], test_tt]
    rw [show (wipe ρ [21, 22]).set 22 (.v (rowV row)) = ρ2 from rfl, inner, R.bind_ok]
    unfold rowV
    rw [List.map_map]; rfl
  unfold tJo
  rw [this]
  unfold tabV pickC
  rw [List.map_map]; rfl
theorem tJ_ex {ρ : Env} {h X : Hp} {r s : Nat} {g : Sg} {T : List (List Rat)} {rows cols : Nat} {o : Option Qd} (n : En ρ s h.length T o) (hX : X.at 0 = some (.lst ((bq T rows cols).map barV))) (p : Spot h r s) (hb : b ≤ h.length) (t : TOk 1009 rows cols T) (r0 : 1 ≤ rows) (r1 : rows ≤ 5) (c0 : 1 ≤ cols) (c1 : cols ≤ 5) (hm : 60 ≤ m) :
    ∃ ρ' X', ex (Cn P W m b) ρ (stH (h ++ X) r s g) tJ = .ok (.nx ρ') (stH (h ++ X') r s g) ∧ Rn ρ' s := by
  have g3 : ∀ h, Env.get ρ h 3 = some (tabV T) := fun h => get_of n.b.b3
  obtain ⟨r00, e00, l00⟩ : ∃ r, T[0]? = some r ∧ r.length = cols := by
    obtain ⟨r, a, _, _, l⟩ := t.at (i := 0) (j := 0) (by omega) (by omega)
    exact ⟨r, a, l⟩
  have ix0 : ∀ h b, prim b .ix [tabV T, .int 0] h = .ok (rowV r00) h := fun h b => ix_tab (k := 0) e00
  have hl : 0 < X.length := Hp.at_lt0 hX
  by_cases small : rows < 5 ∧ cols < 5
  · let H : List Val → Hp := fun vs => stH (h ++ X) r s g ++ [some (.lst vs)]
    let n12 : Nat := (stH (h ++ X) r s g).length
    let ρ1 : Env := ρ.set 12 (.v (.ref n12))
    have n1 : En ρ1 s h.length T o := n.set (by decide)
    have b12 : ρ1[12]? = some (.v (.ref n12)) := List.getElem?_set_self (by rw [n.b.r.len]; omega)
    have k3 : ∀ h, Env.get ρ1 h 3 = some (tabV T) := fun h => get_of n1.b.b3
    have lm : ∀ (H : Hp), run P W m b 32 [.int cols] H = .ok (lotsV ((lots cols).drop 1)) H := fun H => lots_m L.lt (by omega) (by omega)
    have hit : evIt (Cn P W m b) ρ1 (H []) (.ev (.call 32 [0] (.cons (.prim .len (.cons (.prim .ix (.cons (.var 3) (.cons (.cst (.int 0)) .nil))) .nil)) .nil))) = .ok (((lots cols).drop 1).map numsV, []) (H []) := by
      simp only [evIt, ev, evs, k3, ofO_some, R.bind_ok, ix0, len_row, l00, List.map, List.getD_cons_zero, lm]
      rfl
    let f : List Nat → Bool := fun c => right ((pickC T c).map fl)
    obtain ⟨ρ2, e2, n2, b122⟩ := for_app (C := Cn P W m b) H (.nm 13) tJb numsV (fun ρ => En ρ s h.length T o ∧ ρ[12]? = some (.v (.ref n12))) (fun c => [Val.bool (f c)]) 99999 hit ⟨n1, b12⟩
      (by have := flat_len (xs := (lots cols).drop 1) (f := fun c => [Val.bool (f c)]) (n := 1) fun c _ => by simp
          have e : (lots cols).length = 2 ^ cols := lots_len cols
          have : 2 ^ cols ≤ 2 ^ 5 := Nat.pow_le_pow_right (by decide) c1
          simp only [List.length_drop, List.length_nil] at *
          omega) fun c mc ρ vs ⟨n1, b12⟩ hN => by
        obtain ⟨m1, ne⟩ := lots_drop.mp mc
        have lt := (lots_mem cols c m1).2
        have len := n1.b.r.len
        rw [bindT_nm n1.b.r.nc (by omega), R.bind_ok]
        let ρ3 : Env := ρ.set 13 (.v (numsV c))
        have n3 : En ρ3 s h.length T o := n1.set (by decide)
        have c12 : ρ3[12]? = some (.v (.ref n12)) := (List.getElem?_set_ne (by decide)).trans b12
        have c13 : ρ3[13]? = some (.v (numsV c)) := List.getElem?_set_self (by omega)
        refine ⟨ρ3, ?_, n3, c12⟩
        have k12 : ∀ h, Env.get ρ3 h 12 = some (.ref n12) := fun h => get_of c12
        have jo : ev (Cn P W m b) ρ3 (H vs) tJo = .ok (tabV (pickC T c)) (H vs) := tJo_ev L n3.b.r.nc n3.b.r.len n3.b.b3 c13 t lt
        have le : run P W m b 30 [tabV (pickC T c)] (H vs) = .ok (numsV ((pickC T c).map fl)) (H vs) := least_m L.ls L.fl L.be (fun r mr => by
          obtain ⟨row, _, rfl⟩ := List.mem_map.mp mr
          simpa using ne) (fun r mr q mq => by
          obtain ⟨row, mrow, rfl⟩ := List.mem_map.mp mr
          obtain ⟨x, mx, rfl⟩ := List.mem_map.mp mq
          have := lt x mx
          have rl := t.cols row mrow
          have : row.getD x 0 ∈ row := by
            rw [List.getD_eq_getElem?_getD, List.getElem?_eq_getElem (by omega)]
            exact List.getElem_mem _
          exact (t.sz row mrow _ this).mono (by decide)) (by omega)
        have ri : run P W m b 31 [numsV ((pickC T c).map fl)] (H vs) = .ok (.bool (f c)) (H vs) := right_m L.rt (by omega)
        have at12 : Hp.at (H vs) n12 = some (.lst vs) := at_app2 (i := 0)
        have ap : prim b .append [.ref n12, .bool (f c)] (H vs) = .ok .none (H (vs ++ [.bool (f c)])) := by
          rw [prim_appendI at12 (by simp [wok, Val.low]) (by simp at hN; omega)]
          show R.ok _ (Hp.put (stH (h ++ X) r s g ++ [some (.lst vs)]) n12 _) = _
          rw [put_app0]; rfl
        show exs (Cn P W m b) ρ3 (H vs) tJb = _
        simp only [tJb, exs, ex, ev, evs, k12, ofO_some, R.bind_ok, isL_ref at12, if_true, jo, List.map, List.getD_cons_zero, le, ri, ap]
    have rf : ((lots cols).drop 1).flatMap (fun c => [Val.bool (f c)]) = ((lots cols).drop 1).map fun c => Val.bool (f c) := by
      generalize (lots cols).drop 1 = l
      induction l with
      | nil => rfl
      | cons c l ih => rw [List.flatMap_cons, ih]; rfl
    rw [List.nil_append] at e2
    simp only [rf] at e2
    let Z : Hp := H (((lots cols).drop 1).map fun c => Val.bool (f c))
    have at12 : Hp.at Z n12 = some (.lst (((lots cols).drop 1).map fun c => Val.bool (f c))) := at_app2 (i := 0)
    have all12 : prim b .all [.ref n12] Z = .ok (.bool (bq T rows cols).isEmpty) Z := by
      rw [all_ref L at12, rights_bars t]
    have eq5 : prim b .eq [.ref h.length, .lst []] Z = .ok (.bool (bq T rows cols).isEmpty) Z := bars_eqE (by
      show Hp.at (stH (h ++ X) r s g ++ _) h.length = _
      rw [at_app (by simp; omega)]
      have : Hp.at (stH (h ++ X) r s g) (h.length + 0) = _ := F_at p
      rw [Nat.add_zero] at this
      rw [this, hX])
    have k12 : ∀ h, Env.get ρ2 h 12 = some (.ref n12) := fun h => get_of b122
    have k5 : ∀ H : Hp, Env.get ρ2 H 5 = some (.ref h.length) := fun H => get_of n2.b.b5
    refine ⟨ρ2, X ++ [some (.lst (((lots cols).drop 1).map fun c => Val.bool (f c)))], ?_, n2.b.r⟩
    rw [← F_app p]
    have d1 : decide ((rows : Int) < 5) = true := by simp; omega
    have d2 : decide ((cols : Int) < 5) = true := by simp; omega
    have s12 : ex (Cn P W m b) ρ (stH (h ++ X) r s g) (.asg (.nm 12) (.lst true .nil)) = .ok (.nx ρ1) (H []) := by
      simp only [ex, ev, evs, R.bind_ok, newL, if_true]
      rw [bindT_nm n.b.r.nc (by rw [n.b.r.len]; omega), R.bind_ok]
    have cnd : ev (Cn P W m b) ρ (stH (h ++ X) r s g) (.and (.prim .lt (.cons (.prim .len (.cons (.var 3) .nil)) (.cons (.cst (.int 5)) .nil))) (.prim .lt (.cons (.prim .len (.cons (.prim .ix (.cons (.var 3) (.cons (.cst (.int 0)) .nil))) .nil)) (.cons (.cst (.int 5)) .nil)))) = .ok (.bool true) (stH (h ++ X) r s g) := by
      simp only [ev, evs, g3, ofO_some, R.bind_ok, len_tab, t.rows, prim_lt, d1, test_tt, ix0, len_row, l00, d2]
    rw [tJ, ex, cnd, test_tt, exs, s12, R.bind_ok]
    simp only
    rw [exs, show ex (Cn P W m b) ρ1 (H []) tJf = _ from e2, R.bind_ok]
    simp only
    rw [exs, ex]
    rw [show H (((lots cols).drop 1).map fun c => Val.bool (f c)) = Z from rfl]
    simp only [ev, evs, k12, k5, ofO_some, R.bind_ok, all12, newL, Bool.false_eq_true, if_false, eq5, neBF, test_ff, exs]
    rfl
  · refine ⟨ρ, X, ?_, n.b.r⟩
    have cnd : ev (Cn P W m b) ρ (stH (h ++ X) r s g) (.and (.prim .lt (.cons (.prim .len (.cons (.var 3) .nil)) (.cons (.cst (.int 5)) .nil))) (.prim .lt (.cons (.prim .len (.cons (.prim .ix (.cons (.var 3) (.cons (.cst (.int 0)) .nil))) .nil)) (.cons (.cst (.int 5)) .nil)))) = .ok (.bool false) (stH (h ++ X) r s g) := by
      simp only [ev, evs, g3, ofO_some, R.bind_ok, len_tab, t.rows, prim_lt, ix0, len_row, l00]
      by_cases c : rows < 5
      · have d1 : decide ((rows : Int) < 5) = true := by simp; omega
        have d2 : decide ((cols : Int) < 5) = false := by simp; omega
        rw [d1, test_tt, d2]
      · have d1 : decide ((rows : Int) < 5) = false := by simp; omega
        rw [d1, test_ff]
    rw [tJ, ex, cnd, test_ff]
    simp only [exs]
end
end Mp
/-! L25d: the turn, the law. -/
namespace Mp
def streamDf : Df := ⟨1, 1, [], false, (.cons (.ret (.lst true (.cons (.prim (.list true) (.cons (.var 0) .nil)) (.cons (.cst (.int 0)) (.cons (.cst (.int 0)) (.cons (.cst (.int 17)) .nil))))))
 .nil)⟩
def sg0 (ns : List Int) : Sg := ⟨ns, 0, 0, 17⟩
def strH (ns : List Int) : Hp := [some (.lst (ns.map .int)), some (.lst [.ref 0, .int 0, .int 0, .int 17])]
theorem strH_eq {ns : List Int} : stH (strH ns) 0 1 (sg0 ns) = strH ns := stH_self (g := sg0 ns) (r := 0) (s := 1) (p := ⟨Nat.zero_lt_two, Nat.one_lt_two, by decide⟩) rfl rfl
theorem stream_run {P : Prog} {W m b f : Nat} {ns : List Int} (d : P.defs f = some streamDf) (hm : 1 ≤ m) : run P W m b f [.lst (ns.map .int)] [] = .ok (.ref 1) (strH ns) := by
  obtain ⟨m, rfl⟩ : ∃ n, m = n + 1 := ⟨m - 1, by omega⟩
  rw [run_imp d rfl rfl rfl]
  have g0 : ∀ h, Env.get [.v (.lst (ns.map .int))] h 0 = some (.lst (ns.map .int)) := fun _ => rfl
  have pl : prim b (.list true) [.lst (ns.map .int)] [] = .ok (.ref 0) [some (.lst (ns.map .int))] := rfl
  have sl : slots0 streamDf.ns [.lst (ns.map .int)] = [.v (.lst (ns.map .int))] := rfl
  rw [sl]
  simp only [streamDf, exs, ex, ev, evs, g0, ofO_some, R.bind_ok, pl, newL, if_true]
  rfl
theorem sg0_ok {ns : List Int} (h : ns.length ≤ 63) : (sg0 ns).Ok := ⟨Int.le_refl 0, (by decide : (0 : Int) ≤ 17), (by decide : (17 : Int) < 2147483647), Int.le_refl 0, h⟩
section
variable {P : Prog} {W m b : Nat} (L : Lk P W)
include L
theorem turn25 {ρ : Env} {h : Hp} {r s : Nat} {g : Sg} (n : Rn ρ s) (p : Spot h r s) (o : g.Ok) (ht : g.t < 2 ^ 42) (hb : b ≤ h.length) (hm : 60 ≤ m) :
    ∃ ρ' X' g', exs (Cn P W m b) ρ (stH h r s g) tAll = .ok (.nx ρ') (stH (h ++ X') r s g') ∧ Rn ρ' s ∧ g'.Ok ∧ g.t ≤ g'.t ∧ g'.t ≤ g.t + 2000 := by
  obtain ⟨fl, g1, e1, o1, t1, t1', rows, cols, T0, r0, r1, c0, c1, rfl, k0⟩ := tA_pr L p (m := m) (b := b) n o (by omega) hm
  obtain ⟨fl, g2, e2, o2, t2, t2', ρ2, T, rfl, n2, b3, k⟩ := tB_pr L p (m := m) (b := b) (rows := rows) (cols := cols) (T := T0) (n.set (by decide)) o1 (by omega) hm (List.getElem?_set_self (by rw [n.len]; omega)) k0 r1 c1
  obtain ⟨ρ3, e3, n3⟩ := tC_ex L (m := m) (b := b) (h := stH h r s g2) n2 hm b3
  obtain ⟨ρ4, e4, n4⟩ := tD_ex L (m := m) (b := b) (h0 := stH h r s g2) (rows := rows) (cols := cols) n3 hm (by simpa using hb) k r0 r1 c0 c1
  rw [stH_len] at n4
  let X1 : Hp := [some (.lst ((bq T rows cols).map barV))]
  have h4 : stH h r s g2 ++ [some (Ob.lst ((bq T rows cols).map barV))] = stH (h ++ X1) r s g2 := (stH_app p).symm
  have at0 : Hp.at (stH (h ++ X1) r s g2) h.length = some (.lst ((bq T rows cols).map barV)) := by
    have : Hp.at (stH (h ++ X1) r s g2) (h.length + 0) = _ := F_at p
    exact this
  obtain ⟨e5, n5⟩ := tE_ex L (m := m) (b := b) n4 at0
  have e6 := tF_ex L (m := m) (b := b) (h := h) (X := X1) (g := g2) n5 p k r0 r1 c0 c1 hm
  let ρ6 : Env := (ρ4.set 10 (.v (dueV (bq T rows cols).head?))).set 11 (.v (told (bq T rows cols).head? (h.length + X1.length)))
  have n6 : En ρ6 s h.length T (bq T rows cols).head? := n5.set (by decide)
  have b11 : ρ6[11]? = some (.v (told (bq T rows cols).head? (h.length + X1.length))) := List.getElem?_set_self (by rw [n5.b.r.len]; omega)
  obtain ⟨g7, e7, o7, t7, t7'⟩ := tG_pr L (m := m) (b := b) n6 b11 p o2 (by omega) k r0 r1 c0 c1 hm
  obtain ⟨X8, e8, a8, l8⟩ := tH_ex L (m := m) (b := b) (X := X1 ++ dueX (bq T rows cols).head? ++ dueX (bq T rows cols).head?) (g := g7) b11 p (by simp [X1]) (by simp [X1]) (fun q hq => by
    have := dueX_at L (X := X1) (Y := dueX (bq T rows cols).head?) q hq
    rw [← List.append_assoc] at this
    exact ⟨by rw [hq]; simp [dueX, X1], this⟩) hm
  have a8' : X8.at 0 = some (.lst ((bq T rows cols).map barV)) := a8.trans rfl
  have e9 := tI_ex L (m := m) (b := b) (g := g7) n6 a8' p k r0 r1 c0 c1 hm
  obtain ⟨ρ10, X10, e10, n10⟩ := tJ_ex L (m := m) (b := b) (X := X8 ++ dueX (bq T rows cols).head?) (g := g7) n6 (by rw [at_app (by omega)]; exact a8') p hb k r0 r1 c0 c1 hm
  refine ⟨ρ10, X10, g7, ?_, n10, o7, by omega, by omega⟩
  rw [tAll, exs, e1, R.bind_ok]
  simp only
  rw [exs, e2, R.bind_ok]
  simp only
  rw [exs, e3, R.bind_ok]
  simp only
  rw [exs, e4, R.bind_ok]
  simp only
  rw [h4, exs, e5, R.bind_ok]
  simp only
  rw [exs, e6, R.bind_ok]
  simp only
  rw [exs, show ex (Cn P W m b) ((ρ4.set 10 (.v (dueV (bq T rows cols).head?))).set 11 (.v (told (bq T rows cols).head? (h.length + X1.length)))) _ tG = _ from e7, R.bind_ok]
  simp only
  rw [exs, e8, R.bind_ok]
  simp only
  rw [exs, e9, R.bind_ok]
  simp only
  rw [exs, e10, R.bind_ok]
  simp only [exs]
end
def lawA : S := (.asg (.tup (.cons (.nm 14) (.cons (.nm 15) .nil))) (.tup (.cons (.tup (.cons (.cst (.int 1)) (.cons (.cst (.int 1)) .nil))) (.cons (.tup (.cons (.cst (.int 0)) (.cons (.cst (.int 1)) .nil))) .nil))))
def lawB : S := (.asg (.nm 16) (.lst false (.cons (.call 9 [0] (.cons (.lst false (.cons (.lst false (.cons (.var 14) (.cons (.var 15) .nil))) (.cons (.lst false (.cons (.var 15) (.cons (.var 15) .nil))) .nil))) .nil)) (.cons (.call 9 [0] (.cons (.lst false (.cons (.lst false (.cons (.var 15) (.cons (.var 15) .nil))) (.cons (.lst false (.cons (.var 15) (.cons (.var 14) .nil))) .nil))) .nil)) (.cons (.call 9 [0] (.cons (.lst false (.cons (.lst false (.cons (.var 14) .nil)) .nil)) .nil)) .nil)))))
def lawC : S := (.ret (.call 13 [0, 1] (.cons (.var 16) (.cons (.lst false (.cons (.tup (.cons (.cst (.str (PySem.Str.ofString "two"))) (.cons (.lst false (.cons (.cst (.int 0)) (.cons (.cst (.int 1)) .nil))) (.cons (.lst false (.cons (.cst (.int 0)) (.cons (.cst (.int 1)) .nil))) .nil)))) (.cons (.tup (.cons (.cst (.str (PySem.Str.ofString "steady"))) .nil)) (.cons (.tup (.cons (.cst (.str (PySem.Str.ofString "steady"))) .nil)) .nil)))) .nil))))
def law25Df : Df := ⟨1, 25, [], true, (.cons (.asg (.nm 1) (.call 10 [0] (.cons (.var 0) .nil)))
 (.cons (.for_ (.nm 2) (.rng (.cons (.cst (.int 8)) .nil)) tAll)
 (.cons lawA (.cons lawB (.cons lawC .nil)))))⟩
theorem law25 {P : Prog} {W f : Nat} (L : Lk P W) (d : P.defs f = some law25Df) (d10 : P.defs 10 = some streamDf) (ns : List Int) (hn : ns.length ≤ 63) : ∃ h', run P W 200 0 f [.lst (ns.map .int)] [] = .ok (.bool true) h' := by
  rw [run_pure d rfl rfl rfl]
  show ∃ h', leave true 0 (exs (Cn P W 199 0) (slots0 law25Df.ns [.lst (ns.map .int)]) [] law25Df.body) = _
  have p0 : Spot (strH ns) 0 1 := ⟨Nat.zero_lt_two, Nat.one_lt_two, by decide⟩
  let ρ0 : Env := slots0 law25Df.ns [.lst (ns.map .int)]
  let ρ1 : Env := ρ0.set 1 (.v (.ref 1))
  have n0 : NoC ρ0 := NoC.of rfl
  have r1 : Rn ρ1 1 := ⟨n0.set, rfl, rfl⟩
  have s1 : ex (Cn P W 199 0) ρ0 [] (.asg (.nm 1) (.call 10 [0] (.cons (.var 0) .nil))) = .ok (.nx ρ1) (strH ns) := by
    have g0 : ∀ h, Env.get ρ0 h 0 = some (.lst (ns.map .int)) := fun _ => rfl
    have st : run P W 199 0 10 [.lst (ns.map .int)] [] = .ok (.ref 1) (strH ns) := stream_run d10 (by decide)
    simp only [ex, ev, evs, g0, ofO_some, R.bind_ok, List.map, List.getD_cons_zero, st]
    rw [bindT_nm n0 (show 1 < 25 by decide), R.bind_ok]
  have hit : evIt (Cn P W 199 0) ρ1 (strH ns) (.rng (.cons (.cst (.int 8)) .nil)) = .ok ((List.range 8).map (fun k : Nat => Val.int k), []) (strH ns) := range1 (n := 8) (by simp only [ev]; rfl) (by decide)
  have body : exs (Cn P W 199 0) ρ0 [] law25Df.body = exs (Cn P W 199 0) ρ1 (strH ns) (.cons (.for_ (.nm 2) (.rng (.cons (.cst (.int 8)) .nil)) tAll) (.cons lawA (.cons lawB (.cons lawC .nil)))) := by
    show exs (Cn P W 199 0) ρ0 [] (.cons (.asg (.nm 1) (.call 10 [0] (.cons (.var 0) .nil))) _) = _
    rw [exs, s1, R.bind_ok]
  show ∃ h', leave true 0 (exs (Cn P W 199 0) ρ0 [] law25Df.body) = _
  rw [body]
  refine for_mapK (C := Cn P W 199 0) (.nm 2) tAll (fun k : Nat => Val.int k) hit (fun k ρ h' => ∃ X g, h' = stH (strH ns ++ X) 0 1 g ∧ Rn ρ 1 ∧ g.Ok ∧ g.t ≤ 2000 * (k : Int)) ⟨[], sg0 ns, by rw [List.append_nil, strH_eq], r1, sg0_ok hn, Int.le_refl 0⟩ ?_ ?_
  · rintro k x ρ h' hx ⟨X, g, rfl, n, o, t⟩
    have hk : k < 8 := by have := (List.getElem?_eq_some_iff.mp hx).1; simpa using this
    rw [bindT_nm n.nc (by rw [n.len]; omega), R.bind_ok]
    obtain ⟨ρ', X', g', e, n', o', t1, t2⟩ := turn25 L (m := 199) (b := 0) (n.set (i := 2) (v := .int (x : Nat)) (by decide)) (p0.app (X := X)) o (by omega) (by omega) (by decide)
    exact ⟨ρ', _, e, X ++ X', g', by rw [List.append_assoc], n', o', by omega⟩
  · rintro ρ h' e ⟨X, g, rfl, n, o, t⟩
    rw [exs, e, R.bind_ok]
    simp only
    let ρ2 : Env := (ρ.set 14 (.v (frV 1))).set 15 (.v (frV 0))
    have n2 : Rn ρ2 1 := (n.set (by decide)).set (by decide)
    have b14 : ρ2[14]? = some (.v (frV 1)) := by
      show ((ρ.set 14 _).set 15 _)[14]? = _
      rw [List.getElem?_set_ne (by decide), List.getElem?_set_self (by rw [n.len]; omega)]
    have b15 : ρ2[15]? = some (.v (frV 0)) := List.getElem?_set_self (by simp; rw [n.len]; omega)
    have sA : ∀ h, ex (Cn P W 199 0) ρ h lawA = .ok (.nx ρ2) h := fun h => by
      simp only [lawA, ex, ev, evs, R.bind_ok]
      rw [show (Val.tup [.tup [.int 1, .int 1], .tup [.int 0, .int 1]]) = .tup [frV 1, frV 0] from rfl, bind_pair n.nc (by rw [n.len]; omega) (by rw [n.len]; omega), R.bind_ok]
    have g14 : ∀ h, Env.get ρ2 h 14 = some (frV 1) := fun h => get_of b14
    have g15 : ∀ h, Env.get ρ2 h 15 = some (frV 0) := fun h => get_of b15
    have tok : ∀ T : List (List Rat), ∀ r c : Nat, T.length = r → (∀ x ∈ T, x.length = c) → (∀ x ∈ T, ∀ q ∈ x, q = 0 ∨ q = 1) → TOk 1009 r c T := fun T r c h1 h2 h3 => ⟨h1, h2, fun x mx q mq => by
      rcases h3 x mx q mq with rfl | rfl
      · exact Sz.zero.mono (by decide)
      · exact Sz.mono (k := 2) ⟨by decide, by decide⟩ (by decide)⟩
    let T1 : List (List Rat) := [[1, 0], [0, 0]]
    let T2 : List (List Rat) := [[0, 0], [0, 1]]
    let T3 : List (List Rat) := [[1]]
    have k1 : TOk 1009 2 2 T1 := tok T1 2 2 rfl (by simp [T1]) (by simp [T1])
    have k2 : TOk 1009 2 2 T2 := tok T2 2 2 rfl (by simp [T2]) (by simp [T2])
    have k3 : TOk 1009 1 1 T3 := tok T3 1 1 rfl (by simp [T3]) (by simp [T3])
    have q1 : (bq T1 2 2).head? = some (0, 1, 0, 1) := by decide +kernel
    have q2 : (bq T2 2 2).head? = none := by decide +kernel
    have q3 : (bq T3 1 1).head? = none := by decide +kernel
    have s1 := steady_F L (m := 199) (b := 0) (h := strH ns) (X := X) (g := g) p0 k1 TabIn.same (by decide) (by decide) (by decide) (by decide) (by decide)
    rw [q1] at s1
    let X1 : Hp := X ++ dueX (some (0, 1, 0, 1))
    have s2 := steady_F L (m := 199) (b := 0) (h := strH ns) (X := X1) (g := g) p0 k2 TabIn.same (by decide) (by decide) (by decide) (by decide) (by decide)
    have s3 := steady_F L (m := 199) (b := 0) (h := strH ns) (X := X1) (g := g) p0 k3 TabIn.same (by decide) (by decide) (by decide) (by decide) (by decide)
    rw [q2] at s2
    rw [q3] at s3
    simp only [dueX, List.append_nil, told] at s2 s3
    let v16 : Val := .lst [told (some (0, 1, 0, 1)) ((strH ns).length + X.length), steadyV, steadyV]
    have sB : ex (Cn P W 199 0) ρ2 (stH (strH ns ++ X) 0 1 g) lawB = .ok (.nx (ρ2.set 16 (.v v16))) (stH (strH ns ++ X1) 0 1 g) := by
      have s1 : run P W 199 0 9 [.lst [.lst [frV 1, frV 0], .lst [frV 0, frV 0]]] (stH (strH ns ++ X) 0 1 g) = _ := s1
      have s2 : run P W 199 0 9 [.lst [.lst [frV 0, frV 0], .lst [frV 0, frV 1]]] (stH (strH ns ++ X1) 0 1 g) = _ := s2
      have s3 : run P W 199 0 9 [.lst [.lst [frV 1]]] (stH (strH ns ++ X1) 0 1 g) = _ := s3
      simp only [lawB, ex, ev, evs, g14, g15, ofO_some, R.bind_ok, newL, Bool.false_eq_true, if_false, List.map, List.getD_cons_zero, s1]
      rw [show stH (strH ns ++ (X ++ dueX (some (0, 1, 0, 1)))) 0 1 g = stH (strH ns ++ X1) 0 1 g from rfl]
      simp only [s2, R.bind_ok, s3]
      rw [bindT_nm n2.nc (by rw [n2.len]; omega), R.bind_ok]
    have b16 : (ρ2.set 16 (.v v16))[16]? = some (.v v16) := List.getElem?_set_self (by rw [n2.len]; omega)
    have g16 : ∀ h, Env.get (ρ2.set 16 (.v v16)) h 16 = some v16 := fun h => get_of b16
    let Z : Hp := stH (strH ns ++ X1) 0 1 g
    have dd : Den Z 4 (told (some (0, 1, 0, 1)) ((strH ns).length + X.length)) (dueV (some (0, 1, 0, 1))) := told_den (k := 2) fun q hq => by
      have := dueX_at L (X := X) (Y := []) q hq
      rw [List.append_nil] at this
      exact ⟨(F_at p0).trans this.1, by rw [Nat.add_assoc]; exact (F_at p0).trans this.2⟩
    have ds : Den Z 4 steadyV steadyV := Den.refl plain_steady.up.up.plain
    have sm : run P W 199 0 13 [v16, .lst [barV (0, 1, 0, 1), steadyV, steadyV]] Z = .ok (.bool true) Z :=
      same2_m (k := 5) L.sm (w := .lst [barV (0, 1, 0, 1), steadyV, steadyV]) (fun x mx => by
        simp only [List.mem_cons, List.not_mem_nil, or_false] at mx
        rcases mx with rfl | rfl | rfl
        · exact plain_bar.up.up
        · exact plain_steady.up.up
        · exact plain_steady.up.up) ⟨_, rfl, .cons dd (.cons ds (.cons ds .nil))⟩ (Den.refl (fun x mx => by
        simp only [List.mem_cons, List.not_mem_nil, or_false] at mx
        rcases mx with rfl | rfl | rfl
        · exact plain_bar.up.up.plain
        · exact plain_steady.up.up.plain
        · exact plain_steady.up.up.plain)) (by decide)
    have sC : ex (Cn P W 199 0) (ρ2.set 16 (.v v16)) Z lawC = .ok (.rt (.bool true)) Z := by
      have sm : run P W 199 0 13 [v16, .lst [.tup [.str (PySem.Str.ofString "two"), .lst [.int 0, .int 1], .lst [.int 0, .int 1]], .tup [.str (PySem.Str.ofString "steady")], .tup [.str (PySem.Str.ofString "steady")]]] Z = _ := sm
      simp only [lawC, ex, ev, evs, g16, ofO_some, R.bind_ok, newL, Bool.false_eq_true, if_false, List.map, List.getD_cons_zero, List.getD_cons_succ, sm]
    rw [exs, sA, R.bind_ok]
    simp only
    rw [exs, sB, R.bind_ok]
    simp only
    rw [exs, show ex (Cn P W 199 0) (ρ2.set 16 (.v v16)) (stH (strH ns ++ X1) 0 1 g) lawC = _ from sC, R.bind_ok]
    exact ⟨_, rfl⟩
end Mp
namespace X
open PySem Mp
/-- is_list -/
def d0 : Df := ⟨1, 1, [], true, (.cons (.ret (.prim (.isi [.list, .tuple]) (.cons (.var 0) .nil)))
 .nil)⟩
/-- is_whole -/
def d1 : Df := ⟨1, 1, [], true, (.cons (.ret (.and (.prim (.isi [.int]) (.cons (.var 0) .nil)) (.prim .not (.cons (.prim (.isi [.bool]) (.cons (.var 0) .nil)) .nil))))
 .nil)⟩
/-- is_row -/
def d2 : Df := ⟨2, 2, [], true, (.cons (.ret (.and (.call 0 [0] (.cons (.var 0) .nil)) (.prim .eq (.cons (.prim .len (.cons (.var 0) .nil)) (.cons (.var 1) .nil)))))
 .nil)⟩
/-- common_divisor -/
def d3 : Df := ⟨2, 2, [], true, (.cons (.par (.cons (.nm 1) (.cons (.nm 0) .nil)) (.cons (.prim .abs (.cons (.var 0) .nil)) (.cons (.prim .abs (.cons (.var 1) .nil)) .nil)))
 (.cons (.whil (.var 1) (.cons (.par (.cons (.nm 1) (.cons (.nm 0) .nil)) (.cons (.var 1) (.cons (.prim .mod (.cons (.var 0) (.cons (.var 1) .nil))) .nil)))
 .nil))
 (.cons (.ret (.var 0))
 .nil)))⟩
/-- is_under -/
def d4 : Df := ⟨2, 2, [], true, (.cons (.ret (.prim .lt (.cons (.prim (.mul false) (.cons (.prim .ix (.cons (.var 0) (.cons (.cst (.int 0)) .nil))) (.cons (.prim .ix (.cons (.var 1) (.cons (.cst (.int 1)) .nil))) .nil))) (.cons (.prim (.mul false) (.cons (.prim .ix (.cons (.var 1) (.cons (.cst (.int 0)) .nil))) (.cons (.prim .ix (.cons (.var 0) (.cons (.cst (.int 1)) .nil))) .nil))) .nil))))
 .nil)⟩
/-- kept_fraction -/
def d5 : Df := ⟨1, 1, [], true, (.cons (.ifs (.or (.prim .not (.cons (.call 2 [0, 1] (.cons (.var 0) (.cons (.cst (.int 2)) .nil))) .nil)) (.or (.prim .not (.cons (.call 1 [0] (.cons (.prim .ix (.cons (.var 0) (.cons (.cst (.int 0)) .nil))) .nil)) .nil)) (.prim .not (.cons (.call 1 [0] (.cons (.prim .ix (.cons (.var 0) (.cons (.cst (.int 1)) .nil))) .nil)) .nil)))) (.cons (.ret (.cst .none))
 .nil) .nil)
 (.cons (.ifs (.or (.prim .lt (.cons (.prim .ix (.cons (.var 0) (.cons (.cst (.int 1)) .nil))) (.cons (.cst (.int 1)) .nil))) (.prim .ne (.cons (.call 3 [0, 1] (.cons (.prim .ix (.cons (.var 0) (.cons (.cst (.int 0)) .nil))) (.cons (.prim .ix (.cons (.var 0) (.cons (.cst (.int 1)) .nil))) .nil))) (.cons (.cst (.int 1)) .nil)))) (.cons (.ret (.cst .none))
 .nil) .nil)
 (.cons (.ret (.tup (.cons (.prim .ix (.cons (.var 0) (.cons (.cst (.int 0)) .nil))) (.cons (.prim .ix (.cons (.var 0) (.cons (.cst (.int 1)) .nil))) .nil))))
 .nil)))⟩
/-- kept_table -/
def d6 : Df := ⟨1, 10, [], true, (.cons (.ifs (.or (.prim .not (.cons (.call 0 [0] (.cons (.var 0) .nil)) .nil)) (.or (.prim .eq (.cons (.prim .len (.cons (.var 0) .nil)) (.cons (.cst (.int 0)) .nil))) (.prim .not (.cons (.prim .all (.cons (.comp false (.call 0 [0] (.cons (.var 3) .nil)) [2, 3] (.nm 3) (.ev (.var 0)) (.cst (.bool true))) .nil)) .nil)))) (.cons (.ret (.cst .none))
 .nil) .nil)
 (.cons (.asg (.nm 1) (.comp false (.comp false (.call 5 [0] (.cons (.var 7) .nil)) [6, 7] (.nm 7) (.ev (.var 5)) (.cst (.bool true))) [4, 5] (.nm 5) (.ev (.var 0)) (.cst (.bool true))))
 (.cons (.ifs (.or (.prim .eq (.cons (.prim .ix (.cons (.var 1) (.cons (.cst (.int 0)) .nil))) (.cons (.lst false .nil) .nil))) (.prim .not (.cons (.prim .all (.cons (.comp false (.and (.prim .eq (.cons (.prim .len (.cons (.var 9) .nil)) (.cons (.prim .len (.cons (.prim .ix (.cons (.var 1) (.cons (.cst (.int 0)) .nil))) .nil)) .nil))) (.prim .nin (.cons (.cst .none) (.cons (.var 9) .nil)))) [8, 9] (.nm 9) (.ev (.var 1)) (.cst (.bool true))) .nil)) .nil))) (.cons (.ret (.cst .none))
 .nil) .nil)
 (.cons (.ret (.var 1))
 .nil))))⟩
/-- need_table -/
def d7 : Df := ⟨1, 2, [], true, (.cons (.asg (.nm 1) (.call 6 [0] (.cons (.var 0) .nil)))
 (.cons (.ifs (.prim .isN (.cons (.var 1) .nil)) (.cons .bad
 .nil) .nil)
 (.cons (.ret (.var 1))
 .nil)))⟩
/-- goes_left -/
def d8 : Df := ⟨5, 5, [], true, (.cons (.ret (.and (.call 4 [0, 1] (.cons (.prim .ix (.cons (.prim .ix (.cons (.var 0) (.cons (.var 1) .nil))) (.cons (.var 4) .nil))) (.cons (.prim .ix (.cons (.prim .ix (.cons (.var 0) (.cons (.var 1) .nil))) (.cons (.var 3) .nil))) .nil))) (.prim .not (.cons (.call 4 [0, 1] (.cons (.prim .ix (.cons (.prim .ix (.cons (.var 0) (.cons (.var 2) .nil))) (.cons (.var 4) .nil))) (.cons (.prim .ix (.cons (.prim .ix (.cons (.var 0) (.cons (.var 2) .nil))) (.cons (.var 3) .nil))) .nil))) .nil))))
 .nil)⟩
/-- steady_or_two -/
def d9 : Df := ⟨1, 10, [], false, (.cons (.asg (.nm 1) (.call 7 [0] (.cons (.var 0) .nil)))
 (.cons (.asg (.nm 4) (.comp2 false (.tup (.cons (.var 8) (.cons (.var 9) .nil))) [7, 8, 9] (.nm 8) (.rng (.cons (.prim .len (.cons (.prim .ix (.cons (.var 1) (.cons (.cst (.int 0)) .nil))) .nil)) .nil)) (.cst (.bool true)) (.nm 9) (.rng (.cons (.prim (.add false) (.cons (.var 8) (.cons (.cst (.int 1)) .nil))) (.cons (.prim .len (.cons (.prim .ix (.cons (.var 1) (.cons (.cst (.int 0)) .nil))) .nil)) .nil))) (.cst (.bool true))))
 (.cons (.for_ (.nm 5) (.rng (.cons (.prim .len (.cons (.var 1) .nil)) .nil)) (.cons (.for_ (.nm 6) (.rng (.cons (.prim (.add false) (.cons (.var 5) (.cons (.cst (.int 1)) .nil))) (.cons (.prim .len (.cons (.var 1) .nil)) .nil))) (.cons (.for_ (.tup (.cons (.nm 2) (.cons (.nm 3) .nil))) (.ev (.var 4)) (.cons (.ifs (.call 8 [0, 1, 2, 3, 4] (.cons (.var 1) (.cons (.var 5) (.cons (.var 6) (.cons (.var 2) (.cons (.var 3) .nil)))))) (.cons (.ret (.tup (.cons (.cst (.str (PySem.Str.ofString "two"))) (.cons (.lst true (.cons (.var 5) (.cons (.var 6) .nil))) (.cons (.lst true (.cons (.var 2) (.cons (.var 3) .nil))) .nil)))))
 .nil) .nil)
 .nil))
 .nil))
 .nil))
 (.cons (.ret (.tup (.cons (.cst (.str (PySem.Str.ofString "steady"))) .nil)))
 .nil))))⟩
/-- _law_stream -/
def d10 : Df := ⟨1, 1, [], false, (.cons (.ret (.lst true (.cons (.prim (.list true) (.cons (.var 0) .nil)) (.cons (.cst (.int 0)) (.cons (.cst (.int 0)) (.cons (.cst (.int 17)) .nil))))))
 .nil)⟩
/-- _law_draw -/
def d11 : Df := ⟨2, 5, [], true, (.cons (.asg (.sub (.var 0) (.cst (.int 2))) (.prim (.add false) (.cons (.prim .ix (.cons (.var 0) (.cons (.cst (.int 2)) .nil))) (.cons (.cst (.int 1)) .nil))))
 (.cons (.whil (.and (.prim .eq (.cons (.prim .ix (.cons (.var 0) (.cons (.cst (.int 1)) .nil))) (.cons (.cst (.int 0)) .nil))) (.prim .ne (.cons (.prim .ix (.cons (.var 0) (.cons (.cst (.int 0)) .nil))) (.cons (.lst false .nil) .nil)))) (.cons (.asg (.nm 2) (.prim .abs (.cons (.meth .popAt (.prim .ix (.cons (.var 0) (.cons (.cst (.int 0)) .nil))) (.cons (.cst (.int 0)) .nil)) .nil)))
 (.cons (.asg (.sub (.var 0) (.cst (.int 3))) (.prim .mod (.cons (.prim .int (.cons (.prim (.add false) (.cons (.prim (.add false) (.cons (.prim (.mul false) (.cons (.prim .ix (.cons (.var 0) (.cons (.cst (.int 3)) .nil))) (.cons (.cst (.int 8191)) .nil))) (.cons (.var 2) .nil))) (.cons (.cst (.int 3)) .nil))) .nil)) (.cons (.cst (.int 2147483647)) .nil))))
 (.cons (.asg (.sub (.var 0) (.cst (.int 1))) (.ite (.prim .ge (.cons (.var 2) (.cons (.prim .pow (.cons (.cst (.int 10)) (.cons (.cst (.int 18)) .nil))) .nil))) (.var 2) (.cst (.int 0))))
 .nil))))
 (.cons (.ifs (.prim .gt (.cons (.prim .ix (.cons (.var 0) (.cons (.cst (.int 1)) .nil))) (.cons (.cst (.int 0)) .nil))) (.cons (.asg (.nm 3) (.prim .mod (.cons (.prim .int (.cons (.prim .ix (.cons (.var 0) (.cons (.cst (.int 1)) .nil))) .nil)) (.cons (.var 1) .nil))))
 (.cons (.asg (.sub (.var 0) (.cst (.int 1))) (.prim .fdiv (.cons (.prim .ix (.cons (.var 0) (.cons (.cst (.int 1)) .nil))) (.cons (.var 1) .nil))))
 (.cons (.ret (.var 3))
 .nil))) .nil)
 (.cons (.asg (.nm 4) (.prim .mod (.cons (.prim .int (.cons (.prim .pow (.cons (.prim (.add false) (.cons (.prim (.add false) (.cons (.prim .ix (.cons (.var 0) (.cons (.cst (.int 3)) .nil))) (.cons (.prim (.mul false) (.cons (.cst (.int 7919)) (.cons (.prim .ix (.cons (.var 0) (.cons (.cst (.int 2)) .nil))) .nil))) .nil))) (.cons (.cst (.int 104729)) .nil))) (.cons (.cst (.int 5)) .nil))) .nil)) (.cons (.cst (.int 2147483629)) .nil))))
 (.cons (.ret (.prim .mod (.cons (.prim .mod (.cons (.prim .int (.cons (.prim .pow (.cons (.prim (.add false) (.cons (.prim (.add false) (.cons (.prim (.mul false) (.cons (.var 4) (.cons (.cst (.int 48271)) .nil))) (.cons (.prim (.mul false) (.cons (.cst (.int 30011)) (.cons (.prim .ix (.cons (.var 0) (.cons (.cst (.int 2)) .nil))) .nil))) .nil))) (.cons (.cst (.int 29)) .nil))) (.cons (.cst (.int 3)) .nil))) .nil)) (.cons (.cst (.int 1000000007)) .nil))) (.cons (.var 1) .nil))))
 .nil)))))⟩
/-- _law_pick -/
def d12 : Df := ⟨2, 2, [], true, (.cons (.ret (.prim .ix (.cons (.var 1) (.cons (.call 11 [0, 1] (.cons (.var 0) (.cons (.prim .len (.cons (.var 1) .nil)) .nil))) .nil))))
 .nil)⟩
/-- _law_same -/
def d13 : Df := ⟨2, 5, [], true, (.cons (.ifs (.prim (.isi [.list, .tuple]) (.cons (.var 1) .nil)) (.cons (.ifs (.or (.prim .ne (.cons (.prim (.isi [.list]) (.cons (.var 0) .nil)) (.cons (.prim (.isi [.list]) (.cons (.var 1) .nil)) .nil))) (.prim .ne (.cons (.prim (.isi [.tuple]) (.cons (.var 0) .nil)) (.cons (.prim (.isi [.tuple]) (.cons (.var 1) .nil)) .nil)))) (.cons (.ret (.cst (.bool false)))
 .nil) .nil)
 (.cons (.ret (.and (.prim .eq (.cons (.prim .len (.cons (.var 0) .nil)) (.cons (.prim .len (.cons (.var 1) .nil)) .nil))) (.prim .all (.cons (.comp false (.call 13 [0, 1] (.cons (.var 3) (.cons (.var 4) .nil))) [2, 3, 4] (.tup (.cons (.nm 3) (.cons (.nm 4) .nil))) (.zip (.cons (.var 0) (.cons (.var 1) .nil))) (.cst (.bool true))) .nil))))
 .nil)) .nil)
 (.cons (.ifs (.prim (.isi [.dict]) (.cons (.var 1) .nil)) (.cons (.ret (.and (.prim (.isi [.dict]) (.cons (.var 0) .nil)) (.call 13 [0, 1] (.cons (.prim (.list false) (.cons .bad .nil)) (.cons (.prim (.list false) (.cons .bad .nil)) .nil)))))
 .nil) .nil)
 (.cons (.ifs (.or (.prim (.isi [.bool]) (.cons (.var 1) .nil)) (.prim (.isi [.bool]) (.cons (.var 0) .nil))) (.cons (.ret (.and (.prim (.isi [.bool]) (.cons (.var 1) .nil)) (.and (.prim (.isi [.bool]) (.cons (.var 0) .nil)) (.prim .eq (.cons (.var 0) (.cons (.var 1) .nil))))))
 .nil) .nil)
 (.cons (.ifs (.or (.prim .isN (.cons (.var 1) .nil)) (.prim .isN (.cons (.var 0) .nil))) (.cons (.ret (.and (.prim .isN (.cons (.var 1) .nil)) (.prim .isN (.cons (.var 0) .nil))))
 .nil) .nil)
 (.cons (.ifs (.or (.prim .ne (.cons (.prim (.isi [.int]) (.cons (.var 1) .nil)) (.cons (.prim (.isi [.int]) (.cons (.var 0) .nil)) .nil))) (.prim .ne (.cons (.prim (.isi [.str]) (.cons (.var 1) .nil)) (.cons (.prim (.isi [.str]) (.cons (.var 0) .nil)) .nil)))) (.cons (.ret (.cst (.bool false)))
 .nil) .nil)
 (.cons (.ret (.and (.prim .not (.cons (.prim (.isi [.list, .tuple, .dict]) (.cons (.var 0) .nil)) .nil)) (.prim .eq (.cons (.var 0) (.cons (.var 1) .nil)))))
 .nil))))))⟩
/-- _law_spoilt -/
def d14 : Df := ⟨1, 2, [], true, (.cons (.ifs (.prim (.isi [.list, .tuple]) (.cons (.var 0) .nil)) (.cons (.for_ (.nm 1) (.ev (.var 0)) (.cons (.expr (.call 14 [0] (.cons (.var 1) .nil)))
 .nil))
 .nil) .nil)
 (.cons (.ifs (.prim (.isi [.list]) (.cons (.var 0) .nil)) (.cons (.expr (.meth .append (.var 0) (.cons (.cst (.str (PySem.Str.ofString "late"))) .nil)))
 .nil) .nil)
 .nil))⟩
/-- _law_copied -/
def d15 : Df := ⟨1, 4, [], true, (.cons (.ifs (.prim (.isi [.dict]) (.cons (.var 0) .nil)) (.cons (.ret .bad)
 .nil) .nil)
 (.cons (.asg (.nm 1) (.ite (.prim (.isi [.list, .tuple]) (.cons (.var 0) .nil)) (.comp false (.call 15 [0] (.cons (.var 3) .nil)) [2, 3] (.nm 3) (.ev (.var 0)) (.cst (.bool true))) (.var 0)))
 (.cons (.ret (.ite (.prim (.isi [.tuple]) (.cons (.var 0) .nil)) (.prim .tuple (.cons (.var 1) .nil)) (.var 1)))
 .nil)))⟩
/-- _law_loose -/
def d16 : Df := ⟨2, 5, [], true, (.cons (.ifs (.prim .not (.cons (.prim (.isi [.list, .tuple]) (.cons (.var 1) .nil)) .nil)) (.cons (.ret (.var 1))
 .nil) .nil)
 (.cons (.asg (.nm 2) (.comp false (.call 16 [0, 1] (.cons (.var 0) (.cons (.var 4) .nil))) [3, 4] (.nm 4) (.ev (.var 1)) (.cst (.bool true))))
 (.cons (.ret (.ite (.prim .eq (.cons (.call 11 [0, 1] (.cons (.var 0) (.cons (.cst (.int 2)) .nil))) (.cons (.cst (.int 0)) .nil))) (.prim .tuple (.cons (.var 2) .nil)) (.var 2)))
 .nil)))⟩
/-- _law_share -/
def d17 : Df := ⟨2, 2, [], true, (.cons (.par (.cons (.nm 1) (.cons (.nm 0) .nil)) (.cons (.prim .abs (.cons (.var 0) .nil)) (.cons (.prim .abs (.cons (.var 1) .nil)) .nil)))
 (.cons (.whil (.prim .ne (.cons (.var 1) (.cons (.cst (.int 0)) .nil))) (.cons (.par (.cons (.nm 1) (.cons (.nm 0) .nil)) (.cons (.var 1) (.cons (.prim .mod (.cons (.prim .int (.cons (.var 0) .nil)) (.cons (.var 1) .nil))) .nil)))
 .nil))
 (.cons (.ret (.var 0))
 .nil)))⟩
/-- _law_frac -/
def d18 : Df := ⟨2, 4, [], true, (.cons (.asg (.nm 2) (.call 17 [0, 1] (.cons (.var 0) (.cons (.var 1) .nil))))
 (.cons (.asg (.nm 3) (.ite (.prim .lt (.cons (.var 1) (.cons (.cst (.int 0)) .nil))) (.prim .neg (.cons (.cst (.int 1)) .nil)) (.cst (.int 1))))
 (.cons (.ret (.tup (.cons (.prim .fdiv (.cons (.prim (.mul false) (.cons (.var 3) (.cons (.var 0) .nil))) (.cons (.var 2) .nil))) (.cons (.prim .fdiv (.cons (.prim (.mul false) (.cons (.var 3) (.cons (.var 1) .nil))) (.cons (.var 2) .nil))) .nil))))
 .nil)))⟩
/-- _law_add -/
def d19 : Df := ⟨2, 2, [], true, (.cons (.ret (.call 18 [0, 1] (.cons (.prim (.add false) (.cons (.prim (.mul false) (.cons (.prim .ix (.cons (.var 0) (.cons (.cst (.int 0)) .nil))) (.cons (.prim .ix (.cons (.var 1) (.cons (.cst (.int 1)) .nil))) .nil))) (.cons (.prim (.mul false) (.cons (.prim .ix (.cons (.var 1) (.cons (.cst (.int 0)) .nil))) (.cons (.prim .ix (.cons (.var 0) (.cons (.cst (.int 1)) .nil))) .nil))) .nil))) (.cons (.prim (.mul false) (.cons (.prim .ix (.cons (.var 0) (.cons (.cst (.int 1)) .nil))) (.cons (.prim .ix (.cons (.var 1) (.cons (.cst (.int 1)) .nil))) .nil))) .nil))))
 .nil)⟩
/-- _law_less -/
def d20 : Df := ⟨2, 2, [], true, (.cons (.ret (.call 19 [0, 1] (.cons (.var 0) (.cons (.tup (.cons (.prim .neg (.cons (.prim .ix (.cons (.var 1) (.cons (.cst (.int 0)) .nil))) .nil)) (.cons (.prim .ix (.cons (.var 1) (.cons (.cst (.int 1)) .nil))) .nil))) .nil))))
 .nil)⟩
/-- _law_below -/
def d21 : Df := ⟨2, 2, [], true, (.cons (.ret (.prim .lt (.cons (.prim (.mul false) (.cons (.prim .ix (.cons (.var 0) (.cons (.cst (.int 0)) .nil))) (.cons (.prim .ix (.cons (.var 1) (.cons (.cst (.int 1)) .nil))) .nil))) (.cons (.prim (.mul false) (.cons (.prim .ix (.cons (.var 1) (.cons (.cst (.int 0)) .nil))) (.cons (.prim .ix (.cons (.var 0) (.cons (.cst (.int 1)) .nil))) .nil))) .nil))))
 .nil)⟩
/-- _law_w_one -/
def d22 : Df := ⟨2, 2, [], true, (.cons (.ret (.call 18 [0, 1] (.cons (.prim .sub (.cons (.call 11 [0, 1] (.cons (.var 0) (.cons (.prim (.add false) (.cons (.prim (.mul false) (.cons (.cst (.int 2)) (.cons (.var 1) .nil))) (.cons (.cst (.int 1)) .nil))) .nil))) (.cons (.var 1) .nil))) (.cons (.call 12 [0, 1] (.cons (.var 0) (.cons (.lst false (.cons (.cst (.int 1)) (.cons (.cst (.int 1)) (.cons (.cst (.int 1)) (.cons (.cst (.int 2)) (.cons (.cst (.int 3)) .nil)))))) .nil))) .nil))))
 .nil)⟩
/-- _law_w_some -/
def d23 : Df := ⟨2, 2, [], true, (.cons (.ret (.call 18 [0, 1] (.cons (.call 11 [0, 1] (.cons (.var 0) (.cons (.prim (.add false) (.cons (.var 1) (.cons (.cst (.int 1)) .nil))) .nil))) (.cons (.call 12 [0, 1] (.cons (.var 0) (.cons (.lst false (.cons (.cst (.int 1)) (.cons (.cst (.int 1)) (.cons (.cst (.int 1)) (.cons (.cst (.int 2)) (.cons (.cst (.int 3)) .nil)))))) .nil))) .nil))))
 .nil)⟩
/-- _law_w_made -/
def d24 : Df := ⟨3, 10, [], false, (.cons (.asg (.nm 3) (.lst true .nil))
 (.cons (.for_ (.nm 4) (.rng (.cons (.prim .len (.cons (.var 1) .nil)) .nil)) (.cons (.asg (.nm 5) (.lst true .nil))
 (.cons (.for_ (.nm 6) (.rng (.cons (.prim .len (.cons (.var 0) .nil)) .nil)) (.cons (.asg (.nm 7) (.call 19 [0, 1] (.cons (.prim .ix (.cons (.var 0) (.cons (.var 6) .nil))) (.cons (.prim .ix (.cons (.var 1) (.cons (.var 4) .nil))) .nil))))
 (.cons (.for_ (.nm 8) (.ev (.prim (.sl false false true false) (.cons (.var 2) (.cons (.var 4) .nil)))) (.cons (.for_ (.nm 9) (.ev (.prim (.sl false false true false) (.cons (.var 8) (.cons (.var 6) .nil)))) (.cons (.asg (.nm 7) (.call 20 [0, 1] (.cons (.var 7) (.cons (.var 9) .nil))))
 .nil))
 .nil))
 (.cons (.expr (.meth .append (.var 5) (.cons (.var 7) .nil)))
 .nil))))
 (.cons (.expr (.meth .append (.var 3) (.cons (.var 5) .nil)))
 .nil))))
 (.cons (.ret (.var 3))
 .nil)))⟩
/-- _law_w_down -/
def d25 : Df := ⟨3, 13, [], false, (.cons (.par (.cons (.nm 4) (.cons (.nm 3) .nil)) (.cons (.comp false (.call 22 [0, 1] (.cons (.var 0) (.cons (.cst (.int 4)) .nil))) [7, 8] (.nm 8) (.rng (.cons (.var 2) .nil)) (.cst (.bool true))) (.cons (.prim (.add false) (.cons (.lst false (.cons (.tup (.cons (.cst (.int 0)) (.cons (.cst (.int 1)) .nil))) .nil)) (.cons (.comp false (.call 22 [0, 1] (.cons (.var 0) (.cons (.cst (.int 4)) .nil))) [5, 6] (.nm 6) (.rng (.cons (.prim .sub (.cons (.var 1) (.cons (.cst (.int 1)) .nil))) .nil)) (.cst (.bool true))) .nil))) .nil)))
 (.cons (.ret (.call 24 [0, 1, 2] (.cons (.var 3) (.cons (.var 4) (.cons (.comp false (.comp false (.call 23 [0, 1] (.cons (.var 0) (.cons (.cst (.int 2)) .nil))) [11, 12] (.nm 12) (.rng (.cons (.prim .sub (.cons (.var 2) (.cons (.cst (.int 1)) .nil))) .nil)) (.cst (.bool true))) [9, 10] (.nm 10) (.rng (.cons (.prim .sub (.cons (.var 1) (.cons (.cst (.int 1)) .nil))) .nil)) (.cst (.bool true))) .nil)))))
 .nil))⟩
/-- _law_w_table -/
def d26 : Df := ⟨3, 11, [], true, (.cons (.asg (.nm 3) (.call 11 [0, 1] (.cons (.var 0) (.cons (.cst (.int 3)) .nil))))
 (.cons (.ifs (.prim .eq (.cons (.var 3) (.cons (.cst (.int 0)) .nil))) (.cons (.ret (.comp false (.comp false (.call 22 [0, 1] (.cons (.var 0) (.cons (.cst (.int 4)) .nil))) [9, 10] (.nm 10) (.rng (.cons (.var 2) .nil)) (.cst (.bool true))) [7, 8] (.nm 8) (.rng (.cons (.var 1) .nil)) (.cst (.bool true))))
 .nil) .nil)
 (.cons (.asg (.nm 5) (.call 25 [0, 1, 2] (.cons (.var 0) (.cons (.var 1) (.cons (.var 2) .nil)))))
 (.cons (.ifs (.prim .eq (.cons (.var 3) (.cons (.cst (.int 1)) .nil))) (.cons (.par (.cons (.nm 4) (.cons (.nm 6) .nil)) (.cons (.call 11 [0, 1] (.cons (.var 0) (.cons (.var 1) .nil))) (.cons (.call 11 [0, 1] (.cons (.var 0) (.cons (.var 2) .nil))) .nil)))
 (.cons (.asg (.sub (.prim .ix (.cons (.var 5) (.cons (.var 6) .nil))) (.var 4)) (.call 19 [0, 1] (.cons (.prim .ix (.cons (.prim .ix (.cons (.var 5) (.cons (.var 6) .nil))) (.cons (.var 4) .nil))) (.cons (.call 12 [0, 1] (.cons (.var 0) (.cons (.lst false (.cons (.tup (.cons (.cst (.int 1)) (.cons (.cst (.int 1)) .nil))) (.cons (.tup (.cons (.prim .neg (.cons (.cst (.int 1)) .nil)) (.cons (.cst (.int 1)) .nil))) (.cons (.tup (.cons (.cst (.int 1)) (.cons (.cst (.int 2)) .nil))) (.cons (.tup (.cons (.cst (.int 3)) (.cons (.cst (.int 1)) .nil))) .nil))))) .nil))) .nil))))
 .nil)) .nil)
 (.cons (.ret (.var 5))
 .nil)))))⟩
/-- _law_w_corner -/
def d27 : Df := ⟨3, 5, [], true, (.cons (.par (.cons (.nm 4) (.cons (.nm 3) .nil)) (.cons (.call 19 [0, 1] (.cons (.prim .ix (.cons (.prim .ix (.cons (.var 0) (.cons (.var 1) .nil))) (.cons (.var 2) .nil))) (.cons (.prim .ix (.cons (.prim .ix (.cons (.var 0) (.cons (.prim (.add false) (.cons (.var 1) (.cons (.cst (.int 1)) .nil))) .nil))) (.cons (.prim (.add false) (.cons (.var 2) (.cons (.cst (.int 1)) .nil))) .nil))) .nil))) (.cons (.call 19 [0, 1] (.cons (.prim .ix (.cons (.prim .ix (.cons (.var 0) (.cons (.var 1) .nil))) (.cons (.prim (.add false) (.cons (.var 2) (.cons (.cst (.int 1)) .nil))) .nil))) (.cons (.prim .ix (.cons (.prim .ix (.cons (.var 0) (.cons (.prim (.add false) (.cons (.var 1) (.cons (.cst (.int 1)) .nil))) .nil))) (.cons (.var 2) .nil))) .nil))) .nil)))
 (.cons (.ret (.call 20 [0, 1] (.cons (.var 3) (.cons (.var 4) .nil))))
 .nil))⟩
/-- _law_w_is_down -/
def d28 : Df := ⟨1, 5, [], true, (.cons (.ret (.prim .not (.cons (.prim .any (.cons (.comp false (.prim .any (.cons (.comp false (.prim .gt (.cons (.prim .ix (.cons (.call 27 [0, 1, 2] (.cons (.var 0) (.cons (.var 2) (.cons (.var 4) .nil)))) (.cons (.cst (.int 0)) .nil))) (.cons (.cst (.int 0)) .nil))) [3, 4] (.nm 4) (.rng (.cons (.prim .sub (.cons (.prim .len (.cons (.prim .ix (.cons (.var 0) (.cons (.cst (.int 0)) .nil))) .nil)) (.cons (.cst (.int 1)) .nil))) .nil)) (.cst (.bool true))) .nil)) [1, 2] (.nm 2) (.rng (.cons (.prim .sub (.cons (.prim .len (.cons (.var 0) .nil)) (.cons (.cst (.int 1)) .nil))) .nil)) (.cst (.bool true))) .nil)) .nil)))
 .nil)⟩
/-- _law_w_first_least -/
def d29 : Df := ⟨1, 6, [], true, (.cons (.ret (.prim .ix (.cons (.comp false (.var 2) [1, 2, 3] (.tup (.cons (.nm 2) (.cons (.nm 3) .nil))) (.enum (.var 0)) (.prim .not (.cons (.prim .any (.cons (.comp false (.call 21 [0, 1] (.cons (.var 5) (.cons (.var 3) .nil))) [4, 5] (.nm 5) (.ev (.var 0)) (.cst (.bool true))) .nil)) .nil))) (.cons (.cst (.int 0)) .nil))))
 .nil)⟩
/-- _law_w_least -/
def d30 : Df := ⟨1, 3, [], true, (.cons (.ret (.comp false (.call 29 [0] (.cons (.var 2) .nil)) [1, 2] (.nm 2) (.ev (.var 0)) (.cst (.bool true))))
 .nil)⟩
/-- _law_w_goes_right -/
def d31 : Df := ⟨1, 4, [], true, (.cons (.ret (.prim .all (.cons (.comp false (.prim .le (.cons (.var 2) (.cons (.var 3) .nil))) [1, 2, 3] (.tup (.cons (.nm 2) (.cons (.nm 3) .nil))) (.zip (.cons (.var 0) (.cons (.prim (.sl false true false false) (.cons (.var 0) (.cons (.cst (.int 1)) .nil))) .nil))) (.cst (.bool true))) .nil)))
 .nil)⟩
/-- _law_lots -/
def d32 : Df := ⟨1, 5, [], true, (.cons (.asg (.nm 1) (.lst false (.cons (.lst false .nil) .nil)))
 (.cons (.for_ (.nm 2) (.rng (.cons (.var 0) .nil)) (.cons (.asg (.nm 1) (.prim (.add false) (.cons (.var 1) (.cons (.comp false (.prim (.add false) (.cons (.var 4) (.cons (.lst false (.cons (.var 2) .nil)) .nil))) [3, 4] (.nm 4) (.ev (.var 1)) (.cst (.bool true))) .nil))))
 .nil))
 (.cons (.ret (.prim (.sl false true false false) (.cons (.var 1) (.cons (.cst (.int 1)) .nil))))
 .nil)))⟩
/-- law -/
def d33 : Df := ⟨1, 25, [], true, (.cons (.asg (.nm 1) (.call 10 [0] (.cons (.var 0) .nil)))
 (.cons (.for_ (.nm 2) (.rng (.cons (.cst (.int 8)) .nil)) (.cons (.asg (.nm 3) (.call 26 [0, 1, 2] (.cons (.var 1) (.cons (.prim (.add false) (.cons (.cst (.int 1)) (.cons (.call 11 [0, 1] (.cons (.var 1) (.cons (.cst (.int 5)) .nil))) .nil))) (.cons (.prim (.add false) (.cons (.cst (.int 1)) (.cons (.call 11 [0, 1] (.cons (.var 1) (.cons (.cst (.int 5)) .nil))) .nil))) .nil)))))
 (.cons (.ifs (.prim .eq (.cons (.call 11 [0, 1] (.cons (.var 1) (.cons (.cst (.int 2)) .nil))) (.cons (.cst (.int 0)) .nil))) (.cons (.asg (.nm 3) (.comp false (.comp false (.call 18 [0, 1] (.cons (.prim (.add false) (.cons (.call 11 [0, 1] (.cons (.var 1) (.cons (.cst (.int 3)) .nil))) (.cons (.ite (.prim .eq (.cons (.call 11 [0, 1] (.cons (.var 1) (.cons (.cst (.int 2)) .nil))) (.cons (.cst (.int 0)) .nil))) (.var 20) (.cst (.int 0))) .nil))) (.cons (.cst (.int 1)) .nil))) [19, 20] (.nm 20) (.rng (.cons (.prim .len (.cons (.var 18) .nil)) .nil)) (.cst (.bool true))) [17, 18] (.nm 18) (.ev (.var 3)) (.cst (.bool true))))
 .nil) .nil)
 (.cons (.par (.cons (.nm 5) (.cons (.nm 4) .nil)) (.cons (.call 15 [0] (.cons (.var 3) .nil)) (.cons (.lst true .nil) .nil)))
 (.cons (.for_ (.nm 6) (.rng (.cons (.prim .len (.cons (.var 3) .nil)) .nil)) (.cons (.for_ (.nm 7) (.rng (.cons (.prim (.add false) (.cons (.var 6) (.cons (.cst (.int 1)) .nil))) (.cons (.prim .len (.cons (.var 3) .nil)) .nil))) (.cons (.for_ (.nm 8) (.rng (.cons (.prim .len (.cons (.prim .ix (.cons (.var 3) (.cons (.cst (.int 0)) .nil))) .nil)) .nil)) (.cons (.for_ (.nm 9) (.rng (.cons (.prim (.add false) (.cons (.var 8) (.cons (.cst (.int 1)) .nil))) (.cons (.prim .len (.cons (.prim .ix (.cons (.var 3) (.cons (.cst (.int 0)) .nil))) .nil)) .nil))) (.cons (.ifs (.and (.call 21 [0, 1] (.cons (.prim .ix (.cons (.prim .ix (.cons (.var 3) (.cons (.var 6) .nil))) (.cons (.var 9) .nil))) (.cons (.prim .ix (.cons (.prim .ix (.cons (.var 3) (.cons (.var 6) .nil))) (.cons (.var 8) .nil))) .nil))) (.prim .not (.cons (.call 21 [0, 1] (.cons (.prim .ix (.cons (.prim .ix (.cons (.var 3) (.cons (.var 7) .nil))) (.cons (.var 9) .nil))) (.cons (.prim .ix (.cons (.prim .ix (.cons (.var 3) (.cons (.var 7) .nil))) (.cons (.var 8) .nil))) .nil))) .nil))) (.cons (.expr (.meth .append (.var 5) (.cons (.tup (.cons (.cst (.str (PySem.Str.ofString "two"))) (.cons (.lst false (.cons (.var 6) (.cons (.var 7) .nil))) (.cons (.lst false (.cons (.var 8) (.cons (.var 9) .nil))) .nil)))) .nil)))
 .nil) .nil)
 .nil))
 .nil))
 .nil))
 .nil))
 (.cons (.asg (.nm 10) (.ite (.prim .ne (.cons (.var 5) (.cons (.lst false .nil) .nil))) (.prim .ix (.cons (.var 5) (.cons (.cst (.int 0)) .nil))) (.tup (.cons (.cst (.str (PySem.Str.ofString "steady"))) .nil))))
 (.cons (.asg (.nm 11) (.call 9 [0] (.cons (.var 4) .nil)))
 (.cons (.ifs (.prim .not (.cons (.call 13 [0, 1] (.cons (.lst false (.cons (.var 11) (.cons (.call 9 [0] (.cons (.call 16 [0, 1] (.cons (.var 1) (.cons (.var 3) .nil))) .nil)) (.cons (.var 4) .nil)))) (.cons (.lst false (.cons (.var 10) (.cons (.var 10) (.cons (.var 3) .nil)))) .nil))) .nil)) (.cons (.ret (.cst (.bool false)))
 .nil) .nil)
 (.cons (.expr (.call 14 [0] (.cons (.prim (.list true) (.cons (.prim (.sl false true false false) (.cons (.var 11) (.cons (.cst (.int 1)) .nil))) .nil)) .nil)))
 (.cons (.ifs (.or (.prim .not (.cons (.call 13 [0, 1] (.cons (.call 9 [0] (.cons (.var 4) .nil)) (.cons (.var 10) .nil))) .nil)) (.and (.call 28 [0] (.cons (.var 3) .nil)) (.prim .ne (.cons (.var 5) (.cons (.lst false .nil) .nil))))) (.cons (.ret (.cst (.bool false)))
 .nil) .nil)
 (.cons (.ifs (.and (.prim .lt (.cons (.prim .len (.cons (.var 3) .nil)) (.cons (.cst (.int 5)) .nil))) (.prim .lt (.cons (.prim .len (.cons (.prim .ix (.cons (.var 3) (.cons (.cst (.int 0)) .nil))) .nil)) (.cons (.cst (.int 5)) .nil)))) (.cons (.asg (.nm 12) (.lst true .nil))
 (.cons (.for_ (.nm 13) (.ev (.call 32 [0] (.cons (.prim .len (.cons (.prim .ix (.cons (.var 3) (.cons (.cst (.int 0)) .nil))) .nil)) .nil))) (.cons (.expr (.meth .append (.var 12) (.cons (.call 31 [0] (.cons (.call 30 [0] (.cons (.comp false (.comp false (.prim .ix (.cons (.var 22) (.cons (.var 24) .nil))) [23, 24] (.nm 24) (.ev (.var 13)) (.cst (.bool true))) [21, 22] (.nm 22) (.ev (.var 3)) (.cst (.bool true))) .nil)) .nil)) .nil)))
 .nil))
 (.cons (.ifs (.prim .ne (.cons (.prim .all (.cons (.var 12) .nil)) (.cons (.prim .eq (.cons (.var 5) (.cons (.lst false .nil) .nil))) .nil))) (.cons (.ret (.cst (.bool false)))
 .nil) .nil)
 .nil))) .nil)
 .nil)))))))))))
 (.cons (.asg (.tup (.cons (.nm 14) (.cons (.nm 15) .nil))) (.tup (.cons (.tup (.cons (.cst (.int 1)) (.cons (.cst (.int 1)) .nil))) (.cons (.tup (.cons (.cst (.int 0)) (.cons (.cst (.int 1)) .nil))) .nil))))
 (.cons (.asg (.nm 16) (.lst false (.cons (.call 9 [0] (.cons (.lst false (.cons (.lst false (.cons (.var 14) (.cons (.var 15) .nil))) (.cons (.lst false (.cons (.var 15) (.cons (.var 15) .nil))) .nil))) .nil)) (.cons (.call 9 [0] (.cons (.lst false (.cons (.lst false (.cons (.var 15) (.cons (.var 15) .nil))) (.cons (.lst false (.cons (.var 15) (.cons (.var 14) .nil))) .nil))) .nil)) (.cons (.call 9 [0] (.cons (.lst false (.cons (.lst false (.cons (.var 14) .nil)) .nil)) .nil)) .nil)))))
 (.cons (.ret (.call 13 [0, 1] (.cons (.var 16) (.cons (.lst false (.cons (.tup (.cons (.cst (.str (PySem.Str.ofString "two"))) (.cons (.lst false (.cons (.cst (.int 0)) (.cons (.cst (.int 1)) .nil))) (.cons (.lst false (.cons (.cst (.int 0)) (.cons (.cst (.int 1)) .nil))) .nil)))) (.cons (.tup (.cons (.cst (.str (PySem.Str.ofString "steady"))) .nil)) (.cons (.tup (.cons (.cst (.str (PySem.Str.ofString "steady"))) .nil)) .nil)))) .nil))))
 .nil)))))⟩
def ds : List Df := [d0, d1, d2, d3, d4, d5, d6, d7, d8, d9, d10, d11, d12, d13, d14, d15, d16, d17, d18, d19, d20, d21, d22, d23, d24, d25, d26, d27, d28, d29, d30, d31, d32, d33]
def top (i : Nat) : PySem.Stmt := PySem.Challenge.pw_downcorners_k25_whole_steady_or_two.main.body.getD i (.Pass ⟨0, 0, 0, 0⟩)
def mkD (a x : PySem.Str) (i : Nat) : He.DefD := ⟨(a, none), x, x, L2.defArgs (top i), L2.defBody (top i), L2.defScope (top i), [], []⟩
def fn : List He.DefD := [mkD (PySem.Str.ofString "is_list") (PySem.Str.ofString "is_list") 1, mkD (PySem.Str.ofString "is_whole") (PySem.Str.ofString "is_whole") 2, mkD (PySem.Str.ofString "is_row") (PySem.Str.ofString "is_row") 3, mkD (PySem.Str.ofString "common_divisor") (PySem.Str.ofString "common_divisor") 5, mkD (PySem.Str.ofString "is_under") (PySem.Str.ofString "is_under") 6, mkD (PySem.Str.ofString "kept_fraction") (PySem.Str.ofString "kept_fraction") 7, mkD (PySem.Str.ofString "kept_table") (PySem.Str.ofString "kept_table") 12, mkD (PySem.Str.ofString "need_table") (PySem.Str.ofString "need_table") 13, mkD (PySem.Str.ofString "goes_left") (PySem.Str.ofString "goes_left") 15, mkD (PySem.Str.ofString "steady_or_two") (PySem.Str.ofString "steady_or_two") 16, mkD (PySem.Str.ofString "_law_stream") (PySem.Str.ofString "_law_stream") 18, mkD (PySem.Str.ofString "_law_draw") (PySem.Str.ofString "_law_draw") 19, mkD (PySem.Str.ofString "_law_pick") (PySem.Str.ofString "_law_pick") 20, mkD (PySem.Str.ofString "_law_same") (PySem.Str.ofString "_law_same") 21, mkD (PySem.Str.ofString "_law_spoilt") (PySem.Str.ofString "_law_spoilt") 22, mkD (PySem.Str.ofString "_law_copied") (PySem.Str.ofString "_law_copied") 23, mkD (PySem.Str.ofString "_law_loose") (PySem.Str.ofString "_law_loose") 24, mkD (PySem.Str.ofString "_law_share") (PySem.Str.ofString "_law_share") 25, mkD (PySem.Str.ofString "_law_frac") (PySem.Str.ofString "_law_frac") 26, mkD (PySem.Str.ofString "_law_add") (PySem.Str.ofString "_law_add") 27, mkD (PySem.Str.ofString "_law_less") (PySem.Str.ofString "_law_less") 28, mkD (PySem.Str.ofString "_law_below") (PySem.Str.ofString "_law_below") 29, mkD (PySem.Str.ofString "_law_w_one") (PySem.Str.ofString "_law_w_one") 30, mkD (PySem.Str.ofString "_law_w_some") (PySem.Str.ofString "_law_w_some") 31, mkD (PySem.Str.ofString "_law_w_made") (PySem.Str.ofString "_law_w_made") 32, mkD (PySem.Str.ofString "_law_w_down") (PySem.Str.ofString "_law_w_down") 33, mkD (PySem.Str.ofString "_law_w_table") (PySem.Str.ofString "_law_w_table") 34, mkD (PySem.Str.ofString "_law_w_corner") (PySem.Str.ofString "_law_w_corner") 35, mkD (PySem.Str.ofString "_law_w_is_down") (PySem.Str.ofString "_law_w_is_down") 36, mkD (PySem.Str.ofString "_law_w_first_least") (PySem.Str.ofString "_law_w_first_least") 37, mkD (PySem.Str.ofString "_law_w_least") (PySem.Str.ofString "_law_w_least") 38, mkD (PySem.Str.ofString "_law_w_goes_right") (PySem.Str.ofString "_law_w_goes_right") 39, mkD (PySem.Str.ofString "_law_lots") (PySem.Str.ofString "_law_lots") 40, mkD (PySem.Str.ofString "law") (PySem.Str.ofString "law") 41]

def bigW : Nat := 2 ^ 8000
theorem lk : Lk (progOf ds) bigW := ⟨⟨Nat.le_refl _, rfl, rfl, rfl, rfl, rfl, rfl⟩, ⟨Nat.le_refl _, rfl, rfl, rfl, rfl, rfl, rfl, rfl⟩, rfl, rfl, rfl, rfl, rfl, rfl, rfl, rfl, rfl, rfl, rfl, rfl, rfl, rfl, rfl, rfl, rfl, rfl, rfl⟩
theorem law_run : ∀ ns : List Int, ns.length ≤ 63 → ∃ h', run (progOf ds) bigW 200 0 33 [.lst (ns.map .int)] [] = .ok (.bool true) h' := fun ns hn => law25 lk rfl rfl ns hn

def faL : List He.Fa := faOf fn
abbrev hk : PySem.W.Hook := He.hookD 4 faL fn
abbrev Rw : PySem.W.OpenRow := PySem.W.OpenLaw.row PySem.Challenge.rw_downcorners_k25_whole_steady_or_two
def ob (s : PySem.W.SharedT) : He.AlD := He.obsDG 4 faL fn (HandSHeadRun.getT s)
theorem ob_eq (s : PySem.W.SharedT) : ob s = hk.obs s.abs := He.obsDG_eq (HandSHeadRun.getT_eq s)
def looseL : List PySem.Str := [(PySem.Str.ofString "__name__"), (PySem.Str.ofString "is_list"), (PySem.Str.ofString "is_whole"), (PySem.Str.ofString "is_row"), (PySem.Str.ofString "common_divisor"), (PySem.Str.ofString "is_under"), (PySem.Str.ofString "kept_fraction"), (PySem.Str.ofString "CornerError"), (PySem.Str.ofString "BadTable"), (PySem.Str.ofString "kept_table"), (PySem.Str.ofString "need_table"), (PySem.Str.ofString "goes_left"), (PySem.Str.ofString "steady_or_two"), (PySem.Str.ofString "_law_stream"), (PySem.Str.ofString "_law_draw"), (PySem.Str.ofString "_law_pick"), (PySem.Str.ofString "_law_same"), (PySem.Str.ofString "_law_spoilt"), (PySem.Str.ofString "_law_copied"), (PySem.Str.ofString "_law_loose"), (PySem.Str.ofString "_law_share"), (PySem.Str.ofString "_law_frac"), (PySem.Str.ofString "_law_add"), (PySem.Str.ofString "_law_less"), (PySem.Str.ofString "_law_below"), (PySem.Str.ofString "_law_w_one"), (PySem.Str.ofString "_law_w_some"), (PySem.Str.ofString "_law_w_made"), (PySem.Str.ofString "_law_w_down"), (PySem.Str.ofString "_law_w_table"), (PySem.Str.ofString "_law_w_corner"), (PySem.Str.ofString "_law_w_is_down"), (PySem.Str.ofString "_law_w_first_least"), (PySem.Str.ofString "_law_w_least"), (PySem.Str.ofString "_law_w_goes_right"), (PySem.Str.ofString "_law_lots")]
theorem runq (w : PySem.World) : HandSHeadRun.RunEq Rw (PySem.W.view Rw.prog [41]) hk ob 6000 looseL w := by
  intro os
  kernel_rfl
theorem cTop : fn.all okTop = true := by decide +kernel
theorem cLen : ds.length = fn.length := by decide +kernel
theorem cChk : (fn.zip ds).all (fun p => chkDef (tbOf fn) p.2 p.1) = true := by decide +kernel
end X
open PySem PySem.W PySem.Calls PyProof.Rows
theorem PySem.Challenge.cw_downcorners_k25_whole_steady_or_two_holds : PySem.Challenge.rw_downcorners_k25_whole_steady_or_two.Holds := by
  w_on; o_law
  refine HandSHeadRun.head_any (r := OpenLaw.row PySem.Challenge.rw_downcorners_k25_whole_steady_or_two) (q := view (OpenLaw.row PySem.Challenge.rw_downcorners_k25_whole_steady_or_two).prog [41]) (H := X.hk) (ob := X.ob) (M := 6000) (loose := X.looseL) (d := HandSHeadRun.topDef (OpenLaw.row PySem.Challenge.rw_downcorners_k25_whole_steady_or_two).prog 41) (kwd := []) X.ob_eq
    (by kernel_rfl) (fun s => by kernel_rfl) X.runq (by kernel_rfl) (by kernel_rfl) (by kernel_rfl) (by rfl) (by first | assumption | decide +kernel) (by decide +kernel) ⟨rfl, rfl, rfl, rfl, rfl, by decide +kernel⟩ ?hw ?hc
  case hw => w_witness2
  case hc =>
    exact Mp.walk_mini (l := PySem.Challenge.rw_downcorners_k25_whole_steady_or_two) (n := 63) (k := 200) (W := X.bigW) (fl := 33) (ds := X.ds) (fn := X.fn) (DL := X.mkD "law" "law" 41) (x := "script") rfl (by decide) (by kernel_rfl) ⟨rfl, by decide, by decide⟩ X.cTop X.cLen X.cChk (by kernel_rfl) (by kernel_rfl) (by kernel_rfl) X.law_run


