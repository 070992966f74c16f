import PyProof.Rows.All
import Wide.All
import OpenK.AllK
import Wide.FinOn
import HandS.ForMost
import HandS.WordsExc
import HandS.TupAny
import HandS.IsInst
import HandS.Wide
import HandS.Deep
import HandS.Small
import HandS.TupLen
import HandS.Style
import HandS.Walk
import HandS.Zip
import HandS.CallSlots
import HandS.Defaults
import HandS.EndBits
import PySem.Challenge.RW_mistgrid_k08_beneath
set_option Elab.async false
set_option linter.all false
set_option maxRecDepth 100000
/-! Mg1: an IR of the bodies, values as trees, a store of changeable things, the evaluator. -/
namespace Mg
open PySem

inductive Val where
  | non | bl (b : Bool) | int (i : Int) | str (x : Str) | tup (l : List Val) | rol (l : List Val) | ref (r : Nat)

inductive Cell where
  | lst (l : List Val) | dct (t : Bool) (l : List (Val × Val)) | ins (c : Str) (fs : List (Str × Val))

abbrev Sto := List Cell
abbrev Env' := List (Option Val)
structure Exn where
  cls : Str
  fs : List (Str × Val)

inductive Res (α : Type) where
  | ok (a : α) (st : Sto) | exc (e : Exn) (st : Sto) | bad

abbrev M (α : Type) := Sto → Res α
def ret {α : Type} (a : α) : M α := fun st => .ok a st
def fail {α : Type} : M α := fun _ => .bad
def bnd {α β : Type} (m : M α) (f : α → M β) : M β := fun st => match m st with
  | .ok a st' => f a st'
  | .exc e st' => .exc e st'
  | .bad => .bad
/-- what may not raise -/
def quiet {α : Type} (m : M α) : M α := fun st => match m st with
  | .ok a st' => .ok a st'
  | _ => .bad

/-! ### data -/
/-- data with the lists of the store within, to a depth -/
def datum (st : Sto) : Nat → Val → Option PyData
  | 0, .non => some .none
  | 0, .bl b => some (.bool b)
  | 0, .int i => some (.int i)
  | 0, .str x => some (.str x)
  | 0, _ => none
  | n + 1, .tup l => (l.mapM (datum st n)).map .tuple
  | n + 1, .rol l => (l.mapM (datum st n)).map .list
  | n + 1, .ref r => match st[r]? with
    | some (.lst l) => (l.mapM (datum st n)).map .list
    | _ => none
  | n + 1, v => datum st n v

/-! ### the IR -/
inductive Bop where
  | add | sub | mul | fdiv | mod | pow
inductive Cop where
  | eq | ne | lt | le | gt | ge | inn | nin
inductive Ty where
  | int | bool | str | tuple | list | dict
inductive B1 where
  | len | abs | int | str
inductive B2 where
  | max | min
inductive BL where
  | all | any | sum | max | min | tuple | len
/-- methods -/
inductive Mt where
  | append | pop | popAt | upper
inductive Tg where
  | nm (i : Nat) | t2 (a b : Tg) | t3 (a b c : Tg) | t4 (a b c d : Tg)

mutual
inductive Ex where
  | non | bl (b : Bool) | int (i : Int) | str (x : Str) | var (i : Nat) | con (x : Str) (v : Const)
  | tup (l : Exs) | alloc (l : Lx) | dictK | dictT
  | neg (a : Ex) | bin (op : Bop) (a b : Ex) | cmp (op : Cop) (a b : Ex) | cmpL (neg : Bool) (a : Ex) (l : Lx) | inL (neg : Bool) (a : Ex) (l : Lx)
  | isN (neg : Bool) (a : Ex) | chain (o1 o2 : Cop) (a b c : Ex)
  | and (a b : Ex) | or (a b : Ex) | not (a : Ex) | ite (c a b : Ex)
  | ix (a b : Ex) | ixL (l : Lx) (b : Ex) | sl (a : Ex) (lo hi : Oe) | rev (a : Ex)
  | call (f : Str) (args : Exs) | callK (f : Str) (args : Exs) (ks : List Str) (kws : Exs) (perm : List Nat)
  | b1 (b : B1) (a : Ex) | b2 (b : B2) (x y : Ex) | bL (b : BL) (l : Lx) | isi (a : Ex) (ts : List Ty)
  | meth (m : Mt) (o : Ex) (args : Exs)
inductive Exs where
  | nil | cons (e : Ex) (es : Exs)
inductive Oe where
  | none | some (e : Ex)
inductive Lx where
  | dis (l : Exs) | of (e : Ex) | sl (l : Lx) (lo hi : Oe) | cat (a b : Lx) | lst (l : Lx)
  | comp (elt : Ex) (tg : Tg) (src : Sx) (cond : Oe) (own : List (Str × Nat))
inductive Sx where
  | l (l : Lx) | r1 (a : Ex) | r2 (a b : Ex) | enum (l : Lx) | zip2 (a b : Lx) | zip3 (a b c : Lx) | str (a : Ex)
end

mutual
inductive Sm where
  | set (t : Tg) (e : Ex) | setIx (o i e : Ex)
  | ex (e : Ex) | ifs (c : Ex) (a b : Sms) | for_ (t : Tg) (s : Sx) (b : Sms) | while_ (c : Ex) (b : Sms)
  | ret (e : Ex) | pass | brk | ct
inductive Sms where
  | nil | cons (s : Sm) (ss : Sms)
end

/-! ### what the operations do -/
/-- a list's items, and where it stands: a new one, one that is read alone, one of the store, a tuple -/
inductive LV where
  | f (xs : List Val) | ro (xs : List Val) | s (xs : List Val) (r : Nat) | t (xs : List Val)
def LV.xs : LV → List Val
  | .f xs => xs
  | .ro xs => xs
  | .s xs _ => xs
  | .t xs => xs
def LV.there : LV → Sto → Prop
  | .s xs r, st => st[r]? = some (.lst xs)
  | _, _ => True
def LV.cat : LV → LV → M LV
  | .t _, _ => fail
  | _, .t _ => fail
  | a, b => if a.xs.length + b.xs.length ≤ sizeLine then ret (.f (a.xs ++ b.xs)) else fail
def constV : Const → M Val
  | .int i => ret (.int i)
  | .str x => ret (.str x)
  | _ => fail

def pick {α : Type} (p : List Nat) (l : List α) : List α := p.filterMap fun i => l[i]?
def Val.isInt : Val → Option Int
  | .int i => some i
  | _ => none

def lget (st : Sto) (r : Nat) : Option (List Val) := match st[r]? with
  | some (.lst l) => some l
  | _ => none
def allocL (xs : List Val) : M Val := fun st => .ok (.ref st.length) (st ++ [.lst xs])
def ofV : Val → M LV
  | .tup l => ret (.t l)
  | .rol l => ret (.ro l)
  | .ref r => fun st => match lget st r with
    | some l => .ok (.s l r) st
    | none => .bad
  | _ => fail
def allocV : LV → M Val
  | .f xs => allocL xs
  | _ => fail
def eqVal (x y : Val) : M Bool := fun st => match x, y with
  | .tup xs, .tup [] => .ok xs.isEmpty st
  | x, y => match datum st 60 x, datum st 60 y with
    | some d, some e => .ok (PyData.eqv d e) st
    | _, _ => .bad

noncomputable section
open Classical

def addV : Val → Val → M Val
  | .int i, .int j => ret (.int (i + j))
  | .str a, .str b => if a.length + b.length ≤ sizeLine then ret (.str (a ++ b)) else fail
  | .tup a, .tup b => if a.length + b.length ≤ sizeLine then ret (.tup (a ++ b)) else fail
  | .ref r, .ref q => fun st => match lget st r, lget st q with
    | some a, some b => if a.length + b.length ≤ sizeLine then allocL (a ++ b) st else .bad
    | _, _ => .bad
  | _, _ => fail
def subV : Val → Val → M Val
  | .int i, .int j => ret (.int (i - j))
  | _, _ => fail
def mulV : Val → Val → M Val
  | .int i, .int j => if i.natAbs.log2 + j.natAbs.log2 < 100000000 then ret (.int (i * j)) else fail
  | _, _ => fail
def fdivV : Val → Val → M Val
  | .int i, .int j => if 0 < j ∧ j.natAbs.log2 < 9000 then ret (.int (i / j)) else fail
  | _, _ => fail
def modV : Val → Val → M Val
  | .int i, .int j => if 0 < j then ret (.int (i % j)) else fail
  | _, _ => fail
def powV : Val → Val → M Val
  | .int i, .int j => if 0 ≤ j ∧ j ≤ 1000000 ∧ i.natAbs < 2 ^ 64 then ret (.int (i ^ j.toNat)) else fail
  | _, _ => fail
def binop : Bop → Val → Val → M Val
  | .add => addV
  | .sub => subV
  | .mul => mulV
  | .fdiv => fdivV
  | .mod => modV
  | .pow => powV

/-- equality of a key -/
def keyEq : Val → Val → Bool
  | .int i, .int j => decide (i = j)
  | .str i, .str j => decide (i = j)
  | .tup a, .tup b => decide (a = b)
  | _, _ => false
def isKey0 : Val → Prop
  | .int _ => True
  | .str _ => True
  | _ => False
/-- a key of a dict of its kind: ints and texts, or tuples of them -/
def isKey : Bool → Val → Prop
  | false, v => isKey0 v
  | true, .tup l => ∀ v ∈ l, isKey0 v
  | true, _ => False
def dlook (kvs : List (Val × Val)) (k : Val) : Option Val := (kvs.find? fun p => decide (p.1 = k)).map (·.2)

/-- whether one of them is as x -/
def anyEq (x : Val) (l : List Val) : M Bool := fun st => match datum st 60 x, l.mapM (datum st 60) with
  | some d, some ds => .ok (ds.any fun z => PyData.eqv z d) st
  | _, _ => .bad
def inRef (x : Val) (r : Nat) : M Bool := fun st => match st[r]? with
  | some (.lst l) => anyEq x l st
  | some (.dct t kvs) => if isKey t x then .ok (dlook kvs x).isSome st else .bad
  | _ => .bad
def innV : Val → Val → M Bool
  | .str a, .str b => if a.length = 1 then ret (decide (a.cps.getD 0 0 ∈ b.cps.toList)) else fail
  | x, .ref r => inRef x r
  | x, .tup l => anyEq x l
  | _, _ => fail

def ltV : Val → Val → M Bool
  | .int i, .int j => ret (decide (i < j))
  | .str i, .str j => ret (decide (i.cps.toList < j.cps.toList))
  | _, _ => fail
def leV : Val → Val → M Bool
  | .int i, .int j => ret (decide (i ≤ j))
  | _, _ => fail
def gtV : Val → Val → M Bool
  | .int i, .int j => ret (decide (j < i))
  | _, _ => fail
def geV : Val → Val → M Bool
  | .int i, .int j => ret (decide (j ≤ i))
  | _, _ => fail
def compare : Cop → Val → Val → M Bool
  | .eq => eqVal
  | .ne => fun x y => bnd (eqVal x y) fun b => ret (!b)
  | .inn => innV
  | .nin => fun x y => bnd (innV x y) fun b => ret (!b)
  | .lt => ltV
  | .le => leV
  | .gt => gtV
  | .ge => geV

def op1 : B1 → Val → M Val
  | .len, .tup l => ret (.int l.length)
  | .len, .rol l => ret (.int l.length)
  | .len, .str x => if x.length ≤ sizeLine then ret (.int x.length) else fail
  | .len, .ref r => fun st => match st[r]? with
    | some (.lst l) => .ok (.int l.length) st
    | some (.dct _ l) => .ok (.int l.length) st
    | _ => .bad
  | .abs, .int i => ret (.int (if i < 0 then -i else i))
  | .int, .int i => ret (.int i)
  | .int, .bl b => ret (.int (if b then 1 else 0))
  | .str, .int i => if i.natAbs.log2 < 1920 then ret (.str (toString i)) else fail
  | _, _ => fail
def op2 : B2 → Val → Val → M Val
  | .max, .int i, .int j => ret (.int (if j > i then j else i))
  | .min, .int i, .int j => ret (.int (if j < i then j else i))
  | _, _, _ => fail

def intsV : List Val → Option (List Int)
  | [] => some []
  | .int i :: r => (intsV r).map (i :: ·)
  | _ => none
def boolsV : List Val → Option (List Bool)
  | [] => some []
  | .bl i :: r => (boolsV r).map (i :: ·)
  | _ => none
def maxI : List Int → Int
  | [] => 0
  | [x] => x
  | x :: r => if maxI r > x then maxI r else x
def minI : List Int → Int
  | [] => 0
  | [x] => x
  | x :: r => if minI r < x then minI r else x
def opL : BL → List Val → M Val
  | .all, l => match boolsV l with
    | some bs => ret (.bl (bs.all id))
    | none => fail
  | .any, l => match boolsV l with
    | some bs => ret (.bl (bs.any id))
    | none => fail
  | .sum, l => match intsV l with
    | some ns => ret (.int ns.sum)
    | none => fail
  | .max, l => match intsV l with
    | some ns => if ns = [] then fail else ret (.int (maxI ns))
    | none => fail
  | .min, l => match intsV l with
    | some ns => if ns = [] then fail else ret (.int (minI ns))
    | none => fail
  | .tuple, l => ret (.tup l)
  | .len, l => ret (.int l.length)

/-- (of a tuple: tuple and len alone) -/
def opLV : BL → LV → M Val
  | .tuple, lv => opL .tuple lv.xs
  | .len, lv => opL .len lv.xs
  | .all, lv => match lv with
    | .t _ => fail
    | lv => opL .all lv.xs
  | .any, lv => match lv with
    | .t _ => fail
    | lv => opL .any lv.xs
  | .sum, lv => match lv with
    | .t _ => fail
    | lv => opL .sum lv.xs
  | .max, lv => match lv with
    | .t _ => fail
    | lv => opL .max lv.xs
  | .min, lv => match lv with
    | .t _ => fail
    | lv => opL .min lv.xs
def idx (l : List Val) (i : Int) : M Val := match L2.atI l i with
  | some v => ret v
  | none => fail
def opIx : Val → Val → M Val
  | .tup l, .int i => idx l i
  | .rol l, .int i => idx l i
  | .str x, .int i => if x.length ≤ sizeLine then (match L2.atI x.cps.toList i with
    | some c => ret (.str ⟨#[c]⟩)
    | none => fail) else fail
  | .ref r, k => fun st => match st[r]?, k with
    | some (.lst l), .int i => idx l i st
    | some (.dct t l), k => if isKey t k then (match dlook l k with
      | some v => .ok v st
      | none => .bad) else .bad
    | _, _ => .bad
  | _, _ => fail
def cutL (xs : List Val) (lo hi : Option Int) : List Val := (xs.drop (HT.sIx xs.length 0 lo)).take (HT.sIx xs.length xs.length hi - HT.sIx xs.length 0 lo)

def opSl (v : Val) (lo hi : Option Int) : M Val := match v with
  | .tup l => ret (.tup (cutL l lo hi))
  | .str x => if x.length ≤ sizeLine then ret (.str (L2.cutS x lo hi)) else fail
  | .ref r => fun st => match lget st r with
    | some l => allocL (cutL l lo hi) st
    | none => .bad
  | _ => fail
def opRev : Val → M Val
  | .tup l => ret (.tup l.reverse)
  | _ => fail
def tyIs (st : Sto) : Val → Ty → Option Bool
  | .non, _ => some false
  | .bl _, t => some (match t with | .int => true | .bool => true | _ => false)
  | .int _, t => some (match t with | .int => true | _ => false)
  | .str _, t => some (match t with | .str => true | _ => false)
  | .tup _, t => some (match t with | .tuple => true | _ => false)
  | .rol _, t => some (match t with | .list => true | _ => false)
  | .ref r, t => match st[r]? with
    | some (.lst _) => some (match t with | .list => true | _ => false)
    | some (.dct _ _) => some (match t with | .dict => true | _ => false)
    | _ => none
def tyAny (st : Sto) (v : Val) : List Ty → Option Bool
  | [] => some false
  | t :: r => match tyIs st v t, tyAny st v r with
    | some a, some b => some (a || b)
    | _, _ => none
def opIsi (v : Val) (ts : List Ty) : M Val := fun st => match tyAny st v ts with
  | some b => .ok (.bl b) st
  | none => .bad
def opMt : Mt → Val → List Val → M Val
  | .append, .ref r, [v] => fun st => match lget st r with
    | some l => if l.length < sizeLine then .ok .non (st.set r (.lst (l ++ [v]))) else .bad
    | none => .bad
  | .pop, .ref r, [] => fun st => match lget st r with
    | some l => (match l[l.length - 1]? with
      | some y => .ok y (st.set r (.lst l.dropLast))
      | none => .bad)
    | none => .bad
  | .popAt, .ref r, [.int i] => fun st => match lget st r with
    | some l => if -(2 ^ 63) ≤ i ∧ i < 2 ^ 63 then (match seqIndex? i l.length with
      | some k => (match l[k]? with
        | some y => .ok y (st.set r (.lst (l.eraseIdx k)))
        | none => .bad)
      | none => .bad) else .bad
    | none => .bad
  | _, _, _ => fail
def setIx (o i v : Val) : M Unit := fun st => match o, i with
  | .ref r, k => match st[r]?, k with
    | some (.lst l), .int i => (match L2.ixN l.length i with
      | some j => .ok () (st.set r (.lst (l.set j v)))
      | none => .bad)
    | _, _ => .bad
  | _, _ => .bad

/-! ### targets, items, loops -/
def asTg : Tg → Val → Env' → M Env'
  | .nm i, v, ρ => ret (ρ.set i (some v))
  | .t2 a b, v, ρ => match v with
    | .tup [x, y] => bnd (asTg a x ρ) fun ρ => asTg b y ρ
    | _ => fail
  | .t3 a b c, v, ρ => match v with
    | .tup [x, y, z] => bnd (asTg a x ρ) fun ρ => bnd (asTg b y ρ) fun ρ => asTg c z ρ
    | _ => fail
  | .t4 a b c d, v, ρ => match v with
    | .tup [x, y, z, u] => bnd (asTg a x ρ) fun ρ => bnd (asTg b y ρ) fun ρ => bnd (asTg c z ρ) fun ρ => asTg d u ρ
    | _ => fail
/-- what a loop walks: its items, and what has to stand at each turn -/
structure Items where
  xs : List Val
  ok : Sto → Prop
def chk (p : Sto → Prop) : M Unit := fun st => if p st then .ok () st else .bad
/-- what a method is asked of -/
def chkMt : Mt → Val → M Unit
  | .upper, .str _ => ret ()
  | .append, .ref r => chk fun st => (lget st r).isSome = true
  | .pop, .ref r => chk fun st => (lget st r).isSome = true
  | .popAt, .ref r => chk fun st => (lget st r).isSome = true
  | _, _ => fail
def mapF (ok : Sto → Prop) (f : Val → M (Option Val)) : List Val → M (List Val)
  | [] => bnd (chk ok) fun _ => ret []
  | x :: r => bnd (chk ok) fun _ => bnd (f x) fun o => bnd (mapF ok f r) fun ys => ret (o.toList ++ ys)
def wipeE (ρ : Env') : List Nat → Env'
  | [] => ρ
  | v :: vs => (wipeE ρ vs).set v none

def asInt : Val → M Int
  | .int i => ret i
  | _ => fail
def asBl : Val → M Bool
  | .bl b => ret b
  | _ => fail
def rangeV (a : Int) (n : Nat) : List Val := (List.range n).map fun (i : Nat) => Val.int (a + (i : Int))
def enumV (xs : List Val) : List Val := (List.range xs.length).zipWith (fun (i : Nat) x => Val.tup [.int (i : Int), x]) xs
def zip2V (xs ys : List Val) : List Val := List.zipWith (fun x y => Val.tup [x, y]) xs ys
def zip3V (xs ys zs : List Val) : List Val := List.zipWith (fun p z => match p with
  | .tup [x, y] => Val.tup [x, y, z]
  | _ => .non) (zip2V xs ys) zs
/-- zip of two lists, or of two tuples -/
def zipI : LV → LV → M Items
  | .t x, .t y => ret ⟨zip2V x y, fun _ => True⟩
  | .t _, _ => fail
  | _, .t _ => fail
  | x, y => ret ⟨zip2V x.xs y.xs, fun st => x.there st ∧ y.there st⟩

section
variable (C : Str → List Val → M Val)
mutual
def ev : Ex → Env' → M Val
  | .non, _ => ret .non
  | .bl b, _ => ret (.bl b)
  | .int i, _ => ret (.int i)
  | .str x, _ => ret (.str x)
  | .var i, ρ => match ρ[i]? with
    | some (some v) => ret v
    | _ => fail
  | .con _ c, _ => constV c
  | .tup l, ρ => bnd (evs l ρ) fun vs => if vs.length ≤ sizeLine then ret (.tup vs) else fail
  | .alloc l, ρ => bnd (evL l ρ) allocV
  | .dictK, _ => fun st => .ok (.ref st.length) (st ++ [.dct false []])
  | .dictT, _ => fun st => .ok (.ref st.length) (st ++ [.dct true []])
  | .neg a, ρ => bnd (ev a ρ) fun v => match v with
    | .int i => ret (.int (-i))
    | _ => fail
  | .bin op a b, ρ => bnd (ev a ρ) fun x => bnd (ev b ρ) fun y => binop op x y
  | .cmp o a b, ρ => bnd (ev a ρ) fun x => bnd (ev b ρ) fun y => bnd (compare o x y) fun b => ret (.bl b)
  | .cmpL _ _ _, _ => fail
  | .inL neg a l, ρ => bnd (ev a ρ) fun x => bnd (evL l ρ) fun lv => bnd (anyEq x lv.xs) fun b => ret (.bl (if neg then !b else b))
  | .isN neg a, ρ => bnd (ev a ρ) fun x => ret (.bl (match x with
    | .non => !neg
    | _ => neg))
  | .chain o1 o2 a b c, ρ => bnd (ev a ρ) fun x => bnd (ev b ρ) fun y => bnd (compare o1 x y) fun k => if k then bnd (ev c ρ) fun z => bnd (compare o2 y z) fun k2 => ret (.bl k2) else ret (.bl false)
  | .and a b, ρ => bnd (ev a ρ) fun x => bnd (asBl x) fun k => if k then ev b ρ else ret (.bl false)
  | .or a b, ρ => bnd (ev a ρ) fun x => bnd (asBl x) fun k => if k then ret (.bl true) else ev b ρ
  | .not a, ρ => bnd (ev a ρ) fun x => bnd (asBl x) fun k => ret (.bl (!k))
  | .ite c a b, ρ => bnd (ev c ρ) fun x => bnd (asBl x) fun k => if k then ev a ρ else ev b ρ
  | .ix a b, ρ => bnd (ev a ρ) fun x => bnd (ev b ρ) fun y => opIx x y
  | .ixL l b, ρ => bnd (evL l ρ) fun lv => bnd (ev b ρ) fun y => bnd (chk lv.there) fun _ => match y with
    | .int i => idx lv.xs i
    | _ => fail
  | .sl a lo hi, ρ => bnd (ev a ρ) fun x => bnd (evO lo ρ) fun l => bnd (evO hi ρ) fun h => opSl x l h
  | .rev a, ρ => bnd (ev a ρ) fun x => opRev x
  | .call f args, ρ => bnd (evs args ρ) fun vs => C f vs
  | .callK f args _ kws perm, ρ => bnd (evs args ρ) fun vs => bnd (evs kws ρ) fun ws => C f (pick perm (vs ++ ws))
  | .b1 b a, ρ => bnd (ev a ρ) fun x => op1 b x
  | .b2 b a c, ρ => bnd (ev a ρ) fun x => bnd (ev c ρ) fun y => op2 b x y
  | .bL b l, ρ => bnd (evL l ρ) fun lv => opLV b lv
  | .isi a ts, ρ => bnd (ev a ρ) fun x => opIsi x ts
  | .meth m o args, ρ => bnd (ev o ρ) fun x => bnd (chkMt m x) fun _ => bnd (evs args ρ) fun vs => opMt m x vs
def evs : Exs → Env' → M (List Val)
  | .nil, _ => ret []
  | .cons e es, ρ => bnd (ev e ρ) fun v => bnd (evs es ρ) fun vs => ret (v :: vs)
def evO : Oe → Env' → M (Option Int)
  | .none, _ => ret none
  | .some e, ρ => bnd (ev e ρ) fun v => bnd (asInt v) fun i => ret (some i)
def evL : Lx → Env' → M LV
  | .dis l, ρ => bnd (evs l ρ) fun vs => if vs.length ≤ sizeLine then ret (.f vs) else fail
  | .of e, ρ => bnd (ev e ρ) ofV
  | .sl l lo hi, ρ => bnd (evL l ρ) fun lv => bnd (evO lo ρ) fun a => bnd (evO hi ρ) fun b => bnd (chk lv.there) fun _ => match lv with
    | .t xs => ret (.t (cutL xs a b))
    | lv => ret (.f (cutL lv.xs a b))
  | .cat a b, ρ => bnd (evL a ρ) fun x => bnd (evL b ρ) fun y => bnd (chk x.there) fun _ => LV.cat x y
  | .lst l, ρ => bnd (evL l ρ) fun lv => ret (.f lv.xs)
  | .comp elt tg src .none own, ρ => bnd (evS src ρ) fun it => bnd (quiet (mapF it.ok (fun x => bnd (asTg tg x (wipeE ρ (own.map (·.2)))) fun ρ' => bnd (ev elt ρ') fun y => ret (some y)) it.xs)) fun ys => ret (.f ys)
  | .comp elt tg src (.some c) own, ρ => bnd (evS src ρ) fun it => bnd (quiet (mapF it.ok (fun x => bnd (asTg tg x (wipeE ρ (own.map (·.2)))) fun ρ' =>
      bnd (ev c ρ') fun k => bnd (asBl k) fun k => if k then bnd (ev elt ρ') fun y => ret (some y) else ret none) it.xs)) fun ys => ret (.f ys)
def evS : Sx → Env' → M Items
  | .l l, ρ => bnd (evL l ρ) fun lv => ret ⟨lv.xs, lv.there⟩
  | .r1 a, ρ => bnd (ev a ρ) fun v => bnd (asInt v) fun j => if -(2 ^ 62) ≤ j ∧ j ≤ 16777216 then ret ⟨rangeV 0 j.toNat, fun _ => True⟩ else fail
  | .r2 a b, ρ => bnd (ev a ρ) fun v => bnd (ev b ρ) fun w => bnd (asInt v) fun i => bnd (asInt w) fun j =>
      if 0 ≤ i ∧ i ≤ 16777216 ∧ -(2 ^ 62) ≤ j ∧ j ≤ 16777216 then ret ⟨rangeV i (j - i).toNat, fun _ => True⟩ else fail
  | .enum l, ρ => bnd (evL l ρ) fun lv => match lv with
    | .t _ => fail
    | lv => ret ⟨enumV lv.xs, lv.there⟩
  | .zip2 a b, ρ => bnd (evL a ρ) fun x => bnd (evL b ρ) fun y => bnd (chk x.there) fun _ => zipI x y
  | .zip3 a b c, ρ => bnd (evL a ρ) fun x => bnd (evL b ρ) fun y => bnd (evL c ρ) fun z => bnd (chk x.there) fun _ => bnd (chk y.there) fun _ =>
      ret ⟨zip3V x.xs y.xs z.xs, fun st => x.there st ∧ y.there st ∧ z.there st⟩
  | .str a, ρ => bnd (ev a ρ) fun v => match v with
    | .str x => ret ⟨x.cps.toList.map fun c => .str ⟨#[c]⟩, fun _ => True⟩
    | _ => fail
end

inductive Out where
  | nx (ρ : Env') | rt (v : Val) | bk (ρ : Env') | ct (ρ : Env') | ex (e : Exn) (ρ : Env')
/-- an expression within a statement: what it raises ends the statement -/
def lft {α : Type} (ρ : Env') (m : M α) (f : α → M Out) : M Out := fun st => match m st with
  | .ok a st' => f a st'
  | .exc e st' => .ok (.ex e ρ) st'
  | .bad => .bad
def whileF (c : Env' → M Val) (b : Env' → M Out) : Nat → Env' → M Out
  | 0, _ => fail
  | n + 1, ρ => lft ρ (bnd (c ρ) asBl) fun k => if k then bnd (b ρ) fun o => match o with
      | .nx ρ' => whileF c b n ρ'
      | .ct ρ' => whileF c b n ρ'
      | .bk ρ' => ret (.nx ρ')
      | o => ret o
    else ret (.nx ρ)
def forF (ok : Sto → Prop) (tg : Tg) (b : Env' → M Out) : List Val → Env' → M Out
  | [], ρ => bnd (chk ok) fun _ => ret (.nx ρ)
  | x :: r, ρ => bnd (chk ok) fun _ => bnd (asTg tg x ρ) fun ρ1 => bnd (b ρ1) fun o => match o with
      | .nx ρ' => forF ok tg b r ρ'
      | .ct ρ' => forF ok tg b r ρ'
      | .bk ρ' => ret (.nx ρ')
      | o => ret o
def FUEL : Nat := 100000
mutual
def exec : Sm → Env' → M Out
  | .set t e, ρ => lft ρ (ev C e ρ) fun v => bnd (asTg t v ρ) fun ρ' => ret (.nx ρ')
  | .setIx o i e, ρ => lft ρ (ev C e ρ) fun v => lft ρ (ev C o ρ) fun x => lft ρ (ev C i ρ) fun k => bnd (setIx x k v) fun _ => ret (.nx ρ)
  | .ex e, ρ => lft ρ (ev C e ρ) fun _ => ret (.nx ρ)
  | .ifs c a b, ρ => lft ρ (bnd (ev C c ρ) asBl) fun k => if k then execs a ρ else execs b ρ
  | .for_ t s b, ρ => lft ρ (evS C s ρ) fun it => forF it.ok t (execs b) it.xs ρ
  | .while_ c b, ρ => whileF (ev C c) (execs b) FUEL ρ
  | .ret e, ρ => lft ρ (ev C e ρ) fun v => ret (.rt v)
  | .pass, ρ => ret (.nx ρ)
  | .brk, ρ => ret (.bk ρ)
  | .ct, ρ => ret (.ct ρ)
def execs : Sms → Env' → M Out
  | .nil, ρ => ret (.nx ρ)
  | .cons s ss, ρ => bnd (exec s ρ) fun o => match o with
    | .nx ρ' => execs ss ρ'
    | o => ret o
end
end

/-! ### defs -/
structure Fn where
  ps : List Str
  ns : List Str
  body : Sms
mutual
inductive Closed (n : Nat) : Val → Prop
  | non : Closed n .non
  | bl {b} : Closed n (.bl b)
  | int {b} : Closed n (.int b)
  | str {b} : Closed n (.str b)
  | tup {l} : (∀ v ∈ l, Closed n v) → Closed n (.tup l)
  | rol {l} : (∀ v ∈ l, Closed n v) → Closed n (.rol l)
  | ref {r} : r < n → Closed n (.ref r)
end
def ClosedC (n : Nat) : Cell → Prop
  | .lst l => ∀ v ∈ l, Closed n v
  | .dct _ l => ∀ p ∈ l, Closed n p.2
  | .ins _ l => ∀ p ∈ l, Closed n p.2
/-- the elder things keep to themselves -/
def Apart (st st' : Sto) : Prop := st.length ≤ st'.length ∧ ∀ i c, i < st.length → st'[i]? = some c → st[i]? = some c ∨ ClosedC st.length c
def sweep (st : Sto) (v : Val) (st' : Sto) : Res Val :=
  if Apart st st' then
    if Closed st.length v then .ok v (st'.take st.length)
    else match v with
      | .ref r => (match st'[r]? with
        | some c => if ClosedC st.length c then .ok (.ref st.length) (st'.take st.length ++ [c]) else .ok v st'
        | none => .ok v st')
      | v => .ok v st'
  else .ok v st'
/-- what a call makes of its body's end -/
def leave (st : Sto) : Res Out → Res Val
  | .ok (.rt v) st' => sweep st v st'
  | .ok (.nx _) st' => sweep st .non st'
  | .ok (.ex e _) st' => .exc e st'
  | _ => .bad
def callF (T : Str → Option Fn) : Nat → Str → List Val → M Val
  | 0, _, _ => fail
  | k + 1, f, args => match T f with
    | none => fail
    | some fn => if args.length = fn.ps.length then fun st => leave st (execs (callF T k) fn.body (args.map some ++ List.replicate (fn.ns.length - args.length) none) st) else fail
end

end Mg

/-! Mg2: how the values and the store lie in the abstract heap. -/
namespace Mg
open PySem PySem.Spec PyProof.Rows L2

abbrev Frg := PySem.W.Frag
/-- a list of the written part -/
def KL (K : Frg) (a : Addr) (xs : List V) : Prop := ∃ (its : Array Value) (n : Nat), K.lookup a = some { cls := .type "list", data := .seq its n } ∧ its.size ≤ sizeLine ∧ Vals xs its.toList
theorem KL.seq {K : Frg} {H : Hp} {a : Addr} {xs : List V} (h : KL K a xs) : SqL K H a xs := by
  obtain ⟨its, n, h1, h2, h3⟩ := h
  exact .inr ⟨_, its, n, h1, rfl, rfl, rfl, h2, h3⟩
def FrL (K : Frg) (H : Hp) (a : Addr) (xs : List V) : Prop :=
  (∃ o, H a = some (.frz o (.lst xs))) ∨
    KL K a xs
theorem FrL.seq {K : Frg} {H : Hp} {a : Addr} {xs : List V} (h : FrL K H a xs) : SqL K H a xs := by
  rcases h with ⟨o, h⟩ | h
  · exact .inl (.inr ⟨o, h⟩)
  · exact h.seq
mutual
inductive RV (K : Frg) (μ : List Addr) (H : Hp) : V → Val → Prop
  | non : RV K μ H .non .non
  | bl {b : Bool} : RV K μ H (.bl b) (.bl b)
  | int {i : Int} : RV K μ H (.int i) (.int i)
  | str {x : Str} : PyData.strOk x = true → RV K μ H (.str x) (.str x)
  | tup {a : Addr} {xs : List V} {l : List Val} : H a = some (.tup xs) → RVs K μ H xs l → RV K μ H (.ref a) (.tup l)
  | rol {a : Addr} {xs : List V} {l : List Val} : FrL K H a xs → RVs K μ H xs l → RV K μ H (.ref a) (.rol l)
  | ref {a : Addr} {r : Nat} : μ[r]? = some a → RV K μ H (.ref a) (.ref r)
inductive RVs (K : Frg) (μ : List Addr) (H : Hp) : List V → List Val → Prop
  | nil : RVs K μ H [] []
  | cons {x : V} {v : Val} {xs : List V} {l : List Val} : RV K μ H x v → RVs K μ H xs l → RVs K μ H (x :: xs) (v :: l)
end
section
variable {K : Frg} {μ μ' : List Addr} {H H' : Hp}
theorem RVs.length : ∀ {xs : List V} {l : List Val}, RVs K μ H xs l → xs.length = l.length
  | _, _, .nil => rfl
  | _, _, .cons _ t => congrArg Nat.succ (RVs.length t)
theorem RVs.get : ∀ {xs : List V} {l : List Val} {i : Nat} {v : Val}, RVs K μ H xs l → l[i]? = some v → ∃ x, xs[i]? = some x ∧ RV K μ H x v
  | _, _, _, _, .nil, e => by simp at e
  | _, _, 0, _, .cons r _, e => by simp at e; subst e; exact ⟨_, rfl, r⟩
  | _, _, i + 1, v, .cons _ t, e => by
    obtain ⟨x, h1, h2⟩ := RVs.get (i := i) (v := v) t (by simpa using e)
    exact ⟨x, by simpa using h1, h2⟩
theorem RVs.get' : ∀ {xs : List V} {l : List Val} {i : Nat} {x : V}, RVs K μ H xs l → xs[i]? = some x → ∃ v, l[i]? = some v ∧ RV K μ H x v
  | _, _, _, _, .nil, e => by simp at e
  | _, _, 0, _, .cons r _, e => by simp at e; subst e; exact ⟨_, rfl, r⟩
  | _, _, i + 1, v, .cons _ t, e => by
    obtain ⟨x, h1, h2⟩ := RVs.get' (i := i) (x := v) t (by simpa using e)
    exact ⟨x, by simpa using h1, h2⟩
theorem RVs.append : ∀ {xs ys : List V} {l m : List Val}, RVs K μ H xs l → RVs K μ H ys m → RVs K μ H (xs ++ ys) (l ++ m)
  | _, _, _, _, .nil, s => s
  | _, _, _, _, .cons r t, s => .cons r (RVs.append t s)
theorem RVs.take : ∀ {xs : List V} {l : List Val} (n : Nat), RVs K μ H xs l → RVs K μ H (xs.take n) (l.take n)
  | _, _, 0, _ => .nil
  | _, _, _ + 1, .nil => .nil
  | _, _, n + 1, .cons r t => .cons r (RVs.take n t)
theorem RVs.drop : ∀ {xs : List V} {l : List Val} (n : Nat), RVs K μ H xs l → RVs K μ H (xs.drop n) (l.drop n)
  | _, _, 0, r => r
  | _, _, _ + 1, .nil => .nil
  | _, _, n + 1, .cons _ t => RVs.drop n t
theorem RVs.set : ∀ {xs : List V} {l : List Val} (i : Nat) {x : V} {v : Val}, RVs K μ H xs l → RV K μ H x v → RVs K μ H (xs.set i x) (l.set i v)
  | _, _, _, _, _, .nil, _ => .nil
  | _, _, 0, _, _, .cons _ t, r => .cons r t
  | _, _, i + 1, _, _, .cons q t, r => .cons q (RVs.set i t r)
theorem RVs.eraseIdx : ∀ {xs : List V} {l : List Val} (i : Nat), RVs K μ H xs l → RVs K μ H (xs.eraseIdx i) (l.eraseIdx i)
  | _, _, _, .nil => .nil
  | _, _, 0, .cons _ t => t
  | _, _, i + 1, .cons q t => .cons q (RVs.eraseIdx i t)
theorem RVs.reverse : ∀ {xs : List V} {l : List Val}, RVs K μ H xs l → RVs K μ H xs.reverse l.reverse
  | _, _, .nil => .nil
  | _, _, .cons r t => by
    rw [List.reverse_cons, List.reverse_cons]
    exact (RVs.reverse t).append (.cons r .nil)
theorem RVs.dropLast : ∀ {xs : List V} {l : List Val}, RVs K μ H xs l → RVs K μ H xs.dropLast l.dropLast := fun {xs l} r => by
  rw [List.dropLast_eq_take, List.dropLast_eq_take, r.length]
  exact r.take _
theorem RVs.one {xs : List V} {v : Val} (r : RVs K μ H xs [v]) : ∃ x, xs = [x] ∧ RV K μ H x v := by
  cases r with
  | cons a b => cases b; exact ⟨_, rfl, a⟩
theorem RVs.none {xs : List V} (r : RVs K μ H xs []) : xs = [] := by
  cases r; rfl
end

/-! ### the store -/
def keyV : Key → Val
  | .inl i => .int i
  | .inr x => .str x
def keyT (k : List Key) : Val := .tup (k.map keyV)
def KOk : Key → Prop
  | .inl _ => True
  | .inr x => PyData.strOk x = true
def REs (K : Frg) (μ : List Addr) (H : Hp) {κ : Type} (f : κ → Val) (ok : κ → Prop) : List (κ × V) → List (Val × Val) → Prop :=
  Paired fun p q => q.1 = f p.1 ∧ ok p.1 ∧ RV K μ H p.2 q.2
def RC (K : Frg) (μ : List Addr) (H : Hp) (a : Addr) : Cell → Prop
  | .lst l => ∃ xs, H a = some (.lst xs) ∧ RVs K μ H xs l
  | .dct false l => ∃ kvs, H a = some (.dK kvs) ∧ REs K μ H keyV KOk kvs l
  | .dct true l => ∃ kvs, H a = some (.dT kvs) ∧ REs K μ H keyT (fun k => ∀ x ∈ k, KOk x) kvs l
  | .ins _ _ => False
structure RS (K : Frg) (μ : List Addr) (H : Hp) (st : Sto) : Prop where
  len : μ.length = st.length
  nd : μ.Nodup
  cell : ∀ (r : Nat) (c : Cell) (a : Addr), st[r]? = some c → μ[r]? = some a → RC K μ H a c
structure Ext (μ : List Addr) (H : Hp) (μ' : List Addr) (H' : Hp) : Prop where
  pre : ∃ l, μ' = μ ++ l
  keep : ∀ a o, H a = some o → a ∉ μ → H' a = some o
  new : ∀ a, a ∈ μ' → a ∉ μ → H a = none
structure RE (K : Frg) (μ : List Addr) (H : Hp) (σ : L2.St) (ρ : Env') : Prop where
  len : σ.length = ρ.length
  get : ∀ (i : Nat) (v : Val), ρ[i]? = some (some v) → ∃ x, σ[i]? = some (some x) ∧ RV K μ H x v

section
variable {K : Frg} {μ μ' μ1 μ2 : List Addr} {H H' H1 H2 : Hp} {st : Sto}
theorem Ext.refl (μ : List Addr) (H : Hp) : Ext μ H μ H := ⟨⟨[], by simp⟩, fun _ _ h _ => h, fun _ h n => absurd h n⟩
theorem Ext.trans (e : Ext μ H μ1 H1) (f : Ext μ1 H1 μ2 H2) : Ext μ H μ2 H2 := by
  obtain ⟨l, rfl⟩ := e.pre
  obtain ⟨m, rfl⟩ := f.pre
  refine ⟨⟨l ++ m, by simp⟩, fun a o h n => ?_, fun a h n => ?_⟩
  · refine f.keep a o (e.keep a o h n) fun z => ?_
    rw [e.new a z n] at h
    cases h
  · by_cases z : a ∈ μ ++ l
    · exact e.new a z n
    · have q := f.new a h z
      cases w : H a with
      | none => rfl
      | some o => rw [e.keep a o w n] at q; cases q
theorem Ext.look (e : Ext μ H μ' H') {r : Nat} {a : Addr} (h : μ[r]? = some a) : μ'[r]? = some a := by
  obtain ⟨l, rfl⟩ := e.pre
  have hr : r < μ.length := by
    by_cases z : r < μ.length
    · exact z
    · rw [List.getElem?_eq_none (by omega)] at h; cases h
  rw [List.getElem?_append_left hr]
  exact h
/-- a changeable thing is no tuple and no frozen list -/
theorem RS.at (s : RS K μ H st) {a : Addr} (h : a ∈ μ) : ∃ (r : Nat) (c : Cell), μ[r]? = some a ∧ st[r]? = some c ∧ RC K μ H a c := by
  obtain ⟨r, hr, e⟩ := List.mem_iff_getElem.mp h
  have hr' : r < st.length := by rw [← s.len]; exact hr
  exact ⟨r, st[r], by rw [List.getElem?_eq_getElem hr, e], List.getElem?_eq_getElem hr', s.cell r _ a (List.getElem?_eq_getElem hr') (by rw [List.getElem?_eq_getElem hr, e])⟩
theorem RS.ho (s : RS K μ H st) {a : Addr} (h : a ∈ μ) : (∃ xs, H a = some (.lst xs)) ∨ (∃ kvs, H a = some (.dK kvs)) ∨ ∃ kvs, H a = some (.dT kvs) := by
  obtain ⟨r, c, _, _, q⟩ := s.at h
  cases c with
  | lst l => obtain ⟨xs, e, _⟩ := q; exact .inl ⟨xs, e⟩
  | dct t l => cases t with
    | false => obtain ⟨kvs, e, _⟩ := q; exact .inr (.inl ⟨kvs, e⟩)
    | true => obtain ⟨kvs, e, _⟩ := q; exact .inr (.inr ⟨kvs, e⟩)
  | ins c fs => exact q.elim
theorem Ext.isT (e : Ext μ H μ' H') (s : RS K μ H st) {a : Addr} {xs : List V} (h : H a = some (.tup xs)) : H' a = some (.tup xs) := by
  refine e.keep a _ h fun z => ?_
  rcases s.ho z with ⟨_, q⟩ | ⟨_, q⟩ | ⟨_, q⟩ <;> (rw [h] at q; cases q)
theorem Ext.frL (e : Ext μ H μ' H') (s : RS K μ H st) {a : Addr} {xs : List V} (h : FrL K H a xs) : FrL K H' a xs := by
  rcases h with ⟨o, h⟩ | h
  · refine .inl ⟨o, e.keep a _ h fun z => ?_⟩
    rcases s.ho z with ⟨_, q⟩ | ⟨_, q⟩ | ⟨_, q⟩ <;> (rw [h] at q; cases q)
  · exact .inr h
mutual
theorem RV.imp (look : ∀ (r : Nat) (a : Addr), μ[r]? = some a → μ'[r]? = some a) (ht : ∀ a xs, H a = some (.tup xs) → H' a = some (.tup xs)) (hl : ∀ a xs, FrL K H a xs → FrL K H' a xs) : ∀ {x : V} {v : Val}, RV K μ H x v → RV K μ' H' x v
  | _, _, .non => .non
  | _, _, .bl => .bl
  | _, _, .int => .int
  | _, _, .str h => .str h
  | _, _, .tup h r => .tup (ht _ _ h) (RVs.imp look ht hl r)
  | _, _, .rol h r => .rol (hl _ _ h) (RVs.imp look ht hl r)
  | _, _, .ref h => .ref (look _ _ h)
theorem RVs.imp (look : ∀ (r : Nat) (a : Addr), μ[r]? = some a → μ'[r]? = some a) (ht : ∀ a xs, H a = some (.tup xs) → H' a = some (.tup xs)) (hl : ∀ a xs, FrL K H a xs → FrL K H' a xs) : ∀ {x : List V} {v : List Val}, RVs K μ H x v → RVs K μ' H' x v
  | _, _, .nil => .nil
  | _, _, .cons h r => .cons (RV.imp look ht hl h) (RVs.imp look ht hl r)
end
theorem RV.up (e : Ext μ H μ' H') (s : RS K μ H st) {x : V} {v : Val} (h : RV K μ H x v) : RV K μ' H' x v := h.imp (fun _ _ => e.look) (fun _ _ => e.isT s) fun _ _ => e.frL s
theorem RVs.up (e : Ext μ H μ' H') (s : RS K μ H st) {x : List V} {v : List Val} (h : RVs K μ H x v) : RVs K μ' H' x v := h.imp (fun _ _ => e.look) (fun _ _ => e.isT s) fun _ _ => e.frL s
theorem RE.up (e : Ext μ H μ' H') (s : RS K μ H st) {σ : L2.St} {ρ : Env'} (h : RE K μ H σ ρ) : RE K μ' H' σ ρ :=
  ⟨h.len, fun i v q => let ⟨x, h1, h2⟩ := h.get i v q; ⟨x, h1, h2.up e s⟩⟩
theorem REs.up {κ : Type} {f : κ → Val} {ok : κ → Prop} (e : Ext μ H μ' H') (s : RS K μ H st) {x : List (κ × V)} {v : List (Val × Val)} (h : REs K μ H f ok x v) : REs K μ' H' f ok x v :=
  Paired.mapP h fun _ _ q => ⟨q.1, q.2.1, q.2.2.up e s⟩

theorem eq_of_nodup {α : Type} : ∀ {l : List α} {i j : Nat} {a : α}, l.Nodup → l[i]? = some a → l[j]? = some a → i = j
  | [], _, _, _, _, h, _ => by simp at h
  | b :: l, 0, 0, _, _, _, _ => rfl
  | b :: l, 0, j + 1, a, nd, h, h' => by
    simp at h h'
    subst h
    exact absurd (List.mem_of_getElem? h') (List.nodup_cons.mp nd).1
  | b :: l, i + 1, 0, a, nd, h, h' => by
    simp at h h'
    subst h'
    exact absurd (List.mem_of_getElem? h) (List.nodup_cons.mp nd).1
  | b :: l, i + 1, j + 1, a, nd, h, h' => congrArg Nat.succ (eq_of_nodup (List.nodup_cons.mp nd).2 (by simpa using h) (by simpa using h'))

/-- a new thing that the store does not hold -/
theorem Ext.side {p : Addr} {o : HO} (hp : H p = none) (s : RS K μ H st) : Ext μ H μ (upd H p o) :=
  ⟨⟨[], by simp⟩, fun a u h _ => by rw [upd_ne (ne_of_none h hp)]; exact h, fun _ h n => absurd h n⟩
theorem RS.free (s : RS K μ H st) {p : Addr} (hp : H p = none) : p ∉ μ := fun z => by
  rcases s.ho z with ⟨_, q⟩ | ⟨_, q⟩ | ⟨_, q⟩ <;> (rw [hp] at q; cases q)
theorem RC.up (e : Ext μ H μ' H') (s : RS K μ H st) {a : Addr} {c : Cell} (h : RC K μ H a c) (q : H' a = H a) : RC K μ' H' a c := by
  cases c with
  | lst l => obtain ⟨xs, e1, r⟩ := h; exact ⟨xs, by rw [q]; exact e1, r.up e s⟩
  | dct t l => cases t with
    | false => obtain ⟨kvs, e1, r⟩ := h; exact ⟨kvs, by rw [q]; exact e1, r.up e s⟩
    | true => obtain ⟨kvs, e1, r⟩ := h; exact ⟨kvs, by rw [q]; exact e1, r.up e s⟩
  | ins c fs => exact h.elim
theorem RS.side {p : Addr} {o : HO} (s : RS K μ H st) (hp : H p = none) : RS K μ (upd H p o) st :=
  ⟨s.len, s.nd, fun r c a h1 h2 => (s.cell r c a h1 h2).up (Ext.side hp s) s (upd_ne fun z => s.free hp (by rw [← z]; exact List.mem_of_getElem? h2))⟩
/-- a new thing that the store holds -/
theorem Ext.grow {p : Addr} {o : HO} (hp : H p = none) : Ext μ H (μ ++ [p]) (upd H p o) :=
  ⟨⟨[p], rfl⟩, fun a u h _ => by rw [upd_ne (ne_of_none h hp)]; exact h, fun a h n => by
    rcases List.mem_append.mp h with z | z
    · exact absurd z n
    · have : a = p := by simpa using z
      rw [this]; exact hp⟩
theorem RS.grow {p : Addr} {o : HO} {c : Cell} (s : RS K μ H st) (hp : H p = none) (hc : RC K (μ ++ [p]) (upd H p o) p c) : RS K (μ ++ [p]) (upd H p o) (st ++ [c]) := by
  have np := s.free hp
  refine ⟨by simp [s.len], List.nodup_append.mpr ⟨s.nd, by simp, fun a ha b hb => ?_⟩, fun r c' a h1 h2 => ?_⟩
  · have : b = p := by simpa using hb
    rw [this]
    exact fun z => np (by rw [← z]; exact ha)
  · by_cases hr : r < st.length
    · rw [List.getElem?_append_left hr] at h1
      rw [List.getElem?_append_left (by rw [s.len]; exact hr)] at h2
      exact (s.cell r c' a h1 h2).up (Ext.grow hp) s (upd_ne fun z => np (by rw [← z]; exact List.mem_of_getElem? h2))
    · have e : r = st.length := by
        by_cases z : r < (st ++ [c]).length
        · simp at z; omega
        · rw [List.getElem?_eq_none (by omega)] at h1; cases h1
      subst e
      simp at h1
      have h2' : (μ ++ [p])[μ.length]? = some a := by rw [s.len]; exact h2
      simp at h2'
      subst h1 h2'
      exact hc
/-- a thing of the store changed -/
theorem Ext.put {r : Nat} {p : Addr} {o : HO} (hr : μ[r]? = some p) : Ext μ H μ (upd H p o) :=
  ⟨⟨[], by simp⟩, fun a u h n => by rw [upd_ne fun z => n (by rw [z]; exact List.mem_of_getElem? hr)]; exact h, fun _ h n => absurd h n⟩
theorem RS.put {r : Nat} {p : Addr} {o : HO} {c : Cell} (s : RS K μ H st) (hr : μ[r]? = some p) (hc : RC K μ (upd H p o) p c) : RS K μ (upd H p o) (st.set r c) := by
  refine ⟨by simp [s.len], s.nd, fun q c' a h1 h2 => ?_⟩
  by_cases z : q = r
  · subst z
    rw [hr] at h2
    cases h2
    have hq : q < st.length := by
      rw [← s.len]
      by_cases w : q < μ.length
      · exact w
      · rw [List.getElem?_eq_none (by omega)] at hr; cases hr
    rw [List.getElem?_set_self hq] at h1
    cases h1
    exact hc
  · rw [List.getElem?_set_ne (Ne.symm z)] at h1
    exact (s.cell q c' a h1 h2).up (Ext.put hr) s (upd_ne fun w => z (eq_of_nodup s.nd (by rw [← w]; exact h2) hr))
theorem RS.lst (s : RS K μ H st) {r : Nat} {l : List Val} {a : Addr} (h : st[r]? = some (.lst l)) (hr : μ[r]? = some a) : ∃ xs, H a = some (.lst xs) ∧ RVs K μ H xs l := s.cell r _ a h hr
theorem lget_some {st : Sto} {r : Nat} {l : List Val} (h : lget st r = some l) : st[r]? = some (.lst l) := by
  unfold lget at h
  split at h
  · cases h; assumption
  · cases h
end

theorem bnd_ok {α β : Type} {m : M α} {f : α → M β} {st st' : Sto} {a : α} (h : m st = .ok a st') : Mg.bnd m f st = f a st' := by
  unfold Mg.bnd
  rw [h]
theorem bnd_bad {α β : Type} {m : M α} {f : α → M β} {st : Sto} (h : m st = .bad) : Mg.bnd m f st = .bad := by
  unfold Mg.bnd
  rw [h]
theorem bnd_exc {α β : Type} {m : M α} {f : α → M β} {st st' : Sto} {e : Exn} (h : m st = .exc e st') : Mg.bnd m f st = .exc e st' := by
  unfold Mg.bnd
  rw [h]

/-! ### how a result lies -/
/-- an exception: its class, its own dict -/
def RX (cla : Str → Option Addr) (K : Frg) (μ : List Addr) (H : Hp) (e : Exn) (cls : Value) (d : Option Addr) : Prop :=
  ∃ C, cla e.cls = some C ∧ cls = .ref C ∧ ((e.fs = [] ∧ d = none) ∨ ∃ a fs, d = some a ∧ H a = some (.xd fs) ∧ Paired (fun (p : Str × V) (q : Str × Val) => p.1 = q.1 ∧ RV K μ H p.2 q.2) fs e.fs)
section
variable (cla : Str → Option Addr) (K : Frg) (E : XK)
def Post {α : Type} (μ : List Addr) (H : Hp) (r : Res α) (P : α → Sto → List Addr → Hp → Prop) : Prop := match r with
  | .ok a st' => ∀ μ' H', Ext μ H μ' H' → RS K μ' H' st' → P a st' μ' H'
  | .exc e st' => ∀ μ' H' cls d, Ext μ H μ' H' → RS K μ' H' st' → RX cla K μ' H' e cls d → E cls d H'
  | .bad => False
end
section
variable {cla : Str → Option Addr} {K : Frg} {E : XK} {μ μ1 : List Addr} {H H1 : Hp}
theorem Post.mono {α : Type} {r : Res α} {P P' : α → Sto → List Addr → Hp → Prop} (h : Post cla K E μ H r P) (e : Ext μ H μ1 H1) (f : ∀ a st μ' H', Ext μ1 H1 μ' H' → RS K μ' H' st → P a st μ' H' → P' a st μ' H') : Post cla K E μ1 H1 r P' := by
  cases r with
  | ok a st => exact fun μ' H' x s => f _ _ _ _ x s (h _ _ (e.trans x) s)
  | exc e' st => exact fun μ' H' cls d x s => h _ _ _ _ (e.trans x) s
  | bad => exact h
theorem Post.bnd {α β : Type} {m : M α} {f : α → M β} {st : Sto} {P : β → Sto → List Addr → Hp → Prop} (h : Post cla K E μ H (Mg.bnd m f st) P) :
    Post cla K E μ H (m st) fun a st' μ' H' => Post cla K E μ' H' (f a st') P := by
  unfold Mg.bnd at h
  cases q : m st with
  | ok a st' =>
    rw [q] at h
    exact fun μ' H' x s => Post.mono h x fun _ _ _ _ _ _ z => z
  | exc e st' => rw [q] at h; exact h
  | bad => rw [q] at h; exact h
theorem Post.quiet {α : Type} {m : M α} {st : Sto} {P : α → Sto → List Addr → Hp → Prop} {E' : XK} (h : Post cla K E μ H (Mg.quiet m st) P) : Post cla K E' μ H (m st) P := by
  unfold Mg.quiet at h
  cases q : m st with
  | ok a st' => rw [q] at h; exact h
  | exc e st' => rw [q] at h; exact False.elim h
  | bad => rw [q] at h; exact h
end

/-! ### readings -/
section
variable (cla : Str → Option Addr) (K : Frg) (W : WX)
abbrev WE' (σ : L2.St) : XK := fun cls d H => W cls d σ H
/-- where one stands -/
structure At (μ : List Addr) (H : Hp) (σ : L2.St) (ρ : Env') (st : Sto) : Prop where
  rs : RS K μ H st
  re : RE K μ H σ ρ
def tM (m : Env' → M Val) : TE := fun σ H Q => ∃ μ ρ st, At K μ H σ ρ st ∧ Post cla K (WE' W σ) μ H (m ρ st) fun v _ μ' H' => ∀ x, RV K μ' H' x v → Q x H'
def tB (m : Env' → M Val) : TT := fun σ H Q => ∃ μ ρ st, At K μ H σ ρ st ∧ Post cla K (WE' W σ) μ H (bnd (m ρ) asBl st) fun b _ _ H' => Q b H'
def tMs (m : Env' → M (List Val)) : TA := fun σ H Q => ∃ μ ρ st, At K μ H σ ρ st ∧ Post cla K (WE' W σ) μ H (m ρ st) fun vs _ μ' H' => ∀ xs, RVs K μ' H' xs vs → Q xs H'
/-- a list, a tuple -/
inductive RL (K : Frg) (H0 : Hp) (μ : List Addr) (H : Hp) : V → LV → Prop
  | f {a : Addr} {xs : List V} {l : List Val} : H a = some (.lst xs) → a ∉ μ → H0 a = none → RVs K μ H xs l → RL K H0 μ H (.ref a) (.f l)
  | ro {a : Addr} {xs : List V} {l : List Val} : FrL K H a xs → RVs K μ H xs l → RL K H0 μ H (.ref a) (.ro l)
  | s {a : Addr} {xs : List V} {l : List Val} {r : Nat} : H a = some (.lst xs) → RVs K μ H xs l → μ[r]? = some a → RL K H0 μ H (.ref a) (.s l r)
  | t {a : Addr} {xs : List V} {l : List Val} : H a = some (.tup xs) → RVs K μ H xs l → RL K H0 μ H (.ref a) (.t l)
def tL (m : Env' → M LV) : TE := fun σ H Q => ∃ μ ρ st, At K μ H σ ρ st ∧ Post cla K (WE' W σ) μ H (m ρ st) fun v _ μ' H' => ∀ x, RL K H μ' H' x v → Q x H'
end
section
variable {cla : Str → Option Addr} {K : Frg} {W : WX} {μ μ1 : List Addr} {H H1 : Hp} {σ : L2.St} {ρ : Env'} {st : Sto}
theorem At.up (a : At K μ H σ ρ st) (e : Ext μ H μ1 H1) {st1 : Sto} (s : RS K μ1 H1 st1) : At K μ1 H1 σ ρ st1 := ⟨s, a.re.up e a.rs⟩
theorem RL.up {H0 : Hp} {v : LV} {x : V} (r : RL K H0 μ H x v) (e : Ext μ H μ1 H1) (s : RS K μ H st) {st1 : Sto} (s1 : RS K μ1 H1 st1) (th : v.there st1) : RL K H0 μ1 H1 x v := by
  cases r with
  | t h r => exact .t (e.isT s h) (r.up e s)
  | ro h r => exact .ro (e.frL s h) (r.up e s)
  | @f a xs l h n h0 r =>
    refine .f (e.keep _ _ h n) (fun z => ?_) h0 (r.up e s)
    have q := e.new _ z n
    rw [q] at h
    cases h
  | s h r h2 =>
    have hq := e.look h2
    obtain ⟨ys, e1, r1⟩ := s1.lst th hq
    exact .s e1 r1 hq
/-- what is read of it -/
theorem RL.seq {H0 : Hp} {v : LV} {x : V} (r : RL K H0 μ H x v) : ∃ a xs, x = .ref a ∧ (SqL K H a xs ∨ SqT K H a xs) ∧ RVs K μ H xs v.xs := by
  cases r with
  | t h r => exact ⟨_, _, rfl, .inr (.inl (.inl h)), r⟩
  | ro h r => exact ⟨_, _, rfl, .inl h.seq, r⟩
  | f h _ _ r => exact ⟨_, _, rfl, .inl (.inl (.inl h)), r⟩
  | s h r _ => exact ⟨_, _, rfl, .inl (.inl (.inl h)), r⟩
end
end Mg

/-! Mg3: the operations keep what the evaluator says. -/
namespace Mg
open PySem PySem.Spec PyProof.Rows L2

section
variable {cla : Str → Option Addr} {K : Frg} {E : XK} {μ : List Addr} {H : Hp} {st : Sto} {Q : VK}
abbrev PV (cla : Str → Option Addr) (K : Frg) (E : XK) (μ : List Addr) (H : Hp) (r : Res Val) (Q : VK) : Prop := Post cla K E μ H r fun v _ μ' H' => ∀ z, RV K μ' H' z v → Q z H'
theorem PV.ret {v : Val} (h : PV cla K E μ H (ret v st) Q) (s : RS K μ H st) {z : V} (r : RV K μ H z v) : Q z H := h μ H (Ext.refl _ _) s z r
theorem PV.alloc {l : List Val} (h : PV cla K E μ H (allocL l st) Q) (s : RS K μ H st) {xs : List V} (r : RVs K μ H xs l) {p : Addr} (hp : H p = none) : Q (.ref p) (upd H p (.lst xs)) := by
  have e : Ext μ H (μ ++ [p]) (upd H p (.lst xs)) := Ext.grow hp
  refine h _ _ e (s.grow hp ⟨xs, upd_same, r.up e s⟩) _ (.ref ?_)
  rw [← s.len]
  simp
theorem PV.tup {l : List Val} (h : PV cla K E μ H (Mg.ret (.tup l) st) Q) (s : RS K μ H st) {xs : List V} (r : RVs K μ H xs l) {p : Addr} (hp : H p = none) : Q (.ref p) (upd H p (.tup xs)) := by
  have e : Ext μ H μ (upd H p (.tup xs)) := Ext.side hp s
  exact h _ _ e (s.side hp) _ (.tup upd_same (r.up e s))
theorem PV.put {v : Val} {r : Nat} {c : Cell} {a : Addr} {o : HO} (h : PV cla K E μ H (.ok v (st.set r c)) Q) (s : RS K μ H st) (hr : μ[r]? = some a) (hc : RC K μ (upd H a o) a c) {z : V} (rz : RV K μ (upd H a o) z v) : Q z (upd H a o) :=
  h _ _ (Ext.put hr) (s.put hr hc) z rz

/-! ### a weaker reading -/
theorem PE.weak {X : Cx} {e : Expr} {t t' : TE} (h : PE X e t) (hw : ∀ σ H Q, t' σ H Q → t σ H Q) : PE X e t' := ⟨fun pins s σ H Q I w => h.run pins s σ H Q I (hw _ _ _ w)⟩
theorem PT.weak {X : Cx} {e : Expr} {t t' : TT} (h : PT X e t) (hw : ∀ σ H Q, t' σ H Q → t σ H Q) : PT X e t' := ⟨fun pins s σ H Q I w => h.run pins s σ H Q I (hw _ _ _ w)⟩
theorem PW.weak {X : Cx} {e : Expr} {t t' : TT} (h : PW X e t) (hw : ∀ σ H Q, t' σ H Q → t σ H Q) : PW X e t' := ⟨fun w pins s σ H Q I x => h.run w pins s σ H Q I (hw _ _ _ x)⟩
theorem PA.weak {X : Cx} {e : List Expr} {t t' : TA} (h : PA X e t) (hw : ∀ σ H Q, t' σ H Q → t σ H Q) : PA X e t' := ⟨fun p pins s σ H Q I x => h.run p pins s σ H Q I (hw _ _ _ x)⟩
theorem PK.weak {X : Cx} {e : List Keyword} {t t' : TA} (h : PK X e t) (hw : ∀ σ H Q, t' σ H Q → t σ H Q) : PK X e t' := ⟨fun p pins s σ H Q I x => h.run p pins s σ H Q I (hw _ _ _ x)⟩
theorem PS.weak {X : Cx} {e : Stmt} {t t' : TS} (h : PS X e t) (hw : ∀ D σ H, t' D σ H → t D σ H) : PS X e t' := ⟨fun pins s σ H D I w => h.run pins s σ H D I (hw _ _ _ w)⟩
theorem PSs.weak {X : Cx} {e : List Stmt} {t t' : TS} (h : PSs X e t) (hw : ∀ D σ H, t' D σ H → t D σ H) : PSs X e t' := ⟨fun pins s σ H D I w => h.run pins s σ H D I (hw _ _ _ w)⟩

/-! ### two values -/
/-- an operation on two values keeps what f says -/
def Ok2 (cla : Str → Option Addr) (K : Frg) (r : R2) (f : Val → Val → M Val) : Prop :=
  ∀ (E : XK) (μ : List Addr) (H : Hp) (st : Sto) (x y : Val) (X Y : V) (Q : VK), RS K μ H st → RV K μ H X x → RV K μ H Y y → PV cla K E μ H (f x y st) Q → r X Y H Q
theorem tm2 {W : WX} {r : R2} {f : Val → Val → M Val} (hf : Ok2 cla K r f) {ma mb : Env' → M Val} {σ : L2.St} (h : tM cla K W (fun ρ => bnd (ma ρ) fun x => bnd (mb ρ) fun y => f x y) σ H Q) :
    tM cla K W ma σ H fun X H1 => tM cla K W mb σ H1 fun Y H2 => r X Y H2 Q := by
  obtain ⟨μ, ρ, st, A, P⟩ := h
  refine ⟨μ, ρ, st, A, Post.mono P.bnd (Ext.refl _ _) fun x st1 μ1 H1 e1 s1 P1 X rX => ?_⟩
  refine ⟨μ1, ρ, st1, A.up e1 s1, Post.mono P1.bnd (Ext.refl _ _) fun y st2 μ2 H2 e2 s2 P2 Y rY => ?_⟩
  exact hf _ μ2 H2 st2 x y X Y Q s2 (rX.up e2 s1) rY P2
theorem tm1 {W : WX} {r : V → Hp → VK → Prop} {f : Val → M Val} (hf : ∀ (E : XK) (μ : List Addr) (H : Hp) (st : Sto) (x : Val) (X : V) (Q : VK), RS K μ H st → RV K μ H X x → PV cla K E μ H (f x st) Q → r X H Q) {ma : Env' → M Val} {σ : L2.St} (h : tM cla K W (fun ρ => bnd (ma ρ) f) σ H Q) :
    tM cla K W ma σ H fun X H1 => r X H1 Q := by
  obtain ⟨μ, ρ, st, A, P⟩ := h
  exact ⟨μ, ρ, st, A, Post.mono P.bnd (Ext.refl _ _) fun x st1 μ1 H1 e1 s1 P1 X rX => hf _ μ1 H1 st1 x X Q s1 rX P1⟩
end

/-! ### arithmetic -/
theorem strOk_append {x y : Str} (hx : PyData.strOk x = true) (hy : PyData.strOk y = true) : PyData.strOk (x ++ y) = true := by
  unfold PyData.strOk at hx hy ⊢
  rw [show (x ++ y).cps = x.cps ++ y.cps from rfl, Array.all_append, hx, hy]
  rfl
theorem strOk_mem {x : Str} : PyData.strOk x = true ↔ ∀ c ∈ x.cps.toList, c < 0x110000 := by
  unfold PyData.strOk
  rw [← Array.all_toList, List.all_eq_true]
  exact ⟨fun h c hc => of_decide_eq_true (h c hc), fun h c hc => decide_eq_true (h c hc)⟩
theorem strOk_of {l : List Nat} (h : ∀ c ∈ l, c < 0x110000) : PyData.strOk ⟨l.toArray⟩ = true := strOk_mem.mpr (by simpa using h)

/-- a list, whoever holds it -/
def LL (K : Frg) (H : Hp) (a : Addr) (xs : List V) : Prop := Rd H a (.lst xs) ∨ KL K a xs
theorem LL.seq {K : Frg} {H : Hp} {a : Addr} {xs : List V} (h : LL K H a xs) : SqL K H a xs := by
  rcases h with h | h
  · exact .inl h
  · exact h.seq
theorem ll_of {X : Cx} {pins : List (Addr × Obj)} {σ : L2.St} {H : Hp} {s : Shared} {a : Addr} {xs : List V} (I : Inv X pins σ H s) (h : LL X.K H a xs) :
    ∃ (its : List Value) (n : Nat), Vals xs its ∧ s.heap.get? a = some { cls := .type "list", data := .seq its.toArray n } ∧ xs.length ≤ sizeLine := by
  rcases h with h | ⟨its, n, hk, hz, r⟩
  · obtain ⟨z, its, n, r, e⟩ := h.ok I.hok
    exact ⟨its, n, r, e, z⟩
  · refine ⟨its.toList, n, r, by simpa using I.kIn a _ hk, ?_⟩
    have e := r.length
    simp only [Array.length_toList] at e
    omega
/-- + of two lists, whoever holds them -/
def rCatL (K : Frg) : R2 := fun x y H Q => ∃ l b xs zs, x = .ref l ∧ y = .ref b ∧ LL K H l xs ∧ LL K H b zs ∧ xs.length + zs.length ≤ sizeLine ∧ ∀ p, H p = none → Q (.ref p) (upd H p (.lst (xs ++ zs)))
theorem op_catL {X : Cx} : OpR X (binaryOp .Add) (rCatL X.K) := by
  intro pins s σ H x y v u Q I rx ry h
  obtain ⟨l, b, xs, zs, rfl, rfl, hH, hB, hz, q⟩ := h
  cases rx
  cases ry
  obtain ⟨its, n, r, e, z⟩ := ll_of I hH
  obtain ⟨its2, n2, r2, e2, z2⟩ := ll_of I hB
  refine PySem.P.add_list e e2 ?_ (by rw [List.size_toArray, List.size_toArray, ← r.length, ← r2.length]; omega)
  have ea : its.toArray ++ its2.toArray = (its ++ its2).toArray := by simp
  rw [ea]
  exact ⟨.ref _, _, I.lnew (t' := s.toks) (r.append r2) (by rw [List.length_append]; omega), rfl, q _ I.fresh⟩
def rAddAll (K : Frg) : R2 := fun x y H Q => (∃ i j, x = .int i ∧ y = .int j ∧ Q (.int (i + j)) H) ∨ (∃ i j, x = .str i ∧ y = .str j ∧ i.length + j.length ≤ sizeLine ∧ Q (.str (i ++ j)) H) ∨ rCatA K x y H Q ∨ rCatL K x y H Q
theorem op_addAll {X : Cx} : OpR X (binaryOp .Add) (rAddAll X.K) := op_add.or (op_add_str.or (op_catA.or op_catL))
section
variable {cla : Str → Option Addr} {K : Frg}
theorem ok_add : Ok2 cla K (rAddAll K) addV := by
  intro E μ H st x y X Y Q s rx ry P
  cases rx with
  | int => cases ry with
    | int => exact .inl ⟨_, _, rfl, rfl, P.ret s .int⟩
    | _ => exact P.elim
  | @str a hx => cases ry with
    | @str b hy =>
      by_cases hl : a.length + b.length ≤ sizeLine
      · rw [show addV (.str a) (.str b) = ret (.str (a ++ b)) from if_pos hl] at P
        exact .inr (.inl ⟨_, _, rfl, rfl, hl, P.ret s (.str (strOk_append hx hy))⟩)
      · rw [show addV (.str a) (.str b) = fail from if_neg hl] at P
        exact P.elim
    | _ => exact P.elim
  | @tup pa xs a hx rx => cases ry with
    | @tup pb ys b hy ry =>
      by_cases hl : a.length + b.length ≤ sizeLine
      · rw [show addV (.tup a) (.tup b) = ret (.tup (a ++ b)) from if_pos hl] at P
        refine .inr (.inr (.inl ⟨_, _, _, _, rfl, rfl, .inl (.inl hx), .inl (.inl hy), by rw [rx.length, ry.length]; exact hl, fun e => ?_, fun _ e => ?_, fun _ _ p hp => ?_⟩))
        · subst e; cases rx; exact P.ret s (.tup hy ry)
        · subst e; cases ry; rw [List.append_nil] at P; exact P.ret s (.tup hx rx)
        · exact P.tup s (rx.append ry) hp
      · rw [show addV (.tup a) (.tup b) = fail from if_neg hl] at P
        exact P.elim
    | _ => exact P.elim
  | @ref pa r hx => cases ry with
    | @ref pb q hy =>
      cases ha : lget st r with
      | none =>
        rw [show addV (.ref r) (.ref q) st = .bad by unfold addV; simp only [ha]] at P
        exact P.elim
      | some a =>
        cases hb : lget st q with
        | none =>
          rw [show addV (.ref r) (.ref q) st = .bad by unfold addV; simp only [ha, hb]] at P
          exact P.elim
        | some b =>
          by_cases hl : a.length + b.length ≤ sizeLine
          · rw [show addV (.ref r) (.ref q) st = allocL (a ++ b) st by unfold addV; simp only [ha, hb]; rw [if_pos hl]] at P
            obtain ⟨xs, e1, r1⟩ := s.lst (lget_some ha) hx
            obtain ⟨ys, e2, r2⟩ := s.lst (lget_some hb) hy
            exact .inr (.inr (.inr ⟨_, _, _, _, rfl, rfl, .inl (.inl e1), .inl (.inl e2), by rw [r1.length, r2.length]; exact hl, fun p hp => P.alloc s (r1.append r2) hp⟩))
          · rw [show addV (.ref r) (.ref q) st = .bad by unfold addV; simp only [ha, hb]; rw [if_neg hl]] at P
            exact P.elim
    | _ => exact P.elim
  | _ => exact P.elim
/-- of two ints alone -/
theorem ok_int {f : Val → Val → M Val} {C : Int → Int → Prop} {g : Int → Int → Int} (h : ∀ i j, (C i j ∧ f (.int i) (.int j) = ret (.int (g i j))) ∨ f (.int i) (.int j) = fail)
    (h2 : ∀ x y, (∀ i j, x = .int i → y = .int j → False) → f x y = fail) : Ok2 cla K (rI C fun i j => .int (g i j)) f := by
  intro E μ H st x y X Y Q s rx ry P
  by_cases c : ∃ i j, x = .int i ∧ y = .int j
  · obtain ⟨i, j, rfl, rfl⟩ := c
    cases rx
    cases ry
    rcases h i j with ⟨hc, e⟩ | e
    · rw [e] at P
      exact ⟨i, j, rfl, rfl, hc, P.ret s .int⟩
    · rw [e] at P
      exact P.elim
  · rw [h2 x y fun i j e1 e2 => c ⟨i, j, e1, e2⟩] at P
    exact P.elim
theorem ok_sub : Ok2 cla K (rI (fun _ _ => True) fun i j => .int (i - j)) subV :=
  ok_int (fun i j => .inl ⟨trivial, rfl⟩) fun x y h => by
    cases x <;> cases y <;> first | rfl | exact (h _ _ rfl rfl).elim
theorem op_subT {X : Cx} : OpR X (binaryOp .Sub) (rI (fun _ _ => True) fun i j => .int (i - j)) := opI fun _ _ _ _ _ _ _ _ q => sub_int q
theorem ok_fdiv : Ok2 cla K (rI CDivW fun i j => .int (i / j)) fdivV :=
  ok_int (fun i j => by
    by_cases c : 0 < j ∧ j.natAbs.log2 < 9000
    · exact .inl ⟨c, if_pos c⟩
    · exact .inr (if_neg c)) fun x y h => by
    cases x <;> cases y <;> first | rfl | exact (h _ _ rfl rfl).elim
theorem ok_mod : Ok2 cla K (rI (fun _ j => 0 < j) fun i j => .int (i % j)) modV :=
  ok_int (fun i j => by
    by_cases c : 0 < j
    · exact .inl ⟨c, if_pos c⟩
    · exact .inr (if_neg c)) fun x y h => by
    cases x <;> cases y <;> first | rfl | exact (h _ _ rfl rfl).elim
theorem ok_pow : Ok2 cla K (rI CPow fun i j => .int (i ^ j.toNat)) powV :=
  ok_int (fun i j => by
    by_cases c : 0 ≤ j ∧ j ≤ 1000000 ∧ i.natAbs < 2 ^ 64
    · exact .inl ⟨c, if_pos c⟩
    · exact .inr (if_neg c)) fun x y h => by
    cases x <;> cases y <;> first | rfl | exact (h _ _ rfl rfl).elim
def CMulV (i j : Int) : Prop := i.natAbs.log2 + j.natAbs.log2 < 100000000
theorem CMulV.ok {i j : Int} (h : CMulV i j) : IntMulOk i j := by
  have b : ∀ x : Int, Builtin.Int.intBits x ≤ x.natAbs.log2 + 1 := fun x => by
    unfold Builtin.Int.intBits
    split <;> omega
  have h1 := b i
  have h2 := b j
  have h3 : i.natAbs.log2 + j.natAbs.log2 < 100000000 := h
  have e : bitsLine = 134217728 := by decide
  unfold IntMulOk
  intro z
  rw [Bool.and_eq_true] at z
  have z2 := z.2
  unfold Builtin.Int.intTooBig at z2
  have z3 := of_decide_eq_true z2
  rw [e] at z3
  omega
theorem op_mulV {X : Cx} : OpR X (binaryOp .Mult) (rI CMulV fun i j => .int (i * j)) := opI fun _ _ _ _ _ _ _ hc q => mul_int q hc.ok
end
end Mg

/-! Mg4: comparisons, built-ins. -/
namespace Mg
open PySem PySem.Spec PyProof.Rows L2

/-! ### data -/
theorem mapM_cons {α β : Type} {f : α → Option β} {x : α} {r : List α} {ds : List β} (h : (x :: r).mapM f = some ds) : ∃ d es, f x = some d ∧ r.mapM f = some es ∧ ds = d :: es := by
  rw [List.mapM_cons] at h
  cases h1 : f x with
  | none => rw [h1] at h; cases h
  | some d =>
    rw [h1] at h
    cases h2 : r.mapM f with
    | none => simp [h2] at h
    | some es =>
      simp [h2] at h
      exact ⟨d, es, rfl, rfl, h.symm⟩
theorem mapM_nil {α β : Type} {f : α → Option β} {ds : List β} (h : ([] : List α).mapM f = some ds) : ds = [] := by
  simpa using h.symm
section
variable {K : Frg} {μ : List Addr} {H : Hp} {st : Sto}
def DOk (K : Frg) (H : Hp) (n : Nat) (X : V) (d : PyData) : Prop := Dp K H X d ∧ d.canLay0 = true ∧ d.depth ≤ n
theorem dok_all {n : Nat} {f : Val → Option PyData} (hf : ∀ x d X, f x = some d → RV K μ H X x → DOk K H n X d) : ∀ {l : List Val} {ds : List PyData} {xs : List V}, l.mapM f = some ds → RVs K μ H xs l →
    DpAll K H xs ds ∧ PyData.canLayAll0 ds = true ∧ PyData.depthAll ds ≤ n
  | [], ds, xs, h, r => by
    rw [mapM_nil h, r.none]
    exact ⟨.nil, rfl, Nat.zero_le _⟩
  | x :: l, ds, xs, h, r => by
    obtain ⟨d, es, h1, h2, rfl⟩ := mapM_cons h
    cases r with
    | cons a b =>
      obtain ⟨q1, q2, q3⟩ := hf _ _ _ h1 a
      obtain ⟨w1, w2, w3⟩ := dok_all hf h2 b
      exact ⟨.cons q1 w1, by simp [PyData.canLayAll0, q2, w2], by simp only [PyData.depthAll]; omega⟩
theorem dok_up {n m : Nat} {X : V} {d : PyData} (h : DOk K H n X d) (l : n ≤ m) : DOk K H m X d := ⟨h.1, h.2.1, Nat.le_trans h.2.2 l⟩
theorem datum_ok (s : RS K μ H st) : ∀ (n : Nat) (x : Val) (d : PyData) (X : V), datum st n x = some d → RV K μ H X x → DOk K H n X d
  | 0, x, d, X, h, r => by
    cases r with
    | non => cases h; exact ⟨.non, rfl, Nat.le_refl _⟩
    | bl => cases h; exact ⟨.bl _, rfl, Nat.le_refl _⟩
    | int => cases h; exact ⟨.int _, rfl, Nat.le_refl _⟩
    | str hx => cases h; exact ⟨.str _, by simpa [PyData.canLay0] using hx, Nat.le_refl _⟩
    | tup _ _ => cases h
    | rol _ _ => cases h
    | ref _ => cases h
  | n + 1, x, d, X, h, r => by
    cases r with
    | non => exact dok_up (datum_ok s n _ d _ h .non) (Nat.le_succ _)
    | bl => exact dok_up (datum_ok s n _ d _ h .bl) (Nat.le_succ _)
    | int => exact dok_up (datum_ok s n _ d _ h .int) (Nat.le_succ _)
    | str hx => exact dok_up (datum_ok s n _ d _ h (.str hx)) (Nat.le_succ _)
    | @tup a xs l hq rl =>
      have h' : (l.mapM (datum st n)).map .tuple = some d := h
      obtain ⟨ds, h1, rfl⟩ := Option.map_eq_some_iff.mp h'
      obtain ⟨q1, q2, q3⟩ := dok_all (n := n) (fun x d X => datum_ok s n x d X) h1 rl
      exact ⟨.tup (.inl (.inl hq)) q1, by simpa [PyData.canLay0] using q2, by simp only [PyData.depth]; omega⟩
    | @rol a xs l hq rl =>
      have h' : (l.mapM (datum st n)).map .list = some d := h
      obtain ⟨ds, h1, rfl⟩ := Option.map_eq_some_iff.mp h'
      obtain ⟨q1, q2, q3⟩ := dok_all (n := n) (fun x d X => datum_ok s n x d X) h1 rl
      exact ⟨.lst hq.seq q1, by simpa [PyData.canLay0] using q2, by simp only [PyData.depth]; omega⟩
    | @ref a r hr =>
      have h' : (match st[r]? with
        | some (.lst l) => (l.mapM (datum st n)).map .list
        | _ => none) = some d := h
      split at h'
      · rename_i l hl
        obtain ⟨ds, h1, rfl⟩ := Option.map_eq_some_iff.mp h'
        obtain ⟨xs, e1, rl⟩ := s.lst hl hr
        obtain ⟨q1, q2, q3⟩ := dok_all (n := n) (fun x d X => datum_ok s n x d X) h1 rl
        exact ⟨.lst (.inl (.inl e1)) q1, by simpa [PyData.canLay0] using q2, by simp only [PyData.depth]; omega⟩
      · cases h'
theorem shaped_of {n : Nat} {X : V} {d : PyData} (h : DOk K H n X d) (l : n ≤ 64) : SeqAt.shaped d = true := by
  unfold SeqAt.shaped
  rw [h.2.1, decide_eq_true (Nat.le_trans h.2.2 l)]
  rfl
end

/-! ### == -/
/-- a tuple and the empty one -/
def rEq0 (K : Frg) (neg : Bool) : R2 := fun x y H Q => ∃ a b xs, x = .ref a ∧ y = .ref b ∧ SqT K H a xs ∧ SqT K H b [] ∧ Q (.bl (if neg then !xs.isEmpty else xs.isEmpty)) H
theorem op_eq0 {X : Cx} (hu : X.A.units < cLine) : OpR X (compareOp .Eq) (rEq0 X.K false) := by
  intro pins s σ H x y v u Q I rx ry h
  obtain ⟨a, b, xs, rfl, rfl, ha, hb, q⟩ := h
  cases rx
  cases ry
  obtain ⟨its, r, p, _⟩ := I.tuple ha
  obtain ⟨its2, r2, p2, _⟩ := I.tuple hb
  cases r2
  refine SeqAt.eq_tupleAt (e := fun _ => true) p p2 hu (fun j h1 h2 => absurd h2 (Nat.not_lt_zero _)) ⟨.bl _, H, I, rfl, ?_⟩
  cases r with
  | nil => exact q
  | cons _ _ => exact q
theorem op_ne0 {X : Cx} (hu : X.A.units < cLine) : OpR X (compareOp .NotEq) (rEq0 X.K true) := by
  intro pins s σ H x y v u Q I rx ry h
  obtain ⟨a, b, xs, rfl, rfl, ha, hb, q⟩ := h
  cases rx
  cases ry
  obtain ⟨its, r, p, _⟩ := I.tuple ha
  obtain ⟨its2, r2, p2, _⟩ := I.tuple hb
  cases r2
  refine SeqAt.RcNeAt.tuples (e := fun _ => true) p p2 hu (fun j h1 h2 => absurd h2 (Nat.not_lt_zero _)) _ _ _ _ ⟨.bl _, H, I, rfl, ?_⟩
  cases r with
  | nil => exact q
  | cons _ _ => exact q
def rEqAll (K : Frg) : R2 := fun x y H Q => rEq0 K false x y H Q ∨ rEqD K x y H Q
def rNeAll (K : Frg) : R2 := fun x y H Q => rEq0 K true x y H Q ∨ rNeD K x y H Q
theorem op_eqAll {X : Cx} (hu : X.A.units + 64 < cLine) : OpR X (compareOp .Eq) (rEqAll X.K) := (op_eq0 (by omega)).or (op_eqD hu)
theorem op_neAll {X : Cx} (hu : X.A.units + 64 < cLine) : OpR X (compareOp .NotEq) (rNeAll X.K) := (op_ne0 (by omega)).or (op_neD hu)
section
variable {cla : Str → Option Addr} {K : Frg}
/-- a comparison by its function, as a value -/
abbrev cmpV (f : Val → Val → M Bool) : Val → Val → M Val := fun x y => bnd (f x y) fun b => ret (.bl b)
theorem eqVal_gen {x y : Val} (h : ∀ xs, x = .tup xs → y = .tup [] → False) (st : Sto) : eqVal x y st = match datum st 60 x, datum st 60 y with
    | some d, some e => .ok (PyData.eqv d e) st
    | _, _ => .bad := by
  unfold eqVal
  split
  · rename_i xs; exact (h xs rfl rfl).elim
  · rfl
theorem eq_cases {E : XK} {μ : List Addr} {H : Hp} {st : Sto} {x y : Val} {X Y : V} {Q : VK} (neg : Bool) (s : RS K μ H st) (rx : RV K μ H X x) (ry : RV K μ H Y y)
    (P : PV cla K E μ H (bnd (eqVal x y) (fun b => ret (.bl (if neg then !b else b))) st) Q) : rEq0 K neg X Y H Q ∨ ∃ d e, Dp K H X d ∧ Dp K H Y e ∧ SeqAt.shaped d = true ∧ SeqAt.shaped e = true ∧ Q (.bl (if neg then !PyData.eqv d e else PyData.eqv d e)) H := by
  by_cases c : ∃ xs, x = .tup xs ∧ y = .tup []
  · obtain ⟨xs, rfl, rfl⟩ := c
    cases rx with
    | tup h1 r1 => cases ry with
      | tup h2 r2 =>
        cases r2
        refine .inl ⟨_, _, _, rfl, rfl, .inl (.inl h1), .inl (.inl h2), ?_⟩
        have P' : PV cla K E μ H (ret (.bl (if neg then !xs.isEmpty else xs.isEmpty)) st) Q := P
        have q := P'.ret s .bl
        cases r1 with
        | nil => exact q
        | cons _ _ => exact q
  · have g := eqVal_gen (x := x) (y := y) (fun xs h1 h2 => c ⟨xs, h1, h2⟩) st
    cases hx : datum st 60 x with
    | none =>
      simp only [hx] at g
      unfold PV at P
      rw [bnd_bad g] at P
      exact P.elim
    | some d =>
      cases hy : datum st 60 y with
      | none =>
        simp only [hx, hy] at g
        unfold PV at P
        rw [bnd_bad g] at P
        exact P.elim
      | some e =>
        simp only [hx, hy] at g
        have P' : PV cla K E μ H (ret (.bl (if neg then !PyData.eqv d e else PyData.eqv d e)) st) Q := by
          unfold PV at P
          rw [bnd_ok g] at P
          exact P
        have q1 := datum_ok s _ _ _ _ hx rx
        have q2 := datum_ok s _ _ _ _ hy ry
        exact .inr ⟨d, e, q1.1, q2.1, shaped_of q1 (by decide), shaped_of q2 (by decide), P'.ret s .bl⟩
theorem bnd_ret {α β : Type} {m : M α} {g : α → β} {γ : Type} {f : β → M γ} : bnd (bnd m fun a => ret (g a)) f = bnd m fun a => f (g a) := by
  funext st
  unfold bnd
  cases m st <;> rfl
theorem ok_eq : Ok2 cla K (rEqAll K) (cmpV (compare .eq)) := fun E μ H st x y X Y Q s rx ry P => eq_cases false s rx ry P
theorem ok_ne : Ok2 cla K (rNeAll K) (cmpV (compare .ne)) := fun E μ H st x y X Y Q s rx ry P => eq_cases true s rx ry (by
  have e : cmpV (compare .ne) x y = bnd (eqVal x y) (fun b => ret (.bl (!b))) := bnd_ret
  rw [e] at P
  exact P)
def rLtAll : R2 := fun x y H Q => rI0 (fun i j => .bl (decide (i < j))) x y H Q ∨ ∃ i j, x = .str i ∧ y = .str j ∧ Q (.bl (decide (i.cps.toList < j.cps.toList))) H
theorem op_ltAll {X : Cx} : OpR X (compareOp .Lt) rLtAll := op_lt.or op_lt_str
theorem ok_lt : Ok2 cla K rLtAll (cmpV (compare .lt)) := by
  intro E μ H st x y X Y Q s rx ry P
  cases rx with
  | int => cases ry with
    | int => exact .inl ⟨_, _, rfl, rfl, P.ret s .bl⟩
    | _ => exact P.elim
  | str hx => cases ry with
    | str hy => exact .inr ⟨_, _, rfl, rfl, P.ret s .bl⟩
    | _ => exact P.elim
  | _ => exact P.elim
theorem ok_cmpI {f : Val → Val → M Bool} {g : Int → Int → Bool} (h : ∀ i j, f (.int i) (.int j) = ret (g i j)) (h2 : ∀ x y, (∀ i j, x = .int i → y = .int j → False) → f x y = fail) : Ok2 cla K (rI0 fun i j => .bl (g i j)) (cmpV f) := by
  intro E μ H st x y X Y Q s rx ry P
  by_cases c : ∃ i j, x = .int i ∧ y = .int j
  · obtain ⟨i, j, rfl, rfl⟩ := c
    cases rx
    cases ry
    have e : cmpV f (.int i) (.int j) = ret (.bl (g i j)) := by unfold cmpV; rw [h]; rfl
    rw [e] at P
    exact ⟨i, j, rfl, rfl, P.ret s .bl⟩
  · have e : cmpV f x y = fail := by unfold cmpV; rw [h2 x y fun i j e1 e2 => c ⟨i, j, e1, e2⟩]; rfl
    rw [e] at P
    exact P.elim
theorem ok_le : Ok2 cla K (rI0 fun i j => .bl (decide (i ≤ j))) (cmpV (compare .le)) := ok_cmpI (fun _ _ => rfl) fun x y h => by
  cases x <;> cases y <;> first | rfl | exact (h _ _ rfl rfl).elim
theorem ok_gt : Ok2 cla K (rI0 fun i j => .bl (decide (j < i))) (cmpV (compare .gt)) := ok_cmpI (fun _ _ => rfl) fun x y h => by
  cases x <;> cases y <;> first | rfl | exact (h _ _ rfl rfl).elim
theorem ok_ge : Ok2 cla K (rI0 fun i j => .bl (decide (j ≤ i))) (cmpV (compare .ge)) := ok_cmpI (fun _ _ => rfl) fun x y h => by
  cases x <;> cases y <;> first | rfl | exact (h _ _ rfl rfl).elim
end
end Mg

/-! Mg5: built-ins by their values. -/
namespace Mg
open PySem PySem.Spec PyProof.Rows L2
section
variable {cla : Str → Option Addr} {K : Frg}
/-- a function of one value -/
def Ok1 (cla : Str → Option Addr) (K : Frg) (r : V → Hp → VK → Prop) (f : Val → M Val) : Prop :=
  ∀ (E : XK) (μ : List Addr) (H : Hp) (st : Sto) (x : Val) (X : V) (Q : VK), RS K μ H st → RV K μ H X x → PV cla K E μ H (f x st) Q → r X H Q

/-! ### len, abs, int, str -/
def rLen (K : Frg) : V → Hp → VK → Prop := fun x H Q => ∃ n, LenV K x H n ∧ Q (.int n) H
theorem ok_len : Ok1 cla K (fun x H Q => (∃ n : Nat, LenV K x H n ∧ Q (.int n) H) ∨ ∃ (d : Addr), x = .ref d ∧ ((∃ kvs, H d = some (.dK kvs) ∧ Q (.int kvs.length) H) ∨ ∃ kvs, H d = some (.dT kvs) ∧ Q (.int kvs.length) H)) (op1 .len) := by
  intro E μ H st x X Q s rx P
  cases rx with
  | @str x hx =>
    by_cases c : x.length ≤ sizeLine
    · rw [show op1 .len (.str x) = ret (.int x.length) from if_pos c] at P
      exact .inl ⟨_, ⟨c, rfl⟩, P.ret s .int⟩
    · rw [show op1 .len (.str x) = fail from if_neg c] at P
      exact P.elim
  | tup hq r => exact .inl ⟨_, .inr ⟨_, .inl (.inl hq), rfl⟩, P.ret s (by rw [r.length]; exact .int)⟩
  | rol hq r => exact .inl ⟨_, .inl ⟨_, hq.seq, rfl⟩, P.ret s (by rw [r.length]; exact .int)⟩
  | @ref a r hr =>
    cases e : st[r]? with
    | none => rw [show op1 .len (.ref r) st = .bad by unfold op1; simp only [e]] at P; exact P.elim
    | some c =>
      cases c with
      | lst l =>
        rw [show op1 .len (.ref r) st = .ok (.int l.length) st by unfold op1; simp only [e]] at P
        obtain ⟨xs, e1, r1⟩ := s.lst e hr
        exact .inl ⟨_, .inl ⟨_, .inl (.inl e1), rfl⟩, P _ _ (Ext.refl _ _) s _ (by rw [r1.length]; exact .int)⟩
      | dct t l =>
        rw [show op1 .len (.ref r) st = .ok (.int l.length) st by unfold op1; simp only [e]] at P
        cases t with
        | false =>
          obtain ⟨kvs, e1, r1⟩ := s.cell r _ a e hr
          exact .inr ⟨_, rfl, .inl ⟨kvs, e1, P _ _ (Ext.refl _ _) s _ (by rw [Paired.length r1]; exact .int)⟩⟩
        | true =>
          obtain ⟨kvs, e1, r1⟩ := s.cell r _ a e hr
          exact .inr ⟨_, rfl, .inr ⟨kvs, e1, P _ _ (Ext.refl _ _) s _ (by rw [Paired.length r1]; exact .int)⟩⟩
      | ins c fs => rw [show op1 .len (.ref r) st = .bad by unfold op1; simp only [e]] at P; exact P.elim
  | _ => exact P.elim
theorem ok_abs : Ok1 cla K (fun x H Q => ∃ i, x = .int i ∧ Q (.int (if i < 0 then -i else i)) H) (op1 .abs) := by
  intro E μ H st x X Q s rx P
  cases rx with
  | int => exact ⟨_, rfl, P.ret s .int⟩
  | _ => exact P.elim
theorem ok_int1 : Ok1 cla K (fun x H Q => (∃ i, x = .int i ∧ Q (.int i) H) ∨ ∃ k, x = .bl k ∧ Q (.int (if k then 1 else 0)) H) (op1 .int) := by
  intro E μ H st x X Q s rx P
  cases rx with
  | int => exact .inl ⟨_, rfl, P.ret s .int⟩
  | bl => exact .inr ⟨_, rfl, P.ret s .int⟩
  | _ => exact P.elim
theorem strOk_toString (i : Int) : PyData.strOk (Str.ofString (toString i)) = true := by
  refine strOk_mem.mpr fun c hc => ?_
  rw [show (Str.ofString (toString i)).cps.toList = (toString i).toList.map Char.toNat from PyProof.Rows.signs_ofString _] at hc
  obtain ⟨ch, _, rfl⟩ := List.mem_map.mp hc
  have h := ch.valid
  simp only [UInt32.isValidChar, Nat.isValidChar] at h
  have : ch.toNat = ch.val.toNat := rfl
  omega
theorem ok_str1 : Ok1 cla K (fun x H Q => ∃ i, x = .int i ∧ i.natAbs.log2 < 1920 ∧ Q (.str (toString i)) H) (op1 .str) := by
  intro E μ H st x X Q s rx P
  cases rx with
  | @int i =>
    by_cases c : i.natAbs.log2 < 1920
    · rw [show op1 .str (.int i) = ret (.str (toString i)) from if_pos c] at P
      exact ⟨_, rfl, c, P.ret s (.str (strOk_toString i))⟩
    · rw [show op1 .str (.int i) = fail from if_neg c] at P
      exact P.elim
  | _ => exact P.elim
theorem ok_max2 : Ok2 cla K (fun x y H Q => ∃ i j, x = .int i ∧ y = .int j ∧ Q (.int (if j > i then j else i)) H) (op2 .max) := by
  intro E μ H st x y X Y Q s rx ry P
  cases rx with
  | int => cases ry with
    | int => exact ⟨_, _, rfl, rfl, P.ret s .int⟩
    | _ => exact P.elim
  | _ => exact P.elim
theorem ok_min2 : Ok2 cla K (fun x y H Q => ∃ i j, x = .int i ∧ y = .int j ∧ Q (.int (if j < i then j else i)) H) (op2 .min) := by
  intro E μ H st x y X Y Q s rx ry P
  cases rx with
  | int => cases ry with
    | int => exact ⟨_, _, rfl, rfl, P.ret s .int⟩
    | _ => exact P.elim
  | _ => exact P.elim

/-! ### all, any, sum, max, min of a list -/
theorem rvs_ints {μ : List Addr} {H : Hp} : ∀ {l : List Val} {ns : List Int} {xs : List V}, intsV l = some ns → RVs K μ H xs l → xs = ns.map V.int
  | [], ns, xs, h, r => by cases h; exact r.none
  | x :: l, ns, xs, h, r => by
    cases r with
    | cons a b =>
      cases a with
      | int =>
        have h' : (intsV l).map (_ :: ·) = some ns := h
        obtain ⟨ms, h1, rfl⟩ := Option.map_eq_some_iff.mp h'
        rw [rvs_ints h1 b]
        rfl
      | _ => cases h
theorem rvs_bools {μ : List Addr} {H : Hp} : ∀ {l : List Val} {ns : List Bool} {xs : List V}, boolsV l = some ns → RVs K μ H xs l → xs = ns.map V.bl
  | [], ns, xs, h, r => by cases h; exact r.none
  | x :: l, ns, xs, h, r => by
    cases r with
    | cons a b =>
      cases a with
      | bl =>
        have h' : (boolsV l).map (_ :: ·) = some ns := h
        obtain ⟨ms, h1, rfl⟩ := Option.map_eq_some_iff.mp h'
        rw [rvs_bools h1 b]
        rfl
      | _ => cases h
theorem maxI_max : ∀ {ns : List Int}, ns ≠ [] → maxI ns ∈ ns ∧ ∀ y ∈ ns, y ≤ maxI ns
  | [], h => absurd rfl h
  | [x], _ => ⟨by simp [maxI], by simp [maxI]⟩
  | x :: y :: r, _ => by
    obtain ⟨h1, h2⟩ := maxI_max (ns := y :: r) (by simp)
    have e : maxI (x :: y :: r) = if maxI (y :: r) > x then maxI (y :: r) else x := rfl
    rw [e]
    split
    · refine ⟨List.mem_cons_of_mem _ h1, fun z hz => ?_⟩
      rcases List.mem_cons.mp hz with q | q
      · omega
      · exact h2 z q
    · refine ⟨List.mem_cons_self .., fun z hz => ?_⟩
      rcases List.mem_cons.mp hz with q | q
      · omega
      · have := h2 z q; omega
theorem minI_min : ∀ {ns : List Int}, ns ≠ [] → minI ns ∈ ns ∧ ∀ y ∈ ns, minI ns ≤ y
  | [], h => absurd rfl h
  | [x], _ => ⟨by simp [minI], by simp [minI]⟩
  | x :: y :: r, _ => by
    obtain ⟨h1, h2⟩ := minI_min (ns := y :: r) (by simp)
    have e : minI (x :: y :: r) = if minI (y :: r) < x then minI (y :: r) else x := rfl
    rw [e]
    split
    · refine ⟨List.mem_cons_of_mem _ h1, fun z hz => ?_⟩
      rcases List.mem_cons.mp hz with q | q
      · omega
      · exact h2 z q
    · refine ⟨List.mem_cons_self .., fun z hz => ?_⟩
      rcases List.mem_cons.mp hz with q | q
      · omega
      · have := h2 z q; omega
/-- a function of one list -/
def OkL (cla : Str → Option Addr) (K : Frg) (r : List V → Hp → VK → Prop) (f : LV → M Val) : Prop :=
  ∀ (E : XK) (μ : List Addr) (H : Hp) (st : Sto) (H0 : Hp) (lv : LV) (X : V) (Q : VK), RS K μ H st → RL K H0 μ H X lv → PV cla K E μ H (f lv st) Q → r [X] H Q
/-- .. of a list (a tuple is another thing for these rules) -/
def OkLl (cla : Str → Option Addr) (K : Frg) (r : List V → Hp → VK → Prop) (f : List Val → M Val) : Prop :=
  ∀ (E : XK) (μ : List Addr) (H : Hp) (st : Sto) (xs : List V) (l : List Val) (a : Addr) (Q : VK), RS K μ H st → SqL K H a xs → RVs K μ H xs l → PV cla K E μ H (f l st) Q → r [.ref a] H Q
theorem ok_all : OkLl cla K (rAll K) (opL .all) := by
  intro E μ H st xs l a Q s hq r P
  cases e : boolsV l with
  | none => rw [show opL .all l = fail by unfold opL; simp only [e]] at P; exact P.elim
  | some bs =>
    rw [show opL .all l = ret (.bl (bs.all id)) by unfold opL; simp only [e]] at P
    exact ⟨a, bs, rfl, by rw [← rvs_bools e r]; exact hq, P.ret s .bl⟩
theorem ok_any : OkLl cla K (rAny K) (opL .any) := by
  intro E μ H st xs l a Q s hq r P
  cases e : boolsV l with
  | none => rw [show opL .any l = fail by unfold opL; simp only [e]] at P; exact P.elim
  | some bs =>
    rw [show opL .any l = ret (.bl (bs.any id)) by unfold opL; simp only [e]] at P
    exact ⟨a, bs, rfl, by rw [← rvs_bools e r]; exact hq, P.ret s .bl⟩
theorem ok_sum : OkLl cla K (rSum K) (opL .sum) := by
  intro E μ H st xs l a Q s hq r P
  cases e : intsV l with
  | none => rw [show opL .sum l = fail by unfold opL; simp only [e]] at P; exact P.elim
  | some bs =>
    rw [show opL .sum l = ret (.int bs.sum) by unfold opL; simp only [e]] at P
    exact ⟨a, bs, rfl, by rw [← rvs_ints e r]; exact hq, P.ret s .int⟩
theorem ok_maxL : OkLl cla K (rMax K) (opL .max) := by
  intro E μ H st xs l a Q s hq r P
  cases e : intsV l with
  | none => rw [show opL .max l = fail by unfold opL; simp only [e]] at P; exact P.elim
  | some ns =>
    by_cases c : ns = []
    · rw [show opL .max l = fail by unfold opL; simp only [e]; rw [if_pos c]] at P; exact P.elim
    · rw [show opL .max l = ret (.int (maxI ns)) by unfold opL; simp only [e]; rw [if_neg c]] at P
      refine ⟨a, ns, rfl, by rw [← rvs_ints e r]; exact hq, List.length_pos_iff.mpr c, fun m hm hle => ?_⟩
      obtain ⟨h1, h2⟩ := maxI_max c
      have : m = maxI ns := Int.le_antisymm (h2 m hm) (hle _ h1)
      rw [this]
      exact P.ret s .int
theorem ok_minL : OkLl cla K (rMin K) (opL .min) := by
  intro E μ H st xs l a Q s hq r P
  cases e : intsV l with
  | none => rw [show opL .min l = fail by unfold opL; simp only [e]] at P; exact P.elim
  | some ns =>
    by_cases c : ns = []
    · rw [show opL .min l = fail by unfold opL; simp only [e]; rw [if_pos c]] at P; exact P.elim
    · rw [show opL .min l = ret (.int (minI ns)) by unfold opL; simp only [e]; rw [if_neg c]] at P
      refine ⟨a, ns, rfl, by rw [← rvs_ints e r]; exact hq, List.length_pos_iff.mpr c, fun m hm hle => ?_⟩
      obtain ⟨h1, h2⟩ := minI_min c
      have : m = minI ns := Int.le_antisymm (hle _ h1) (h2 m hm)
      rw [this]
      exact P.ret s .int
def rTuple (K : Frg) : List V → Hp → VK → Prop := fun xs H Q => ∃ p ys, xs = [.ref p] ∧ ((SqL K H p ys ∧ ∀ l, H l = none → Q (.ref l) (upd H l (.tup ys))) ∨ (SqT K H p ys ∧ Q (.ref p) H))
theorem ok_tuple : OkL cla K (rTuple K) (opLV .tuple) := by
  intro E μ H st H0 lv X Q s r P
  cases r with
  | ro h r => exact ⟨_, _, rfl, .inl ⟨h.seq, fun p hp => P.tup s r hp⟩⟩
  | f h _ _ r => exact ⟨_, _, rfl, .inl ⟨.inl (.inl h), fun p hp => P.tup s r hp⟩⟩
  | s h r _ => exact ⟨_, _, rfl, .inl ⟨.inl (.inl h), fun p hp => P.tup s r hp⟩⟩
  | t h r => exact ⟨_, _, rfl, .inr ⟨.inl (.inl h), P.ret s (.tup h r)⟩⟩
theorem ok_lenL : OkL cla K (fun xs H Q => ∃ x n, xs = [x] ∧ LenV K x H n ∧ Q (.int n) H) (opLV .len) := by
  intro E μ H st H0 lv X Q s r P
  cases r with
  | ro h r => exact ⟨_, _, rfl, .inl ⟨_, h.seq, rfl⟩, P.ret s (by rw [r.length]; exact .int)⟩
  | f h _ _ r => exact ⟨_, _, rfl, .inl ⟨_, .inl (.inl h), rfl⟩, P.ret s (by rw [r.length]; exact .int)⟩
  | s h r _ => exact ⟨_, _, rfl, .inl ⟨_, .inl (.inl h), rfl⟩, P.ret s (by rw [r.length]; exact .int)⟩
  | t h r => exact ⟨_, _, rfl, .inr ⟨_, .inl (.inl h), rfl⟩, P.ret s (by rw [r.length]; exact .int)⟩

theorem OkLl.all {r : List V → Hp → VK → Prop} {g : List Val → M Val} {f : LV → M Val} (h : OkLl cla K r g) (h1 : ∀ l, f (.t l) = fail) (h2 : ∀ lv, (∀ l, lv ≠ .t l) → f lv = g lv.xs) : OkL cla K r f := by
  intro E μ H st H0 lv x Q s rl P
  cases rl with
  | t _ _ => rw [h1] at P; exact P.elim
  | f e _ _ rv => rw [h2 _ (fun _ z => by cases z)] at P; exact h E μ H st _ _ _ Q s (.inl (.inl e)) rv P
  | ro e rv => rw [h2 _ (fun _ z => by cases z)] at P; exact h E μ H st _ _ _ Q s e.seq rv P
  | s e rv _ => rw [h2 _ (fun _ z => by cases z)] at P; exact h E μ H st _ _ _ Q s (.inl (.inl e)) rv P
theorem ok_allV : OkL cla K (rAll K) (opLV .all) := ok_all.all (fun _ => rfl) fun lv h => by cases lv <;> first | rfl | exact (h _ rfl).elim
theorem ok_anyV : OkL cla K (rAny K) (opLV .any) := ok_any.all (fun _ => rfl) fun lv h => by cases lv <;> first | rfl | exact (h _ rfl).elim
theorem ok_sumV : OkL cla K (rSum K) (opLV .sum) := ok_sum.all (fun _ => rfl) fun lv h => by cases lv <;> first | rfl | exact (h _ rfl).elim
theorem ok_maxV : OkL cla K (rMax K) (opLV .max) := ok_maxL.all (fun _ => rfl) fun lv h => by cases lv <;> first | rfl | exact (h _ rfl).elim
theorem ok_minV : OkL cla K (rMin K) (opLV .min) := ok_minL.all (fun _ => rfl) fun lv h => by cases lv <;> first | rfl | exact (h _ rfl).elim

/-! ### items, slices -/
theorem atI_rv {μ : List Addr} {H : Hp} {xs : List V} {l : List Val} {i : Int} {v : Val} (r : RVs K μ H xs l) (h : atI l i = some v) : ∃ x, atI xs i = some x ∧ RV K μ H x v := by
  unfold atI at h ⊢
  rw [r.length]
  cases e : ixN l.length i with
  | none => rw [e] at h; cases h
  | some j =>
    rw [e] at h
    exact r.get (show l[j]? = some v from h)
theorem idx_cases {E : XK} {μ : List Addr} {H : Hp} {st : Sto} {l : List Val} {i : Int} {Q : VK} (P : PV cla K E μ H (idx l i st) Q) (s : RS K μ H st) {xs : List V} (r : RVs K μ H xs l) : ∃ x, atI xs i = some x ∧ Q x H := by
  cases e : atI l i with
  | none => rw [show idx l i = fail by unfold idx; simp only [e]] at P; exact P.elim
  | some v =>
    rw [show idx l i = ret v by unfold idx; simp only [e]] at P
    obtain ⟨x, h1, h2⟩ := atI_rv r e
    exact ⟨x, h1, P.ret s h2⟩
theorem rvs_cut {μ : List Addr} {H : Hp} {xs : List V} {l : List Val} (r : RVs K μ H xs l) (lo hi : Option Int) : RVs K μ H (cutV xs lo hi) (cutL l lo hi) := by
  unfold cutV cutL
  rw [r.length]
  exact (r.drop _).take _
theorem strOk_cut {x : Str} (h : PyData.strOk x = true) (lo hi : Option Int) : PyData.strOk (cutS x lo hi) = true :=
  strOk_of fun c hc => strOk_mem.mp h c (List.mem_of_mem_drop (List.mem_of_mem_take hc))
def OkS (cla : Str → Option Addr) (K : Frg) (r : V → Option Int → Option Int → Hp → VK → Prop) (f : Val → Option Int → Option Int → M Val) : Prop :=
  ∀ (E : XK) (μ : List Addr) (H : Hp) (st : Sto) (x : Val) (lo hi : Option Int) (X : V) (Q : VK), RS K μ H st → RV K μ H X x → PV cla K E μ H (f x lo hi st) Q → r X lo hi H Q
def rSlAll (K : Frg) : V → Option Int → Option Int → Hp → VK → Prop := fun x lo hi H Q => rSlA K x lo hi H Q ∨ rSlS x lo hi H Q ∨ rSlL K x lo hi H Q
theorem sl_all {X : Cx} : SlR X (rSlAll X.K) := sl_tupA.or (sl_str.or sl_list)
theorem sIx_whole {l : List Val} {lo hi : Option Int} (h : HT.sIx l.length 0 lo = 0 ∧ HT.sIx l.length l.length hi = l.length) : cutL l lo hi = l := by
  unfold cutL
  rw [h.1, h.2]
  simp
theorem ok_sl : OkS cla K (rSlAll K) opSl := by
  intro E μ H st x lo hi X Q s rx P
  cases rx with
  | @str x hx =>
    by_cases c : x.length ≤ sizeLine
    · rw [show opSl (.str x) lo hi = ret (.str (cutS x lo hi)) from if_pos c] at P
      exact .inr (.inl ⟨_, rfl, c, P.ret s (.str (strOk_cut hx _ _))⟩)
    · rw [show opSl (.str x) lo hi = fail from if_neg c] at P
      exact P.elim
  | @tup a xs l hq r =>
    refine .inl ⟨_, _, rfl, .inl (.inl hq), fun w => ?_, fun _ p hp => P.tup s (rvs_cut r lo hi) hp⟩
    have P' : PV cla K E μ H (ret (.tup l) st) Q := by
      rw [r.length] at w
      have e := sIx_whole w
      rw [show opSl (.tup l) lo hi = ret (.tup (cutL l lo hi)) from rfl, e] at P
      exact P
    exact P'.ret s (.tup hq r)
  | @ref a r hr =>
    cases e : lget st r with
    | none => rw [show opSl (.ref r) lo hi st = .bad by unfold opSl; simp only [e]] at P; exact P.elim
    | some l =>
      rw [show opSl (.ref r) lo hi st = allocL (cutL l lo hi) st by unfold opSl; simp only [e]] at P
      obtain ⟨xs, e1, r1⟩ := s.lst (lget_some e) hr
      exact .inr (.inr ⟨_, _, rfl, .inl (.inl e1), fun p hp => P.alloc s (rvs_cut r1 lo hi) hp⟩)
  | _ => exact P.elim
end
end Mg

/-! Mg6: dicts read, isinstance, methods. -/
namespace Mg
open PySem PySem.Spec PyProof.Rows L2
/-! ### dicts -/
def rIxD : R2 := fun x y H Q => ∃ a v, x = .ref a ∧ DGet H a y (some v) ∧ Q v H
theorem ix_dict {X : Cx} (hu : X.A.units + 1 < cLine) : IxR X rIxD := by
  intro value slice pins s σ H x y v u Q I rx ry h hs
  obtain ⟨a, z, rfl, g, q⟩ := h
  cases rx
  have hT := dict_typeIs I g
  unfold subscriptTail
  refine wpAny_bind ?_
  rw [getitemInPython_of_ne hT.not_modules]
  refine wpAny_bind (wpAny_specialOf hT PySem.F.slot_dict_getitem.lookup ?_)
  have fin : wpAny (model X.prog X.w) X.A (subscripted slice false (.ref a) u) (fun r s₃ => wpAny (model X.prog X.w) X.A (letTemporaryGo value (.ref a) r >>= fun _ => pure r) (EP X pins σ Q) X.xe s₃) X.xe s := by
    rw [hs]
    exact wpAny_operating (d_getItem hu I g ry fun w' s' I' rw' => wpAny_bind (wpAny_letTemporaryGo (wpAny_pure ⟨z, H, I', rw', q⟩)))
  first
    | exact wpAny_pure (wpAny_bind fin)
    | exact wpAny_bind (wpAny_pure (wpAny_bind fin))
def rInDct (neg : Bool) : R2 := fun x y H Q => ∃ a o, y = .ref a ∧ DGet H a x o ∧ Q (.bl (if neg then !o.isSome else o.isSome)) H
theorem op_inDct {X : Cx} (hu : X.A.units + 1 < cLine) : OpR X (compareOp .In) (rInDct false) := by
  intro pins s σ H x y v u Q I rx ry h
  obtain ⟨a, o, rfl, g, q⟩ := h
  cases ry
  exact d_in hu I g rx fun s3 I3 => ⟨.bl o.isSome, H, I3, rfl, q⟩
theorem op_notInDct {X : Cx} (hu : X.A.units + 1 < cLine) : OpR X (compareOp .NotIn) (rInDct true) := by
  intro pins s σ H x y v u Q I rx ry h
  obtain ⟨a, o, rfl, g, q⟩ := h
  cases ry
  exact d_notIn hu I g rx fun s3 I3 => ⟨.bl (!o.isSome), H, I3, rfl, q⟩
theorem keyV_inj : ∀ {a b : Key}, keyV a = keyV b → a = b
  | .inl _, .inl _, h => by injection h with h; rw [h]
  | .inr _, .inr _, h => by injection h with h; rw [h]
  | .inl _, .inr _, h => nomatch h
  | .inr _, .inl _, h => nomatch h
theorem keyVs_inj : ∀ {a b : List Key}, a.map keyV = b.map keyV → a = b
  | [], [], _ => rfl
  | [], _ :: _, h => nomatch h
  | _ :: _, [], h => nomatch h
  | x :: r, y :: s, h => by
    injection h with h1 h2
    rw [keyV_inj h1, keyVs_inj h2]
theorem keyT_inj {a b : List Key} (h : keyT a = keyT b) : a = b := by
  injection h with h
  exact keyVs_inj h
section
variable {K : Frg} {μ : List Addr} {H : Hp} {st : Sto}
theorem key0_of {X : V} {k : Val} (r : RV K μ H X k) (h : isKey0 k) : ∃ q : Key, X = kV q ∧ k = keyV q ∧ KOk q := by
  cases r with
  | int => exact ⟨.inl _, rfl, rfl, trivial⟩
  | str hx => exact ⟨.inr _, rfl, rfl, hx⟩
  | _ => exact h.elim
theorem keys0_of : ∀ {xs : List V} {l : List Val}, RVs K μ H xs l → (∀ v ∈ l, isKey0 v) → ∃ q : List Key, xs = q.map kV ∧ l = q.map keyV ∧ ∀ x ∈ q, KOk x
  | _, _, .nil, _ => ⟨[], rfl, rfl, fun _ h => nomatch h⟩
  | _, _, .cons a b, h => by
    obtain ⟨q, e1, e2, e3⟩ := key0_of a (h _ (List.mem_cons_self ..))
    obtain ⟨qs, f1, f2, f3⟩ := keys0_of b fun v hv => h v (List.mem_cons_of_mem _ hv)
    exact ⟨q :: qs, by rw [e1, f1]; rfl, by rw [e2, f2]; rfl, fun x hx => by
      rcases List.mem_cons.mp hx with z | z
      · rw [z]; exact e3
      · exact f3 x z⟩
theorem look_of {κ : Type} [DecidableEq κ] {f : κ → Val} {ok : κ → Prop} (inj : ∀ {a b : κ}, f a = f b → a = b) : ∀ {kvs : List (κ × V)} {l : List (Val × Val)} (k : κ), REs K μ H f ok kvs l →
    (∀ v, dlook l (f k) = some v → ∃ z, valV kvs k = some z ∧ RV K μ H z v) ∧ (dlook l (f k) = none → valV kvs k = none)
  | _, _, k, .nil => ⟨fun v h => (nomatch h), fun _ => rfl⟩
  | _, _, k, .cons (a := p) (b := q) (l₁ := ps) (l₂ := qs) a b => by
    classical
    obtain ⟨h1, h2⟩ := look_of inj k b
    obtain ⟨e1, e2, e3⟩ := a
    by_cases c : p.1 = k
    · have d : dlook (q :: qs) (f k) = some q.2 := by
        unfold dlook
        rw [List.find?_cons, decide_eq_true (show q.1 = f k by rw [e1, c])]
        rfl
      rw [d, valV_pos c]
      exact ⟨fun v h => by injection h with h; exact ⟨_, rfl, by rw [← h]; exact e3⟩, fun h => nomatch h⟩
    · have d : dlook (q :: qs) (f k) = dlook qs (f k) := by
        unfold dlook
        rw [List.find?_cons, decide_eq_false (show ¬ q.1 = f k by rw [e1]; exact fun z => c (inj z))]
      rw [d, valV_neg c]
      exact ⟨h1, h2⟩
theorem dget_of (s : RS K μ H st) {r : Nat} {a : Addr} {t : Bool} {l : List (Val × Val)} (e : st[r]? = some (.dct t l)) (hr : μ[r]? = some a) {X : V} {k : Val} (rx : RV K μ H X k) (hk : isKey t k) :
    (∀ v, dlook l k = some v → ∃ z, DGet H a X (some z) ∧ RV K μ H z v) ∧ (dlook l k = none → DGet H a X none) := by
  cases t with
  | false =>
    obtain ⟨kvs, e1, r1⟩ := s.cell r _ a e hr
    obtain ⟨q, f1, f2, _⟩ := key0_of rx hk
    subst f1 f2
    obtain ⟨h1, h2⟩ := look_of keyV_inj q r1
    refine ⟨fun v h => ?_, fun h => ?_⟩
    · obtain ⟨z, g1, g2⟩ := h1 v h
      exact ⟨z, by rw [← g1]; exact .inl ⟨kvs, q, .inl e1, rfl, rfl⟩, g2⟩
    · rw [← h2 h]
      exact .inl ⟨kvs, q, .inl e1, rfl, rfl⟩
  | true =>
    obtain ⟨kvs, e1, r1⟩ := s.cell r _ a e hr
    cases rx with
    | tup ht rs =>
      obtain ⟨q, f1, f2, _⟩ := keys0_of rs hk
      subst f1 f2
      obtain ⟨h1, h2⟩ := look_of keyT_inj q r1
      refine ⟨fun v h => ?_, fun h => ?_⟩
      · obtain ⟨z, g1, g2⟩ := h1 v h
        exact ⟨z, by rw [← g1]; exact .inr ⟨kvs, q, _, .inl e1, rfl, ht, rfl⟩, g2⟩
      · rw [← h2 h]
        exact .inr ⟨kvs, q, _, .inl e1, rfl, ht, rfl⟩
    | _ => exact hk.elim
end
/-! ### items -/
def rIxAll (K : Frg) : R2 := fun x y H Q => rIx K x y H Q ∨ rIxD x y H Q
theorem ix_all {X : Cx} (hu : X.A.units + 1 < cLine) : IxR X (rIxAll X.K) := ix_seq.or (ix_dict hu)
theorem strOk_one {x : Str} (h : PyData.strOk x = true) {i : Int} {c : Nat} (e : atI x.cps.toList i = some c) : PyData.strOk ⟨#[c]⟩ = true := by
  refine strOk_of (l := [c]) fun d hd => ?_
  have : d = c := by simpa using hd
  rw [this]
  unfold atI at e
  cases f : ixN x.cps.toList.length i with
  | none => rw [f] at e; cases e
  | some j => rw [f] at e; exact strOk_mem.mp h c (List.mem_of_getElem? (show x.cps.toList[j]? = some c from e))
section
variable {cla : Str → Option Addr} {K : Frg}
theorem ok_ix : Ok2 cla K (rIxAll K) opIx := by
  intro E μ H st x y X Y Q s rx ry P
  cases rx with
  | tup hq r => cases ry with
    | int => obtain ⟨z, h1, h2⟩ := idx_cases P s r; exact .inl (.inr (.inl ⟨_, _, _, z, rfl, rfl, .inl (.inl hq), h1, h2⟩))
    | _ => exact P.elim
  | rol hq r => cases ry with
    | int => obtain ⟨z, h1, h2⟩ := idx_cases P s r; exact .inl (.inl ⟨_, _, _, z, rfl, rfl, hq.seq, h1, h2⟩)
    | _ => exact P.elim
  | @str x hx => cases ry with
    | @int i =>
      by_cases c : x.length ≤ sizeLine
      · cases e : atI x.cps.toList i with
        | none => rw [show opIx (.str x) (.int i) = fail by unfold opIx; simp only [e]; rw [if_pos c]] at P; exact P.elim
        | some z =>
          rw [show opIx (.str x) (.int i) = ret (.str ⟨#[z]⟩) by unfold opIx; simp only [e]; rw [if_pos c]] at P
          exact .inl (.inr (.inr ⟨_, _, z, rfl, rfl, c, e, P.ret s (.str (strOk_one hx e))⟩))
      · rw [show opIx (.str x) (.int i) = fail from if_neg c] at P
        exact P.elim
    | _ => exact P.elim
  | @ref a r hr =>
    cases e : st[r]? with
    | none => rw [show opIx (.ref r) y st = .bad by unfold opIx; simp only [e]] at P; exact P.elim
    | some c =>
      cases c with
      | ins c fs => rw [show opIx (.ref r) y st = .bad by unfold opIx; simp only [e]] at P; exact P.elim
      | lst l =>
        cases ry with
        | @int i =>
          rw [show opIx (.ref r) (.int i) st = idx l i st by unfold opIx; simp only [e]] at P
          obtain ⟨xs, e1, r1⟩ := s.lst e hr
          obtain ⟨z, h1, h2⟩ := idx_cases P s r1
          exact .inl (.inl ⟨_, _, _, z, rfl, rfl, .inl (.inl e1), h1, h2⟩)
        | non => rw [show opIx (.ref r) .non st = .bad by unfold opIx; simp only [e]] at P; exact P.elim
        | @bl b => rw [show opIx (.ref r) (.bl b) st = .bad by unfold opIx; simp only [e]] at P; exact P.elim
        | @str b _ => rw [show opIx (.ref r) (.str b) st = .bad by unfold opIx; simp only [e]] at P; exact P.elim
        | @tup _ _ b _ _ => rw [show opIx (.ref r) (.tup b) st = .bad by unfold opIx; simp only [e]] at P; exact P.elim
        | @rol _ _ b _ _ => rw [show opIx (.ref r) (.rol b) st = .bad by unfold opIx; simp only [e]] at P; exact P.elim
        | @ref _ b _ => rw [show opIx (.ref r) (.ref b) st = .bad by unfold opIx; simp only [e]] at P; exact P.elim
      | dct t l =>
        classical
        unfold PV opIx at P
        simp only [e] at P
        by_cases c : isKey t y
        · simp only [if_pos c] at P
          obtain ⟨d1, d2⟩ := dget_of s e hr ry c
          cases h : dlook l y with
          | none => simp only [h] at P; exact P.elim
          | some v =>
            simp only [h] at P
            obtain ⟨z, g1, g2⟩ := d1 v h
            exact .inr ⟨_, z, rfl, g1, P _ _ (Ext.refl _ _) s _ g2⟩
        · simp only [if_neg c] at P
          exact P.elim
  | _ => exact P.elim
end
end Mg

/-! Mg7: in, isinstance, methods. -/
namespace Mg
open PySem PySem.Spec PyProof.Rows L2
/-! ### in -/
def rInDs (K : Frg) (neg tup : Bool) : R2 := fun x y H Q => ∃ d ds, Dp K H x d ∧ Dp K H y (if tup then .tuple ds else .list ds) ∧ SeqAt.shaped d = true ∧ SeqAt.shaped (if tup then .tuple ds else .list ds) = true ∧
  Q (.bl (if neg then !(ds.any fun z => PyData.eqv z d) else ds.any fun z => PyData.eqv z d)) H
theorem op_inDs {X : Cx} (hu : X.A.units + 65 < cLine) (tup : Bool) : OpR X (compareOp .In) (rInDs X.K false tup) := by
  intro pins s σ H x y v u Q I rx ry h
  obtain ⟨d, ds, hd, he, sd, se, q⟩ := h
  obtain ⟨as, r1⟩ := Dp.reads I d x v hd rx
  obtain ⟨bs, r2⟩ := Dp.reads I _ y u he ry
  cases tup with
  | false => exact SeqAt.in_list_reads r2 r1 (SeqAt.canLay_of_shaped se) (SeqAt.canLay_of_shaped sd) (room_in_shaped sd hu) ⟨.bl _, H, I, rfl, q⟩
  | true => exact SeqAt.in_tuple_reads r2 r1 (SeqAt.canLay_of_shaped se) (SeqAt.canLay_of_shaped sd) (room_in_shaped sd hu) ⟨.bl _, H, I, rfl, q⟩
theorem op_notInDs {X : Cx} (hu : X.A.units + 65 < cLine) (tup : Bool) : OpR X (compareOp .NotIn) (rInDs X.K true tup) := by
  intro pins s σ H x y v u Q I rx ry h
  obtain ⟨d, ds, hd, he, sd, se, q⟩ := h
  obtain ⟨as, r1⟩ := Dp.reads I d x v hd rx
  obtain ⟨bs, r2⟩ := Dp.reads I _ y u he ry
  cases tup with
  | false => exact SeqAt.notIn_list_reads r2 r1 (SeqAt.canLay_of_shaped se) (SeqAt.canLay_of_shaped sd) (room_in_shaped sd hu) ⟨.bl _, H, I, rfl, q⟩
  | true => exact SeqAt.notIn_tuple_reads r2 r1 (SeqAt.canLay_of_shaped se) (SeqAt.canLay_of_shaped sd) (room_in_shaped sd hu) ⟨.bl _, H, I, rfl, q⟩
def rInSign (neg : Bool) : R2 := fun x y H Q => ∃ (c : Nat) (z : Str), x = .str ⟨#[c]⟩ ∧ y = .str z ∧ Q (.bl (if neg then !decide (c ∈ z.cps.toList) else decide (c ∈ z.cps.toList))) H
def rInAll (K : Frg) (neg : Bool) : R2 := fun x y H Q => rInSign neg x y H Q ∨ rInDs K neg false x y H Q ∨ rInDs K neg true x y H Q ∨ rInDct neg x y H Q
theorem op_inAll {X : Cx} (hu : X.A.units + 65 < cLine) : OpR X (compareOp .In) (rInAll X.K false) := OpR.or (r := rInSign false) op_in_sign ((op_inDs hu false).or ((op_inDs hu true).or (op_inDct (by omega))))
theorem op_notInAll {X : Cx} (hu : X.A.units + 65 < cLine) : OpR X (compareOp .NotIn) (rInAll X.K true) := OpR.or (r := rInSign true) op_notIn_sign ((op_notInDs hu false).or ((op_notInDs hu true).or (op_notInDct (by omega))))
section
variable {cla : Str → Option Addr} {K : Frg}
theorem anyEq_cases {E : XK} {μ : List Addr} {H : Hp} {st : Sto} {x : Val} {l : List Val} {xs : List V} {X : V} {Q : VK} (neg : Bool) (s : RS K μ H st) (rx : RV K μ H X x) (r : RVs K μ H xs l)
    (P : PV cla K E μ H (bnd (anyEq x l) (fun b => ret (.bl (if neg then !b else b))) st) Q) : ∃ d ds, Dp K H X d ∧ DpAll K H xs ds ∧ SeqAt.shaped d = true ∧ PyData.canLayAll0 ds = true ∧ PyData.depthAll ds ≤ 60 ∧
      Q (.bl (if neg then !(ds.any fun z => PyData.eqv z d) else ds.any fun z => PyData.eqv z d)) H := by
  cases hx : datum st 60 x with
  | none =>
    unfold PV at P
    rw [bnd_bad (show anyEq x l st = .bad by unfold anyEq; simp only [hx])] at P
    exact P.elim
  | some d =>
    cases hl : l.mapM (datum st 60) with
    | none =>
      unfold PV at P
      rw [bnd_bad (show anyEq x l st = .bad by unfold anyEq; simp only [hx, hl])] at P
      exact P.elim
    | some ds =>
      unfold PV at P
      rw [bnd_ok (show anyEq x l st = .ok (ds.any fun z => PyData.eqv z d) st by unfold anyEq; simp only [hx, hl])] at P
      have q1 := datum_ok s _ _ _ _ hx rx
      obtain ⟨w1, w2, w3⟩ := dok_all (n := 60) (fun x d X => datum_ok s 60 x d X) hl r
      exact ⟨d, ds, q1.1, w1, shaped_of q1 (by decide), w2, w3, P _ _ (Ext.refl _ _) s _ .bl⟩
theorem shaped_seq {ds : List PyData} (h : PyData.canLayAll0 ds = true) (h2 : PyData.depthAll ds ≤ 60) (t : Bool) : SeqAt.shaped (if t then .tuple ds else .list ds) = true := by
  unfold SeqAt.shaped
  cases t <;> (simp only [PyData.canLay0, PyData.depth, Bool.false_eq_true, if_false, if_true, h, Bool.true_and, decide_eq_true_eq]; omega)
theorem in_cases {E : XK} {μ : List Addr} {H : Hp} {st : Sto} {x y : Val} {X Y : V} {Q : VK} (neg : Bool) (s : RS K μ H st) (rx : RV K μ H X x) (ry : RV K μ H Y y)
    (P : PV cla K E μ H (bnd (innV x y) (fun b => ret (.bl (if neg then !b else b))) st) Q) : rInAll K neg X Y H Q := by
  cases ry with
  | @tup b ys l hy r =>
    have e : innV x (.tup l) = anyEq x l := by cases x <;> rfl
    rw [e] at P
    obtain ⟨d, ds, h1, h2, h3, h4, h5, q⟩ := anyEq_cases neg s rx r P
    exact .inr (.inr (.inl ⟨d, ds, h1, .tup (.inl (.inl hy)) h2, h3, shaped_seq h4 h5 true, q⟩))
  | @ref b r hr =>
    have e : innV x (.ref r) = inRef x r := by cases x <;> rfl
    rw [e] at P
    cases c : st[r]? with
    | none =>
      unfold PV at P
      rw [bnd_bad (show inRef x r st = .bad by unfold inRef; simp only [c])] at P
      exact P.elim
    | some cl =>
      cases cl with
      | ins _ _ =>
        unfold PV at P
        rw [bnd_bad (show inRef x r st = .bad by unfold inRef; simp only [c])] at P
        exact P.elim
      | lst l =>
        obtain ⟨ys, e1, r1⟩ := s.lst c hr
        have P' : PV cla K E μ H (bnd (anyEq x l) (fun b => ret (.bl (if neg then !b else b))) st) Q := by
          have g : inRef x r st = anyEq x l st := by unfold inRef; simp only [c]
          unfold PV bnd at P ⊢
          rw [g] at P
          exact P
        obtain ⟨d, ds, h1, h2, h3, h4, h5, q⟩ := anyEq_cases neg s rx r1 P'
        exact .inr (.inl ⟨d, ds, h1, .lst (.inl (.inl e1)) h2, h3, shaped_seq h4 h5 false, q⟩)
      | dct t kvs =>
        classical
        by_cases k : isKey t x
        · unfold PV at P
          rw [bnd_ok (show inRef x r st = .ok (dlook kvs x).isSome st by unfold inRef; simp only [c, if_pos k])] at P
          obtain ⟨d1, d2⟩ := dget_of s c hr rx k
          refine .inr (.inr (.inr ?_))
          cases h : dlook kvs x with
          | none =>
            rw [h] at P
            exact ⟨_, none, rfl, d2 h, P _ _ (Ext.refl _ _) s _ .bl⟩
          | some v =>
            obtain ⟨z, g1, _⟩ := d1 v h
            rw [h] at P
            exact ⟨_, some z, rfl, g1, P _ _ (Ext.refl _ _) s _ .bl⟩
        · unfold PV at P
          rw [bnd_bad (show inRef x r st = .bad by unfold inRef; simp only [c, if_neg k])] at P
          exact P.elim
  | @str b hb =>
    cases rx with
    | @str a ha =>
      by_cases c : a.length = 1
      · rw [show innV (.str a) (.str b) = ret (decide (a.cps.getD 0 0 ∈ b.cps.toList)) from if_pos c] at P
        obtain ⟨⟨l⟩⟩ := a
        cases l with
        | nil => cases c
        | cons z r =>
          cases r with
          | cons _ _ => simp [Str.length] at c
          | nil => exact .inl ⟨z, b, rfl, rfl, P.ret s .bl⟩
      · rw [show innV (.str a) (.str b) = fail from if_neg c] at P
        exact P.elim
    | _ => exact P.elim
  | _ =>
    unfold PV at P
    rw [bnd_bad (show innV x _ st = .bad by cases x <;> rfl)] at P
    exact P.elim
theorem ok_inn : Ok2 cla K (rInAll K false) (cmpV (compare .inn)) := fun E μ H st x y X Y Q s rx ry P => in_cases false s rx ry P
theorem ok_nin : Ok2 cla K (rInAll K true) (cmpV (compare .nin)) := fun E μ H st x y X Y Q s rx ry P => in_cases true s rx ry (by
  have e : cmpV (compare .nin) x y = bnd (innV x y) (fun b => ret (.bl (!b))) := bnd_ret
  rw [e] at P
  exact P)

/-! ### isinstance -/
def tyS : Ty → String
  | .int => "int"
  | .bool => "bool"
  | .str => "str"
  | .tuple => "tuple"
  | .list => "list"
  | .dict => "dict"
theorem kit_all : ∀ t : Ty, kitB "NoneType" (tyS t) = some false ∧ kitB "bool" (tyS t) = some (match t with | .int => true | .bool => true | _ => false) ∧ kitB "int" (tyS t) = some (match t with | .int => true | _ => false) ∧
    kitB "str" (tyS t) = some (match t with | .str => true | _ => false) ∧ kitB "tuple" (tyS t) = some (match t with | .tuple => true | _ => false) ∧ kitB "list" (tyS t) = some (match t with | .list => true | _ => false) ∧
    kitB "dict" (tyS t) = some (match t with | .dict => true | _ => false) := by
  intro t
  cases t <;> refine ⟨?_, ?_, ?_, ?_, ?_, ?_, ?_⟩ <;> decide +kernel
theorem ty_of {μ : List Addr} {H : Hp} {st : Sto} (s : RS K μ H st) {X : V} {x : Val} (r : RV K μ H X x) (hb : ∀ t, (tyIs st x t).isSome = true) : ∃ T : String, TyX K H X (.type T) ∧ ∀ t b, tyIs st x t = some b → kitB T (tyS t) = some b := by
  cases r with
  | non => exact ⟨_, .base .non, fun t b h => by have q := (kit_all t).1; injection h with h; rw [← h]; exact q⟩
  | bl => exact ⟨_, .base (.bl _), fun t b h => by have q := (kit_all t).2.1; injection h with h; rw [← h]; exact q⟩
  | int => exact ⟨_, .base (.int _), fun t b h => by have q := (kit_all t).2.2.1; injection h with h; rw [← h]; exact q⟩
  | str _ => exact ⟨_, .base (.str _), fun t b h => by have q := (kit_all t).2.2.2.1; injection h with h; rw [← h]; exact q⟩
  | tup e _ => exact ⟨_, .base (.tup e), fun t b h => by have q := (kit_all t).2.2.2.2.1; injection h with h; rw [← h]; exact q⟩
  | rol e _ =>
    have key : ∀ t b, some (match t with | .list => true | _ => false) = some b → kitB "list" (tyS t) = some b := fun t b h => by
      have q := (kit_all t).2.2.2.2.2.1
      rw [q]
      exact h
    rcases e with ⟨o, e⟩ | ⟨its, n, e, _⟩
    · exact ⟨_, .base (.frz e), fun t b h => key t b h⟩
    · exact ⟨_, .kList e rfl, fun t b h => key t b h⟩
  | @ref a r hr =>
    cases e : st[r]? with
    | none => have := hb .int; unfold tyIs at this; simp only [e] at this; cases this
    | some c =>
      cases c with
      | ins _ _ => have := hb .int; unfold tyIs at this; simp only [e] at this; cases this
      | lst l =>
        obtain ⟨xs, e1, _⟩ := s.lst e hr
        refine ⟨_, .base (.lst e1), fun t b h => ?_⟩
        have q := (kit_all t).2.2.2.2.2.1
        rw [q]
        unfold tyIs at h
        simp only [e] at h
        exact h
      | dct k l =>
        have fin : ∀ t b, tyIs st (.ref r) t = some b → kitB "dict" (tyS t) = some b := fun t b h => by
          have q := (kit_all t).2.2.2.2.2.2
          rw [q]
          unfold tyIs at h
          simp only [e] at h
          exact h
        cases k with
        | false => obtain ⟨kvs, e1, _⟩ := s.cell r _ a e hr; exact ⟨_, .base (.dK e1), fin⟩
        | true => obtain ⟨kvs, e1, _⟩ := s.cell r _ a e hr; exact ⟨_, .base (.dT e1), fin⟩
theorem tyIs_all {st : Sto} {x : Val} {t : Ty} (h : (tyIs st x t).isSome = true) : ∀ t', (tyIs st x t').isSome = true := fun t' => by
  cases x with
  | ref r =>
    unfold tyIs at h ⊢
    cases e : st[r]? with
    | none => simp only [e] at h; cases h
    | some c => cases c <;> simp only [e] at h ⊢ <;> first | rfl | cases h
  | _ => rfl
theorem tyAny_some {st : Sto} {x : Val} {t : Ty} {r : List Ty} {b : Bool} (h : tyAny st x (t :: r) = some b) : ∃ c d, tyIs st x t = some c ∧ tyAny st x r = some d ∧ b = (c || d) := by
  unfold tyAny at h
  cases h1 : tyIs st x t with
  | none => simp only [h1] at h; cases h
  | some c =>
    cases h2 : tyAny st x r with
    | none => simp only [h1, h2] at h; cases h
    | some d =>
      simp only [h1, h2] at h
      injection h with h
      exact ⟨c, d, rfl, rfl, h.symm⟩
theorem kitAny_of {T : String} {st : Sto} {x : Val} (hk : ∀ t b, tyIs st x t = some b → kitB T (tyS t) = some b) : ∀ {ts : List Ty} {b : Bool}, tyAny st x ts = some b → PySem.W.kitAny K (.type T) (ts.map fun t => .type (tyS t)) = some b
  | [], b, h => by injection h with h; rw [← h]; rfl
  | t :: r, b, h => by
    obtain ⟨c, d, h1, h2, rfl⟩ := tyAny_some h
    exact kitAny_cons (kit_ty (hk _ _ h1)) (fun e => by rw [e]; simpa using kitAny_of hk h2) (fun e => by rw [e]; rfl)
theorem ok_isi1 (t : Ty) : Ok1 cla K (fun x H Q => rIsi K [x, .ty (tyS t)] H Q) (fun x => opIsi x [t]) := by
  intro E μ H st x X Q s rx P
  have P : PV cla K E μ H (opIsi x [t] st) Q := P
  cases e : tyAny st x [t] with
  | none => rw [show opIsi x [t] st = .bad by unfold opIsi; simp only [e]] at P; exact P.elim
  | some b =>
    rw [show opIsi x [t] st = .ok (.bl b) st by unfold opIsi; simp only [e]] at P
    obtain ⟨c, d, h1, h2, rfl⟩ := tyAny_some e
    injection h2 with h2
    obtain ⟨T, q1, q2⟩ := ty_of s rx (tyIs_all (by rw [h1]; rfl))
    exact ⟨X, _, _, _, c, rfl, .ty _, q1, kit_ty (q2 _ _ h1), P _ _ (Ext.refl _ _) s _ (by rw [← h2]; simpa using RV.bl)⟩
theorem tys_paired : ∀ ts : List Ty, Paired ClsV (ts.map fun t => V.ty (tyS t)) (ts.map fun t => Value.type (tyS t))
  | [] => .nil
  | t :: r => .cons (.ty _) (tys_paired r)
/-- the tuple of classes that was just laid -/
theorem ok_isiT (ts : List Ty) : ∀ (E : XK) (μ : List Addr) (H' : Hp) (st : Sto) (x : Val) (X : V) (Q : VK) (tp : Addr), ts ≠ [] → RS K μ H' st → RV K μ H' X x → H' tp = some (.tup (ts.map fun t => V.ty (tyS t))) → PV cla K E μ H' (opIsi x ts st) Q →
    rIsiT K [X, .ref tp] H' Q := by
  intro E μ H' st x X Q tp hne s rx ht P
  cases e : tyAny st x ts with
  | none => rw [show opIsi x ts st = .bad by unfold opIsi; simp only [e]] at P; exact P.elim
  | some b =>
    rw [show opIsi x ts st = .ok (.bl b) st by unfold opIsi; simp only [e]] at P
    cases ts with
    | nil => exact absurd rfl hne
    | cons t r =>
      obtain ⟨c, d, h1, h2, _⟩ := tyAny_some e
      obtain ⟨T, q1, q2⟩ := ty_of s rx (tyIs_all (by rw [h1]; rfl))
      exact ⟨X, tp, _, _, _, b, rfl, ht, tys_paired _, q1, kitAny_of q2 e, P _ _ (Ext.refl _ _) s _ .bl⟩

/-! ### methods, stores -/
theorem ok_append : ∀ (E : XK) (μ : List Addr) (H : Hp) (st : Sto) (x v : Val) (X V' : V) (Q : VK), RS K μ H st → RV K μ H X x → RV K μ H V' v → PV cla K E μ H (opMt .append x [v] st) Q → rAppend X [V'] H Q := by
  intro E μ H st x v X V' Q s rx rv P
  cases rx with
  | @ref a r hr =>
    cases e : lget st r with
    | none => rw [show opMt .append (.ref r) [v] st = .bad by unfold opMt; simp only [e]] at P; exact P.elim
    | some l =>
      by_cases c : l.length < sizeLine
      · rw [show opMt .append (.ref r) [v] st = .ok .non (st.set r (.lst (l ++ [v]))) by unfold opMt; simp only [e]; rw [if_pos c]] at P
        obtain ⟨xs, e1, r1⟩ := s.lst (lget_some e) hr
        have x' : Ext μ H μ (upd H a (.lst (xs ++ [V']))) := Ext.put hr
        exact ⟨_, xs, _, rfl, rfl, e1, by rw [r1.length]; exact c, P.put s hr ⟨_, upd_same, (r1.append (.cons rv .nil)).up x' s⟩ .non⟩
      · rw [show opMt .append (.ref r) [v] st = .bad by unfold opMt; simp only [e]; rw [if_neg c]] at P
        exact P.elim
  | _ => exact P.elim
theorem ok_pop : ∀ (E : XK) (μ : List Addr) (H : Hp) (st : Sto) (x : Val) (X : V) (Q : VK), RS K μ H st → RV K μ H X x → PV cla K E μ H (opMt .pop x [] st) Q → rPop X [] H Q := by
  intro E μ H st x X Q s rx P
  cases rx with
  | @ref a r hr =>
    cases e : lget st r with
    | none => rw [show opMt .pop (.ref r) [] st = .bad by unfold opMt; simp only [e]] at P; exact P.elim
    | some l =>
      cases c : l[l.length - 1]? with
      | none => rw [show opMt .pop (.ref r) [] st = .bad by unfold opMt; simp only [e, c]] at P; exact P.elim
      | some y =>
        rw [show opMt .pop (.ref r) [] st = .ok y (st.set r (.lst l.dropLast)) by unfold opMt; simp only [e, c]] at P
        obtain ⟨xs, e1, r1⟩ := s.lst (lget_some e) hr
        obtain ⟨z, h1, h2⟩ := r1.get c
        have x' : Ext μ H μ (upd H a (.lst xs.dropLast)) := Ext.put hr
        exact ⟨_, xs, z, rfl, rfl, e1, by rw [r1.length]; exact h1, P.put s hr ⟨_, upd_same, (r1.dropLast).up x' s⟩ (h2.up x' s)⟩
  | _ => exact P.elim
theorem ok_popAt : ∀ (E : XK) (μ : List Addr) (H : Hp) (st : Sto) (x i : Val) (X I : V) (Q : VK), RS K μ H st → RV K μ H X x → RV K μ H I i → PV cla K E μ H (opMt .popAt x [i] st) Q → rPopAt X [I] H Q := by
  intro E μ H st x i X I Q s rx ri P
  cases rx with
  | @ref a r hr =>
    cases ri with
    | @int i =>
      cases e : lget st r with
      | none => rw [show opMt .popAt (.ref r) [.int i] st = .bad by unfold opMt; simp only [e]] at P; exact P.elim
      | some l =>
        by_cases c : -(2 ^ 63) ≤ i ∧ i < 2 ^ 63
        · cases k : seqIndex? i l.length with
          | none => rw [show opMt .popAt (.ref r) [.int i] st = .bad by unfold opMt; simp only [e, if_pos c, k]] at P; exact P.elim
          | some j =>
            cases d : l[j]? with
            | none => rw [show opMt .popAt (.ref r) [.int i] st = .bad by unfold opMt; simp only [e, if_pos c, k, d]] at P; exact P.elim
            | some y =>
              rw [show opMt .popAt (.ref r) [.int i] st = .ok y (st.set r (.lst (l.eraseIdx j))) by unfold opMt; simp only [e, if_pos c, k, d]] at P
              obtain ⟨xs, e1, r1⟩ := s.lst (lget_some e) hr
              obtain ⟨z, h1, h2⟩ := r1.get d
              have x' : Ext μ H μ (upd H a (.lst (xs.eraseIdx j))) := Ext.put hr
              exact ⟨_, xs, i, j, z, rfl, rfl, e1, c.1, c.2, by rw [r1.length]; exact k, h1, P.put s hr ⟨_, upd_same, (r1.eraseIdx j).up x' s⟩ (h2.up x' s)⟩
        · rw [show opMt .popAt (.ref r) [.int i] st = .bad by unfold opMt; simp only [e]; rw [if_neg c]] at P
          exact P.elim
    | _ => exact P.elim
  | _ => exact P.elim
/-- o[i] = v -/
theorem ok_setL : ∀ (E : XK) (μ : List Addr) (H : Hp) (st : Sto) (o i v : Val) (O I V' : V) (Q : Hp → Prop), RS K μ H st → RV K μ H O o → RV K μ H I i → RV K μ H V' v →
    Post cla K E μ H (setIx o i v st) (fun _ _ _ H' => Q H') → rSetL O I V' H Q := by
  intro E μ H st o i v O I V' Q s ro ri rv P
  cases ro with
  | @ref a r hr =>
    cases e : st[r]? with
    | none => rw [show setIx (.ref r) i v st = .bad by unfold setIx; simp only [e]] at P; exact P.elim
    | some c =>
      cases c with
      | ins _ _ => rw [show setIx (.ref r) i v st = .bad by unfold setIx; simp only [e]] at P; exact P.elim
      | dct _ _ => rw [show setIx (.ref r) i v st = .bad by unfold setIx; simp only [e]] at P; exact P.elim
      | lst l =>
        cases ri with
        | @int i =>
          cases k : ixN l.length i with
          | none => rw [show setIx (.ref r) (.int i) v st = .bad by unfold setIx; simp only [e, k]] at P; exact P.elim
          | some j =>
            rw [show setIx (.ref r) (.int i) v st = .ok () (st.set r (.lst (l.set j v))) by unfold setIx; simp only [e, k]] at P
            obtain ⟨xs, e1, r1⟩ := s.lst e hr
            have x' : Ext μ H μ (upd H a (.lst (xs.set j V'))) := Ext.put hr
            exact ⟨_, xs, i, j, rfl, rfl, e1, by rw [r1.length]; exact k, P _ _ x' (s.put hr ⟨_, upd_same, (r1.set j rv).up x' s⟩)⟩
        | non => rw [show setIx (.ref r) .non v st = .bad by unfold setIx; simp only [e]] at P; exact P.elim
        | @bl b => rw [show setIx (.ref r) (.bl b) v st = .bad by unfold setIx; simp only [e]] at P; exact P.elim
        | @str b _ => rw [show setIx (.ref r) (.str b) v st = .bad by unfold setIx; simp only [e]] at P; exact P.elim
        | @tup _ _ b _ _ => rw [show setIx (.ref r) (.tup b) v st = .bad by unfold setIx; simp only [e]] at P; exact P.elim
        | @rol _ _ b _ _ => rw [show setIx (.ref r) (.rol b) v st = .bad by unfold setIx; simp only [e]] at P; exact P.elim
        | @ref _ b _ => rw [show setIx (.ref r) (.ref b) v st = .bad by unfold setIx; simp only [e]] at P; exact P.elim
  | _ => exact P.elim
end
end Mg

/-! Mg8: a rule for each construct. -/
namespace Mg
open PySem PySem.Spec PyProof.Rows L2
/-! ### a def's promise -/
def spOf (cla : Str → Option Addr) (K : Frg) (n : Nat) (c : List Val → M Val) : Sp := fun vs H Q E => vs.length = n ∧ ∃ μ args st, RS K μ H st ∧ RVs K μ H vs args ∧ Post cla K E μ H (c args st) fun v _ μ' H' => ∀ x, RV K μ' H' x v → Q x H'
def constOk : Const → Value → Prop
  | .int i, u => RelV (.int i) u
  | .str x, u => RelV (.str x) u ∧ PyData.strOk x = true
  | _, _ => False
structure CallOk (X : Cx) (cla : Str → Option Addr) (C : Str → List Val → M Val) (f : Str) (n : Nat) (fa : Addr) (fd : FuncData) (ps : List Str) (k : Nat) : Prop where
  mg : X.mg f = some (.ref fa)
  keep : PySem.W.keepIn X.K (.ref fa) = true
  len : ps.length = n
  ok : FnOk X.prog X.w X.K X.mg X.base (L2.CX X.prog X.w) k fa fd ps (spOf cla X.K n (C f))
  room : Room k X.A
  binds : Binds X.K fd ps []
  bad : ∀ args st, args.length ≠ n → C f args st = .bad
/-- a call by keywords: f, how many by place, the keywords, where each parameter's value comes from -/
abbrev KwE := Str × Nat × List Str × List Nat
structure Tab where
  con : List (Str × Const)
  fn : List (Str × Nat)
  kw : List KwE
structure Sit (T : Tab) (X : Cx) (W : WX) (cla : Str → Option Addr) (C : Str → List Val → M Val) : Prop where
  calm : X.calm = true
  nd : X.N.Nodup
  kind : X.env.scope.kind = .function
  tk : Takes X W
  hu : X.A.units + 65 < cLine
  bl : ∀ x : Str, x ∈ (["len", "max", "min", "tuple", "range", "isinstance", "zip", "all", "any", "sum", "list", "enumerate", "int", "str", "abs", "dict", "bool", "sorted", "set"] : List Str) → X.mg x = none
  con : ∀ x c, T.con.lookup x = some c → ∃ u, X.mg x = some u ∧ constOk c u
  fn : ∀ f n, (f, n) ∈ T.fn → ∃ fa fd ps k, CallOk X cla C f n fa fd ps k
  kw : ∀ f m ks p, (f, m, ks, p) ∈ T.kw → ∃ fa fd ps k, CallOk X cla C f p.length fa fd ps k ∧ KBn X.K fd ps m ks (fun us ws => pick p (us ++ ws)) fun vs zs => pick p (vs ++ zs)
abbrev WF : WX := fun _ _ _ _ => False

section
variable {cla : Str → Option Addr} {W : WX} {X : Cx}
/-! ### constants, names -/
theorem r_val {e : Expr} {v : V} {w : Val} (h : PE X e (tC v)) (r : ∀ μ H, RV X.K μ H v w) : PE X e (tM cla X.K W fun _ => ret w) :=
  PE.weak h fun σ H Q ⟨μ, ρ, st, A, P⟩ => P _ _ (Ext.refl _ _) A.rs _ (r _ _)
theorem r_var {i : Nat} {e : Expr} (h : PE X e (tVar i)) : PE X e (tM cla X.K W fun ρ => match ρ[i]? with
    | some (some v) => ret v
    | _ => fail) := PE.weak h fun σ H Q ⟨μ, ρ, st, A, P⟩ => by
  cases hv : ρ[i]? with
  | none => simp only [hv] at P; exact P.elim
  | some o =>
    cases o with
    | none => simp only [hv] at P; exact P.elim
    | some v =>
      simp only [hv] at P
      obtain ⟨x, h1, h2⟩ := A.re.get i v hv
      exact ⟨x, h1, P _ _ (Ext.refl _ _) A.rs _ h2⟩

/-! ### two expressions, one -/
theorem r_bin {e f : Expr} {pos : Pos} {o : Operator} {r : R2} {g : Val → Val → M Val} {ma mb : Env' → M Val} (ho : OpR X (binaryOp o) r) (hg : Ok2 cla X.K r g) (ha : PE X e (tM cla X.K W ma)) (hb : PE X f (tM cla X.K W mb)) :
    PE X (.BinOp e o f pos) (tM cla X.K W fun ρ => bnd (ma ρ) fun x => bnd (mb ρ) fun y => g x y) := PE.weak (pe_op ho ha hb) fun _ _ _ h => tm2 hg h
theorem r_cmp {e f : Expr} {pos : Pos} {o : CmpOp} {r : R2} {g : Val → Val → M Bool} {ma mb : Env' → M Val} (ho : OpR X (compareOp o) r) (hg : Ok2 cla X.K r (cmpV g)) (hm : behindInMarks o f = false) (ha : PE X e (tM cla X.K W ma)) (hb : PE X f (tM cla X.K W mb)) :
    PE X (.Compare e [o] [f] pos) (tM cla X.K W fun ρ => bnd (ma ρ) fun x => bnd (mb ρ) fun y => bnd (g x y) fun b => ret (.bl b)) := PE.weak (pe_cmpR ho ha hb hm) fun _ _ _ h => tm2 hg h
theorem r_cmpT {e f : Expr} {pos : Pos} {o : CmpOp} {r : R2} {g : Val → Val → M Bool} {ma mb : Env' → M Val} (ho : OpR X (compareOp o) r) (hg : Ok2 cla X.K r (cmpV g)) (hm : behindInMarks o f = false) (ha : PE X e (tM cla X.K W ma)) (hb : PE X f (tM cla X.K W mb)) :
    PT X (.Compare e [o] [f] pos) (tB cla X.K W fun ρ => bnd (ma ρ) fun x => bnd (mb ρ) fun y => bnd (g x y) fun b => ret (.bl b)) := PT.weak (pt_cmpR ho ha hb hm) fun σ H Q h => by
  obtain ⟨μ, ρ, st, A, P⟩ := h
  refine tm2 hg ⟨μ, ρ, st, A, Post.mono P.bnd (Ext.refl _ _) fun v st1 μ1 H1 e1 s1 P1 x rx => ?_⟩
  cases rx with
  | bl => exact ⟨_, rfl, P1 _ _ (Ext.refl _ _) s1⟩
  | _ => exact P1.elim
theorem r_un {e : Expr} {pos : Pos} {ma : Env' → M Val} (ha : PE X e (tM cla X.K W ma)) : PE X (.UnaryOp .USub e pos) (tM cla X.K W fun ρ => bnd (ma ρ) fun v => match v with
    | .int i => ret (.int (-i))
    | _ => fail) := PE.weak (pe_un un_neg ha) fun σ H Q h => tm1 (r := fun x H Q => rU (fun i => .int (-i)) x H Q) (fun E μ H st x X Q s rx P => by
  cases rx with
  | int => exact ⟨_, rfl, PV.ret P s .int⟩
  | _ => exact P.elim) h
theorem r_isN {e : Expr} {pos pos' : Pos} {j : Nat} {ma : Env' → M Val} (neg : Bool) (ha : PE X e (tM cla X.K W ma)) : PE X (.Compare e [if neg then .IsNot else .Is] [.Constant .none j pos'] pos) (tM cla X.K W fun ρ => bnd (ma ρ) fun x => ret (.bl (match x with
    | .non => !neg
    | _ => neg))) := by
  cases neg with
  | false => exact PE.weak (pe_cmpR op_isN ha pe_non (nomark _)) fun σ H Q h => tm1 (r := fun x H Q => (V.non = .non ∧ Q (.bl (decide (x = .non))) H)) (fun E μ H st x X Q s rx P => ⟨rfl, by cases rx <;> exact PV.ret P s .bl⟩) h
  | true => exact PE.weak (pe_cmpR op_notN ha pe_non (nomark _)) fun σ H Q h => tm1 (r := fun x H Q => (V.non = .non ∧ Q (.bl (!decide (x = .non))) H)) (fun E μ H st x X Q s rx P => ⟨rfl, by cases rx <;> exact PV.ret P s .bl⟩) h
theorem tB_tM {m : Env' → M Val} {σ : L2.St} {H : Hp} {Q : Bool → Hp → Prop} (h : tB cla X.K W m σ H Q) : tM cla X.K W m σ H fun x H' => ∃ k, x = .bl k ∧ Q k H' := by
  obtain ⟨μ, ρ, st, A, P⟩ := h
  refine ⟨μ, ρ, st, A, Post.mono P.bnd (Ext.refl _ _) fun v st1 μ1 H1 e1 s1 P1 x rx => ?_⟩
  cases rx with
  | bl => exact ⟨_, rfl, P1 _ _ (Ext.refl _ _) s1⟩
  | _ => exact P1.elim
theorem r_isNT {e : Expr} {pos pos' : Pos} {j : Nat} {ma : Env' → M Val} (neg : Bool) (ha : PE X e (tM cla X.K W ma)) : PT X (.Compare e [if neg then .IsNot else .Is] [.Constant .none j pos'] pos) (tB cla X.K W fun ρ => bnd (ma ρ) fun x => ret (.bl (match x with
    | .non => !neg
    | _ => neg))) := by
  cases neg with
  | false => exact PT.weak (pt_cmpR op_isN ha pe_non (nomark _)) fun σ H Q h => tm1 (r := fun x H Q => (V.non = .non ∧ Q (.bl (decide (x = .non))) H)) (fun E μ H st x X Q s rx P => ⟨rfl, by cases rx <;> exact PV.ret P s .bl⟩) (tB_tM h)
  | true => exact PT.weak (pt_cmpR op_notN ha pe_non (nomark _)) fun σ H Q h => tm1 (r := fun x H Q => (V.non = .non ∧ Q (.bl (!decide (x = .non))) H)) (fun E μ H st x X Q s rx P => ⟨rfl, by cases rx <;> exact PV.ret P s .bl⟩) (tB_tM h)

/-! ### tests, truths -/
/-- a truth, then what hangs on it -/
theorem tB_bnd {m : Env' → M Val} {β : Type} {f : Bool → Env' → M β} {σ : L2.St} {H : Hp} {P : β → Sto → List Addr → Hp → Prop} {μ : List Addr} {ρ : Env'} {st : Sto} (A : At X.K μ H σ ρ st) (h : Post cla X.K (WE' W σ) μ H (bnd (m ρ) (fun x => bnd (asBl x) fun k => f k ρ) st) P)
    {R : Bool → Hp → Prop} (hR : ∀ b st1 μ1 H1, Ext μ H μ1 H1 → At X.K μ1 H1 σ ρ st1 → Post cla X.K (WE' W σ) μ1 H1 (f b ρ st1) P → R b H1) : tB cla X.K W m σ H R := by
  have e : bnd (m ρ) (fun x => bnd (asBl x) fun k => f k ρ) = bnd (bnd (m ρ) asBl) fun k => f k ρ := by
    funext s
    unfold bnd
    cases m ρ s <;> rfl
  rw [e] at h
  exact ⟨μ, ρ, st, A, Post.mono h.bnd (Ext.refl _ _) fun b st1 μ1 H1 e1 s1 P1 => hR b st1 μ1 H1 e1 (A.up e1 s1) P1⟩
theorem tM_bnd {m : Env' → M Val} {β : Type} {f : Bool → Env' → M β} {σ : L2.St} {H : Hp} {P : β → Sto → List Addr → Hp → Prop} {μ : List Addr} {ρ : Env'} {st : Sto} (A : At X.K μ H σ ρ st) (h : Post cla X.K (WE' W σ) μ H (bnd (m ρ) (fun x => bnd (asBl x) fun k => f k ρ) st) P)
    {R : Bool → Hp → Prop} (hR : ∀ b st1 μ1 H1, Ext μ H μ1 H1 → At X.K μ1 H1 σ ρ st1 → Post cla X.K (WE' W σ) μ1 H1 (f b ρ st1) P → R b H1) : tM cla X.K W m σ H fun x H1 => ∃ c, x = .bl c ∧ R c H1 :=
  ⟨μ, ρ, st, A, Post.mono h.bnd (Ext.refl _ _) fun v st1 μ1 H1 e1 s1 P1 x rx => by
    cases rx with
    | bl => exact ⟨_, rfl, hR _ st1 μ1 H1 e1 (A.up e1 s1) P1⟩
    | _ => exact P1.elim⟩
theorem Post.ok {α : Type} {a : α} {K : Frg} {E : XK} {μ : List Addr} {H : Hp} {st : Sto} {P : α → Sto → List Addr → Hp → Prop} (h : Post cla K E μ H (ret a st) P) (s : RS K μ H st) : P a st μ H := h _ _ (Ext.refl _ _) s
theorem r_and {e f : Expr} {r : List Expr} {pos : Pos} {ma mb : Env' → M Val} (ha : PE X e (tM cla X.K W ma)) (hb : PE X (.BoolOp .And (f :: r) pos) (tM cla X.K W mb)) :
    PE X (.BoolOp .And (e :: f :: r) pos) (tM cla X.K W fun ρ => bnd (ma ρ) fun x => bnd (asBl x) fun k => if k then mb ρ else ret (.bl false)) := PE.weak (pe_and ha hb) fun σ H Q ⟨μ, ρ, st, A, P⟩ =>
  tM_bnd (f := fun k ρ => if k then mb ρ else ret (.bl false)) A P fun b st1 μ1 H1 e1 A1 P1 => by
    cases b with
    | true => exact ⟨μ1, ρ, st1, A1, P1⟩
    | false => exact PV.ret (v := .bl false) P1 A1.rs .bl
theorem r_or {e f : Expr} {r : List Expr} {pos : Pos} {ma mb : Env' → M Val} (ha : PE X e (tM cla X.K W ma)) (hb : PE X (.BoolOp .Or (f :: r) pos) (tM cla X.K W mb)) :
    PE X (.BoolOp .Or (e :: f :: r) pos) (tM cla X.K W fun ρ => bnd (ma ρ) fun x => bnd (asBl x) fun k => if k then ret (.bl true) else mb ρ) := PE.weak (pe_or ha hb) fun σ H Q ⟨μ, ρ, st, A, P⟩ =>
  tM_bnd (f := fun k ρ => if k then ret (.bl true) else mb ρ) A P fun b st1 μ1 H1 e1 A1 P1 => by
    cases b with
    | false => exact ⟨μ1, ρ, st1, A1, P1⟩
    | true => exact PV.ret (v := .bl true) P1 A1.rs .bl
theorem r_not {e : Expr} {pos : Pos} {ma : Env' → M Val} (ha : PE X e (tM cla X.K W ma)) : PE X (.UnaryOp .Not e pos) (tM cla X.K W fun ρ => bnd (ma ρ) fun x => bnd (asBl x) fun k => ret (.bl (!k))) := PE.weak (pe_not ha) fun σ H Q ⟨μ, ρ, st, A, P⟩ =>
  tM_bnd (f := fun k ρ => ret (Val.bl (!k))) A P fun b st1 μ1 H1 e1 A1 P1 => by exact PV.ret (v := .bl (!b)) P1 A1.rs .bl
theorem r_ite {e f g : Expr} {pos : Pos} {mc ma mb : Env' → M Val} (hc : PT X e (tB cla X.K W mc)) (ha : PE X f (tM cla X.K W ma)) (hb : PE X g (tM cla X.K W mb)) :
    PE X (.IfExp e f g pos) (tM cla X.K W fun ρ => bnd (mc ρ) fun x => bnd (asBl x) fun k => if k then ma ρ else mb ρ) := PE.weak (pe_ifExp hc ha hb) fun σ H Q ⟨μ, ρ, st, A, P⟩ =>
  tB_bnd (f := fun k ρ => if k then ma ρ else mb ρ) A P fun b st1 μ1 H1 e1 A1 P1 => by
    cases b <;> exact ⟨μ1, ρ, st1, A1, P1⟩
/-- as tests -/
theorem r_valT {e : Expr} {m : Env' → M Val} (h : PE X e (tM cla X.K W m)) (he : ∀ whole, isTrue e X.env whole = (do let v ← whole; standAt e.pos; holding [v] (truthy v))) : PT X e (tB cla X.K W m) :=
  PT.weak (pt_val h he) fun σ H Q ⟨μ, ρ, st, A, P⟩ => ⟨μ, ρ, st, A, Post.mono P.bnd (Ext.refl _ _) fun v st1 μ1 H1 e1 s1 P1 x rx => by
    cases rx with
    | bl => exact ⟨_, rfl, P1 _ _ (Ext.refl _ _) s1⟩
    | _ => exact P1.elim⟩
theorem bnd_assoc {α β γ : Type} {m : M α} {f : α → M β} {g : β → M γ} : bnd (bnd m f) g = bnd m fun a => bnd (f a) g := by
  funext s
  unfold bnd
  cases m s <;> rfl
theorem r_notT {e : Expr} {pos : Pos} {ma : Env' → M Val} (ha : PT X e (tB cla X.K W ma)) : PT X (.UnaryOp .Not e pos) (tB cla X.K W fun ρ => bnd (ma ρ) fun x => bnd (asBl x) fun k => ret (.bl (!k))) := PT.weak (pt_not ha) fun σ H Q ⟨μ, ρ, st, A, P⟩ => by
  rw [bnd_assoc] at P
  have P' : Post cla X.K (WE' W σ) μ H (bnd (ma ρ) (fun x => bnd (asBl x) fun k => bnd (ret (.bl (!k))) asBl) st) fun b _ _ H' => Q b H' := by
    have e : (fun x => bnd (bnd (asBl x) fun k => ret (.bl (!k))) asBl) = fun x => bnd (asBl x) fun k => bnd (ret (.bl (!k))) asBl := by
      funext x; exact bnd_assoc
    rw [← e]
    exact P
  exact tB_bnd (f := fun k ρ => bnd (ret (.bl (!k))) asBl) A P' fun b st1 μ1 H1 e1 A1 P1 => P1 _ _ (Ext.refl _ _) A1.rs
theorem r_andT {e f : Expr} {r : List Expr} {pos : Pos} {ma mb : Env' → M Val} (ha : PT X e (tB cla X.K W ma)) (hb : PW X (.BoolOp .And (f :: r) pos) (tB cla X.K W mb)) :
    PW X (.BoolOp .And (e :: f :: r) pos) (tB cla X.K W fun ρ => bnd (ma ρ) fun x => bnd (asBl x) fun k => if k then mb ρ else ret (.bl false)) := PW.weak (pw_and ha hb) fun σ H Q ⟨μ, ρ, st, A, P⟩ => by
  have e : bnd (bnd (ma ρ) fun x => bnd (asBl x) fun k => if k then mb ρ else ret (.bl false)) asBl = bnd (ma ρ) fun x => bnd (asBl x) fun k => bnd (if k then mb ρ else ret (.bl false)) asBl := by
    rw [bnd_assoc]
    congr 1
    funext x
    exact bnd_assoc
  rw [e] at P
  exact tB_bnd (f := fun k ρ => bnd (if k then mb ρ else ret (.bl false)) asBl) A P fun b st1 μ1 H1 e1 A1 P1 => by
    cases b with
    | true => exact ⟨μ1, ρ, st1, A1, P1⟩
    | false => exact P1 _ _ (Ext.refl _ _) A1.rs
theorem r_orT {e f : Expr} {r : List Expr} {pos : Pos} {ma mb : Env' → M Val} (ha : PT X e (tB cla X.K W ma)) (hb : PW X (.BoolOp .Or (f :: r) pos) (tB cla X.K W mb)) :
    PW X (.BoolOp .Or (e :: f :: r) pos) (tB cla X.K W fun ρ => bnd (ma ρ) fun x => bnd (asBl x) fun k => if k then ret (.bl true) else mb ρ) := PW.weak (pw_or ha hb) fun σ H Q ⟨μ, ρ, st, A, P⟩ => by
  have e : bnd (bnd (ma ρ) fun x => bnd (asBl x) fun k => if k then ret (.bl true) else mb ρ) asBl = bnd (ma ρ) fun x => bnd (asBl x) fun k => bnd (if k then ret (.bl true) else mb ρ) asBl := by
    rw [bnd_assoc]
    congr 1
    funext x
    exact bnd_assoc
  rw [e] at P
  exact tB_bnd (f := fun k ρ => bnd (if k then ret (.bl true) else mb ρ) asBl) A P fun b st1 μ1 H1 e1 A1 P1 => by
    cases b with
    | false => exact ⟨μ1, ρ, st1, A1, P1⟩
    | true => exact P1 _ _ (Ext.refl _ _) A1.rs
end
end Mg

/-! Mg9: arguments, calls, lists, what is walked, comprehensions. -/
namespace Mg
open PySem PySem.Spec PyProof.Rows L2
section
variable {cla : Str → Option Addr} {W : WX} {X : Cx}
/-! ### syntax -/
def plainE : Expr → Bool
  | .Starred _ _ => false
  | _ => true
theorem star_cons {e : Expr} {es : List Expr} {env : Env} (h : plainE e = true) : starEach (e :: es) env = (false, eval e env) :: starEach es env := by
  cases e <;> first | rfl | cases h
def plainEs (es : List Expr) : Bool := es.all plainE
theorem star_plain {env : Env} {pos : Pos} : ∀ {es : List Expr}, plainEs es = true → (backTo pos (starEach es env)).any (·.1) = false
  | [], _ => rfl
  | e :: es, h => by
    have h' : plainE e = true ∧ plainEs es = true := by simpa [plainEs] using h
    rw [star_cons h'.1]
    show (false || (backTo pos (starEach es env)).any (·.1)) = false
    rw [star_plain h'.2]
    rfl
def notSuper : Expr → Bool
  | .Call (.Name id _) [] [] _ => id != "super"
  | _ => true
theorem base_of {o : Expr} {attr : Str} {env : Env} {whole : Sem Value} (h : notSuper o = true) : attributeBase o attr env whole = whole := by
  unfold attributeBase
  split
  · rename_i id p pos
    have h' : (id != "super") = true := h
    rw [h']
    simp
  · rfl

/-! ### lists of arguments -/
theorem r_nil : PA X [] (tMs cla X.K W fun _ => ret []) := PA.weak pa_nil fun σ H Q ⟨μ, ρ, st, A, P⟩ => P _ _ (Ext.refl _ _) A.rs _ .nil
theorem tms_cons {ma : Env' → M Val} {mb : Env' → M (List Val)} {σ : L2.St} {H : Hp} {Q : List V → Hp → Prop} (h : tMs cla X.K W (fun ρ => bnd (ma ρ) fun v => bnd (mb ρ) fun vs => ret (v :: vs)) σ H Q) :
    tCons (tM cla X.K W ma) (tMs cla X.K W mb) σ H Q := by
  obtain ⟨μ, ρ, st, A, P⟩ := h
  refine ⟨μ, ρ, st, A, Post.mono P.bnd (Ext.refl _ _) fun v st1 μ1 H1 e1 s1 P1 x rx => ?_⟩
  refine ⟨μ1, ρ, st1, A.up e1 s1, Post.mono P1.bnd (Ext.refl _ _) fun vs st2 μ2 H2 e2 s2 P2 xs rxs => ?_⟩
  exact P2 _ _ (Ext.refl _ _) s2 _ (.cons (rx.up e2 s1) rxs)
theorem r_cons {e : Expr} {es : List Expr} {ma : Env' → M Val} {mb : Env' → M (List Val)} (hp : plainE e = true) (ha : PE X e (tM cla X.K W ma)) (hb : PA X es (tMs cla X.K W mb)) :
    PA X (e :: es) (tMs cla X.K W fun ρ => bnd (ma ρ) fun v => bnd (mb ρ) fun vs => ret (v :: vs)) := PA.weak (pa_cons ha hb (star_cons hp)) fun _ _ _ h => tms_cons h
theorem k_nil : PK X [] (tMs cla X.K W fun _ => ret []) := PK.weak pk_nil fun σ H Q ⟨μ, ρ, st, A, P⟩ => P _ _ (Ext.refl _ _) A.rs _ .nil
theorem k_cons {nm : Option Str} {e : Expr} {p : Pos} {ks : List Keyword} {ma : Env' → M Val} {mb : Env' → M (List Val)} (ha : PE X e (tM cla X.K W ma)) (hb : PK X ks (tMs cla X.K W mb)) :
    PK X (⟨nm, e, p⟩ :: ks) (tMs cla X.K W fun ρ => bnd (ma ρ) fun v => bnd (mb ρ) fun vs => ret (v :: vs)) := PK.weak (pk_cons ha hb) fun _ _ _ h => tms_cons h

/-! ### displays -/
theorem if_post {α : Type} {K : Frg} {E : XK} {μ : List Addr} {H : Hp} {st : Sto} {c : Prop} [Decidable c] {m : M α} {P : α → Sto → List Addr → Hp → Prop} (h : Post cla K E μ H ((if c then m else fail) st) P) : c ∧ Post cla K E μ H (m st) P := by
  by_cases k : c
  · rw [if_pos k] at h; exact ⟨k, h⟩
  · rw [if_neg k] at h; exact h.elim
theorem r_tup {es : List Expr} {k : Nat} {pos : Pos} {ms : Env' → M (List Val)} (h : PA X es (tMs cla X.K W ms)) :
    PE X (.Tuple es k pos) (tM cla X.K W fun ρ => bnd (ms ρ) fun vs => if vs.length ≤ sizeLine then ret (.tup vs) else fail) := PE.weak (pe_tup h) fun σ H Q ⟨μ, ρ, st, A, P⟩ => by
  refine ⟨μ, ρ, st, A, Post.mono P.bnd (Ext.refl _ _) fun vs st1 μ1 H1 e1 s1 P1 xs rxs => ?_⟩
  obtain ⟨hl, P2⟩ := if_post P1
  exact ⟨by rw [rxs.length]; exact hl, fun p hp => PV.tup P2 s1 rxs hp⟩
theorem l_dis {es : List Expr} {pos : Pos} {ms : Env' → M (List Val)} (h : PA X es (tMs cla X.K W ms)) :
    PE X (.List es pos) (tL cla X.K W fun ρ => bnd (ms ρ) fun vs => if vs.length ≤ sizeLine then ret (.f vs) else fail) := PE.weak (pe_lst h) fun σ H Q ⟨μ, ρ, st, A, P⟩ => by
  refine ⟨μ, ρ, st, A, ?_⟩
  change Post cla X.K (WE' W σ) μ H (bnd (ms ρ) _ st) _ at P
  cases q : ms ρ st with
  | bad => rw [bnd_bad q] at P; exact P.elim
  | exc e st1 => rw [bnd_exc q] at P; exact P
  | ok vs st1 =>
    rw [bnd_ok q] at P
    obtain ⟨hl, P2⟩ := if_post P
    intro μ1 H1 e1 s1 xs rxs
    refine ⟨by rw [rxs.length]; exact hl, fun p hp => ?_⟩
    have e2 : Ext μ1 H1 μ1 (upd H1 p (.lst xs)) := Ext.side hp s1
    refine P2 _ _ (e1.trans e2) (s1.side hp) _ (.f upd_same (s1.free hp) ?_ (rxs.up e2 s1))
    cases w : H p with
    | none => rfl
    | some o =>
      by_cases z : p ∈ μ
      · obtain ⟨i, hi, e⟩ := List.mem_iff_getElem.mp z
        exact absurd (List.mem_of_getElem? (e1.look (r := i) (by rw [List.getElem?_eq_getElem hi, e]))) (s1.free hp)
      · rw [e1.keep _ _ w z] at hp; cases hp
theorem tm_alloc {m : Env' → M LV} {σ : L2.St} {H : Hp} {Q : VK} (h : tM cla X.K W (fun ρ => bnd (m ρ) allocV) σ H Q) : tL cla X.K W m σ H Q := by
  obtain ⟨μ, ρ, st, A, P⟩ := h
  refine ⟨μ, ρ, st, A, ?_⟩
  change Post cla X.K (WE' W σ) μ H (bnd (m ρ) _ st) _ at P
  cases q : m ρ st with
  | bad => rw [bnd_bad q] at P; exact P.elim
  | exc e st1 => rw [bnd_exc q] at P; exact P
  | ok lv st1 =>
    rw [bnd_ok q] at P
    cases lv with
    | f l =>
      intro μ1 H1 e1 s1 x rx
      cases rx with
      | @f a xs _ ha na h0 r =>
        have e2 : Ext μ H (μ1 ++ [a]) H1 := by
          obtain ⟨t, ht⟩ := e1.pre
          refine ⟨⟨t ++ [a], by rw [ht]; simp⟩, e1.keep, fun b hb nb => ?_⟩
          rcases List.mem_append.mp hb with z | z
          · exact e1.new b z nb
          · have : b = a := by simpa using z
            rw [this]; exact h0
        have look : ∀ (r : Nat) (b : Addr), μ1[r]? = some b → (μ1 ++ [a])[r]? = some b := fun r b hb => by
          have hr : r < μ1.length := by
            by_cases z : r < μ1.length
            · exact z
            · rw [List.getElem?_eq_none (by omega)] at hb; cases hb
          rw [List.getElem?_append_left hr]; exact hb
        have up : ∀ {x v}, RV X.K μ1 H1 x v → RV X.K (μ1 ++ [a]) H1 x v := fun r => r.imp look (fun _ _ h => h) fun _ _ h => h
        have s2 : RS X.K (μ1 ++ [a]) H1 (st1 ++ [.lst l]) := by
          refine ⟨by simp [s1.len], List.nodup_append.mpr ⟨s1.nd, by simp, fun b hb c hc => ?_⟩, fun r c b h1 h2 => ?_⟩
          · have : c = a := by simpa using hc
            rw [this]
            exact fun z => na (by rw [← z]; exact hb)
          · by_cases hr : r < st1.length
            · rw [List.getElem?_append_left hr] at h1
              rw [List.getElem?_append_left (by rw [s1.len]; exact hr)] at h2
              have q := s1.cell r c b h1 h2
              cases c with
              | lst l' => obtain ⟨ys, f1, f2⟩ := q; exact ⟨ys, f1, f2.imp look (fun _ _ h => h) fun _ _ h => h⟩
              | dct t l' => cases t with
                | false => obtain ⟨ys, f1, f2⟩ := q; exact ⟨ys, f1, Paired.mapP f2 fun _ _ w => ⟨w.1, w.2.1, up w.2.2⟩⟩
                | true => obtain ⟨ys, f1, f2⟩ := q; exact ⟨ys, f1, Paired.mapP f2 fun _ _ w => ⟨w.1, w.2.1, up w.2.2⟩⟩
              | ins _ _ => exact q.elim
            · have e : r = st1.length := by
                by_cases z : r < (st1 ++ [Cell.lst l]).length
                · simp at z; omega
                · rw [List.getElem?_eq_none (by omega)] at h1; cases h1
              subst e
              simp at h1
              have h2' : (μ1 ++ [a])[μ1.length]? = some b := by rw [s1.len]; exact h2
              simp at h2'
              subst h1 h2'
              exact ⟨xs, ha, r.imp look (fun _ _ h => h) fun _ _ h => h⟩
        refine P _ _ e2 s2 _ (.ref ?_)
        rw [← s1.len]
        simp
    | ro l => exact P.elim
    | s l r => exact P.elim
    | t l => exact P.elim
theorem r_alloc {e : Expr} {m : Env' → M LV} (h : PE X e (tL cla X.K W m)) : PE X e (tM cla X.K W fun ρ => bnd (m ρ) allocV) := PE.weak h fun σ H Q q => tm_alloc q
/-- what an expression hands back, as a list -/
theorem l_of {e : Expr} {m : Env' → M Val} (h : PE X e (tM cla X.K W m)) : PE X e (tL cla X.K W fun ρ => bnd (m ρ) ofV) := PE.weak h fun σ H Q ⟨μ, ρ, st, A, P⟩ => by
  refine ⟨μ, ρ, st, A, ?_⟩
  change Post cla X.K (WE' W σ) μ H (bnd (m ρ) _ st) _ at P
  cases q : m ρ st with
  | bad => rw [bnd_bad q] at P; exact P.elim
  | exc e st1 => rw [bnd_exc q] at P; exact P
  | ok v st1 =>
    rw [bnd_ok q] at P
    intro μ1 H1 e1 s1 x rx
    cases rx with
    | tup h r => exact P _ _ e1 s1 _ (.t h r)
    | rol h r => exact P _ _ e1 s1 _ (.ro h r)
    | @ref a r hr =>
      cases w : lget st1 r with
      | none => simp only [ofV, w] at P; exact P.elim
      | some l =>
        simp only [ofV, w] at P
        obtain ⟨xs, h1, h2⟩ := s1.lst (lget_some w) hr
        exact P _ _ e1 s1 _ (.s h1 h2 hr)
    | _ => exact P.elim

/-! ### items and slices -/
theorem r_ix {a b : Expr} {pos : Pos} {ma mb : Env' → M Val} (hu : X.A.units + 1 < cLine) (hs : PlainIx b) (ha : PE X a (tM cla X.K W ma)) (hb : PE X b (tM cla X.K W mb)) :
    PE X (.Subscript a b pos) (tM cla X.K W fun ρ => bnd (ma ρ) fun x => bnd (mb ρ) fun y => opIx x y) := PE.weak (pe_ix (ix_all hu) ha hb hs) fun _ _ _ h => tm2 ok_ix h
def noSlice : Expr → Bool
  | .Slice _ _ _ _ => false
  | _ => true
theorem plainIx_of {b : Expr} (h : noSlice b = true) : PlainIx b := fun o i => by cases b <;> first | rfl | cases h
/-- a part of a slice -/
def tO (cla : Str → Option Addr) (K : Frg) (W : WX) (m : Env' → M (Option Int)) : TO := fun σ H Q => ∃ μ ρ st, At K μ H σ ρ st ∧ Post cla K (WE' W σ) μ H (m ρ st) fun o _ _ H' => Q o H'
theorem o_none : PO X none (tO cla X.K W fun _ => ret none) := ⟨fun pins s σ H Q I ⟨μ, ρ, st, A, P⟩ => po_none.run pins s σ H Q I (P _ _ (Ext.refl _ _) A.rs)⟩
theorem o_some {e : Expr} {m : Env' → M Val} (h : PE X e (tM cla X.K W m)) : PO X (some e) (tO cla X.K W fun ρ => bnd (m ρ) fun v => bnd (asInt v) fun i => ret (some i)) :=
  ⟨fun pins s σ H Q I ⟨μ, ρ, st, A, P⟩ => (po_some h).run pins s σ H Q I ⟨μ, ρ, st, A, Post.mono P.bnd (Ext.refl _ _) fun v st1 μ1 H1 e1 s1 P1 x rx => by
    cases rx with
    | int => exact ⟨_, rfl, P1 _ _ (Ext.refl _ _) s1⟩
    | _ => exact P1.elim⟩⟩
theorem r_sl {a : Expr} {lo hi : Option Expr} {p2 pos : Pos} {ma : Env' → M Val} {ml mh : Env' → M (Option Int)} (ha : PE X a (tM cla X.K W ma)) (hl : PO X lo (tO cla X.K W ml)) (hh : PO X hi (tO cla X.K W mh)) :
    PE X (.Subscript a (.Slice lo hi none p2) pos) (tM cla X.K W fun ρ => bnd (ma ρ) fun x => bnd (ml ρ) fun l => bnd (mh ρ) fun h => opSl x l h) := PE.weak (pe_slice sl_all ha hl hh) fun σ H Q ⟨μ, ρ, st, A, P⟩ => by
  refine ⟨μ, ρ, st, A, Post.mono P.bnd (Ext.refl _ _) fun v st1 μ1 H1 e1 s1 P1 x rx => ?_⟩
  refine ⟨μ1, ρ, st1, A.up e1 s1, Post.mono P1.bnd (Ext.refl _ _) fun l st2 μ2 H2 e2 s2 P2 => ?_⟩
  refine ⟨μ2, ρ, st2, (A.up e1 s1).up e2 s2, Post.mono P2.bnd (Ext.refl _ _) fun h st3 μ3 H3 e3 s3 P3 => ?_⟩
  exact ok_sl _ μ3 H3 st3 v l h x Q s3 ((rx.up e2 s1).up e3 s2) P3
/-! ### new lists -/
theorem fresh_back {K : Frg} {μ μ1 : List Addr} {H H1 : Hp} {st1 : Sto} {p : Addr} (e : Ext μ H μ1 H1) (s : RS K μ1 H1 st1) (hp : H1 p = none) : H p = none := by
  cases w : H p with
  | none => rfl
  | some o =>
    by_cases z : p ∈ μ
    · obtain ⟨i, hi, e'⟩ := List.mem_iff_getElem.mp z
      exact absurd (List.mem_of_getElem? (e.look (r := i) (by rw [List.getElem?_eq_getElem hi, e']))) (s.free hp)
    · rw [e.keep _ _ w z] at hp; cases hp
/-- a new list that nobody holds -/
theorem new_list {K : Frg} {E : XK} {μ μ1 : List Addr} {H H1 : Hp} {st1 : Sto} {l : List Val} {xs : List V} {Q : VK} (e : Ext μ H μ1 H1) (s : RS K μ1 H1 st1) (r : RVs K μ1 H1 xs l)
    (P : Post cla K E μ1 H1 (ret (.f l) st1) fun v _ μ' H' => ∀ x, RL K H μ' H' x v → Q x H') {p : Addr} (hp : H1 p = none) : Q (.ref p) (upd H1 p (.lst xs)) := by
  have e2 : Ext μ1 H1 μ1 (upd H1 p (.lst xs)) := Ext.side hp s
  exact P _ _ e2 (s.side hp) _ (.f upd_same (s.free hp) (fresh_back e s hp) (r.up e2 s))
theorem chk_ok {α : Type} {K : Frg} {E : XK} {μ : List Addr} {H : Hp} {st : Sto} {p : Sto → Prop} {f : Unit → M α} {P : α → Sto → List Addr → Hp → Prop} (h : Post cla K E μ H (bnd (chk p) f st) P) : p st ∧ Post cla K E μ H (f () st) P := by
  unfold bnd chk at h
  by_cases c : p st
  · simp only [if_pos c] at h; exact ⟨c, h⟩
  · simp only [if_neg c] at h; exact h.elim
/-- what is read of it, by kinds -/
theorem RL.kinds {K : Frg} {H0 H : Hp} {μ : List Addr} {x : V} {lv : LV} (r : RL K H0 μ H x lv) :
    (∃ a xs, x = .ref a ∧ LL K H a xs ∧ RVs K μ H xs lv.xs ∧ ∀ l, lv ≠ .t l) ∨ ∃ a xs l, x = .ref a ∧ lv = .t l ∧ H a = some (.tup xs) ∧ RVs K μ H xs l := by
  cases r with
  | f h _ _ r => exact .inl ⟨_, _, rfl, .inl (.inl h), r, fun _ z => nomatch z⟩
  | ro h r =>
    refine .inl ⟨_, _, rfl, ?_, r, fun _ z => nomatch z⟩
    rcases h with ⟨o, h⟩ | h
    · exact .inl (.inr ⟨o, h⟩)
    · exact .inr h
  | s h r _ => exact .inl ⟨_, _, rfl, .inl (.inl h), r, fun _ z => nomatch z⟩
  | t h r => exact .inr ⟨_, _, _, rfl, rfl, h, r⟩
theorem l_sl {a : Expr} {lo hi : Option Expr} {p2 pos : Pos} {ma : Env' → M LV} {ml mh : Env' → M (Option Int)} (ha : PE X a (tL cla X.K W ma)) (hl : PO X lo (tO cla X.K W ml)) (hh : PO X hi (tO cla X.K W mh)) :
    PE X (.Subscript a (.Slice lo hi none p2) pos) (tL cla X.K W fun ρ => bnd (ma ρ) fun lv => bnd (ml ρ) fun l => bnd (mh ρ) fun h => bnd (chk lv.there) fun _ => match lv with
    | .t xs => ret (.t (cutL xs l h))
    | lv => ret (.f (cutL lv.xs l h))) := PE.weak (pe_slice sl_all ha hl hh) fun σ H Q ⟨μ, ρ, st, A, P⟩ => by
  refine ⟨μ, ρ, st, A, Post.mono P.bnd (Ext.refl _ _) fun v st1 μ1 H1 e1 s1 P1 x rx => ?_⟩
  refine ⟨μ1, ρ, st1, A.up e1 s1, Post.mono P1.bnd (Ext.refl _ _) fun l st2 μ2 H2 e2 s2 P2 => ?_⟩
  refine ⟨μ2, ρ, st2, (A.up e1 s1).up e2 s2, Post.mono P2.bnd (Ext.refl _ _) fun h st3 μ3 H3 e3 s3 P3 => ?_⟩
  obtain ⟨th, P4⟩ := chk_ok P3
  have rx3 := rx.up (e2.trans e3) s1 s3 th
  rcases rx3.kinds with ⟨a, xs, rfl, hq, r, nt⟩ | ⟨a, xs, t, rfl, rfl, hq, r⟩
  · have P5 : Post cla X.K (WE' W σ) μ3 H3 (ret (.f (cutL v.xs l h)) st3) fun v _ μ' H' => ∀ x, RL X.K H μ' H' x v → Q x H' := by
      cases v with
      | t t => exact absurd rfl (nt t)
      | _ => exact P4
    exact .inr (.inr ⟨_, _, rfl, hq.seq, fun p hp => new_list ((e1.trans e2).trans e3) s3 (rvs_cut r l h) P5 hp⟩)
  · refine .inl ⟨_, _, rfl, .inl (.inl hq), fun w => ?_, fun _ p hp => ?_⟩
    · rw [r.length] at w
      have e := sIx_whole w
      change Post cla X.K (WE' W σ) μ3 H3 (ret (LV.t (cutL t l h)) st3) _ at P4
      rw [e] at P4
      exact P4 _ _ (Ext.refl _ _) s3 _ (.t hq r)
    · have e2 : Ext μ3 H3 μ3 (upd H3 p (.tup (cutV xs l h))) := Ext.side hp s3
      exact P4 _ _ e2 (s3.side hp) _ (.t upd_same ((rvs_cut r l h).up e2 s3))
theorem cat_cases {v w : LV} {K : Frg} {E : XK} {μ : List Addr} {H : Hp} {st : Sto} {P : LV → Sto → List Addr → Hp → Prop} (h : Post cla K E μ H (LV.cat v w st) P) :
    (∀ l, v ≠ .t l) ∧ (∀ l, w ≠ .t l) ∧ v.xs.length + w.xs.length ≤ sizeLine ∧ Post cla K E μ H (ret (.f (v.xs ++ w.xs)) st) P := by
  cases v with
  | t _ => exact h.elim
  | _ =>
    cases w with
    | t _ => exact h.elim
    | _ =>
      obtain ⟨c, q⟩ := if_post h
      exact ⟨fun _ z => (nomatch z), fun _ z => (nomatch z), c, q⟩
theorem l_cat {a b : Expr} {pos : Pos} {ma mb : Env' → M LV} (ha : PE X a (tL cla X.K W ma)) (hb : PE X b (tL cla X.K W mb)) :
    PE X (.BinOp a .Add b pos) (tL cla X.K W fun ρ => bnd (ma ρ) fun x => bnd (mb ρ) fun y => bnd (chk x.there) fun _ => LV.cat x y) := PE.weak (pe_op op_catL ha hb) fun σ H Q ⟨μ, ρ, st, A, P⟩ => by
  refine ⟨μ, ρ, st, A, Post.mono P.bnd (Ext.refl _ _) fun v st1 μ1 H1 e1 s1 P1 x rx => ?_⟩
  refine ⟨μ1, ρ, st1, A.up e1 s1, Post.mono P1.bnd (Ext.refl _ _) fun w st2 μ2 H2 e2 s2 P2 y ry => ?_⟩
  obtain ⟨th, P3⟩ := chk_ok P2
  obtain ⟨n1, n2, hl, P4⟩ := cat_cases P3
  rcases (rx.up e2 s1 s2 th).kinds with ⟨a, xs, rfl, hq, r, _⟩ | ⟨_, _, t, _, e, _, _⟩
  · rcases ry.kinds with ⟨b, ys, rfl, hq', r', _⟩ | ⟨_, _, t, _, e, _, _⟩
    · exact ⟨_, _, _, _, rfl, rfl, hq, hq', by rw [r.length, r'.length]; exact hl, fun p hp => new_list (e1.trans e2) s2 (r.append r') P4 hp⟩
    · exact absurd e (n2 t)
  · exact absurd e (n1 t)
theorem l_lst {a : Expr} {p pos : Pos} {ma : Env' → M LV} (hg : Gl X "list") (hm : X.mg "list" = none) (hp : plainE a = true) (ha : PE X a (tL cla X.K W ma)) :
    PE X (.Call (.Name "list" p) [a] [] pos) (tL cla X.K W fun ρ => bnd (ma ρ) fun lv => ret (.f lv.xs)) :=
  PE.weak (pe_callTy call_list_of hg hm PyProof.Rows.boot_list (pa_cons ha pa_nil (star_cons hp)) (he := star_cons hp)) fun σ H Q ⟨μ, ρ, st, A, P⟩ => by
  refine ⟨μ, ρ, st, A, Post.mono P.bnd (Ext.refl _ _) fun v st1 μ1 H1 e1 s1 P1 x rx => ?_⟩
  obtain ⟨a, xs, rfl, hq, r⟩ := rx.seq
  exact ⟨_, _, rfl, hq, fun p hp => new_list e1 s1 r P1 hp⟩
theorem r_ixL {a b : Expr} {pos : Pos} {ma : Env' → M LV} {mb : Env' → M Val} (hu : X.A.units + 1 < cLine) (hs : PlainIx b) (ha : PE X a (tL cla X.K W ma)) (hb : PE X b (tM cla X.K W mb)) :
    PE X (.Subscript a b pos) (tM cla X.K W fun ρ => bnd (ma ρ) fun lv => bnd (mb ρ) fun y => bnd (chk lv.there) fun _ => match y with
    | .int i => idx lv.xs i
    | _ => fail) := PE.weak (pe_ix (ix_all hu) ha hb hs) fun σ H Q ⟨μ, ρ, st, A, P⟩ => by
  refine ⟨μ, ρ, st, A, Post.mono P.bnd (Ext.refl _ _) fun v st1 μ1 H1 e1 s1 P1 x rx => ?_⟩
  refine ⟨μ1, ρ, st1, A.up e1 s1, Post.mono P1.bnd (Ext.refl _ _) fun w st2 μ2 H2 e2 s2 P2 y ry => ?_⟩
  obtain ⟨th, P3⟩ := chk_ok P2
  cases ry with
  | int =>
    obtain ⟨a, xs, rfl, hq, r⟩ := (rx.up e2 s1 s2 th).seq
    obtain ⟨z, h1, h2⟩ := idx_cases P3 s2 r
    rcases hq with hq | hq
    · exact .inl (.inl ⟨_, _, _, z, rfl, rfl, hq, h1, h2⟩)
    · exact .inl (.inr (.inl ⟨_, _, _, z, rfl, rfl, hq, h1, h2⟩))
  | _ => exact P3.elim
/-! ### built-ins of lists -/
theorem r_bL {a : Expr} {id : Str} {bid : String} {p pos : Pos} {r : List V → Hp → VK → Prop} {g : LV → M Val} {ma : Env' → M LV} (hc : CallR X (.builtin bid) r) (hg : Gl X id) (hm : X.mg id = none) (hv : bootBuiltins id = some (.builtin bid))
    (hn : id ≠ "__name__") (hd : (id == ("__debug__" : Str)) = false) (hp : plainE a = true) (ok : OkL cla X.K r g) (ha : PE X a (tL cla X.K W ma)) :
    PE X (.Call (.Name id p) [a] [] pos) (tM cla X.K W fun ρ => bnd (ma ρ) fun lv => g lv) :=
  PE.weak (pe_callB hc hg hm hv (pa_cons ha pa_nil (star_cons hp)) hn hd (he := star_cons hp)) fun σ H Q ⟨μ, ρ, st, A, P⟩ => by
  refine ⟨μ, ρ, st, A, Post.mono P.bnd (Ext.refl _ _) fun v st1 μ1 H1 e1 s1 P1 x rx => ?_⟩
  exact ok _ μ1 H1 st1 H v x Q s1 rx P1
theorem r_bLT {a : Expr} {id : Str} {bid : String} {p pos : Pos} {r : List V → Hp → VK → Prop} {g : LV → M Val} {ma : Env' → M LV} (hc : CallR X (.type bid) r) (hg : Gl X id) (hm : X.mg id = none) (hv : bootBuiltins id = some (.type bid))
    (hn : id ≠ "__name__") (hd : (id == ("__debug__" : Str)) = false) (hp : plainE a = true) (ok : OkL cla X.K r g) (ha : PE X a (tL cla X.K W ma)) :
    PE X (.Call (.Name id p) [a] [] pos) (tM cla X.K W fun ρ => bnd (ma ρ) fun lv => g lv) :=
  PE.weak (pe_callTy hc hg hm hv (pa_cons ha pa_nil (star_cons hp)) hn hd (he := star_cons hp)) fun σ H Q ⟨μ, ρ, st, A, P⟩ => by
  refine ⟨μ, ρ, st, A, Post.mono P.bnd (Ext.refl _ _) fun v st1 μ1 H1 e1 s1 P1 x rx => ?_⟩
  exact ok _ μ1 H1 st1 H v x Q s1 rx P1
end
end Mg

/-! MgA: calls. -/
namespace Mg
open PySem PySem.Spec PyProof.Rows L2
section
variable {cla : Str → Option Addr} {W : WX} {X : Cx} {C : Str → List Val → M Val}
theorem sp_of {f : Str} {n k : Nat} {fa : Addr} {fd : FuncData} {ps : List Str} (c : CallOk X cla C f n fa fd ps k) {μ : List Addr} {H : Hp} {st : Sto} {vs : List Val} {xs : List V} {E : XK} {Q : VK} (s : RS X.K μ H st) (r : RVs X.K μ H xs vs)
    (P : PV cla X.K E μ H (C f vs st) Q) : spOf cla X.K n (C f) xs H Q E := by
  refine ⟨?_, μ, vs, st, s, r, P⟩
  rw [r.length]
  by_cases h : vs.length = n
  · exact h
  · unfold PV at P
    rw [c.bad vs st h] at P
    exact P.elim
theorem r_call {f : Str} {n k : Nat} {fa : Addr} {fd : FuncData} {ps : List Str} {p pos : Pos} {e : Expr} {es : List Expr} {ms : Env' → M (List Val)} (tk : Takes X W) (c : CallOk X cla C f n fa fd ps k) (hg : Gl X f) (hd : (f == ("__debug__" : Str)) = false)
    (hp : plainEs (e :: es) = true) (ha : PA X (e :: es) (tMs cla X.K W ms)) : PE X (.Call (.Name f p) (e :: es) [] pos) (tM cla X.K W fun ρ => bnd (ms ρ) fun vs => C f vs) := by
  have hp' : plainE e = true ∧ plainEs es = true := by simpa [plainEs] using hp
  refine PE.weak (pe_callSD (E := WE W) (dvs := []) (ds := []) c.ok c.room hg c.mg c.keep c.binds .nil (fun σ => passAt tk σ) ha hd (star_cons hp'.1) (star_plain hp'.2)) fun σ H Q ⟨μ, ρ, st, A, P⟩ => ?_
  refine ⟨μ, ρ, st, A, Post.mono P.bnd (Ext.refl _ _) fun vs st1 μ1 H1 e1 s1 P1 xs rxs => ?_⟩
  show spOf cla X.K n (C f) (xs ++ []) H1 Q (WE W σ)
  rw [List.append_nil]
  exact sp_of c s1 rxs P1
theorem r_call0 {f : Str} {n k : Nat} {fa : Addr} {fd : FuncData} {ps : List Str} {p pos : Pos} (tk : Takes X W) (c : CallOk X cla C f n fa fd ps k) (hg : Gl X f) (hd : (f == ("__debug__" : Str)) = false) :
    PE X (.Call (.Name f p) [] [] pos) (tM cla X.K W fun ρ => C f []) := by
  refine ⟨fun pins s σ H Q I ⟨μ, ρ, st, A, P⟩ => ?_⟩
  refine wpAny_Call_Name_kw (ld_glob I hg c.mg ?_ hd)
  exact PySem.W.callWith_K0 I.kIn c.keep (run_fnSD (us := []) (ds := []) (dvs := []) (E := WE W) c.ok c.room c.binds .nil (passAt tk σ) I .nil (sp_of c A.rs .nil P))
/-! ### by keywords -/
theorem run_kw {f : Str} {n m k : Nat} {fa : Addr} {fd : FuncData} {ps ks : List Str} {p : List Nat} {pins : List (Addr × Obj)} {s : Shared} {σ : L2.St} {H : Hp} {Q : VK} {us ws : List Value} {vs zs : List V} (tk : Takes X W) (c : CallOk X cla C f n fa fd ps k)
    (hb : KBn X.K fd ps m ks (fun us ws => pick p (us ++ ws)) fun vs zs => pick p (vs ++ zs)) (I : Inv X pins σ H s) (r : Vals vs us) (rz : Vals zs ws) (l1 : vs.length = m) (l2 : zs.length = ks.length) (h : spOf cla X.K n (C f) (pick p (vs ++ zs)) H Q (WE W σ)) :
    wpAny (model X.prog X.w) X.A (PySem.call (.ref fa) us (ks.zip ws)) (EP X pins σ Q) X.xe s := by
  have r2 := hb.rel r rz
  refine wpAny_call (codeAny_mono (c.ok.run X.A X.stack s H ⟨us, ks.zip ws⟩ _ _ Q (WE W σ) c.room I.env0 (hb.to s us ws I.kIn (r.length.symm.trans l1) (rz.length.symm.trans l2)) r2 h) fun r s' hq => ?_)
  cases r with
  | error e => exact passAt tk σ pins H s e s' I hq
  | ok fl =>
    cases fl with
    | ret u => exact I.after hq
    | next => exact False.elim hq
    | brk => exact False.elim hq
    | cont => exact False.elim hq
theorem kw_map {env : Env} {pos : Pos} : ∀ {kws : List Keyword} {ks : List Str}, kws.map (·.arg) = ks.map some →
    (backToKw pos (keywordEach kws env)).all (·.1.isSome) = true ∧ (backToKw pos (keywordEach kws env)).filterMap (·.1) = ks ∧ (backToKw pos (keywordEach kws env)).any (·.1.isNone) = false
  | [], [], _ => ⟨rfl, rfl, rfl⟩
  | [], _ :: _, h => nomatch h
  | _ :: _, [], h => nomatch h
  | ⟨nm, e, p⟩ :: kws, k :: ks, h => by
    injection h with h1 h2
    obtain ⟨q1, q2, q3⟩ := kw_map (env := env) (pos := pos) h2
    have h1' : nm = some k := h1
    subst h1'
    refine ⟨?_, ?_, ?_⟩
    · show ((some k : Option Str).isSome && (backToKw pos (keywordEach kws env)).all (·.1.isSome)) = true
      rw [q1]; rfl
    · show (((some k : Option Str), _) :: backToKw pos (keywordEach kws env)).filterMap (·.1) = _
      rw [List.filterMap_cons, q2]
    · show ((some k : Option Str).isNone || (backToKw pos (keywordEach kws env)).any (·.1.isNone)) = false
      rw [q3]; rfl
theorem rvs_pick {K : Frg} {μ : List Addr} {H : Hp} {xs : List V} {vs : List Val} (r : RVs K μ H xs vs) : ∀ p : List Nat, RVs K μ H (pick p xs) (pick p vs)
  | [] => .nil
  | i :: p => by
    have ih := rvs_pick r p
    unfold pick at ih ⊢
    rw [List.filterMap_cons, List.filterMap_cons]
    cases e : vs[i]? with
    | none =>
      have e2 : xs[i]? = none := by
        rw [List.getElem?_eq_none_iff] at e ⊢
        rw [r.length]; exact e
      rw [e2]
      exact ih
    | some v =>
      obtain ⟨x, h1, h2⟩ := r.get e
      rw [h1]
      exact .cons h2 ih
theorem r_callK {f : Str} {n m k : Nat} {fa : Addr} {fd : FuncData} {ps ks : List Str} {perm : List Nat} {p pos : Pos} {es : List Expr} {kws : List Keyword} {ms mk : Env' → M (List Val)} (tk : Takes X W) (c : CallOk X cla C f n fa fd ps k)
    (hb : KBn X.K fd ps m ks (fun us ws => pick perm (us ++ ws)) fun vs zs => pick perm (vs ++ zs)) (hg : Gl X f) (hd : (f == ("__debug__" : Str)) = false) (hp : plainEs es = true) (hk : kws.map (·.arg) = ks.map some) (hm : es.length = m)
    (hl : ∀ ρ st vs st', ms ρ st = .ok vs st' → vs.length = es.length) (hl2 : ∀ ρ st vs st', mk ρ st = .ok vs st' → vs.length = ks.length) (hnil : es = [] → ms = fun _ => ret [])
    (ha : PA X es (tMs cla X.K W ms)) (hkw : PK X kws (tMs cla X.K W mk)) : PE X (.Call (.Name f p) es kws pos) (tM cla X.K W fun ρ => bnd (ms ρ) fun vs => bnd (mk ρ) fun ws => C f (pick perm (vs ++ ws))) := by
  obtain ⟨q1, q2, q3⟩ := kw_map (env := X.env) (pos := pos) hk
  refine ⟨fun pins s σ H Q I ⟨μ, ρ, st, A, P⟩ => ?_⟩
  change Post cla X.K (WE' W σ) μ H (bnd (ms ρ) (fun vs => bnd (mk ρ) fun ws => C f (pick perm (vs ++ ws))) st) _ at P
  refine wpAny_Call_Name_kw (ld_glob I hg c.mg ?_ hd)
  have key : ∀ {us : List Value} {s1 : Shared} {vs : List V} {H1 : Hp} {μ1 : List Addr} {st1 : Sto} {l : List Val}, Inv X pins σ H1 s1 → Vals vs us → RVs X.K μ1 H1 vs l → At X.K μ1 H1 σ ρ st1 → l.length = es.length →
      Post cla X.K (WE' W σ) μ1 H1 (bnd (mk ρ) (fun ws => C f (pick perm (l ++ ws))) st1) (fun v _ μ' H' => ∀ x, RV X.K μ' H' x v → Q x H') →
      wpAny (model X.prog X.w) X.A (evalAll ((backToKw pos (keywordEach kws X.env)).map (·.2))) (fun ws s2 => X.K.In s2.heap ∧ wpAny (model X.prog X.w) X.A (PySem.call (.ref fa) us (((backToKw pos (keywordEach kws X.env)).filterMap (·.1)).zip ws)) (EP X pins σ Q) X.xe s2) X.xe s1 := by
    intro us s1 vs H1 μ1 st1 l I1 r rl A1 hlen P1
    refine thn (hkw.run pos pins s1 σ H1 (fun zs H2 => ∃ (μ2 : List Addr) (st2 : Sto) (ws : List Val), Ext μ1 H1 μ2 H2 ∧ RS X.K μ2 H2 st2 ∧ RVs X.K μ2 H2 zs ws ∧ ws.length = ks.length ∧ PV cla X.K (WE' W σ) μ2 H2 (C f (pick perm (l ++ ws)) st2) Q) I1 ?_) fun ws' s2 ⟨zs, H2, I2, rz, μ2, st2, ws, e2, s2', rws, hl', P2⟩ => ⟨I2.kIn, ?_⟩
    · refine ⟨μ1, ρ, st1, A1, ?_⟩
      cases w : mk ρ st1 with
      | bad => rw [bnd_bad w] at P1; exact P1.elim
      | exc e st2 => rw [bnd_exc w] at P1; exact P1
      | ok ws st2 =>
        rw [bnd_ok w] at P1
        intro μ2 H2 e2 s2 xs rxs
        exact ⟨μ2, st2, ws, e2, s2, rxs, hl2 _ _ _ _ w, Post.mono P1 e2 fun _ _ _ _ _ _ z => z⟩
    · rw [q2]
      have rall : RVs X.K μ2 H2 (vs ++ zs) (l ++ ws) := (rl.up e2 A1.rs).append rws
      exact run_kw tk c hb I2 r rz (by rw [rl.length, hlen]; exact hm) (by rw [rws.length]; exact hl') (sp_of c s2' (rvs_pick rall perm) P2)
  cases es with
  | nil =>
    refine PySem.W.callWith_KW0 (h₀ := X.base) I.ok.mod.kin c.keep q1 ?_ (by rw [q3]; rfl)
    rw [hnil rfl] at P
    exact key (us := []) I .nil .nil A rfl P
  | cons e es =>
    have hp' : plainE e = true ∧ plainEs es = true := by simpa [plainEs] using hp
    refine PySem.W.callWith_KW (h₀ := X.base) I.ok.mod.kin c.keep q1 ?_ (by rw [star_plain (es := e :: es) hp, q3]; rfl) (star_cons hp'.1)
    refine thn (ha.run pos pins s σ H (fun vs H1 => ∃ (μ1 : List Addr) (st1 : Sto) (l : List Val), RVs X.K μ1 H1 vs l ∧ At X.K μ1 H1 σ ρ st1 ∧ l.length = (e :: es).length ∧
      Post cla X.K (WE' W σ) μ1 H1 (bnd (mk ρ) (fun ws => C f (pick perm (l ++ ws))) st1) (fun v _ μ' H' => ∀ x, RV X.K μ' H' x v → Q x H')) I ?_) fun us s1 ⟨vs, H1, I1, r, μ1, st1, l, rl, A1, hlen, P1⟩ => key I1 r rl A1 hlen P1
    refine ⟨μ, ρ, st, A, ?_⟩
    cases w : ms ρ st with
    | bad => rw [bnd_bad w] at P; exact P.elim
    | exc e st2 => rw [bnd_exc w] at P; exact P
    | ok l st1 =>
      rw [bnd_ok w] at P
      intro μ1 H1 e1 s1 xs rxs
      exact ⟨μ1, st1, l, rxs, A.up e1 s1, hl _ _ _ _ w, Post.mono P e1 fun _ _ _ _ _ _ z => z⟩
end
end Mg

/-! MgB: built-ins called, methods, what is walked. -/
namespace Mg
open PySem PySem.Spec PyProof.Rows L2
section
variable {cla : Str → Option Addr} {W : WX} {X : Cx}
/-! ### built-ins of one and two values -/
theorem r_b1 {a : Expr} {id : Str} {bid : String} {p pos : Pos} {r : List V → Hp → VK → Prop} {g : Val → M Val} {ma : Env' → M Val} (hc : CallR X (.builtin bid) r) (hg : Gl X id) (hm : X.mg id = none) (hv : bootBuiltins id = some (.builtin bid))
    (hn : id ≠ "__name__") (hd : (id == ("__debug__" : Str)) = false) (hp : plainE a = true) (ok : Ok1 cla X.K (fun x H Q => r [x] H Q) g) (ha : PE X a (tM cla X.K W ma)) :
    PE X (.Call (.Name id p) [a] [] pos) (tM cla X.K W fun ρ => bnd (ma ρ) g) :=
  PE.weak (pe_callB hc hg hm hv (pa_cons ha pa_nil (star_cons hp)) hn hd (he := star_cons hp)) fun σ H Q h => tm1 (r := fun x H Q => r [x] H Q) (fun E μ H st x X Q s rx P => ok E μ H st x X Q s rx P) h
theorem r_b1T {a : Expr} {id : Str} {bid : String} {p pos : Pos} {r : List V → Hp → VK → Prop} {g : Val → M Val} {ma : Env' → M Val} (hc : CallR X (.type bid) r) (hg : Gl X id) (hm : X.mg id = none) (hv : bootBuiltins id = some (.type bid))
    (hn : id ≠ "__name__") (hd : (id == ("__debug__" : Str)) = false) (hp : plainE a = true) (ok : Ok1 cla X.K (fun x H Q => r [x] H Q) g) (ha : PE X a (tM cla X.K W ma)) :
    PE X (.Call (.Name id p) [a] [] pos) (tM cla X.K W fun ρ => bnd (ma ρ) g) :=
  PE.weak (pe_callTy hc hg hm hv (pa_cons ha pa_nil (star_cons hp)) hn hd (he := star_cons hp)) fun σ H Q h => tm1 (r := fun x H Q => r [x] H Q) (fun E μ H st x X Q s rx P => ok E μ H st x X Q s rx P) h
theorem r_b2 {a b : Expr} {id : Str} {bid : String} {p pos : Pos} {r : List V → Hp → VK → Prop} {g : Val → Val → M Val} {ma mb : Env' → M Val} (hc : CallR X (.builtin bid) r) (hg : Gl X id) (hm : X.mg id = none) (hv : bootBuiltins id = some (.builtin bid))
    (hn : id ≠ "__name__") (hd : (id == ("__debug__" : Str)) = false) (hp : plainE a = true) (hp2 : plainE b = true) (ok : Ok2 cla X.K (fun x y H Q => r [x, y] H Q) g) (ha : PE X a (tM cla X.K W ma)) (hb : PE X b (tM cla X.K W mb)) :
    PE X (.Call (.Name id p) [a, b] [] pos) (tM cla X.K W fun ρ => bnd (ma ρ) fun x => bnd (mb ρ) fun y => g x y) :=
  PE.weak (pe_callB hc hg hm hv (pa_cons ha (pa_cons hb pa_nil (star_cons hp2)) (star_cons hp)) hn hd (he := star_cons hp) (hpl := star_plain (es := [b]) (by simp [plainEs, hp2]))) fun σ H Q h => tm2 (r := fun x y H Q => r [x, y] H Q) (fun E μ H st x y X Y Q s rx ry P => ok E μ H st x y X Y Q s rx ry P) h
/-- len of a dict, too -/
def rLenAll (K : Frg) : List V → Hp → VK → Prop := fun xs H Q => (∃ x n, xs = [x] ∧ LenV K x H n ∧ Q (.int n) H) ∨ (∃ a kvs, xs = [V.ref a] ∧ H a = some (.dK kvs) ∧ Q (.int kvs.length) H) ∨ rLenT xs H Q
theorem call_lenAll : CallR X (.builtin "len") (rLenAll X.K) := call_len.or (call_lenD.or call_len_dT)
theorem ok_lenAll : Ok1 cla X.K (fun x H Q => rLenAll X.K [x] H Q) (op1 .len) := fun E μ H st x Y Q s rx P => by
  rcases ok_len E μ H st x Y Q s rx P with ⟨n, h, q⟩ | ⟨d, rfl, ⟨kvs, h, q⟩ | ⟨kvs, h, q⟩⟩
  · exact .inl ⟨_, n, rfl, h, q⟩
  · exact .inr (.inl ⟨_, kvs, rfl, h, q⟩)
  · exact .inr (.inr ⟨_, kvs, rfl, h, q⟩)
theorem r_isi {a b : Expr} {p pos : Pos} {ma : Env' → M Val} {t : Ty} (hg : Gl X "isinstance") (hm : X.mg "isinstance" = none) (hp : plainE a = true) (hp2 : plainE b = true) (ha : PE X a (tM cla X.K W ma)) (hb : PE X b (tC (.ty (tyS t)))) :
    PE X (.Call (.Name "isinstance" p) [a, b] [] pos) (tM cla X.K W fun ρ => bnd (ma ρ) fun x => opIsi x [t]) :=
  PE.weak (pe_callB call_isi hg hm PyProof.Rows.boot_isinstance (pa_cons ha (pa_cons hb pa_nil (star_cons hp2)) (star_cons hp)) (he := star_cons hp) (hpl := star_plain (es := [b]) (by simp [plainEs, hp2]))) fun σ H Q h =>
    tm1 (r := fun x H Q => rIsi X.K [x, .ty (tyS t)] H Q) (fun E μ H st x X Q s rx P => ok_isi1 t E μ H st x X Q s rx P) h
/-- the classes' names, one behind another -/
def tTys (ts : List Ty) : TA := fun _ H Q => Q (ts.map fun t => V.ty (tyS t)) H
theorem r_isiT {a : Expr} {bs : List Expr} {k : Nat} {p p2 pos : Pos} {ma : Env' → M Val} {ts : List Ty} (hg : Gl X "isinstance") (hm : X.mg "isinstance" = none) (hp : plainE a = true) (hne : ts ≠ []) (hsz : ts.length ≤ sizeLine) (ha : PE X a (tM cla X.K W ma)) (hb : PA X bs (tTys ts)) :
    PE X (.Call (.Name "isinstance" p) [a, .Tuple bs k p2] [] pos) (tM cla X.K W fun ρ => bnd (ma ρ) fun x => opIsi x ts) :=
  PE.weak (pe_callB call_isiT hg hm PyProof.Rows.boot_isinstance (pa_cons ha (pa_cons (pe_tup hb) pa_nil) (star_cons hp)) (he := star_cons hp)) fun σ H Q ⟨μ, ρ, st, A, P⟩ => by
  refine ⟨μ, ρ, st, A, Post.mono P.bnd (Ext.refl _ _) fun v st1 μ1 H1 e1 s1 P1 x rx => ?_⟩
  refine ⟨by simpa using hsz, fun tp hT => ?_⟩
  have e2 : Ext μ1 H1 μ1 (upd H1 tp (.tup (ts.map fun t => V.ty (tyS t)))) := Ext.side hT s1
  exact ok_isiT ts _ μ1 _ st1 v x Q tp hne (s1.side hT) (rx.up e2 s1) upd_same (Post.mono P1 e2 fun _ _ _ _ _ _ z => z)

/-! ### methods of lists -/
theorem tyV_lst {K : Frg} {H : Hp} {a : Addr} {xs : List V} (h : H a = some (.lst xs)) : tyV K "list" (.ref a) H := Or.inl ⟨rfl, _, Or.inl (Or.inl h)⟩
theorem chk_lst {α : Type} {K : Frg} {E : XK} {μ : List Addr} {H : Hp} {st : Sto} {v : Val} {x : V} {f : Unit → M α} {P : α → Sto → List Addr → Hp → Prop} {m : Mt} (hm : m = .append ∨ m = .pop ∨ m = .popAt) (s : RS K μ H st) (rx : RV K μ H x v)
    (h : Post cla K E μ H (bnd (chkMt m v) f st) P) : tyV K "list" x H ∧ Post cla K E μ H (f () st) P := by
  cases rx with
  | @ref a r hr =>
    have e : chkMt m (.ref r) = chk fun st => (lget st r).isSome = true := by
      rcases hm with z | z | z <;> (subst z; rfl)
    rw [e] at h
    obtain ⟨c, q⟩ := chk_ok h
    obtain ⟨l, hl⟩ := Option.isSome_iff_exists.mp c
    obtain ⟨xs, e1, _⟩ := s.lst (lget_some hl) hr
    exact ⟨tyV_lst e1, q⟩
  | _ =>
    exfalso
    rcases hm with z | z | z <;> (subst z; exact h.elim)
theorem r_append {o e : Expr} {apos cpos : Pos} {mo ma : Env' → M Val} (hs : notSuper o = true) (hline : (apos.endLine == cpos.line) = true) (hp : plainE e = true) (ho : PE X o (tM cla X.K W mo)) (ha : PE X e (tM cla X.K W ma)) :
    PE X (.Call (.Attribute o "append" apos) [e] [] cpos) (tM cla X.K W fun ρ => bnd (mo ρ) fun x => bnd (chkMt .append x) fun _ => bnd (bnd (ma ρ) fun v => bnd (ret []) fun vs => ret (v :: vs)) fun vs => opMt .append x vs) :=
  PE.weak (pe_bm PySem.F.plainAttrs_list PySem.F.slot_list_append PySem.F.type_list_append mt_append ho (pa_cons ha pa_nil (star_cons hp)) (base_of hs) (by rw [star_cons hp]; rfl) hline (star_cons hp)) fun σ H Q ⟨μ, ρ, st, A, P⟩ => by
  refine ⟨μ, ρ, st, A, Post.mono P.bnd (Ext.refl _ _) fun v st1 μ1 H1 e1 s1 P1 x rx => ?_⟩
  obtain ⟨ty, P2⟩ := chk_lst (.inl rfl) s1 rx P1
  refine ⟨ty, μ1, ρ, st1, A.up e1 s1, ?_⟩
  rw [bnd_assoc] at P2
  refine Post.mono P2.bnd (Ext.refl _ _) fun w st2 μ2 H2 e2 s2 P3 y ry => ?_
  exact ok_append _ μ2 H2 st2 v w x y Q s2 (rx.up e2 s1) ry P3
theorem r_pop {o : Expr} {apos cpos : Pos} {mo : Env' → M Val} (hs : notSuper o = true) (hline : (apos.endLine == cpos.line) = true) (ho : PE X o (tM cla X.K W mo)) :
    PE X (.Call (.Attribute o "pop" apos) [] [] cpos) (tM cla X.K W fun ρ => bnd (mo ρ) fun x => bnd (chkMt .pop x) fun _ => bnd (ret []) fun vs => opMt .pop x vs) :=
  PE.weak (pe_bm0 PySem.F.plainAttrs_list PySem.F.slot_list_pop PySem.F.type_list_pop mt_pop ho (base_of hs) hline) fun σ H Q ⟨μ, ρ, st, A, P⟩ => by
  refine ⟨μ, ρ, st, A, Post.mono P.bnd (Ext.refl _ _) fun v st1 μ1 H1 e1 s1 P1 x rx => ?_⟩
  obtain ⟨ty, P2⟩ := chk_lst (.inr (.inl rfl)) s1 rx P1
  exact ⟨ty, ok_pop _ μ1 H1 st1 v x Q s1 rx P2⟩
theorem r_popAt {o e : Expr} {apos cpos : Pos} {mo ma : Env' → M Val} (hs : notSuper o = true) (hline : (apos.endLine == cpos.line) = true) (hp : plainE e = true) (ho : PE X o (tM cla X.K W mo)) (ha : PE X e (tM cla X.K W ma)) :
    PE X (.Call (.Attribute o "pop" apos) [e] [] cpos) (tM cla X.K W fun ρ => bnd (mo ρ) fun x => bnd (chkMt .popAt x) fun _ => bnd (bnd (ma ρ) fun v => bnd (ret []) fun vs => ret (v :: vs)) fun vs => opMt .popAt x vs) :=
  PE.weak (pe_bm PySem.F.plainAttrs_list PySem.F.slot_list_pop PySem.F.type_list_pop mt_popAt ho (pa_cons ha pa_nil (star_cons hp)) (base_of hs) (by rw [star_cons hp]; rfl) hline (star_cons hp)) fun σ H Q ⟨μ, ρ, st, A, P⟩ => by
  refine ⟨μ, ρ, st, A, Post.mono P.bnd (Ext.refl _ _) fun v st1 μ1 H1 e1 s1 P1 x rx => ?_⟩
  obtain ⟨ty, P2⟩ := chk_lst (.inr (.inr rfl)) s1 rx P1
  refine ⟨ty, μ1, ρ, st1, A.up e1 s1, ?_⟩
  rw [bnd_assoc] at P2
  refine Post.mono P2.bnd (Ext.refl _ _) fun w st2 μ2 H2 e2 s2 P3 y ry => ?_
  exact ok_popAt _ μ2 H2 st2 v w x y Q s2 (rx.up e2 s1) ry P3
end
end Mg

/-! MgC: what is walked, comprehensions. -/
namespace Mg
open PySem PySem.Spec PyProof.Rows L2
/-- how an iterator walks the items -/
def IW (K : Frg) (μ : List Addr) (H : Hp) (it : Items) (J : It) : Prop := ∃ G Y, L2.Walk J it.xs.length G Y ∧ (∀ μ1 H1 st1, Ext μ H μ1 H1 → RS K μ1 H1 st1 → it.ok st1 → G H1) ∧
  ∀ (i : Nat) H1 x H2 μ1 st1, Ext μ H μ1 H1 → RS K μ1 H1 st1 → it.ok st1 → i < it.xs.length → G H1 → Y i H1 x H2 → Ext μ1 H1 μ1 H2 ∧ RS K μ1 H2 st1 ∧ ∃ v, it.xs[i]? = some v ∧ RV K μ1 H2 x v
def tI (cla : Str → Option Addr) (K : Frg) (W : WX) (m : Env' → M Items) : TI := fun σ H R => ∃ μ ρ st, At K μ H σ ρ st ∧ Post cla K (WE' W σ) μ H (m ρ st) fun it _ μ' H' => ∀ J, IW K μ' H' it J → it.xs.length ≤ sizeLine → R J H'
section
variable {cla : Str → Option Addr} {W : WX} {X : Cx} {tg : Expr}
theorem PI.weak {e : Expr} {t t' : TI} (h : PI X tg e t) (hw : ∀ σ H R, t' σ H R → t σ H R) : PI X tg e t' := ⟨fun pins s σ H R I w => h.run pins s σ H R I (hw _ _ _ w)⟩
/-- lists and tuples have no more than so many items -/
def Lim (K : Frg) (H : Hp) : Prop := (∀ a xs, SqL K H a xs → xs.length ≤ sizeLine) ∧ ∀ a xs, SqT K H a xs → xs.length ≤ sizeLine
theorem lim_of {pins : List (Addr × Obj)} {σ : L2.St} {H : Hp} {s : Shared} (I : Inv X pins σ H s) : Lim X.K H :=
  ⟨fun _ _ h => let ⟨_, _, _, z⟩ := I.list h; z, fun _ _ h => let ⟨_, _, _, z⟩ := I.tuple h; z⟩
theorem PI.lim {e : Expr} {t : TI} (h : PI X tg e t) : PI X tg e fun σ H R => t σ H fun J H' => Lim X.K H' → R J H' := ⟨fun pins s σ H R I w =>
  thn (h.run pins s σ H _ I w) fun v s1 h1 => thn h1 fun itv s2 h2 => by
    obtain ⟨it, fp, tn, J, H', e, I2, T, st2, f2, q⟩ := h2
    exact ⟨it, fp, tn, J, H', e, I2, T, st2, f2, q (lim_of I2)⟩⟩
/-- a list or a tuple -/
def iSeq (K : Frg) (tl : TE) : TI := fun σ H R => tl σ H fun x H1 => ∃ a, x = .ref a ∧ (((∃ xs, SqL K H1 a xs) ∧ R (Itl K a) H1) ∨ ((∃ xs, SqT K H1 a xs) ∧ R (Itt K a) H1))
theorem pi_seq {l : Expr} {tl : TE} (hl : PE X l tl) : PI X tg l (iSeq X.K tl) := by
  refine ⟨fun pins s σ H R I h => ?_⟩
  refine thn (hl.run pins s σ H _ I h) fun v s1 ⟨x, H1, I1, r1, q1⟩ => ?_
  obtain ⟨a, e, ⟨⟨xs, hq⟩, q⟩ | ⟨⟨xs, hq⟩, q⟩⟩ := q1
  · subst e
    cases r1
    obtain ⟨its, rv, p, hz⟩ := I1.list hq
    refine wpAny_pyIter_list p.isList ?_
    refine ⟨s1.heap.objs.size, [s1.heap.objs.size], _, _, H1, rfl, I1.kept (t' := s1.toks) fun b o e => Heap.get?_push_of_some _ e, turn_list a _, ⟨_, Heap.get?_push_size _ rfl, rfl, rfl⟩, fun b hb => ?_, q⟩
    have e : b = s1.heap.objs.size := by simpa using hb
    subst e
    exact I1.fpOk (Nat.le_refl _) (I1.hok.fresh (Nat.le_refl _))
  · subst e
    cases r1
    obtain ⟨its, rv, p, hz⟩ := I1.tuple hq
    refine wpAny_pyIter_tuple (show s1.heap.IsTuple a its.toArray from p) ?_
    refine ⟨s1.heap.objs.size, [s1.heap.objs.size], _, _, H1, rfl, I1.kept (t' := s1.toks) fun b o e => Heap.get?_push_of_some _ e, turn_tuple a _, ⟨_, Heap.get?_push_size _ rfl, rfl, rfl⟩, fun b hb => ?_, q⟩
    have e : b = s1.heap.objs.size := by simpa using hb
    subst e
    exact I1.fpOk (Nat.le_refl _) (I1.hok.fresh (Nat.le_refl _))
/-- a list or a tuple stands as it was -/
theorem RL.stays {K : Frg} {H0 : Hp} {μ μ1 : List Addr} {H H1 : Hp} {st st1 : Sto} {a : Addr} {lv : LV} (r : RL K H0 μ H (.ref a) lv) (s : RS K μ H st) (e : Ext μ H μ1 H1) (s1 : RS K μ1 H1 st1) (th : lv.there st1) : RL K H0 μ1 H1 (.ref a) lv := r.up e s s1 th
/-- the walk of a list -/
theorem iw_seq {K : Frg} {H0 : Hp} {μ : List Addr} {H : Hp} {st : Sto} {a : Addr} {lv : LV} (r : RL K H0 μ H (.ref a) lv) (s : RS K μ H st) :
    (∃ xs, SqL K H a xs ∧ IW K μ H ⟨lv.xs, lv.there⟩ (Itl K a)) ∨ ∃ xs, SqT K H a xs ∧ IW K μ H ⟨lv.xs, lv.there⟩ (Itt K a) := by
  -- the items stand from turn to turn
  cases r with
  | @t _ xs l h r =>
    refine .inr ⟨xs, .inl (.inl h), fun H1 => H1 a = some (.tup xs), YAt xs, ?_, fun μ1 H1 st1 e s1 _ => e.isT s h, fun i H1 x H2 μ1 st1 e s1 th hi g y => ?_⟩
    · have w := walk_tup (K := K) (a := a) (xs := xs)
      rw [r.length] at w
      exact w.mono (fun H1 g => .inl (.inl g)) fun _ _ _ _ _ _ q => q
    · obtain ⟨rfl, hx⟩ := y
      obtain ⟨v, h1, h2⟩ := (r.up e s).get' hx
      exact ⟨Ext.refl _ _, s1, v, h1, h2⟩
  | @f _ xs l h n h0 r =>
    refine .inl ⟨xs, .inl (.inl h), fun H1 => H1 a = some (.lst xs), YAt xs, ?_, fun μ1 H1 st1 e s1 _ => e.keep _ _ h n, fun i H1 x H2 μ1 st1 e s1 th hi g y => ?_⟩
    · have w := walk_list (K := K) (a := a) (xs := xs)
      rw [r.length] at w
      exact w.mono (fun H1 g => .inl (.inl g)) fun _ _ _ _ _ _ q => q
    · obtain ⟨rfl, hx⟩ := y
      obtain ⟨v, h1, h2⟩ := (r.up e s).get' hx
      exact ⟨Ext.refl _ _, s1, v, h1, h2⟩
  | @ro _ xs l h r =>
    refine .inl ⟨xs, h.seq, fun H1 => FrL K H1 a xs, YAt xs, ?_, fun μ1 H1 st1 e s1 _ => e.frL s h, fun i H1 x H2 μ1 st1 e s1 th hi g y => ?_⟩
    · have w := walk_list (K := K) (a := a) (xs := xs)
      rw [r.length] at w
      exact w.mono (fun H1 g => g.seq) fun _ _ _ _ _ _ q => q
    · obtain ⟨rfl, hx⟩ := y
      obtain ⟨v, h1, h2⟩ := (r.up e s).get' hx
      exact ⟨Ext.refl _ _, s1, v, h1, h2⟩
  | @s _ xs l q h r hq =>
    refine .inl ⟨xs, .inl (.inl h), fun H1 => ∃ ys, H1 a = some (.lst ys) ∧ ys.length = l.length, fun i H1 x H2 => H2 = H1 ∧ ∀ ys, H1 a = some (.lst ys) → ys[i]? = some x, ?_, fun μ1 H1 st1 e s1 th => ?_, fun i H1 x H2 μ1 st1 e s1 th hi g y => ?_⟩
    · refine ⟨fun i H1 hi g => ?_, fun H1 g => ?_, fun i H1 x H2 hi g y => ?_⟩
      · obtain ⟨ys, g1, g2⟩ := g
        have hi' : i < ys.length := by rw [g2]; exact hi
        exact ⟨ys, ys[i], .inl (.inl g1), by simp [hi']⟩
      · obtain ⟨ys, g1, g2⟩ := g
        exact ⟨ys, .inl (.inl g1), by rw [g2]; exact Nat.le_refl _⟩
      · exact ⟨y.1, fun ys g1 => y.2 ys (.inl (.inl g1))⟩
    · obtain ⟨ys, e1, r1⟩ := s1.lst (show st1[q]? = some (.lst l) from th) (e.look hq)
      exact ⟨ys, e1, r1.length⟩
    · obtain ⟨rfl, hx⟩ := y
      obtain ⟨ys, e1, r1⟩ := s1.lst (show st1[q]? = some (.lst l) from th) (e.look hq)
      obtain ⟨v, h1, h2⟩ := r1.get' (hx ys e1)
      exact ⟨Ext.refl _ _, s1, v, h1, h2⟩
theorem RL.len_le {K : Frg} {H0 H : Hp} {μ : List Addr} {x : V} {lv : LV} (r : RL K H0 μ H x lv) (L : Lim K H) : lv.xs.length ≤ sizeLine := by
  obtain ⟨a, xs, _, hq, rv⟩ := r.seq
  rw [← rv.length]
  rcases hq with h | h
  · exact L.1 _ _ h
  · exact L.2 _ _ h
theorem rangeV_len {a : Int} {n : Nat} : (rangeV a n).length = n := by unfold rangeV; rw [List.length_map, List.length_range]
/-! ### the sources -/
theorem s_l {e : Expr} {m : Env' → M LV} (h : PE X e (tL cla X.K W m)) : PI X tg e (tI cla X.K W fun ρ => bnd (m ρ) fun lv => ret ⟨lv.xs, lv.there⟩) := PI.weak (PI.lim (pi_seq h)) fun σ H R ⟨μ, ρ, st, A, P⟩ => by
  refine ⟨μ, ρ, st, A, Post.mono P.bnd (Ext.refl _ _) fun lv st1 μ1 H1 e1 s1 P1 x rx => ?_⟩
  obtain ⟨a, _, rfl, _, _⟩ := rx.seq
  refine ⟨a, rfl, ?_⟩
  rcases iw_seq rx s1 with ⟨xs, hq, w⟩ | ⟨xs, hq, w⟩
  · exact .inl ⟨⟨xs, hq⟩, fun L => P1 _ _ (Ext.refl _ _) s1 _ w (rx.len_le L)⟩
  · exact .inr ⟨⟨xs, hq⟩, fun L => P1 _ _ (Ext.refl _ _) s1 _ w (rx.len_le L)⟩
theorem iw_range {K : Frg} {μ : List Addr} {H : Hp} {a : Int} {n : Nat} : IW K μ H ⟨rangeV a n, fun _ => True⟩ (Itr a n) := by
  refine ⟨fun _ => True, YFn fun i => .int (a + i), ?_, fun _ _ _ _ _ _ => trivial, fun i H1 x H2 μ1 st1 e s1 _ hi _ y => ?_⟩
  · have w := walk_range (lo := a) (n := n)
    rw [show (rangeV a n).length = n by unfold rangeV; rw [List.length_map, List.length_range]]
    exact w
  · obtain ⟨rfl, rfl⟩ := y
    have hi' : i < n := by
      have h : i < (rangeV a n).length := hi
      unfold rangeV at h
      rw [List.length_map, List.length_range] at h
      exact h
    exact ⟨Ext.refl _ _, s1, .int (a + i), by unfold rangeV; simp [hi'], .int⟩
theorem s_r1 {e : Expr} {p pos : Pos} {m : Env' → M Val} (hg : Gl X "range") (hm : X.mg "range" = none) (hp : plainE e = true) (h : PE X e (tM cla X.K W m)) :
    PI X tg (.Call (.Name "range" p) [e] [] pos) (tI cla X.K W fun ρ => bnd (m ρ) fun v => bnd (asInt v) fun j => if -(2 ^ 62) ≤ j ∧ j ≤ 16777216 then ret ⟨rangeV 0 j.toNat, fun _ => True⟩ else fail) :=
  PI.weak (pi_range1 hg hm (pa_cons h pa_nil (star_cons hp)) (star_cons hp)) fun σ H R ⟨μ, ρ, st, A, P⟩ => by
  refine ⟨μ, ρ, st, A, Post.mono P.bnd (Ext.refl _ _) fun v st1 μ1 H1 e1 s1 P1 x rx => ?_⟩
  cases rx with
  | int =>
    obtain ⟨c, P2⟩ := if_post P1
    refine ⟨_, rfl, c.1, by omega, P2 _ _ (Ext.refl _ _) s1 _ iw_range ?_⟩
    rw [rangeV_len, sizeLine_eq]
    omega
  | _ => exact P1.elim
theorem s_r2 {e f : Expr} {p pos : Pos} {m n : Env' → M Val} (hg : Gl X "range") (hm : X.mg "range" = none) (hp : plainE e = true) (hp2 : plainE f = true) (h : PE X e (tM cla X.K W m)) (h2 : PE X f (tM cla X.K W n)) :
    PI X tg (.Call (.Name "range" p) [e, f] [] pos) (tI cla X.K W fun ρ => bnd (m ρ) fun v => bnd (n ρ) fun w => bnd (asInt v) fun i => bnd (asInt w) fun j =>
      if 0 ≤ i ∧ i ≤ 16777216 ∧ -(2 ^ 62) ≤ j ∧ j ≤ 16777216 then ret ⟨rangeV i (j - i).toNat, fun _ => True⟩ else fail) :=
  PI.weak (pi_range2 hg hm (pa_cons h (pa_cons h2 pa_nil (star_cons hp2)) (star_cons hp)) (by rw [star_cons hp, star_cons hp2]; rfl) (star_cons hp2)) fun σ H R ⟨μ, ρ, st, A, P⟩ => by
  refine ⟨μ, ρ, st, A, Post.mono P.bnd (Ext.refl _ _) fun v st1 μ1 H1 e1 s1 P1 x rx => ?_⟩
  refine ⟨μ1, ρ, st1, A.up e1 s1, Post.mono P1.bnd (Ext.refl _ _) fun w st2 μ2 H2 e2 s2 P2 y ry => ?_⟩
  cases rx with
  | int => cases ry with
    | int =>
      obtain ⟨c, P3⟩ := if_post P2
      refine ⟨_, _, rfl, ⟨by omega, by omega, by omega, by omega⟩, P3 _ _ (Ext.refl _ _) s2 _ iw_range ?_⟩
      rw [rangeV_len, sizeLine_eq]
      omega
    | _ => exact P2.elim
  | _ => exact P2.elim
/-- a pair of the one's i-th and the other's -/
theorem iw_pair {K : Frg} {μ1 : List Addr} {H1 H2 : Hp} {st1 : Sto} {x : V} {a b : Nat → Option V} {i : Nat} {v w : Val} (s1 : RS K μ1 H1 st1) (y : YPair a b i H1 x H2) (ha : ∀ z, a i = some z → RV K μ1 H1 z v) (hb : ∀ z, b i = some z → RV K μ1 H1 z w) :
    Ext μ1 H1 μ1 H2 ∧ RS K μ1 H2 st1 ∧ RV K μ1 H2 x (.tup [v, w]) := by
  obtain ⟨T, p, q, rfl, nT, rfl, h1, h2⟩ := y
  have e : Ext μ1 H1 μ1 (upd H1 T (.tup [p, q])) := Ext.side nT s1
  exact ⟨e, s1.side nT, .tup upd_same (.cons ((ha p h1).up e s1) (.cons ((hb q h2).up e s1) .nil))⟩
theorem enumV_get {xs : List Val} {i : Nat} (h : i < xs.length) : (enumV xs)[i]? = some (.tup [.int i, xs[i]]) := by
  unfold enumV
  rw [List.getElem?_zipWith]
  simp [h]
theorem enumV_len {xs : List Val} : (enumV xs).length = xs.length := by unfold enumV; simp
/-- a list's items, seen from a later turn -/
theorem RL.later {K : Frg} {H0 : Hp} {μ μ1 : List Addr} {H H1 : Hp} {st st1 : Sto} {a : Addr} {lv : LV} (r : RL K H0 μ H (.ref a) lv) (s : RS K μ H st) (e : Ext μ H μ1 H1) (s1 : RS K μ1 H1 st1) (th : lv.there st1) (nt : ∀ l, lv ≠ .t l) :
    ∃ ys, SqL K H1 a ys ∧ RVs K μ1 H1 ys lv.xs := by
  rcases (r.up e s s1 th).kinds with ⟨b, xs, e1, hq, r1, _⟩ | ⟨_, _, l, _, e1, _, _⟩
  · cases e1
    exact ⟨xs, hq.seq, r1⟩
  · exact absurd e1 (nt l)
theorem RL.laterT {K : Frg} {H0 : Hp} {μ μ1 : List Addr} {H H1 : Hp} {st : Sto} {a : Addr} {l : List Val} (r : RL K H0 μ H (.ref a) (.t l)) (s : RS K μ H st) (e : Ext μ H μ1 H1) : ∃ ys, H1 a = some (.tup ys) ∧ RVs K μ1 H1 ys l := by
  cases r with
  | t h r => exact ⟨_, e.isT s h, r.up e s⟩
theorem s_enum {e : Expr} {p pos tpos : Pos} {elts : List Expr} {kk : Nat} {m : Env' → M LV} (hg : Gl X "enumerate") (hm : X.mg "enumerate" = none) (hp : plainE e = true) (h : PE X e (tL cla X.K W m)) :
    PI X (.Tuple elts kk tpos) (.Call (.Name "enumerate" p) [e] [] pos) (tI cla X.K W fun ρ => bnd (m ρ) fun lv => match lv with
      | .t _ => fail
      | lv => ret ⟨enumV lv.xs, lv.there⟩) :=
  PI.weak (PI.lim (pi_enum hg hm (pa_cons h pa_nil (star_cons hp)) (star_cons hp))) fun σ H R ⟨μ, ρ, st, A, P⟩ => by
  refine ⟨μ, ρ, st, A, Post.mono P.bnd (Ext.refl _ _) fun lv st1 μ1 H1 e1 s1 P1 x rx => ?_⟩
  rcases rx.kinds with ⟨a, xs, rfl, hq, r, nt⟩ | ⟨_, _, l, _, rfl, _, _⟩
  · have P2 : Post cla X.K (WE' W σ) μ1 H1 (ret ⟨enumV lv.xs, lv.there⟩ st1) fun it _ μ' H' => ∀ J, IW X.K μ' H' it J → it.xs.length ≤ sizeLine → R J H' := by
      cases lv with
      | t l => exact absurd rfl (nt l)
      | _ => exact P1
    refine ⟨a, xs, rfl, hq.seq, fun L => P2 _ _ (Ext.refl _ _) s1 _ ⟨fun H2 => ∃ ys, SqL X.K H2 a ys ∧ ys.length = lv.xs.length, (Ite X.K a).yld, ?_, ?_, ?_⟩ (by rw [enumV_len]; exact rx.len_le L)⟩
    · show L2.Walk _ (enumV lv.xs).length _ _
      rw [enumV_len]
      refine ⟨fun i H2 hi g => ?_, fun H2 g => ?_, fun i H2 x H3 hi g y => y⟩
      · obtain ⟨ys, g1, g2⟩ := g
        have hi' : i < ys.length := by rw [g2]; exact hi
        exact ⟨ys, ys[i], g1, by simp [hi']⟩
      · obtain ⟨ys, g1, g2⟩ := g
        exact ⟨ys, g1, by rw [g2]; exact Nat.le_refl _⟩
    · intro μ2 H2 st2 e s2 th
      obtain ⟨ys, g1, g2⟩ := rx.later s1 e s2 th nt
      exact ⟨ys, g1, g2.length⟩
    · intro i H2 x H3 μ2 st2 e s2 th hi g y
      obtain ⟨T, z, rfl, nT, rfl, f⟩ := y
      obtain ⟨ys, g1, g2⟩ := rx.later s1 e s2 th nt
      have hi' : i < lv.xs.length := by rw [← enumV_len]; exact hi
      obtain ⟨w, h1, h2⟩ := g2.get' (f ys g1)
      have e3 : Ext μ2 H2 μ2 (upd H2 T (.tup [.int (i : Nat), z])) := Ext.side nT s2
      refine ⟨e3, s2.side nT, .tup [.int (i : Nat), w], ?_, .tup upd_same (.cons .int (.cons (h2.up e3 s2) .nil))⟩
      show (enumV lv.xs)[i]? = _
      rw [enumV_get hi']
      rw [List.getElem?_eq_getElem hi'] at h1
      injection h1 with h1
      rw [h1]
  · exact P1.elim
theorem zip2V_len {xs ys : List Val} : (zip2V xs ys).length = min xs.length ys.length := by unfold zip2V; simp
theorem zip2V_get {xs ys : List Val} {i : Nat} {v w : Val} (h : xs[i]? = some v) (h2 : ys[i]? = some w) : (zip2V xs ys)[i]? = some (.tup [v, w]) := by
  unfold zip2V
  rw [List.getElem?_zipWith, h, h2]
/-- zip of two lists, or of two tuples -/
theorem s_zip2 {e f : Expr} {p pos tpos : Pos} {elts : List Expr} {kk : Nat} {m n : Env' → M LV} (hg : Gl X "zip") (hm : X.mg "zip" = none) (hp : plainE e = true) (hp2 : plainE f = true) (h : PE X e (tL cla X.K W m)) (h2 : PE X f (tL cla X.K W n)) :
    PI X (.Tuple elts kk tpos) (.Call (.Name "zip" p) [e, f] [] pos) (tI cla X.K W fun ρ => bnd (m ρ) fun x => bnd (n ρ) fun y => bnd (chk x.there) fun _ => zipI x y) :=
  PI.weak (PI.lim (RZ.pi_zipA hg hm (pa_cons h (pa_cons h2 pa_nil (star_cons hp2)) (star_cons hp)) (star_cons hp) (star_plain (es := [f]) (by simp [plainEs, hp2])))) fun σ H R ⟨μ, ρ, st, A, P⟩ => by
  refine ⟨μ, ρ, st, A, Post.mono P.bnd (Ext.refl _ _) fun v st1 μ1 H1 e1 s1 P1 x rx => ?_⟩
  refine ⟨μ1, ρ, st1, A.up e1 s1, Post.mono P1.bnd (Ext.refl _ _) fun w st2 μ2 H2 e2 s2 P2 y ry => ?_⟩
  obtain ⟨th, P3⟩ := chk_ok P2
  have rx2 := rx.up e2 s1 s2 th
  rcases rx2.kinds with ⟨a, xs, rfl, hq, r, nt⟩ | ⟨a, xs, l, rfl, rfl, hq, r⟩
  · rcases ry.kinds with ⟨b, ys, rfl, hq', r', nt'⟩ | ⟨_, _, l, _, rfl, _, _⟩
    · have P4 : Post cla X.K (WE' W σ) μ2 H2 (ret ⟨zip2V v.xs w.xs, fun st => v.there st ∧ w.there st⟩ st2) fun it _ μ' H' => ∀ J, IW X.K μ' H' it J → it.xs.length ≤ sizeLine → R J H' := by
        cases v with
        | t l => exact absurd rfl (nt l)
        | _ =>
          cases w with
          | t l => exact absurd rfl (nt' l)
          | _ => exact P3
      refine ⟨a, b, xs, ys, rfl, .inl ⟨hq.seq, hq'.seq, fun L => P4 _ _ (Ext.refl _ _) s2 _ ⟨fun H3 => ∃ us ws, SqL X.K H3 a us ∧ SqL X.K H3 b ws ∧ us.length = v.xs.length ∧ ws.length = w.xs.length, (Itz X.K a b).yld, ?_, ?_, ?_⟩ (by rw [zip2V_len]; exact Nat.le_trans (Nat.min_le_left _ _) (rx2.len_le L))⟩⟩
      · show L2.Walk _ (zip2V v.xs w.xs).length _ _
        rw [zip2V_len]
        refine ⟨fun i H3 hi g => ?_, fun H3 g => ?_, fun i H3 x H4 hi g y => y⟩
        · obtain ⟨us, ws, g1, g2, g3, g4⟩ := g
          have h1 : i < us.length := by rw [g3]; omega
          have h2 : i < ws.length := by rw [g4]; omega
          exact ⟨us, ws, us[i], ws[i], g1, g2, by simp [h1], by simp [h2]⟩
        · obtain ⟨us, ws, g1, g2, g3, g4⟩ := g
          exact ⟨us, ws, g1, g2, by omega⟩
      · intro μ3 H3 st3 e s3 th
        obtain ⟨us, g1, g2⟩ := rx2.later s2 e s3 th.1 nt
        obtain ⟨ws, g3, g4⟩ := ry.later s2 e s3 th.2 nt'
        exact ⟨us, ws, g1, g3, g2.length, g4.length⟩
      · intro i H3 x H4 μ3 st3 e s3 th hi g y
        obtain ⟨T, z, z', rfl, nT, rfl, f, f'⟩ := y
        obtain ⟨us, g1, g2⟩ := rx2.later s2 e s3 th.1 nt
        obtain ⟨ws, g3, g4⟩ := ry.later s2 e s3 th.2 nt'
        obtain ⟨q, h1, h2⟩ := g2.get' (f us g1)
        obtain ⟨q', h3, h4⟩ := g4.get' (f' ws g3)
        have e3 : Ext μ3 H3 μ3 (upd H3 T (.tup [z, z'])) := Ext.side nT s3
        exact ⟨e3, s3.side nT, .tup [q, q'], zip2V_get h1 h3, .tup upd_same (.cons (h2.up e3 s3) (.cons (h4.up e3 s3) .nil))⟩
    · exfalso
      cases v with
      | t l => exact absurd rfl (nt l)
      | _ => exact P3.elim
  · rcases ry.kinds with ⟨b, ys, rfl, hq', r', nt'⟩ | ⟨b, ys, l', rfl, rfl, hq', r'⟩
    · exfalso
      cases w with
      | t l => exact absurd rfl (nt' l)
      | _ => exact P3.elim
    · have P4 : Post cla X.K (WE' W σ) μ2 H2 (ret ⟨zip2V l l', fun _ => True⟩ st2) fun it _ μ' H' => ∀ J, IW X.K μ' H' it J → it.xs.length ≤ sizeLine → R J H' := P3
      refine ⟨a, b, xs, ys, rfl, .inr ⟨.inl (.inl hq), .inl (.inl hq'), fun L => P4 _ _ (Ext.refl _ _) s2 _ ⟨fun H3 => H3 a = some (.tup xs) ∧ H3 b = some (.tup ys), (RZ.ItzT X.K a b).yld, ?_, ?_, ?_⟩ (by rw [zip2V_len]; exact Nat.le_trans (Nat.min_le_left _ _) (rx2.len_le L))⟩⟩
      · show L2.Walk _ (zip2V l l').length _ _
        rw [zip2V_len, ← r.length, ← r'.length]
        refine ⟨fun i H3 hi g => ?_, fun H3 g => ?_, fun i H3 x H4 hi g y => y⟩
        · have h1 : i < xs.length := by omega
          have h2 : i < ys.length := by omega
          exact ⟨xs, ys, xs[i], ys[i], .inl (.inl g.1), .inl (.inl g.2), by simp [h1], by simp [h2]⟩
        · exact ⟨xs, ys, .inl (.inl g.1), .inl (.inl g.2), by omega⟩
      · intro μ3 H3 st3 e s3 _
        exact ⟨e.isT s2 hq, e.isT s2 hq'⟩
      · intro i H3 x H4 μ3 st3 e s3 _ hi g y
        obtain ⟨T, z, z', rfl, nT, rfl, f, f'⟩ := y
        obtain ⟨q, h1, h2⟩ := (r.up e s2).get' (f xs (.inl (.inl g.1)))
        obtain ⟨q', h3, h4⟩ := (r'.up e s2).get' (f' ys (.inl (.inl g.2)))
        have e3 : Ext μ3 H3 μ3 (upd H3 T (.tup [z, z'])) := Ext.side nT s3
        exact ⟨e3, s3.side nT, .tup [q, q'], zip2V_get h1 h3, .tup upd_same (.cons (h2.up e3 s3) (.cons (h4.up e3 s3) .nil))⟩
end
end Mg

/-! MgD: targets, comprehensions. -/
namespace Mg
open PySem PySem.Spec PyProof.Rows L2
/-! ### targets -/
def slots : Tg → List Nat
  | .nm i => [i]
  | .t2 a b => slots a ++ slots b
  | .t3 a b c => slots a ++ (slots b ++ slots c)
  | .t4 a b c d => slots a ++ (slots b ++ (slots c ++ slots d))
def SameBut (l : List Nat) (σ σ' : L2.St) : Prop := σ'.length = σ.length ∧ ∀ j, j ∉ l → σ'[j]? = σ[j]?
theorem SameBut.trans {l m : List Nat} {a b c : L2.St} (h : SameBut l a b) (k : SameBut m b c) : SameBut (l ++ m) a c :=
  ⟨k.1.trans h.1, fun j n => (k.2 j fun z => n (List.mem_append_right _ z)).trans (h.2 j fun z => n (List.mem_append_left _ z))⟩
def tG (K : Frg) (t : Tg) : TG := fun x σ H Q => ∃ μ ρ st v, At K μ H σ ρ st ∧ RV K μ H x v ∧ ∃ ρ', asTg t v ρ st = .ok ρ' st ∧ ∀ σ', RE K μ H σ' ρ' → SameBut (slots t) σ σ' → Q σ' H
theorem asTg_st : ∀ (t : Tg) (v : Val) (ρ : Env') (st : Sto), asTg t v ρ st = .bad ∨ ∃ ρ', asTg t v ρ st = .ok ρ' st
  | .nm i, v, ρ, st => .inr ⟨_, rfl⟩
  | .t2 a b, v, ρ, st => by
    cases v with
    | tup l =>
      match l with
      | [x, y] =>
        show bnd (asTg a x ρ) (fun ρ => asTg b y ρ) st = .bad ∨ ∃ ρ', bnd (asTg a x ρ) (fun ρ => asTg b y ρ) st = .ok ρ' st
        rcases asTg_st a x ρ st with h | ⟨ρ1, h⟩
        · exact .inl (bnd_bad h)
        · rw [bnd_ok h]; exact asTg_st b y ρ1 st
      | [] => exact .inl rfl
      | [_] => exact .inl rfl
      | _ :: _ :: _ :: _ => exact .inl rfl
    | _ => exact .inl rfl
  | .t3 a b c, v, ρ, st => by
    cases v with
    | tup l =>
      match l with
      | [x, y, z] =>
        show bnd (asTg a x ρ) (fun ρ => bnd (asTg b y ρ) fun ρ => asTg c z ρ) st = .bad ∨ ∃ ρ', bnd (asTg a x ρ) (fun ρ => bnd (asTg b y ρ) fun ρ => asTg c z ρ) st = .ok ρ' st
        rcases asTg_st a x ρ st with h | ⟨ρ1, h⟩
        · exact .inl (bnd_bad h)
        · rw [bnd_ok h]
          rcases asTg_st b y ρ1 st with h | ⟨ρ2, h⟩
          · exact .inl (bnd_bad h)
          · rw [bnd_ok h]; exact asTg_st c z ρ2 st
      | [] => exact .inl rfl
      | [_] => exact .inl rfl
      | [_, _] => exact .inl rfl
      | _ :: _ :: _ :: _ :: _ => exact .inl rfl
    | _ => exact .inl rfl
  | .t4 a b c d, v, ρ, st => by
    cases v with
    | tup l =>
      match l with
      | [x, y, z, u] =>
        show bnd (asTg a x ρ) (fun ρ => bnd (asTg b y ρ) fun ρ => bnd (asTg c z ρ) fun ρ => asTg d u ρ) st = .bad ∨ ∃ ρ', bnd (asTg a x ρ) (fun ρ => bnd (asTg b y ρ) fun ρ => bnd (asTg c z ρ) fun ρ => asTg d u ρ) st = .ok ρ' st
        rcases asTg_st a x ρ st with h | ⟨ρ1, h⟩
        · exact .inl (bnd_bad h)
        · rw [bnd_ok h]
          rcases asTg_st b y ρ1 st with h | ⟨ρ2, h⟩
          · exact .inl (bnd_bad h)
          · rw [bnd_ok h]
            rcases asTg_st c z ρ2 st with h | ⟨ρ3, h⟩
            · exact .inl (bnd_bad h)
            · rw [bnd_ok h]; exact asTg_st d u ρ3 st
      | [] => exact .inl rfl
      | [_] => exact .inl rfl
      | [_, _] => exact .inl rfl
      | [_, _, _] => exact .inl rfl
      | _ :: _ :: _ :: _ :: _ :: _ => exact .inl rfl
    | _ => exact .inl rfl
theorem bnd_inv {α β : Type} {m : M α} {f : α → M β} {st st2 : Sto} {b : β} (h : bnd m f st = .ok b st2) : ∃ a st1, m st = .ok a st1 ∧ f a st1 = .ok b st2 := by
  cases q : m st with
  | ok a st1 => rw [bnd_ok q] at h; exact ⟨a, st1, rfl, h⟩
  | exc e s => rw [bnd_exc q] at h; cases h
  | bad => rw [bnd_bad q] at h; cases h
/-- the targets change no thing -/
theorem asTg_ok {t : Tg} {v : Val} {ρ ρ' : Env'} {st st' : Sto} (h : asTg t v ρ st = .ok ρ' st') : st' = st ∧ ∀ s, asTg t v ρ s = .ok ρ' s := by
  have key : ∀ (t : Tg) (v : Val) (ρ : Env') (s s' : Sto) (ρ' : Env'), asTg t v ρ s = .ok ρ' s → asTg t v ρ s' = .ok ρ' s' := by
    intro t
    induction t with
    | nm i => intro v ρ s s' ρ' h; cases h; rfl
    | t2 a b iha ihb =>
      intro v ρ s s' ρ' h
      cases v with
      | tup l =>
        match l, h with
        | [x, y], h =>
          have h' : bnd (asTg a x ρ) (fun ρ => asTg b y ρ) s = .ok ρ' s := h
          obtain ⟨ρ1, s1, h1, h2⟩ := bnd_inv h'
          rcases asTg_st a x ρ s with q | ⟨ρ2, q⟩
          · rw [q] at h1; cases h1
          · rw [q] at h1; cases h1
            show bnd (asTg a x ρ) (fun ρ => asTg b y ρ) s' = _
            rw [bnd_ok (iha _ _ _ s' _ q)]
            exact ihb _ _ _ _ _ h2
      | _ => cases h
    | t3 a b c iha ihb ihc =>
      intro v ρ s s' ρ' h
      cases v with
      | tup l =>
        match l, h with
        | [x, y, z], h =>
          have h' : bnd (asTg a x ρ) (fun ρ => bnd (asTg b y ρ) fun ρ => asTg c z ρ) s = .ok ρ' s := h
          obtain ⟨ρ1, s1, h1, h2⟩ := bnd_inv h'
          rcases asTg_st a x ρ s with q | ⟨ρ2, q⟩
          · rw [q] at h1; cases h1
          · rw [q] at h1; cases h1
            obtain ⟨ρ3, s3, h3, h4⟩ := bnd_inv h2
            rcases asTg_st b y ρ1 s with q2 | ⟨ρ4, q2⟩
            · rw [q2] at h3; cases h3
            · rw [q2] at h3; cases h3
              show bnd (asTg a x ρ) (fun ρ => bnd (asTg b y ρ) fun ρ => asTg c z ρ) s' = _
              rw [bnd_ok (iha _ _ _ s' _ q), bnd_ok (ihb _ _ _ s' _ q2)]
              exact ihc _ _ _ _ _ h4
      | _ => cases h
    | t4 a b c d iha ihb ihc ihd =>
      intro v ρ s s' ρ' h
      cases v with
      | tup l =>
        match l, h with
        | [x, y, z, u], h =>
          have h' : bnd (asTg a x ρ) (fun ρ => bnd (asTg b y ρ) fun ρ => bnd (asTg c z ρ) fun ρ => asTg d u ρ) s = .ok ρ' s := h
          obtain ⟨ρ1, s1, h1, h2⟩ := bnd_inv h'
          rcases asTg_st a x ρ s with q | ⟨ρ2, q⟩
          · rw [q] at h1; cases h1
          · rw [q] at h1; cases h1
            obtain ⟨ρ3, s3, h3, h4⟩ := bnd_inv h2
            rcases asTg_st b y ρ1 s with q2 | ⟨ρ4, q2⟩
            · rw [q2] at h3; cases h3
            · rw [q2] at h3; cases h3
              obtain ⟨ρ5, s5, h5, h6⟩ := bnd_inv h4
              rcases asTg_st c z ρ3 s with q3 | ⟨ρ6, q3⟩
              · rw [q3] at h5; cases h5
              · rw [q3] at h5; cases h5
                show bnd (asTg a x ρ) (fun ρ => bnd (asTg b y ρ) fun ρ => bnd (asTg c z ρ) fun ρ => asTg d u ρ) s' = _
                rw [bnd_ok (iha _ _ _ s' _ q), bnd_ok (ihb _ _ _ s' _ q2), bnd_ok (ihc _ _ _ s' _ q3)]
                exact ihd _ _ _ _ _ h6
      | _ => cases h
  rcases asTg_st t v ρ st with q | ⟨ρ2, q⟩
  · rw [q] at h; cases h
  · rw [q] at h
    cases h
    exact ⟨rfl, fun s => key _ _ _ _ s _ q⟩
theorem RE.set {K : Frg} {μ : List Addr} {H : Hp} {σ : L2.St} {ρ : Env'} (e : RE K μ H σ ρ) {x : V} {v : Val} (r : RV K μ H x v) (i : Nat) : RE K μ H (σ.set i (some x)) (ρ.set i (some v)) := by
  refine ⟨by simp [e.len], fun j w h => ?_⟩
  by_cases z : j = i
  · subst z
    have hj : j < ρ.length := by
      by_cases q : j < ρ.length
      · exact q
      · rw [List.getElem?_eq_none (by simp; omega)] at h; cases h
    rw [List.getElem?_set_self hj] at h
    injection h with h
    injection h with h
    subst h
    exact ⟨x, List.getElem?_set_self (by rw [e.len]; exact hj), r⟩
  · rw [List.getElem?_set_ne (Ne.symm z)] at h
    obtain ⟨y, h1, h2⟩ := e.get j w h
    exact ⟨y, by rw [List.getElem?_set_ne (Ne.symm z)]; exact h1, h2⟩
section
variable {X : Cx}
theorem PG.weak {e : Expr} {t t' : TG} (h : PG X e t) (hw : ∀ x σ H Q, t' x σ H Q → t x σ H Q) : PG X e t' := ⟨fun pins s σ H v u Q I r w => h.run pins s σ H v u Q I r (hw _ _ _ _ w)⟩
theorem g_nm {i : Nat} {e : Expr} (h : PG X e (gName i)) : PG X e (tG X.K (.nm i)) := PG.weak h fun x σ H Q ⟨μ, ρ, st, v, A, rx, ρ', h1, h2⟩ => by
  cases h1
  refine h2 _ (A.re.set rx i) ⟨by simp, fun j n => List.getElem?_set_ne fun z => n (by rw [← z]; simp [slots])⟩
theorem asg_cons {e : Expr} {es : List Expr} {env : Env} (h : plainE e = true) : assignEach (e :: es) env = (false, assign e env) :: assignEach es env := by
  cases e <;> first | rfl | cases h
theorem g_t2 {a b : Expr} {k : Nat} {pos : Pos} {ta tb : Tg} (hc : X.calm = true) (pa : plainE a = true) (pb : plainE b = true) (ha : PG X a (tG X.K ta)) (hb : PG X b (tG X.K tb)) : PG X (.Tuple [a, b] k pos) (tG X.K (.t2 ta tb)) :=
  PG.weak (pg_tup (n := 2) hc (pgs_cons ha (pgs_cons hb pgs_nil (by rw [asg_cons pb]; rfl)) (by rw [asg_cons pa]; rfl)) (by rw [asg_cons pa, asg_cons pb]; rfl) (by rw [asg_cons pa, asg_cons pb]; rfl)) fun x σ H Q ⟨μ, ρ, st, v, A, rx, ρ', h1, h2⟩ => by
  cases rx with
  | @tup c xs l hc r =>
    match l, r, h1 with
    | [v1, v2], r, h1 =>
      have h1' : bnd (asTg ta v1 ρ) (fun ρ => asTg tb v2 ρ) st = .ok ρ' st := h1
      obtain ⟨ρ1, s1, q1, q2⟩ := bnd_inv h1'
      obtain ⟨e1, w1⟩ := asTg_ok q1
      subst e1
      cases r with
      | cons r1 r => cases r with
        | cons r2 r =>
          cases r
          exact ⟨c, _, rfl, .inl (.inl hc), rfl, _, _, rfl, ⟨μ, ρ, s1, v1, A, r1, ρ1, q1, fun σ1 E1 B1 => ⟨_, _, rfl, ⟨μ, ρ1, s1, v2, ⟨A.rs, E1⟩, r2, ρ', q2, fun σ2 E2 B2 => ⟨rfl, h2 σ2 E2 (B1.trans B2)⟩⟩⟩⟩⟩
  | _ => cases h1
theorem g_t3 {a b c : Expr} {k : Nat} {pos : Pos} {ta tb tc : Tg} (hc : X.calm = true) (pa : plainE a = true) (pb : plainE b = true) (pc : plainE c = true) (ha : PG X a (tG X.K ta)) (hb : PG X b (tG X.K tb)) (hcc : PG X c (tG X.K tc)) : PG X (.Tuple [a, b, c] k pos) (tG X.K (.t3 ta tb tc)) :=
  PG.weak (pg_tup (n := 3) hc (pgs_cons ha (pgs_cons hb (pgs_cons hcc pgs_nil (by rw [asg_cons pc]; rfl)) (by rw [asg_cons pb]; rfl)) (by rw [asg_cons pa]; rfl)) (by rw [asg_cons pa, asg_cons pb, asg_cons pc]; rfl) (by rw [asg_cons pa, asg_cons pb, asg_cons pc]; rfl)) fun x σ H Q ⟨μ, ρ, st, v, A, rx, ρ', h1, h2⟩ => by
  cases rx with
  | @tup d xs l hd r =>
    match l, r, h1 with
    | [v1, v2, v3], r, h1 =>
      have h1' : bnd (asTg ta v1 ρ) (fun ρ => bnd (asTg tb v2 ρ) fun ρ => asTg tc v3 ρ) st = .ok ρ' st := h1
      obtain ⟨ρ1, s1, q1, q2⟩ := bnd_inv h1'
      obtain ⟨e1, w1⟩ := asTg_ok q1
      subst e1
      obtain ⟨ρ2, s2, q2, q3⟩ := bnd_inv q2
      obtain ⟨e2, w2⟩ := asTg_ok q2
      subst e2
      cases r with
      | cons r1 r => cases r with
        | cons r2 r => cases r with
          | cons r3 r =>
            cases r
            exact ⟨d, _, rfl, .inl (.inl hd), rfl, _, _, rfl, ⟨μ, ρ, s2, v1, A, r1, ρ1, q1, fun σ1 E1 B1 => ⟨_, _, rfl, ⟨μ, ρ1, s2, v2, ⟨A.rs, E1⟩, r2, ρ2, q2, fun σ2 E2 B2 => ⟨_, _, rfl, ⟨μ, ρ2, s2, v3, ⟨A.rs, E2⟩, r3, ρ', q3, fun σ3 E3 B3 => ⟨rfl, h2 σ3 E3 (B1.trans (B2.trans B3))⟩⟩⟩⟩⟩⟩⟩
  | _ => cases h1
theorem g_t4 {a b c d : Expr} {k : Nat} {pos : Pos} {ta tb tc td : Tg} (hc : X.calm = true) (pa : plainE a = true) (pb : plainE b = true) (pc : plainE c = true) (pd : plainE d = true) (ha : PG X a (tG X.K ta)) (hb : PG X b (tG X.K tb)) (hcc : PG X c (tG X.K tc)) (hdd : PG X d (tG X.K td)) :
    PG X (.Tuple [a, b, c, d] k pos) (tG X.K (.t4 ta tb tc td)) :=
  PG.weak (pg_tup (n := 4) hc (pgs_cons ha (pgs_cons hb (pgs_cons hcc (pgs_cons hdd pgs_nil (by rw [asg_cons pd]; rfl)) (by rw [asg_cons pc]; rfl)) (by rw [asg_cons pb]; rfl)) (by rw [asg_cons pa]; rfl)) (by rw [asg_cons pa, asg_cons pb, asg_cons pc, asg_cons pd]; rfl) (by rw [asg_cons pa, asg_cons pb, asg_cons pc, asg_cons pd]; rfl)) fun x σ H Q ⟨μ, ρ, st, v, A, rx, ρ', h1, h2⟩ => by
  cases rx with
  | @tup d xs l hd r =>
    match l, r, h1 with
    | [v1, v2, v3, v4], r, h1 =>
      have h1' : bnd (asTg ta v1 ρ) (fun ρ => bnd (asTg tb v2 ρ) fun ρ => bnd (asTg tc v3 ρ) fun ρ => asTg td v4 ρ) st = .ok ρ' st := h1
      obtain ⟨ρ1, s1, q1, q2⟩ := bnd_inv h1'
      obtain ⟨e1, w1⟩ := asTg_ok q1
      subst e1
      obtain ⟨ρ2, s2, q2, q3⟩ := bnd_inv q2
      obtain ⟨e2, w2⟩ := asTg_ok q2
      subst e2
      obtain ⟨ρ3, s3, q3, q4⟩ := bnd_inv q3
      obtain ⟨e3, w3⟩ := asTg_ok q3
      subst e3
      cases r with
      | cons r1 r => cases r with
        | cons r2 r => cases r with
          | cons r3 r => cases r with
            | cons r4 r =>
              cases r
              exact ⟨d, _, rfl, .inl (.inl hd), rfl, _, _, rfl, ⟨μ, ρ, s3, v1, A, r1, ρ1, q1, fun σ1 E1 B1 => ⟨_, _, rfl, ⟨μ, ρ1, s3, v2, ⟨A.rs, E1⟩, r2, ρ2, q2, fun σ2 E2 B2 => ⟨_, _, rfl, ⟨μ, ρ2, s3, v3, ⟨A.rs, E2⟩, r3, ρ3, q3, fun σ3 E3 B3 => ⟨_, _, rfl, ⟨μ, ρ3, s3, v4, ⟨A.rs, E3⟩, r4, ρ', q4, fun σ4 E4 B4 => ⟨rfl, h2 σ4 E4 (B1.trans (B2.trans (B3.trans B4)))⟩⟩⟩⟩⟩⟩⟩⟩⟩
  | _ => cases h1
end
end Mg

/-! MgE: comprehensions. -/
namespace Mg
open PySem PySem.Spec PyProof.Rows L2
/-! ### slots forgotten -/
theorem wipe_get (σ : L2.St) : ∀ (vs : List Nat) (i : Nat), (wipe σ vs)[i]? = if i ∈ vs ∧ i < σ.length then some none else σ[i]?
  | [], i => by simp [wipe]
  | v :: vs, i => by
    show ((wipe σ vs).set v none)[i]? = _
    by_cases h : v = i
    · subst h
      by_cases hl : v < σ.length
      · rw [List.getElem?_set_self (by rw [wipe_length]; exact hl), if_pos ⟨List.mem_cons_self .., hl⟩]
      · rw [List.getElem?_eq_none (by simp [wipe_length]; omega), if_neg (fun z => hl z.2), List.getElem?_eq_none (by omega)]
    · rw [List.getElem?_set_ne h, wipe_get σ vs i]
      have e : (i ∈ v :: vs ∧ i < σ.length) ↔ (i ∈ vs ∧ i < σ.length) := by
        constructor
        · rintro ⟨a, b⟩
          rcases List.mem_cons.mp a with z | z
          · exact absurd z.symm h
          · exact ⟨z, b⟩
        · rintro ⟨a, b⟩
          exact ⟨List.mem_cons_of_mem _ a, b⟩
      by_cases c : i ∈ vs ∧ i < σ.length
      · rw [if_pos c, if_pos (e.mpr c)]
      · rw [if_neg c, if_neg fun z => c (e.mp z)]
theorem wipe_same {σ σ' : L2.St} {l vs : List Nat} (h : SameBut l (wipe σ vs) σ') (hl : ∀ i ∈ l, i ∈ vs) : wipe σ' vs = wipe σ vs := by
  have len : σ'.length = σ.length := by rw [h.1, wipe_length]
  refine List.ext_getElem? fun i => ?_
  rw [wipe_get, wipe_get, len]
  by_cases c : i ∈ vs ∧ i < σ.length
  · rw [if_pos c, if_pos c]
  · rw [if_neg c, if_neg c]
    by_cases z : i ∈ l
    · have : ¬ i < σ.length := fun w => c ⟨hl i z, w⟩
      rw [List.getElem?_eq_none (by omega), List.getElem?_eq_none (by omega)]
    · rw [h.2 i z, wipe_get, if_neg c]
theorem wipeE_len (ρ : Env') : ∀ vs : List Nat, (wipeE ρ vs).length = ρ.length
  | [] => rfl
  | v :: vs => by
    show ((wipeE ρ vs).set v none).length = _
    rw [List.length_set, wipeE_len ρ vs]
theorem wipeE_some {ρ : Env'} {i : Nat} {x : Val} : ∀ {vs : List Nat}, (wipeE ρ vs)[i]? = some (some x) → ρ[i]? = some (some x) ∧ i ∉ vs
  | [], h => ⟨h, by simp⟩
  | v :: vs, h => by
    have h : ((wipeE ρ vs).set v none)[i]? = some (some x) := h
    by_cases hi : v = i
    · subst hi
      by_cases hv : v < (wipeE ρ vs).length
      · rw [List.getElem?_set_self hv] at h; cases h
      · rw [List.getElem?_eq_none (by simpa using hv)] at h; cases h
    · rw [List.getElem?_set_ne hi] at h
      obtain ⟨h1, h2⟩ := wipeE_some h
      exact ⟨h1, by simp only [List.mem_cons, not_or]; exact ⟨fun e => hi e.symm, h2⟩⟩
theorem RE.wipe {K : Frg} {μ : List Addr} {H : Hp} {σ : L2.St} {ρ : Env'} (e : RE K μ H σ ρ) (vs : List Nat) : RE K μ H (L2.wipe σ vs) (wipeE ρ vs) := by
  refine ⟨by rw [wipe_length, wipeE_len, e.len], fun i v h => ?_⟩
  obtain ⟨h1, h2⟩ := wipeE_some h
  obtain ⟨x, h3, h4⟩ := e.get i v h1
  exact ⟨x, by rw [wipe_get, if_neg fun z => h2 z.1]; exact h3, h4⟩

/-! ### a list that nobody holds grows -/
section
variable {K : Frg} {μ : List Addr} {H : Hp} {D : Addr} {xs ys : List V}
theorem RV.poke (hD : H D = some (.lst xs)) {x : V} {v : Val} (r : RV K μ H x v) : RV K μ (upd H D (.lst ys)) x v := r.imp (fun _ _ h => h)
  (fun a zs h => by rw [upd_ne fun z => by rw [z, hD] at h; cases h]; exact h) fun a zs h => by
    rcases h with ⟨o, h⟩ | h
    · exact .inl ⟨o, by rw [upd_ne fun z => by rw [z, hD] at h; cases h]; exact h⟩
    · exact .inr h
theorem RVs.poke (hD : H D = some (.lst xs)) {x : List V} {v : List Val} (r : RVs K μ H x v) : RVs K μ (upd H D (.lst ys)) x v := r.imp (fun _ _ h => h)
  (fun a zs h => by rw [upd_ne fun z => by rw [z, hD] at h; cases h]; exact h) fun a zs h => by
    rcases h with ⟨o, h⟩ | h
    · exact .inl ⟨o, by rw [upd_ne fun z => by rw [z, hD] at h; cases h]; exact h⟩
    · exact .inr h
theorem RS.poke {st : Sto} (hD : H D = some (.lst xs)) (n : D ∉ μ) (s : RS K μ H st) : RS K μ (upd H D (.lst ys)) st := by
  refine ⟨s.len, s.nd, fun r c a h1 h2 => ?_⟩
  have e : upd H D (.lst ys) a = H a := upd_ne fun z => n (by rw [← z]; exact List.mem_of_getElem? h2)
  have q := s.cell r c a h1 h2
  cases c with
  | lst l => obtain ⟨zs, f1, f2⟩ := q; exact ⟨zs, by rw [e]; exact f1, f2.poke hD⟩
  | dct t l => cases t with
    | false => obtain ⟨zs, f1, f2⟩ := q; exact ⟨zs, by rw [e]; exact f1, Paired.mapP f2 fun _ _ w => ⟨w.1, w.2.1, w.2.2.poke hD⟩⟩
    | true => obtain ⟨zs, f1, f2⟩ := q; exact ⟨zs, by rw [e]; exact f1, Paired.mapP f2 fun _ _ w => ⟨w.1, w.2.1, w.2.2.poke hD⟩⟩
  | ins _ _ => exact q.elim
/-- all but what stands at D -/
def del (H : Hp) (D : Addr) : Hp := fun a => if a = D then none else H a
theorem del_ne {H : Hp} {D a : Addr} (h : a ≠ D) : del H D a = H a := if_neg h
theorem del_same {H : Hp} {D : Addr} : del H D D = none := if_pos rfl
theorem del_some {H : Hp} {D a : Addr} {o : HO} (h : del H D a = some o) : a ≠ D ∧ H a = some o := by
  by_cases z : a = D
  · rw [z, del_same] at h; cases h
  · rw [del_ne z] at h; exact ⟨z, h⟩
theorem del_upd {H : Hp} {D : Addr} {o : HO} : del (upd H D o) D = del H D := by
  funext a
  by_cases z : a = D
  · rw [z, del_same, del_same]
  · rw [del_ne z, del_ne z, upd_ne z]
theorem Ext.del {μ1 : List Addr} {H1 : Hp} (e : Ext μ H μ1 H1) (D : Addr) : Ext μ (Mg.del H D) μ1 H1 :=
  ⟨e.pre, fun a o h n => e.keep a o (del_some h).2 n, fun a h n => by
    by_cases z : a = D
    · rw [z, del_same]
    · rw [del_ne z]; exact e.new a h n⟩
theorem Ext.del2 {μ1 : List Addr} {H1 : Hp} (e : Ext μ H μ1 H1) (D : Addr) : Ext μ (Mg.del H D) μ1 (Mg.del H1 D) :=
  ⟨e.pre, fun a o h n => by rw [del_ne (del_some h).1]; exact e.keep a o (del_some h).2 n, (e.del D).new⟩
theorem RV.del (hD : H D = some (.lst xs)) {x : V} {v : Val} (r : RV K μ H x v) : RV K μ (Mg.del H D) x v := r.imp (fun _ _ h => h)
  (fun a zs h => by rw [del_ne fun z => by rw [z, hD] at h; cases h]; exact h) fun a zs h => by
    rcases h with ⟨o, h⟩ | h
    · exact .inl ⟨o, by rw [del_ne fun z => by rw [z, hD] at h; cases h]; exact h⟩
    · exact .inr h
theorem RVs.del (hD : H D = some (.lst xs)) {x : List V} {v : List Val} (r : RVs K μ H x v) : RVs K μ (Mg.del H D) x v := r.imp (fun _ _ h => h)
  (fun a zs h => by rw [del_ne fun z => by rw [z, hD] at h; cases h]; exact h) fun a zs h => by
    rcases h with ⟨o, h⟩ | h
    · exact .inl ⟨o, by rw [del_ne fun z => by rw [z, hD] at h; cases h]; exact h⟩
    · exact .inr h
theorem RS.del {st : Sto} (hD : H D = some (.lst xs)) (n : D ∉ μ) (s : RS K μ H st) : RS K μ (Mg.del H D) st := by
  refine ⟨s.len, s.nd, fun r c a h1 h2 => ?_⟩
  have e : Mg.del H D a = H a := del_ne fun z => n (by rw [← z]; exact List.mem_of_getElem? h2)
  have q := s.cell r c a h1 h2
  cases c with
  | lst l => obtain ⟨zs, f1, f2⟩ := q; exact ⟨zs, by rw [e]; exact f1, f2.del hD⟩
  | dct t l => cases t with
    | false => obtain ⟨zs, f1, f2⟩ := q; exact ⟨zs, by rw [e]; exact f1, Paired.mapP f2 fun _ _ w => ⟨w.1, w.2.1, w.2.2.del hD⟩⟩
    | true => obtain ⟨zs, f1, f2⟩ := q; exact ⟨zs, by rw [e]; exact f1, Paired.mapP f2 fun _ _ w => ⟨w.1, w.2.1, w.2.2.del hD⟩⟩
  | ins _ _ => exact q.elim
/-- from a heap without D to the heap -/
theorem Post.del {cla : Str → Option Addr} {α : Type} {r : Res α} {P : α → Sto → List Addr → Hp → Prop} {σ : L2.St} (hD : H D = some (.lst xs)) (n : D ∉ μ) (h : Post cla K (WE' (fun _ _ _ _ => False) σ) μ (Mg.del H D) r P) :
    Post cla K (WE' (fun _ _ _ _ => False) σ) μ H r fun a st μ' H' => P a st μ' (Mg.del H' D) ∧ D ∉ μ' ∧ H' D = some (.lst xs) := by
  cases r with
  | ok a st =>
    intro μ' H' e s
    have n' : D ∉ μ' := fun z => by
      have q := e.new D z n
      rw [hD] at q; cases q
    have hD' := e.keep _ _ hD n
    exact ⟨h μ' _ (e.del2 D) (s.del hD' n'), n', hD'⟩
  | exc e' st => exact fun μ' H' cls d e s x => h μ' H' cls d (e.del D) s x
  | bad => exact h
theorem Ext.poke {μ1 : List Addr} {H1 : Hp} (e : Ext μ1 H1 μ H) (hD : H1 D = none) : Ext μ1 H1 μ (upd H D (.lst ys)) :=
  ⟨e.pre, fun a o h n => by rw [upd_ne (ne_of_none h hD)]; exact e.keep a o h n, e.new⟩
end
/-! ### the comprehension -/
/-- a turn -/
def compF (tg : Tg) (own : List Nat) (mc : Option (Env' → M Val)) (me : Env' → M Val) (ρ : Env') (x : Val) : M (Option Val) := bnd (asTg tg x (wipeE ρ own)) fun ρ' => match mc with
  | none => bnd (me ρ') fun y => ret (some y)
  | some c => bnd (c ρ') fun k => bnd (asBl k) fun k => if k then bnd (me ρ') fun y => ret (some y) else ret none
section
variable {cla : Str → Option Addr} {W : WX} {X : Cx}
/-- a test or none -/
def tCnd (cla : Str → Option Addr) (K : Frg) : Option (Env' → M Val) → TT
  | none => tYes
  | some m => tB cla K WF m
theorem yes_of {A B : Hp → Prop} {σ : L2.St} {H : Hp} (h : A H) : tYes σ H fun b H => if b = true then A H else B H := by
  show if true = true then A H else B H
  rw [if_pos rfl]
  exact h
theorem tCnd_none {cla : Str → Option Addr} {K : Frg} : tCnd cla K none = tYes := rfl
theorem mapF_ok {K : Frg} {E : XK} {μ : List Addr} {H : Hp} {st : Sto} {ok : Sto → Prop} {f : Val → M (Option Val)} {l : List Val} {P : List Val → Sto → List Addr → Hp → Prop} (h : Post cla K E μ H (mapF ok f l st) P) : ok st := by
  cases l with
  | nil => exact (chk_ok (f := fun _ => ret []) h).1
  | cons x r => exact (chk_ok (f := fun _ => bnd (f x) fun o => bnd (mapF ok f r) fun ys => ret (o.toList ++ ys)) h).1
theorem l_comp {elt tg iter : Expr} {ifs : List Expr} {scope : Scope} {own : List (Str × Nat)} {pos : Pos} {ms : Env' → M Items} {t : Tg} {mc : Option (Env' → M Val)} {me : Env' → M Val} (hc : X.calm = true) (hN : X.N.Nodup)
    (hi : PI X tg iter (tI cla X.K W ms)) (ok : BlkOk X.N X.env.scope scope own) (hsl : ∀ i ∈ slots t, i ∈ own.map (·.2))
    (hg : ∀ (s : Shared) (H : Hp) (C : Addr) (cl : List (Str × Addr)) (fp : List Addr), PG (X.blk s H scope (compEnvC scope cl C X.env) fp) tg (tG X.K t))
    (ht : ∀ (s : Shared) (H : Hp) (C : Addr) (cl : List (Str × Addr)) (fp : List Addr), PTs (X.blk s H scope (compEnvC scope cl C X.env) fp) ifs (tCnd cla X.K mc))
    (he : ∀ (s : Shared) (H : Hp) (C : Addr) (cl : List (Str × Addr)) (fp : List Addr), PE (X.blk s H scope (compEnvC scope cl C X.env) fp) elt (tM cla X.K WF me)) (hs : ∀ x, foldedSetIterable iter X.env x = pure x) {Q : VK} {σ : L2.St} {H : Hp}
    (h : tL cla X.K W (fun ρ => bnd (ms ρ) fun it => bnd (quiet (mapF it.ok (compF t (own.map (·.2)) mc me ρ) it.xs)) fun ys => ret (.f ys)) σ H Q) : tLc (tI cla X.K W ms) (tG X.K t) (tCnd cla X.K mc) (tM cla X.K WF me) (own.map (·.2)) σ H Q := by
  obtain ⟨μ, ρ, st, A, P⟩ := h
  refine ⟨μ, ρ, st, A, Post.mono P.bnd (Ext.refl _ _) fun it st1 μ1 H1 e1 s1 P1 J w hlen D hD => ?_⟩
  obtain ⟨G, Y, wk, wG, wY⟩ := w
  generalize hF : compF t (own.map (·.2)) mc me ρ = F at P1
  have fresh : H D = none := fresh_back e1 s1 hD
  -- the invariant
  refine lc_it wk (fun i H' => ∃ μ' st' acc accV, Ext μ1 H1 μ' H' ∧ RS X.K μ' H' st' ∧ H' D = some (.lst accV) ∧ D ∉ μ' ∧ RVs X.K μ' H' accV acc ∧ accV.length ≤ i ∧
    Post cla X.K (WE' WF σ) μ' (Mg.del H' D) (mapF it.ok F (it.xs.drop i) st') fun ys st2 μ2 H2 => Post cla X.K (WE' W σ) μ2 H2 (ret (.f (acc ++ ys)) st2) fun v _ μ' H' => ∀ x, RL X.K H μ' H' x v → Q x H') ?_ ?_ ?_ ?_
  · -- start
    have eD : Ext μ1 H1 μ1 (upd H1 D (.lst [])) := Ext.side hD s1
    refine ⟨μ1, st1, [], [], eD, s1.side hD, upd_same, s1.free hD, .nil, Nat.zero_le _, ?_⟩
    have P2 := P1.bnd.quiet (E' := WE' WF σ)
    have e0 : Mg.del (upd H1 D (.lst [])) D = H1 := by
      rw [del_upd]
      funext a
      by_cases z : a = D
      · rw [z, del_same, hD]
      · rw [del_ne z]
    rw [List.drop_zero, e0]
    exact Post.mono P2 (Ext.refl _ _) fun ys st2 μ2 H2 _ _ q => by simpa using q
  · rintro i H' hi ⟨μ', st', acc, accV, e, s, hl, n, r, _, P2⟩
    exact wG μ' H' st' e s (mapF_ok P2)
  · -- a turn
    rintro i x H' H2 hi ⟨μ', st', acc, accV, e, s, hl, n, r, hz, P2⟩ y
    have g := wG μ' H' st' e s (mapF_ok P2)
    obtain ⟨e2, s2, v, hv, rx⟩ := wY i H' x H2 μ' st' e s (mapF_ok P2) hi g y
    have hl2 : H2 D = some (.lst accV) := e2.keep _ _ hl n
    have hd : it.xs.drop i = v :: it.xs.drop (i + 1) := by
      have hv' := List.getElem?_eq_some_iff.mp hv
      rw [List.drop_eq_getElem_cons hv'.1, hv'.2]
    rw [hd] at P2
    obtain ⟨_, P3⟩ := chk_ok (f := fun _ => bnd (F v) fun o => bnd (mapF it.ok F (it.xs.drop (i + 1))) fun ys => ret (o.toList ++ ys)) P2
    have P4 := (Post.mono P3 (e2.del2 D) fun _ _ _ _ _ _ z => z).bnd
    have hFv : F v = bnd (asTg t v (wipeE ρ (own.map (·.2)))) fun ρ' => match mc with
        | none => bnd (me ρ') fun y => ret (some y)
        | some c => bnd (c ρ') fun k => bnd (asBl k) fun k => if k then bnd (me ρ') fun y => ret (some y) else ret none := by rw [← hF]; rfl
    rw [hFv] at P4
    have A2 : At X.K μ' H2 (L2.wipe σ (own.map (·.2))) (wipeE ρ (own.map (·.2))) st' := ⟨s2, ((((A.re.up e1 A.rs).up e s1).up e2 s).wipe _)⟩
    have r2 : RVs X.K μ' H2 accV acc := r.up e2 s
    have e12 : Ext μ1 H1 μ' H2 := e.trans e2
    -- what the turn leaves
    have next : ∀ {o : Option Val} {st4 : Sto} {μ4 : List Addr} {H4 : Hp} {ys' : List V}, Ext μ' H2 μ4 H4 → Post cla X.K (WE' WF σ) μ4 (Mg.del H4 D) (bnd (mapF it.ok F (it.xs.drop (i + 1))) (fun ys => ret (o.toList ++ ys)) st4)
          (fun ys st2 μ2 H2 => Post cla X.K (WE' W σ) μ2 H2 (ret (.f (acc ++ ys)) st2) fun v _ μ' H' => ∀ x, RL X.K H μ' H' x v → Q x H') →
        Post cla X.K (WE' WF σ) μ4 (Mg.del H4 D) (mapF it.ok F (it.xs.drop (i + 1)) st4) fun ys st2 μ2 H2 => Post cla X.K (WE' W σ) μ2 H2 (ret (.f ((acc ++ o.toList) ++ ys)) st2) fun v _ μ' H' => ∀ x, RL X.K H μ' H' x v → Q x H' := by
      intro o st4 μ4 H4 ys' _ P
      exact Post.mono P.bnd (Ext.refl _ _) fun ys st5 μ5 H5 e5 s5 q => by
        have q2 := q μ5 H5 (Ext.refl _ _) s5
        rw [List.append_assoc]
        exact q2
    rcases asTg_st t v (wipeE ρ (own.map (·.2))) st' with q | ⟨ρ', q⟩
    ·
      rw [bnd_bad q] at P4
      exact P4.elim
    ·
      rw [bnd_ok q] at P4
      refine ⟨μ', _, st', v, A2, rx, ρ', q, fun σ' RE' sb => ⟨wipe_same sb hsl, ?_⟩⟩
      have A3 : At X.K μ' H2 σ' ρ' st' := ⟨s2, RE'⟩
      -- the element, from a later state
      have elem : ∀ {μ3 : List Addr} {H3 : Hp} {st3 : Sto}, Ext μ' H2 μ3 H3 → RS X.K μ3 H3 st3 → D ∉ μ3 → H3 D = some (.lst accV) →
          Post cla X.K (WE' WF σ) μ3 (Mg.del H3 D) (bnd (me ρ') (fun y => ret (some y)) st3) (fun o st4 μ4 H4 => Post cla X.K (WE' WF σ) μ4 H4 (bnd (mapF it.ok F (it.xs.drop (i + 1))) (fun ys => ret (o.toList ++ ys)) st4)
          fun ys st2 μ2 H2 => Post cla X.K (WE' W σ) μ2 H2 (ret (.f (acc ++ ys)) st2) fun v _ μ' H' => ∀ x, RL X.K H μ' H' x v → Q x H') →
          tM cla X.K WF me σ' H3 fun y H4 => ∃ accV', H4 D = some (.lst accV') ∧ accV'.length < sizeLine ∧ ∃ μ' st' acc accV, Ext μ1 H1 μ' (upd H4 D (.lst (accV' ++ [y]))) ∧ RS X.K μ' (upd H4 D (.lst (accV' ++ [y]))) st' ∧ upd H4 D (.lst (accV' ++ [y])) D = some (.lst accV) ∧ D ∉ μ' ∧
            RVs X.K μ' (upd H4 D (.lst (accV' ++ [y]))) accV acc ∧ accV.length ≤ i + 1 ∧
            Post cla X.K (WE' WF σ) μ' (Mg.del (upd H4 D (.lst (accV' ++ [y]))) D) (mapF it.ok F (it.xs.drop (i + 1)) st') fun ys st2 μ2 H2 => Post cla X.K (WE' W σ) μ2 H2 (ret (.f (acc ++ ys)) st2) fun v _ μ' H' => ∀ x, RL X.K H μ' H' x v → Q x H' := by
        intro μ3 H3 st3 e3 s3 n3 hl3 P5
        refine ⟨μ3, ρ', st3, A3.up e3 s3, Post.mono (Post.del hl3 n3 P5.bnd) (Ext.refl _ _) fun y' st4 μ4 H4 e4 s4 P6 y ry => ?_⟩
        obtain ⟨P6, n4, hl4⟩ := P6
        have e14 : Ext μ' H2 μ4 H4 := e3.trans e4
        have P7 := P6 μ4 _ (Ext.refl _ _) (s4.del hl4 n4)
        refine ⟨accV, hl4, by omega, μ4, st4, acc ++ [y'], accV ++ [y], (e12.trans e14).poke hD, s4.poke hl4 n4, upd_same, n4, ((r2.up e14 s2).poke hl4).append (.cons (ry.poke hl4) .nil), by simp; omega, ?_⟩
        rw [del_upd]
        exact next (o := some y') (ys' := []) e14 P7
      cases mc with
      | none =>
        have E0 := elem (Ext.refl _ _) s2 n hl2 P4
        rw [tCnd_none]
        exact yes_of E0
      | some c =>
        have P4' : Post cla X.K (WE' WF σ) μ' (Mg.del H2 D) (bnd (bnd (c ρ') asBl) (fun k => if k then bnd (me ρ') fun y => ret (some y) else ret none) st') (fun o st4 μ4 H4 => Post cla X.K (WE' WF σ) μ4 H4 (bnd (mapF it.ok F (it.xs.drop (i + 1))) (fun ys => ret (o.toList ++ ys)) st4)
          fun ys st2 μ2 H2 => Post cla X.K (WE' W σ) μ2 H2 (ret (.f (acc ++ ys)) st2) fun v _ μ' H' => ∀ x, RL X.K H μ' H' x v → Q x H') := by
          rw [bnd_assoc]
          exact P4
        refine ⟨μ', ρ', st', A3, Post.mono (Post.del hl2 n P4'.bnd) (Ext.refl _ _) fun b st3 μ3 H3 e3 s3 P5 => ?_⟩
        obtain ⟨P5, n3, hl3⟩ := P5
        cases b with
        | true =>
          exact L2.iteT (elem e3 s3 n3 hl3 P5)
        | false =>
          refine L2.iteF ?_
          have P6 := P5 μ3 _ (Ext.refl _ _) (s3.del hl3 n3)
          refine ⟨μ3, st3, acc, accV, e12.trans e3, s3, hl3, n3, r2.up e3 s2, by omega, ?_⟩
          have P7 := next (o := none) (ys' := []) e3 P6
          simpa using P7
  · -- the end
    rintro H' ⟨μ', st', acc, accV, e, s, hl, n, r, hz, P2⟩
    rw [show it.xs.drop it.xs.length = [] by simp] at P2
    obtain ⟨_, P3⟩ := chk_ok (f := fun _ => ret []) P2
    have P4 := P3 μ' H' ((Ext.refl _ _).del D) s
    simp only [List.append_nil] at P4
    exact P4 μ' H' (Ext.refl _ _) s _ (.f hl n fresh r)
end
end Mg

/-! MgF: statements. -/
namespace Mg
open PySem PySem.Spec PyProof.Rows L2
section
variable (cla : Str → Option Addr) (K : Frg) (W : WX)
/-- what is wanted behind a statement -/
def OutP (D : Ends) (μ : List Addr) (H : Hp) : Out → Prop
  | .nx ρ => ∀ σ, RE K μ H σ ρ → D.nx σ H
  | .bk ρ => ∀ σ, RE K μ H σ ρ → D.bk σ H
  | .ct ρ => ∀ σ, RE K μ H σ ρ → D.ct σ H
  | .rt v => ∀ x, RV K μ H x v → D.rt x H
  | .ex e ρ => ∀ σ cls d, RE K μ H σ ρ → RX cla K μ H e cls d → W cls d σ H
abbrev PO' (D : Ends) (μ : List Addr) (H : Hp) (r : Res Out) : Prop := Post cla K (fun _ _ _ => False) μ H r fun o _ μ' H' => OutP cla K W D μ' H' o
def tS (m : Env' → M Out) : TS := fun D σ H => ∃ μ ρ st, At K μ H σ ρ st ∧ PO' cla K W D μ H (m ρ st)
end
section
variable {cla : Str → Option Addr} {W : WX} {X : Cx}
/-- an expression within a statement -/
theorem Post.lft {K : Frg} {α : Type} {m : M α} {f : α → M Out} {ρ : Env'} {st : Sto} {μ : List Addr} {H : Hp} {σ : L2.St} {D : Ends} (A : At K μ H σ ρ st) (h : PO' cla K W D μ H (Mg.lft ρ m f st)) :
    Post cla K (WE' W σ) μ H (m st) fun a st' μ' H' => PO' cla K W D μ' H' (f a st') := by
  unfold Mg.lft at h
  cases q : m st with
  | ok a st' =>
    simp only [q] at h
    exact fun μ' H' x s => Post.mono h x fun _ _ _ _ _ _ z => z
  | exc e st' =>
    simp only [q] at h
    exact fun μ' H' cls d x s r => h μ' H' x s σ cls d (A.re.up x A.rs) r
  | bad => simp only [q] at h; exact h
theorem PO.ok {K : Frg} {o : Out} {st : Sto} {μ : List Addr} {H : Hp} {D : Ends} (h : PO' cla K W D μ H (ret o st)) (s : RS K μ H st) : OutP cla K W D μ H o := h _ _ (Ext.refl _ _) s
/-! ### small ones -/
theorem s_pass {pos : Pos} : PS X (.Pass pos) (tS cla X.K W fun ρ => ret (.nx ρ)) := PS.weak ps_pass fun D σ H ⟨μ, ρ, st, A, P⟩ => PO.ok P A.rs σ A.re
theorem s_brk {pos : Pos} : PS X (.Break pos) (tS cla X.K W fun ρ => ret (.bk ρ)) := PS.weak ps_break fun D σ H ⟨μ, ρ, st, A, P⟩ => PO.ok P A.rs σ A.re
theorem s_ct {pos : Pos} : PS X (.Continue pos) (tS cla X.K W fun ρ => ret (.ct ρ)) := PS.weak ps_continue fun D σ H ⟨μ, ρ, st, A, P⟩ => PO.ok P A.rs σ A.re
def notComp : Expr → Bool
  | .ListComp _ _ _ _ => false
  | .SetComp _ _ _ _ => false
  | .DictComp _ _ _ _ _ => false
  | _ => true
theorem swaps_no {e : Expr} {t : Option Expr} {l : Nat} {env : Env} (h : notComp e = true) : swapsWith e t l env = pure false := by
  cases e <;> first | rfl | cases h
theorem s_ex {e : Expr} {pos : Pos} {m : Env' → M Val} (hn : notComp e = true) (h : PE X e (tM cla X.K W m)) : PS X (.Expr e pos) (tS cla X.K W fun ρ => lft ρ (m ρ) fun _ => ret (.nx ρ)) :=
  PS.weak (ps_expr h (swaps_no hn)) fun D σ H ⟨μ, ρ, st, A, P⟩ => ⟨μ, ρ, st, A, Post.mono (Post.lft A P) (Ext.refl _ _) fun v st1 μ1 H1 e1 s1 P1 x rx => PO.ok P1 s1 σ (A.up e1 s1).re⟩
theorem s_ret {e : Expr} {pos : Pos} {m : Env' → M Val} (h : PE X e (tM cla X.K W m)) : PS X (.Return (some e) pos) (tS cla X.K W fun ρ => lft ρ (m ρ) fun v => ret (.rt v)) :=
  PS.weak (ps_ret h) fun D σ H ⟨μ, ρ, st, A, P⟩ => ⟨μ, ρ, st, A, Post.mono (Post.lft A P) (Ext.refl _ _) fun v st1 μ1 H1 e1 s1 P1 x rx => PO.ok P1 s1 x rx⟩
/-! ### assignments -/
theorem set_read {m : Env' → M Val} {t : Tg} {D : Ends} {σ : L2.St} {H : Hp} (h : tS cla X.K W (fun ρ => lft ρ (m ρ) fun v => bnd (asTg t v ρ) fun ρ' => ret (.nx ρ')) D σ H) :
    tM cla X.K W m σ H fun x H1 => tG X.K t x σ H1 D.nx := by
  obtain ⟨μ, ρ, st, A, P⟩ := h
  refine ⟨μ, ρ, st, A, Post.mono (Post.lft A P) (Ext.refl _ _) fun v st1 μ1 H1 e1 s1 P1 x rx => ?_⟩
  rcases asTg_st t v ρ st1 with q | ⟨ρ', q⟩
  · unfold PO' at P1
    rw [bnd_bad q] at P1
    exact P1.elim
  · unfold PO' at P1
    rw [bnd_ok q] at P1
    exact ⟨μ1, ρ, st1, v, A.up e1 s1, rx, ρ', q, fun σ' RE' _ => PO.ok P1 s1 σ' RE'⟩
theorem set_nm {i : Nat} {m : Env' → M Val} {D : Ends} {σ : L2.St} {H : Hp} (h : tS cla X.K W (fun ρ => lft ρ (m ρ) fun v => bnd (asTg (.nm i) v ρ) fun ρ' => ret (.nx ρ')) D σ H) :
    tM cla X.K W m σ H fun x H1 => gName i x σ H1 D.nx := by
  obtain ⟨μ, ρ, st, A, P⟩ := set_read h
  refine ⟨μ, ρ, st, A, Post.mono P (Ext.refl _ _) fun v st1 μ1 H1 e1 s1 P1 y ry => ?_⟩
  obtain ⟨μ2, ρ2, st2, v2, A2, r2, ρ', h1, h2⟩ := P1 y ry
  cases h1
  exact h2 _ (A2.re.set r2 i) ⟨by simp, fun j n => List.getElem?_set_ne fun z => n (by rw [← z]; simp [slots])⟩
theorem s_set {i : Nat} {e : Expr} {x : Str} {p pos : Pos} {m : Env' → M Val} (hN : X.N.Nodup) (hi : X.N[i]? = some x) (hx : Loc X.env.scope x) (hf : X.fn x = true ∨ X.env.scope.names.lookup x = some .local) (hs : swapsWith e (some (.Name x p)) pos.line X.env = pure false)
    (h : PE X e (tM cla X.K W m)) : PS X (.Assign [.Name x p] e pos) (tS cla X.K W fun ρ => lft ρ (m ρ) fun v => bnd (asTg (.nm i) v ρ) fun ρ' => ret (.nx ρ')) :=
  PS.weak (ps_set hN hi hx h hs hf) fun D σ H q => set_nm q
/-- to a tuple of names -/
theorem s_setT {ts : List Expr} {k : Nat} {e : Expr} {p pos : Pos} {t : Tg} {m : Env' → M Val} (hn : notComp e = true) (hsw : swappedStores [.Tuple ts k p] e X.env = pure none) (hg : PG X (.Tuple ts k p) (tG X.K t)) (h : PE X e (tM cla X.K W m)) :
    PS X (.Assign [.Tuple ts k p] e pos) (tS cla X.K W fun ρ => lft ρ (m ρ) fun v => bnd (asTg t v ρ) fun ρ' => ret (.nx ρ')) :=
  PS.weak (ps_asg h hg (show swapsWith e (some (.Tuple ts k p)) pos.line X.env = pure false from swaps_no hn) hsw) fun D σ H q => set_read q
noncomputable def compL (ms : Env' → M Items) (t : Tg) (own : List Nat) (mc : Option (Env' → M Val)) (me : Env' → M Val) : Env' → M LV := fun ρ => bnd (ms ρ) fun it => bnd (quiet (mapF it.ok (compF t own mc me ρ) it.xs)) fun ys => ret (.f ys)
/-- a comprehension, stored within its own block -/
theorem s_setC {i : Nat} {y : Str} {py : Pos} {elt tg iter : Expr} {ifs : List Expr} {scope : Scope} {own : List (Str × Nat)} {pos spos : Pos} {ms : Env' → M Items} {t : Tg} {mc : Option (Env' → M Val)} {me : Env' → M Val} (hc : X.calm = true) (hN : X.N.Nodup)
    (hy : X.N[i]? = some y) (hyl : X.env.scope.names.lookup y = some .local) (hsw : swapsWith (.ListComp elt [⟨tg, iter, ifs, 0⟩] scope pos) (some (.Name y py)) spos.line X.env = pure true)
    (hi : PI X tg iter (tI cla X.K W ms)) (ok : BlkOk X.N X.env.scope scope own) (hsl : ∀ i ∈ slots t, i ∈ own.map (·.2))
    (hg : ∀ (s : Shared) (H : Hp) (C : Addr) (cl : List (Str × Addr)) (fp : List Addr), PG (X.blk s H scope (compEnvC scope cl C X.env) fp) tg (tG X.K t))
    (ht : ∀ (s : Shared) (H : Hp) (C : Addr) (cl : List (Str × Addr)) (fp : List Addr), PTs (X.blk s H scope (compEnvC scope cl C X.env) fp) ifs (tCnd cla X.K mc))
    (he : ∀ (s : Shared) (H : Hp) (C : Addr) (cl : List (Str × Addr)) (fp : List Addr), PE (X.blk s H scope (compEnvC scope cl C X.env) fp) elt (tM cla X.K WF me)) (hs : ∀ x, foldedSetIterable iter X.env x = pure x) :
    PS X (.Assign [.Name y py] (.ListComp elt [⟨tg, iter, ifs, 0⟩] scope pos) spos) (tS cla X.K W fun ρ => lft ρ (bnd (compL ms t (own.map (·.2)) mc me ρ) allocV) fun v => bnd (asTg (.nm i) v ρ) fun ρ' => ret (.nx ρ')) :=
  PS.weak (ps_setLc hc hN hy hyl hsw hi ok hg ht he hs) fun D σ H q => by
    have q3 : tL cla X.K W (compL ms t (own.map (·.2)) mc me) σ H _ := tm_alloc (set_nm q)
    exact l_comp (elt := elt) (tg := tg) (iter := iter) (ifs := ifs) (scope := scope) (pos := pos) hc hN hi ok hsl hg ht he hs q3
/-- o[i] = e -/
theorem s_setIx {o i e : Expr} {p pos : Pos} {mo mi me : Env' → M Val} (hn : notComp e = true) (hi0 : noSlice i = true) (ho : PE X o (tM cla X.K W mo)) (hi : PE X i (tM cla X.K W mi)) (he : PE X e (tM cla X.K W me)) :
    PS X (.Assign [.Subscript o i p] e pos) (tS cla X.K W fun ρ => lft ρ (me ρ) fun v => lft ρ (mo ρ) fun x => lft ρ (mi ρ) fun k => bnd (setIx x k v) fun _ => ret (.nx ρ)) :=
  PS.weak (ps_asg he (pg_sub ho hi set_list (fun v => by cases i <;> first | rfl | cases hi0)) (show swapsWith e (some (.Subscript o i p)) pos.line X.env = pure false from swaps_no hn)) fun D σ H ⟨μ, ρ, st, A, P⟩ => by
  refine ⟨μ, ρ, st, A, Post.mono (Post.lft A P) (Ext.refl _ _) fun v st1 μ1 H1 e1 s1 P1 x rx => ?_⟩
  have A1 := A.up e1 s1
  refine ⟨μ1, ρ, st1, A1, Post.mono (Post.lft A1 P1) (Ext.refl _ _) fun w st2 μ2 H2 e2 s2 P2 y ry => ?_⟩
  have A2 := A1.up e2 s2
  refine ⟨μ2, ρ, st2, A2, Post.mono (Post.lft A2 P2) (Ext.refl _ _) fun k st3 μ3 H3 e3 s3 P3 z rz => ?_⟩
  have A3 := A2.up e3 s3
  refine ok_setL (cla := cla) (K := X.K) (fun _ _ _ => False) μ3 H3 st3 w k v y z x _ s3 (ry.up e3 s2) rz ((rx.up e2 s1).up e3 s2) (Post.mono P3.bnd (Ext.refl _ _) fun u st4 μ4 H4 e4 s4 P4 => PO.ok P4 s4 σ (A3.up e4 s4).re)
end
end Mg

/-! MgG: blocks, loops. -/
namespace Mg
open PySem PySem.Spec PyProof.Rows L2
section
variable {cla : Str → Option Addr} {W : WX} {X : Cx}
theorem OutP.ends {K : Frg} {D D' : Ends} {μ : List Addr} {H : Hp} {o : Out} (h : OutP cla K W D μ H o) (h1 : ∀ σ H, D.nx σ H → D'.nx σ H) (h2 : ∀ σ H, D.bk σ H → D'.bk σ H) (h3 : ∀ σ H, D.ct σ H → D'.ct σ H) (h4 : ∀ x H, D.rt x H → D'.rt x H) : OutP cla K W D' μ H o := by
  cases o with
  | nx ρ => exact fun σ e => h1 _ _ (h σ e)
  | bk ρ => exact fun σ e => h2 _ _ (h σ e)
  | ct ρ => exact fun σ e => h3 _ _ (h σ e)
  | rt v => exact fun x e => h4 _ _ (h x e)
  | ex e ρ => exact h
/-! ### blocks -/
theorem b_nil : PSs X [] (tS cla X.K W fun ρ => ret (.nx ρ)) := PSs.weak pss_nil fun D σ H ⟨μ, ρ, st, A, P⟩ => PO.ok P A.rs σ A.re
theorem seq_read {m1 m2 : Env' → M Out} {D : Ends} {σ : L2.St} {H : Hp} (h : tS cla X.K W (fun ρ => bnd (m1 ρ) fun o => match o with
    | .nx ρ' => m2 ρ'
    | o => ret o) D σ H) : tS cla X.K W m1 { D with nx := tS cla X.K W m2 D } σ H := by
  obtain ⟨μ, ρ, st, A, P⟩ := h
  refine ⟨μ, ρ, st, A, Post.mono P.bnd (Ext.refl _ _) fun o st1 μ1 H1 e1 s1 P1 => ?_⟩
  cases o with
  | nx ρ' => exact fun σ' e => ⟨μ1, ρ', st1, ⟨s1, e⟩, P1⟩
  | bk ρ' => exact PO.ok P1 s1
  | ct ρ' => exact PO.ok P1 s1
  | rt v => exact PO.ok P1 s1
  | ex e ρ' => exact PO.ok P1 s1
theorem b_cons {s : Stmt} {r : List Stmt} {m1 m2 : Env' → M Out} (h1 : PS X s (tS cla X.K W m1)) (h2 : PSs X r (tS cla X.K W m2)) : PSs X (s :: r) (tS cla X.K W fun ρ => bnd (m1 ρ) fun o => match o with
    | .nx ρ' => m2 ρ'
    | o => ret o) := PSs.weak (pss_cons h1 h2) fun D σ H h => seq_read h
theorem s_if {c : Expr} {a b : List Stmt} {pos : Pos} {mc : Env' → M Val} {ma mb : Env' → M Out} (hc : PT X c (tB cla X.K W mc)) (ha : PSs X a (tS cla X.K W ma)) (hb : PSs X b (tS cla X.K W mb)) :
    PS X (.If c a b pos) (tS cla X.K W fun ρ => lft ρ (bnd (mc ρ) asBl) fun k => if k then ma ρ else mb ρ) := PS.weak (ps_if hc ha hb) fun D σ H ⟨μ, ρ, st, A, P⟩ => by
  refine ⟨μ, ρ, st, A, Post.mono (Post.lft A P) (Ext.refl _ _) fun k st1 μ1 H1 e1 s1 P1 => ?_⟩
  cases k with
  | true => exact L2.iteT ⟨μ1, ρ, st1, A.up e1 s1, P1⟩
  | false => exact L2.iteF ⟨μ1, ρ, st1, A.up e1 s1, P1⟩
/-! ### loops -/
theorem s_while {c : Expr} {b : List Stmt} {pos : Pos} {mc : Env' → M Val} {mb : Env' → M Out} {n : Nat} (hp : PassesOwn (model X.prog X.w) X.A X.env X.xe) (hc : PT X c (tB cla X.K W mc)) (hb : PSs X b (tS cla X.K W mb)) :
    PS X (.While c b [] pos) (tS cla X.K W fun ρ => whileF mc mb n ρ) := PS.weak (ps_while hp hc hb) fun D σ H h => by
  refine ⟨fun m σ H => tS cla X.K W (fun ρ => whileF mc mb m ρ) D σ H, ⟨n, h⟩, fun m σ H h => ?_⟩
  obtain ⟨μ, ρ, st, A, P⟩ := h
  cases m with
  | zero => exact P.elim
  | succ m =>
    refine ⟨μ, ρ, st, A, Post.mono (Post.lft A P) (Ext.refl _ _) fun k st1 μ1 H1 e1 s1 P1 => ?_⟩
    have A1 := A.up e1 s1
    cases k with
    | false => exact L2.iteF (PO.ok P1 s1 σ A1.re)
    | true =>
      refine L2.iteT ⟨fun σ H => tS cla X.K W (fun ρ => whileF mc mb m ρ) D σ H, fun σ' H' q => ⟨m, Nat.lt_succ_self m, q⟩, μ1, ρ, st1, A1, ?_⟩
      refine Post.mono (Post.bnd P1) (Ext.refl _ _) fun o st2 μ2 H2 e2 s2 P2 => ?_
      cases o with
      | nx ρ' => exact fun σ' e => ⟨μ2, ρ', st2, ⟨s2, e⟩, P2⟩
      | ct ρ' => exact fun σ' e => ⟨μ2, ρ', st2, ⟨s2, e⟩, P2⟩
      | bk ρ' => exact fun σ' e => PO.ok P2 s2 σ' e
      | rt v => exact PO.ok P2 s2
      | ex e ρ' => exact PO.ok P2 s2
theorem forF_ok {D : Ends} {K : Frg} {μ : List Addr} {H : Hp} {st : Sto} {ok : Sto → Prop} {t : Tg} {b : Env' → M Out} {l : List Val} {ρ : Env'} (h : PO' cla K W D μ H (forF ok t b l ρ st)) : ok st := by
  cases l with
  | nil => exact (chk_ok (f := fun _ => ret (Out.nx ρ)) h).1
  | cons x r => exact (chk_ok (f := fun _ => bnd (asTg t x ρ) fun ρ1 => bnd (b ρ1) fun o => match o with
      | .nx ρ' => forF ok t b r ρ'
      | .ct ρ' => forF ok t b r ρ'
      | .bk ρ' => ret (.nx ρ')
      | o => ret o) h).1
theorem s_for {tg iter : Expr} {b : List Stmt} {pos : Pos} {ms : Env' → M Items} {t : Tg} {mb : Env' → M Out} (hp : PassesOwn (model X.prog X.w) X.A X.env X.xe) (hc : X.calm = true) (hi : PI X tg iter (tI cla X.K W ms)) (hg : PG X tg (tG X.K t)) (hb : PSs X b (tS cla X.K W mb))
    (hs : ∀ x, foldedSetIterable iter X.env x = pure x) : PS X (.For tg iter b [] pos) (tS cla X.K W fun ρ => lft ρ (ms ρ) fun it => forF it.ok t mb it.xs ρ) := PS.weak (ps_for hp hc hi hg hb hs) fun D σ H ⟨μ, ρ, st, A, P⟩ => by
  refine ⟨μ, ρ, st, A, Post.mono (Post.lft A P) (Ext.refl _ _) fun it st1 μ1 H1 e1 s1 P1 J w hlen => ?_⟩
  obtain ⟨G, Y, wk, wG, wY⟩ := w
  refine for_it wk (fun i σ' H' => ∃ μ' ρ' st', Ext μ1 H1 μ' H' ∧ At X.K μ' H' σ' ρ' st' ∧ PO' cla X.K W D μ' H' (forF it.ok t mb (it.xs.drop i) ρ' st')) ?_ ?_ ?_ ?_
  · exact ⟨μ1, ρ, st1, Ext.refl _ _, A.up e1 s1, by rw [List.drop_zero]; exact P1⟩
  · rintro i σ' H' hi ⟨μ', ρ', st', e, A', P'⟩
    exact wG μ' H' st' e A'.rs (forF_ok P')
  · rintro i x σ' H' H2 hi ⟨μ', ρ', st', e, A', P'⟩ y
    have ok := forF_ok P'
    have g := wG μ' H' st' e A'.rs ok
    obtain ⟨e2, s2, v, hv, rx⟩ := wY i H' x H2 μ' st' e A'.rs ok hi g y
    have hd : it.xs.drop i = v :: it.xs.drop (i + 1) := by
      have hv' := List.getElem?_eq_some_iff.mp hv
      rw [List.drop_eq_getElem_cons hv'.1, hv'.2]
    rw [hd] at P'
    obtain ⟨_, P3⟩ := chk_ok (f := fun _ => bnd (asTg t v ρ') fun ρ1 => bnd (mb ρ1) fun o => match o with
      | .nx ρ' => forF it.ok t mb (it.xs.drop (i + 1)) ρ'
      | .ct ρ' => forF it.ok t mb (it.xs.drop (i + 1)) ρ'
      | .bk ρ' => ret (.nx ρ')
      | o => ret o) P'
    rcases asTg_st t v ρ' st' with q | ⟨ρ1, q⟩
    · rw [bnd_bad q] at P3; exact P3.elim
    · rw [bnd_ok q] at P3
      have P4 := Post.mono P3 e2 fun _ _ _ _ _ _ z => z
      refine ⟨μ', ρ', st', v, A'.up e2 s2, rx, ρ1, q, fun σ2 RE2 sb => ⟨μ', ρ1, st', ⟨s2, RE2⟩, ?_⟩⟩
      refine Post.mono (Post.bnd P4) (Ext.refl _ _) fun o st3 μ3 H3 e3 s3 P5 => ?_
      cases o with
      | nx ρ2 => exact fun σ3 r3 => ⟨μ3, ρ2, st3, (e.trans e2).trans e3, ⟨s3, r3⟩, P5⟩
      | ct ρ2 => exact fun σ3 r3 => ⟨μ3, ρ2, st3, (e.trans e2).trans e3, ⟨s3, r3⟩, P5⟩
      | bk ρ2 => exact PO.ok P5 s3
      | rt v => exact PO.ok P5 s3
      | ex e ρ2 => exact PO.ok P5 s3
  · rintro σ' H' ⟨μ', ρ', st', e, A', P'⟩
    rw [show it.xs.drop it.xs.length = [] by simp] at P'
    obtain ⟨_, P3⟩ := chk_ok (f := fun _ => ret (Out.nx ρ')) P'
    exact PO.ok P3 A'.rs σ' A'.re
/-! ### pairs stored at once -/
theorem s_par2 {i j : Nat} {x y : Str} {a b : Expr} {px py pt pos : Pos} {kt k2 pt2} {ma : Env' → M (List Val)} (hc : X.calm = true) (hN : X.N.Nodup) (hi : X.N[i]? = some x) (hj : X.N[j]? = some y) (hij : i ≠ j)
    (hx : X.env.scope.names.lookup x = some .local) (hy : X.env.scope.names.lookup y = some .local) (ha : PA X [a, b] (tMs cla X.K W ma))
    (hw : swappedStores [.Tuple [.Name x px, .Name y py] kt pt] (.Tuple [a, b] k2 pt2) X.env = pure (some [x, y])) :
    PS X (.Assign [.Tuple [.Name x px, .Name y py] kt pt] (.Tuple [a, b] k2 pt2) pos) (tS cla X.K W fun ρ => lft ρ (bnd (ma ρ) fun vs => if vs.length ≤ sizeLine then ret (.tup vs) else fail) fun v => bnd (asTg (.t2 (.nm i) (.nm j)) v ρ) fun ρ' => ret (.nx ρ')) :=
  PS.weak (ps_par hc hN hi hj hij hx hy ha hw) fun D σ H ⟨μ, ρ, st, A, P⟩ => by
  refine ⟨μ, ρ, st, A, Post.mono (Post.bnd (Post.lft A P)) (Ext.refl _ _) fun vs st1 μ1 H1 e1 s1 P1 xs rx => ?_⟩
  obtain ⟨_, P2⟩ := if_post P1
  have P3 := P2 _ _ (Ext.refl _ _) s1
  have A1 := A.up e1 s1
  cases rx with
  | nil => exact P3.elim
  | cons r1 t => cases t with
    | nil => exact P3.elim
    | cons r2 t => cases t with
      | cons r3 t => exact P3.elim
      | nil => exact ⟨_, _, rfl, P3 _ _ (Ext.refl _ _) s1 _ ((A1.re.set r1 i).set r2 j)⟩
end
end Mg

/-! MgH: which IR is which text (the checker). -/
namespace Mg
open PySem PySem.Spec PyProof.Rows L2
structure G where
  N : List Str
  sc : Scope
  own : Str → Bool
  T : Tab
def G.rd (g : G) (i : Nat) (x : Str) : Bool := decide (g.N[i]? = some x) && ((match g.sc.names.lookup x with
  | some .local => true
  | some .cell => true
  | some .free => true
  | _ => false) && (!(x == ("__debug__" : Str)) && !(x == ("__classdict__" : Str))))
def G.wr (g : G) (i : Nat) (x : Str) : Bool := decide (g.N[i]? = some x) && (match g.sc.names.lookup x with
  | some .local => true
  | some .cell => g.own x
  | _ => false)
def G.gl (g : G) (x : Str) : Bool := (match g.sc.names.lookup x with
  | some .globalImplicit => true
  | _ => false) && !(x == ("__debug__" : Str))
def G.blk (g : G) (scope : Scope) : G := { g with sc := relS scope g.sc, own := fun x => scope.names.lookup x == some .cell }
structure SitG (g : G) (X : Cx) (W : WX) (cla : Str → Option Addr) (C : Str → List Val → M Val) : Prop where
  sit : Sit g.T X W cla C
  N : X.N = g.N
  sc : X.env.scope = g.sc
  fn : ∀ x, g.own x = true → X.fn x = true
def opB : Bop → Operator
  | .add => .Add
  | .sub => .Sub
  | .mul => .Mult
  | .fdiv => .FloorDiv
  | .mod => .Mod
  | .pow => .Pow
def opC : Cop → CmpOp
  | .eq => .Eq
  | .ne => .NotEq
  | .lt => .Lt
  | .le => .LtE
  | .gt => .Gt
  | .ge => .GtE
  | .inn => .In
  | .nin => .NotIn
def notIf : Expr → Bool
  | .IfExp _ _ _ _ => false
  | _ => true
def notSet : Expr → Bool
  | .Set _ _ _ => false
  | _ => true
def tyName : Ty → Str
  | .int => "int"
  | .bool => "bool"
  | .str => "str"
  | .tuple => "tuple"
  | .list => "list"
  | .dict => "dict"
def cTy (g : G) (t : Ty) : Expr → Bool
  | .Name x _ => decide (x = tyName t) && g.gl x
  | _ => false
def cTys (g : G) : List Ty → List Expr → Bool
  | [], [] => true
  | t :: ts, e :: es => cTy g t e && cTys g ts es
  | _, _ => false
def b1Name : B1 → Str
  | .len => "len"
  | .abs => "abs"
  | .int => "int"
  | .str => "str"
def b2Name : B2 → Str
  | .max => "max"
  | .min => "min"
def bLName : BL → Str
  | .all => "all"
  | .any => "any"
  | .sum => "sum"
  | .max => "max"
  | .min => "min"
  | .tuple => "tuple"
  | .len => "len"
def mtName : Mt → Str
  | .append => "append"
  | .pop => "pop"
  | .popAt => "pop"
  | .upper => "upper"
/-- the arguments of a method -/
def mtArgs : Mt → Exs → Bool
  | .append, .cons _ .nil => true
  | .pop, .nil => true
  | .popAt, .cons _ .nil => true
  | _, _ => false
def exsLen : Exs → Nat
  | .nil => 0
  | .cons _ l => exsLen l + 1

/-- neither not, and, or, a comparison nor a choice -/
def plainT : Expr → Bool
  | .UnaryOp .Not _ _ => false
  | .BoolOp _ _ _ => false
  | .IfExp _ _ _ _ => false
  | .Compare _ _ _ _ => false
  | _ => true

mutual
def cE : Ex → G → Expr → Bool
  | .non, _, e => match e with
    | .Constant .none _ _ => true
    | _ => false
  | .bl b, _, e => match e with
    | .Constant (.bool c) _ _ => decide (b = c)
    | _ => false
  | .int i, _, e => match e with
    | .Constant (.int j) _ _ => decide (i = j)
    | _ => false
  | .str x, _, e => match e with
    | .Constant (.str y) _ _ => decide (x = y) && PyData.strOk x
    | _ => false
  | .var i, g, e => match e with
    | .Name x _ => g.rd i x
    | _ => false
  | .con x c, g, e => match e with
    | .Name y _ => decide (x = y) && (g.gl x && decide (g.T.con.lookup x = some c))
    | _ => false
  | .tup l, g, e => match e with
    | .Tuple es _ _ => cEs l g es
    | _ => false
  | .alloc l, g, e => plainT e && cL l g e
  | .dictK, _, _ => false
  | .dictT, _, _ => false
  | .neg a, g, e => match e with
    | .UnaryOp .USub x _ => cE a g x
    | _ => false
  | .bin op a b, g, e => match e with
    | .BinOp x o y _ => decide (o = opB op) && (cE a g x && cE b g y)
    | _ => false
  | .cmp o a b, g, e => match e with
    | .Compare x [p] [y] _ => decide (p = opC o) && (!behindInMarks p y && (cE a g x && cE b g y))
    | _ => false
  | .cmpL _ _ _, _, _ => false
  | .inL _ _ _, _, _ => false
  | .isN neg a, g, e => match e with
    | .Compare x [p] [.Constant .none _ _] _ => decide (p = if neg then .IsNot else .Is) && cE a g x
    | _ => false
  | .chain o1 o2 a b c, g, e => match e with
    | .Compare x [p, q] [y, z] _ => decide (p = opC o1) && (decide (q = opC o2) && (!lastMarks [p, q] [y, z] && (cE a g x && (cE b g y && cE c g z))))
    | _ => false
  | .and a b, g, e => match e with
    | .BoolOp .And (x :: y :: r) pos => notIf x && (cE a g x && (match r with
      | [] => notIf y && cE b g y
      | z :: r => cE b g (.BoolOp .And (y :: z :: r) pos)))
    | _ => false
  | .or a b, g, e => match e with
    | .BoolOp .Or (x :: y :: r) pos => notIf x && (cE a g x && (match r with
      | [] => notIf y && cE b g y
      | z :: r => cE b g (.BoolOp .Or (y :: z :: r) pos)))
    | _ => false
  | .not a, g, e => match e with
    | .UnaryOp .Not x _ => notIf x && cE a g x
    | _ => false
  | .ite c a b, g, e => match e with
    | .IfExp x y z _ => notIf x && (cE c g x && (cE a g y && cE b g z))
    | _ => false
  | .ix a b, g, e => match e with
    | .Subscript x y _ => noSlice y && (cE a g x && cE b g y)
    | _ => false
  | .ixL l b, g, e => match e with
    | .Subscript x y _ => noSlice y && (cL l g x && cE b g y)
    | _ => false
  | .sl a lo hi, g, e => match e with
    | .Subscript x (.Slice u v none _) _ => cE a g x && (cO lo g u && cO hi g v)
    | _ => false
  | .rev _, _, _ => false
  | .call f args, g, e => match e with
    | .Call (.Name x _) es [] _ => decide (x = f) && (g.gl f && (decide ((f, exsLen args) ∈ g.T.fn) && (plainEs es && cEs args g es)))
    | _ => false
  | .callK f args ks kws perm, g, e => match e with
    | .Call (.Name x _) es kw _ => decide (x = f) && (g.gl f && (decide ((f, exsLen args, ks, perm) ∈ g.T.kw) && (plainEs es && (cEs args g es && (decide (kw.map (·.arg) = ks.map some) && cEs kws g (kw.map (·.value)))))))
    | _ => false
  | .b1 b a, g, e => match e with
    | .Call (.Name x _) [y] [] _ => decide (x = b1Name b) && (g.gl x && (plainE y && cE a g y))
    | _ => false
  | .b2 b a c, g, e => match e with
    | .Call (.Name x _) [y, z] [] _ => decide (x = b2Name b) && (g.gl x && (plainE y && (plainE z && (cE a g y && cE c g z))))
    | _ => false
  | .bL b l, g, e => match e with
    | .Call (.Name x _) [y] [] _ => decide (x = bLName b) && (g.gl x && (plainE y && cL l g y))
    | _ => false
  | .isi a ts, g, e => match e with
    | .Call (.Name x _) [y, z] [] _ => decide (x = ("isinstance" : Str)) && (g.gl x && (plainE y && (cE a g y && (match ts, z with
      | [t], z => plainE z && cTy g t z
      | t :: u :: ts, .Tuple es _ _ => decide (ts.length ≤ 10) && cTys g (t :: u :: ts) es
      | _, _ => false))))
    | _ => false
  | .meth m o args, g, e => match e with
    | .Call (.Attribute x f ap) es [] cp => decide (f = mtName m) && (mtArgs m args && (notSuper x && ((ap.endLine == cp.line) && (plainEs es && (cE o g x && cEs args g es)))))
    | _ => false
def cEs : Exs → G → List Expr → Bool
  | .nil, _, es => match es with
    | [] => true
    | _ => false
  | .cons a l, g, es => match es with
    | e :: es => plainE e && (cE a g e && cEs l g es)
    | _ => false
def cO : Oe → G → Option Expr → Bool
  | .none, _, o => match o with
    | none => true
    | _ => false
  | .some a, g, o => match o with
    | some e => cE a g e
    | _ => false
def cL : Lx → G → Expr → Bool
  | .dis l, g, e => match e with
    | .List es _ => cEs l g es
    | _ => false
  | .of a, g, e => cE a g e
  | .sl l lo hi, g, e => match e with
    | .Subscript x (.Slice u v none _) _ => cL l g x && (cO lo g u && cO hi g v)
    | _ => false
  | .cat a b, g, e => match e with
    | .BinOp x .Add y _ => cL a g x && cL b g y
    | _ => false
  | .lst l, g, e => match e with
    | .Call (.Name x _) [y] [] _ => decide (x = ("list" : Str)) && (g.gl x && (plainE y && cL l g y))
    | _ => false
  | .comp elt tg src .none own, g, e => match e with
    | .ListComp x [⟨t, it, [], 0⟩] scope _ => blkC g.N g.sc scope own && ((slots tg).all (fun i => decide (i ∈ own.map (·.2))) && (notSet it && (cG (g.blk scope) tg t && (cS src g t it && cE elt (g.blk scope) x))))
    | _ => false
  | .comp elt tg src (.some c) own, g, e => match e with
    | .ListComp x [⟨t, it, [y], 0⟩] scope _ => blkC g.N g.sc scope own && ((slots tg).all (fun i => decide (i ∈ own.map (·.2))) && (notSet it && (cG (g.blk scope) tg t && (cS src g t it && (cE elt (g.blk scope) x && (notIf y && cE c (g.blk scope) y))))))
    | _ => false
def cS : Sx → G → Expr → Expr → Bool
  | .l l, g, _, e => cL l g e
  | .r1 a, g, _, e => match e with
    | .Call (.Name x _) [y] [] _ => decide (x = ("range" : Str)) && (g.gl x && (plainE y && cE a g y))
    | _ => false
  | .r2 a b, g, _, e => match e with
    | .Call (.Name x _) [y, z] [] _ => decide (x = ("range" : Str)) && (g.gl x && (plainE y && (plainE z && (cE a g y && cE b g z))))
    | _ => false
  | .enum l, g, t, e => match t, e with
    | .Tuple _ _ _, .Call (.Name x _) [y] [] _ => decide (x = ("enumerate" : Str)) && (g.gl x && (plainE y && cL l g y))
    | _, _ => false
  | .zip2 a b, g, t, e => match t, e with
    | .Tuple _ _ _, .Call (.Name x _) [y, z] [] _ => decide (x = ("zip" : Str)) && (g.gl x && (plainE y && (plainE z && (cL a g y && cL b g z))))
    | _, _ => false
  | .zip3 _ _ _, _, _, _ => false
  | .str _, _, _, _ => false
def cG : G → Tg → Expr → Bool
  | g, .nm i, e => match e with
    | .Name x _ => g.wr i x
    | _ => false
  | g, .t2 a b, e => match e with
    | .Tuple [x, y] _ _ => plainE x && (plainE y && (cG g a x && cG g b y))
    | _ => false
  | g, .t3 a b c, e => match e with
    | .Tuple [x, y, z] _ _ => plainE x && (plainE y && (plainE z && (cG g a x && (cG g b y && cG g c z))))
    | _ => false
  | g, .t4 a b c d, e => match e with
    | .Tuple [x, y, z, u] _ _ => plainE x && (plainE y && (plainE z && (plainE u && (cG g a x && (cG g b y && (cG g c z && cG g d u))))))
    | _ => false
end
end Mg

/-! MgI: what the checker accepts does what the evaluator says (expressions). -/
namespace Mg
open PySem PySem.Spec PyProof.Rows L2
section
variable {cla : Str → Option Addr} {W : WX} {X : Cx} {C : Str → List Val → M Val} {g : G}
/-! ### operators -/
def bopR (K : Frg) : Bop → R2
  | .add => rAddAll K
  | .sub => rI (fun _ _ => True) fun i j => .int (i - j)
  | .mul => rI CMulV fun i j => .int (i * j)
  | .fdiv => rI CDivW fun i j => .int (i / j)
  | .mod => rI (fun _ j => 0 < j) fun i j => .int (i % j)
  | .pow => rI CPow fun i j => .int (i ^ j.toNat)
theorem bop_op : ∀ op : Bop, OpR X (binaryOp (opB op)) (bopR X.K op)
  | .add => op_addAll
  | .sub => op_subT
  | .mul => op_mulV
  | .fdiv => op_fdivW
  | .mod => op_mod
  | .pow => op_pow
theorem ok_mulV {K : Frg} : Ok2 cla K (rI CMulV fun i j => .int (i * j)) mulV :=
  ok_int (fun i j => by
    by_cases c : i.natAbs.log2 + j.natAbs.log2 < 100000000
    · exact .inl ⟨c, if_pos c⟩
    · exact .inr (if_neg c)) fun x y h => by
    cases x <;> cases y <;> first | rfl | exact (h _ _ rfl rfl).elim
theorem bop_ok {K : Frg} : ∀ op : Bop, Ok2 cla K (bopR K op) (binop op)
  | .add => ok_add
  | .sub => ok_sub
  | .mul => ok_mulV
  | .fdiv => ok_fdiv
  | .mod => ok_mod
  | .pow => ok_pow
def copR (K : Frg) : Cop → R2
  | .eq => rEqAll K
  | .ne => rNeAll K
  | .lt => rLtAll
  | .le => rI0 fun i j => .bl (decide (i ≤ j))
  | .gt => rI0 fun i j => .bl (decide (j < i))
  | .ge => rI0 fun i j => .bl (decide (j ≤ i))
  | .inn => rInAll K false
  | .nin => rInAll K true
theorem cop_op (hu : X.A.units + 65 < cLine) : ∀ o : Cop, OpR X (compareOp (opC o)) (copR X.K o)
  | .eq => op_eqAll (by omega)
  | .ne => op_neAll (by omega)
  | .lt => op_ltAll
  | .le => op_le
  | .gt => op_gt
  | .ge => op_ge
  | .inn => op_inAll hu
  | .nin => op_notInAll hu
theorem cop_ok {K : Frg} : ∀ o : Cop, Ok2 cla K (copR K o) (cmpV (compare o))
  | .eq => ok_eq
  | .ne => ok_ne
  | .lt => ok_lt
  | .le => ok_le
  | .gt => ok_gt
  | .ge => ok_ge
  | .inn => ok_inn
  | .nin => ok_nin
/-! ### chains -/
theorem chain_read {a b c : Env' → M Val} {f f' : Val → Val → M Bool} {r r' : R2} (k1 : Ok2 cla X.K r (cmpV f)) (k2 : Ok2 cla X.K r' (cmpV f')) {σ : L2.St} {H : Hp} {Q : VK}
    (h : tM cla X.K W (fun ρ => bnd (a ρ) fun x => bnd (b ρ) fun y => bnd (f x y) fun k => if k then bnd (c ρ) fun z => bnd (f' y z) fun k2 => ret (.bl k2) else ret (.bl false)) σ H Q) :
    tChain r r' (tM cla X.K W a) (tM cla X.K W b) (tM cla X.K W c) σ H Q := by
  obtain ⟨μ, ρ, st, A, P⟩ := h
  refine ⟨μ, ρ, st, A, Post.mono P.bnd (Ext.refl _ _) fun x st1 μ1 H1 e1 s1 P1 x' rx => ?_⟩
  refine ⟨μ1, ρ, st1, A.up e1 s1, Post.mono P1.bnd (Ext.refl _ _) fun y st2 μ2 H2 e2 s2 P2 y' ry => ?_⟩
  refine k1 (WE' W σ) μ2 H2 st2 x y x' y' _ s2 (rx.up e2 s1) ry ?_
  have P3 := P2.bnd
  have A2 := (A.up e1 s1).up e2 s2
  cases q : f x y st2 with
  | bad => rw [q] at P3; exact P3.elim
  | exc e st3 =>
    rw [q] at P3
    show PV cla X.K _ μ2 H2 (bnd (f x y) (fun b => ret (.bl b)) st2) _
    rw [bnd_exc q]
    exact P3
  | ok k st3 =>
    rw [q] at P3
    show PV cla X.K _ μ2 H2 (bnd (f x y) (fun b => ret (.bl b)) st2) _
    rw [bnd_ok q]
    intro μ3 H3 e3 s3 z rz
    cases rz
    have P4 := P3 μ3 H3 e3 s3
    refine ⟨_, rfl, ?_⟩
    cases k with
    | false => exact L2.iteF (PV.ret (v := .bl false) P4 s3 .bl)
    | true =>
      refine L2.iteT ⟨μ3, ρ, st3, A2.up e3 s3, Post.mono (Post.bnd P4) (Ext.refl _ _) fun z st4 μ4 H4 e4 s4 P5 z' rz => ?_⟩
      exact k2 (WE' W σ) μ4 H4 st4 y z y' z' _ s4 ((ry.up e3 s2).up e4 s3) rz P5
theorem r_chain {p q : CmpOp} {a b c : Expr} {pos : Pos} {ma mb mc : Env' → M Val} {f f' : Val → Val → M Bool} {r r' : R2} (ho : OpR X (compareOp p) r) (ho' : OpR X (compareOp q) r') (k1 : Ok2 cla X.K r (cmpV f)) (k2 : Ok2 cla X.K r' (cmpV f'))
    (hm : lastMarks [p, q] [b, c] = false) (ha : PE X a (tM cla X.K W ma)) (hb : PE X b (tM cla X.K W mb)) (hc : PE X c (tM cla X.K W mc)) :
    PE X (.Compare a [p, q] [b, c] pos) (tM cla X.K W fun ρ => bnd (ma ρ) fun x => bnd (mb ρ) fun y => bnd (f x y) fun k => if k then bnd (mc ρ) fun z => bnd (f' y z) fun k2 => ret (.bl k2) else ret (.bl false)) :=
  PE.weak (pe_chain ho ho' ha hb hc hm) fun _ _ _ h => chain_read k1 k2 h
theorem r_chainT {p q : CmpOp} {a b c : Expr} {pos : Pos} {ma mb mc : Env' → M Val} {f f' : Val → Val → M Bool} {r r' : R2} (ho : OpR X (compareOp p) r) (ho' : OpR X (compareOp q) r') (k1 : Ok2 cla X.K r (cmpV f)) (k2 : Ok2 cla X.K r' (cmpV f'))
    (hm : lastMarks [p, q] [b, c] = false) (ha : PE X a (tM cla X.K W ma)) (hb : PE X b (tM cla X.K W mb)) (hc : PE X c (tM cla X.K W mc)) :
    PT X (.Compare a [p, q] [b, c] pos) (tB cla X.K W fun ρ => bnd (ma ρ) fun x => bnd (mb ρ) fun y => bnd (f x y) fun k => if k then bnd (mc ρ) fun z => bnd (f' y z) fun k2 => ret (.bl k2) else ret (.bl false)) :=
  PT.weak (pt_chain ho ho' ha hb hc hm) fun _ _ _ h => chain_read k1 k2 (tB_tM h)
/-! ### names -/
theorem rd_ok (S : SitG g X W cla C) {i : Nat} {x : Str} (h : g.rd i x = true) : X.N[i]? = some x ∧ Vis X.env.scope x ∧ (x == ("__debug__" : Str)) = false ∧ (x == ("__classdict__" : Str)) = false := by
  unfold G.rd at h
  simp only [Bool.and_eq_true, decide_eq_true_eq, Bool.not_eq_true'] at h
  obtain ⟨h1, h2, h3, h4⟩ := h
  refine ⟨by rw [S.N]; exact h1, ?_, h3, h4⟩
  unfold Vis
  rw [S.sc]
  split at h2
  · exact .inl (by assumption)
  · exact .inr (.inl (by assumption))
  · exact .inr (.inr (by assumption))
  · cases h2
theorem wr_ok (S : SitG g X W cla C) {i : Nat} {x : Str} (h : g.wr i x = true) : X.N[i]? = some x ∧ L2.Loc X.env.scope x ∧ (X.fn x = true ∨ X.env.scope.names.lookup x = some .local) := by
  unfold G.wr at h
  simp only [Bool.and_eq_true, decide_eq_true_eq] at h
  obtain ⟨h1, h2⟩ := h
  refine ⟨by rw [S.N]; exact h1, ?_, ?_⟩
  · unfold L2.Loc
    rw [S.sc]
    split at h2
    · exact .inl (by assumption)
    · exact .inr (by assumption)
    · cases h2
  · rw [S.sc]
    split at h2
    · exact .inr (by assumption)
    · exact .inl (S.fn x h2)
    · cases h2
theorem gl_ok (S : SitG g X W cla C) {x : Str} (h : g.gl x = true) : Gl X x ∧ (x == ("__debug__" : Str)) = false := by
  unfold G.gl at h
  simp only [Bool.and_eq_true, Bool.not_eq_true'] at h
  refine ⟨?_, h.2⟩
  have q := h.1
  show X.env.scope.names.lookup x = _
  rw [S.sc]
  split at q
  · assumption
  · cases q
/-- in a comprehension's block -/
theorem sit_blk (S : SitG g X W cla C) {scope : Scope} (hk : scope.kind = .function) (s : Shared) (H : Hp) (D : Addr) (cl : List (Str × Addr)) (fp : List Addr) : SitG (g.blk scope) (X.blk s H scope (compEnvC scope cl D X.env) fp) WF cla C := by
  refine ⟨⟨S.sit.calm, S.sit.nd, hk, fun u s' ⟨_, _, _, _, _, _, _, _, _, _, _, _, _, _, _, _, w⟩ => w.elim, S.sit.hu, S.sit.bl, S.sit.con, fun f n h => ?_, fun f m ks p h => ?_⟩, S.N, ?_, fun x h => h⟩
  · obtain ⟨fa, fd, ps, k, c⟩ := S.sit.fn f n h
    exact ⟨fa, fd, ps, k, c.mg, c.keep, c.len, c.ok, c.room, c.binds, c.bad⟩
  · obtain ⟨fa, fd, ps, k, c, b⟩ := S.sit.kw f m ks p h
    exact ⟨fa, fd, ps, k, ⟨c.mg, c.keep, c.len, c.ok, c.room, c.binds, c.bad⟩, b⟩
  · show relabel scope X.env = relS scope g.sc
    rw [← S.sc]
    rfl
theorem blk_kind {N : List Str} {sc scope : Scope} {own : List (Str × Nat)} (h : blkC N sc scope own = true) : scope.kind = .function := (blkOk_by h).kind
theorem set_pure {it : Expr} {env : Env} (h : notSet it = true) : ∀ x, foldedSetIterable it env x = pure x := fun x => by
  cases it <;> first | rfl | cases h
/-! ### values, tests -/
/-- an expression's value, its truth -/
def SndE (g : G) (C : Str → List Val → M Val) (ir : Ex) (e : Expr) : Prop := ∀ X W cla, SitG g X W cla C → PE X e (tM cla X.K W (ev C ir)) ∧ (notIf e = true → PT X e (tB cla X.K W (ev C ir)))
def SndL (g : G) (C : Str → List Val → M Val) (l : Lx) (e : Expr) : Prop := ∀ X W cla, SitG g X W cla C → PE X e (tL cla X.K W (evL C l))
def SndS (g : G) (C : Str → List Val → M Val) (l : Sx) (t e : Expr) : Prop := ∀ X W cla, SitG g X W cla C → PI X t e (tI cla X.K W (evS C l))
def SndO (g : G) (C : Str → List Val → M Val) (o : Oe) (e : Option Expr) : Prop := (∀ X W cla, SitG g X W cla C → PO X e (tO cla X.K W (evO C o))) ∧ ∀ c x, o = .some c → e = some x → SndE g C c x
def SndEs (g : G) (C : Str → List Val → M Val) (l : Exs) (es : List Expr) : Prop := es.length = exsLen l ∧ (∀ X W cla, SitG g X W cla C → PA X es (tMs cla X.K W (evs C l)) ∧ ∀ kw : List Keyword, kw.map (·.value) = es → PK X kw (tMs cla X.K W (evs C l))) ∧
  ∀ a, l = .cons a .nil → ∃ x, es = [x] ∧ plainE x = true ∧ SndE g C a x
theorem test_plain {e : Expr} {env : Env} (h : plainT e = true) : ∀ whole, isTrue e env whole = (do let v ← whole; standAt e.pos; holding [v] (truthy v)) := fun w => by
  cases e with
  | UnaryOp op a p => cases op <;> first | rfl | cases h
  | BoolOp _ _ _ => cases h
  | IfExp _ _ _ _ => cases h
  | Compare _ _ _ _ => cases h
  | _ => rfl
theorem snd_val {ir : Ex} {e : Expr} (hp : plainT e = true) (h : ∀ X W cla, SitG g X W cla C → PE X e (tM cla X.K W (ev C ir))) : SndE g C ir e := fun X W cla S => ⟨h X W cla S, fun _ => r_valT (h X W cla S) (test_plain hp)⟩
end
end Mg

/-! MgJ: what the checker accepts does what the evaluator says (expressions). -/
namespace Mg
open PySem PySem.Spec PyProof.Rows L2
section
variable {C : Str → List Val → M Val}
theorem b1_ok {cla : Str → Option Addr} {W : WX} {X : Cx} {a : Expr} {p pos : Pos} {ma : Env' → M Val} : ∀ (b : B1), Gl X (b1Name b) → X.mg (b1Name b) = none → (b1Name b == ("__debug__" : Str)) = false → plainE a = true → PE X a (tM cla X.K W ma) →
    PE X (.Call (.Name (b1Name b) p) [a] [] pos) (tM cla X.K W fun ρ => bnd (ma ρ) (op1 b))
  | .len, hg, hm, hd, hp, h => r_b1 call_lenAll hg hm PySem.boot_len (by decide) hd hp ok_lenAll h
  | .abs, hg, hm, hd, hp, h => r_b1 call_abs hg hm PyProof.Rows.boot_abs (by decide) hd hp (fun E μ H st x Y Q s rx P => by
      obtain ⟨i, e, q⟩ := ok_abs E μ H st x Y Q s rx P
      exact ⟨i, by rw [e], q⟩) h
  | .int, hg, hm, hd, hp, h => r_b1T call_int1 hg hm PyProof.Rows.boot_int (by decide) hd hp (fun E μ H st x Y Q s rx P => by
      rcases ok_int1 E μ H st x Y Q s rx P with ⟨i, e, q⟩ | ⟨i, e, q⟩
      · exact .inl ⟨i, by rw [e], q⟩
      · exact .inr ⟨i, by rw [e], q⟩) h
  | .str, hg, hm, hd, hp, h => r_b1T call_str_int hg hm PyProof.Rows.boot_str (by decide) hd hp (fun E μ H st x Y Q s rx P => by
      obtain ⟨i, e, q⟩ := ok_str1 E μ H st x Y Q s rx P
      exact ⟨i, by rw [e], q⟩) h
theorem b2_ok {cla : Str → Option Addr} {W : WX} {X : Cx} {a c : Expr} {p pos : Pos} {ma mb : Env' → M Val} (hc : X.calm = true) : ∀ (b : B2), Gl X (b2Name b) → X.mg (b2Name b) = none → (b2Name b == ("__debug__" : Str)) = false → plainE a = true → plainE c = true → PE X a (tM cla X.K W ma) → PE X c (tM cla X.K W mb) →
    PE X (.Call (.Name (b2Name b) p) [a, c] [] pos) (tM cla X.K W fun ρ => bnd (ma ρ) fun x => bnd (mb ρ) fun y => op2 b x y)
  | .max, hg, hm, hd, hp, hp2, h, h2 => r_b2 (call_max2 hc) hg hm PyProof.Rows.boot_max (by decide) hd hp hp2 (fun E μ H st x y X Y Q s rx ry P => by
      obtain ⟨i, j, e, e2, q⟩ := ok_max2 E μ H st x y X Y Q s rx ry P
      exact ⟨i, j, by rw [e, e2], q⟩) h h2
  | .min, hg, hm, hd, hp, hp2, h, h2 => r_b2 (call_min2 hc) hg hm PyProof.Rows.boot_min (by decide) hd hp hp2 (fun E μ H st x y X Y Q s rx ry P => by
      obtain ⟨i, j, e, e2, q⟩ := ok_min2 E μ H st x y X Y Q s rx ry P
      exact ⟨i, j, by rw [e, e2], q⟩) h h2
theorem bL_ok {cla : Str → Option Addr} {W : WX} {X : Cx} {a : Expr} {p pos : Pos} {ma : Env' → M LV} (hc : X.calm = true) : ∀ (b : BL), Gl X (bLName b) → X.mg (bLName b) = none → (bLName b == ("__debug__" : Str)) = false → plainE a = true → PE X a (tL cla X.K W ma) →
    PE X (.Call (.Name (bLName b) p) [a] [] pos) (tM cla X.K W fun ρ => bnd (ma ρ) fun lv => opLV b lv)
  | .all, hg, hm, hd, hp, h => r_bL (cr_all hc) hg hm PyProof.Rows.boot_all (by decide) hd hp ok_allV h
  | .any, hg, hm, hd, hp, h => r_bL (cr_any hc) hg hm PyProof.Rows.boot_any (by decide) hd hp ok_anyV h
  | .sum, hg, hm, hd, hp, h => r_bL (cr_sum hc) hg hm PyProof.Rows.boot_sum (by decide) hd hp ok_sumV h
  | .max, hg, hm, hd, hp, h => r_bL (cr_max hc) hg hm PyProof.Rows.boot_max (by decide) hd hp ok_maxV h
  | .min, hg, hm, hd, hp, h => r_bL (cr_min hc) hg hm PyProof.Rows.boot_min (by decide) hd hp ok_minV h
  | .tuple, hg, hm, hd, hp, h => r_bLT call_tuple_of hg hm PyProof.Rows.boot_tuple (by decide) hd hp ok_tuple h
  | .len, hg, hm, hd, hp, h => r_bL call_len hg hm PySem.boot_len (by decide) hd hp ok_lenL h
theorem evs_len : ∀ {l : Exs} {ρ : Env'} {st st' : Sto} {vs : List Val}, evs C l ρ st = .ok vs st' → vs.length = exsLen l
  | .nil, ρ, st, st', vs, h => by
    have h : ret ([] : List Val) st = .ok vs st' := h
    cases h; rfl
  | .cons a l, ρ, st, st', vs, h => by
    have h : bnd (ev C a ρ) (fun v => bnd (evs C l ρ) fun vs => ret (v :: vs)) st = .ok vs st' := h
    obtain ⟨v, s1, h1, h2⟩ := bnd_inv h
    obtain ⟨ws, s2, h3, h4⟩ := bnd_inv h2
    have q := evs_len h3
    cases h4
    show ws.length + 1 = exsLen l + 1
    rw [q]
theorem ty_name {cla : Str → Option Addr} {W : WX} {X : Cx} {g : G} (S : SitG g X W cla C) : ∀ {t : Ty} {e : Expr}, cTy g t e = true → PE X e (tC (.ty (tyS t))) := by
  intro t e h
  cases e with
  | Name x p =>
    simp only [cTy, Bool.and_eq_true, decide_eq_true_eq] at h
    obtain ⟨e, h⟩ := h
    subst e
    obtain ⟨q1, q2⟩ := gl_ok S h
    cases t with
    | int => exact pe_bltn q1 (S.sit.bl _ (by decide)) PyProof.Rows.boot_int rfl (by decide) q2
    | bool => exact pe_bltn q1 (S.sit.bl _ (by decide)) PyProof.Rows.boot_bool rfl (by decide) q2
    | str => exact pe_bltn q1 (S.sit.bl _ (by decide)) PyProof.Rows.boot_str rfl (by decide) q2
    | tuple => exact pe_bltn q1 (S.sit.bl _ (by decide)) PyProof.Rows.boot_tuple rfl (by decide) q2
    | list => exact pe_bltn q1 (S.sit.bl _ (by decide)) PyProof.Rows.boot_list rfl (by decide) q2
    | dict => exact pe_bltn q1 (S.sit.bl _ (by decide)) PyProof.Rows.boot_dict rfl (by decide) q2
  | _ => cases h
theorem cty_plain {g : G} {t : Ty} {e : Expr} (h : cTy g t e = true) : plainE e = true := by
  cases e <;> first | rfl | cases h
theorem tys_name {cla : Str → Option Addr} {W : WX} {X : Cx} {g : G} (S : SitG g X W cla C) : ∀ {ts : List Ty} {es : List Expr}, cTys g ts es = true → PA X es (tTys ts)
  | [], [], h => PA.weak pa_nil fun _ _ _ q => q
  | t :: ts, e :: es, h => by
    simp only [cTys, Bool.and_eq_true] at h
    exact PA.weak (pa_cons (ty_name S h.1) (tys_name S h.2) (star_cons (cty_plain h.1))) fun _ _ _ q => q
  | [], _ :: _, h => by cases h
  | _ :: _, [], h => by cases h
theorem bltn_mem {cla : Str → Option Addr} {W : WX} {X : Cx} {g : G} (S : SitG g X W cla C) {x : Str} (h : x ∈ (["len", "max", "min", "tuple", "range", "isinstance", "zip", "all", "any", "sum", "list", "enumerate", "int", "str", "abs", "dict", "bool", "sorted", "set"] : List Str)) : X.mg x = none := S.sit.bl x h
theorem cG_ok {cla : Str → Option Addr} {W : WX} {X : Cx} {g : G} (S : SitG g X W cla C) : ∀ {t : Tg} {e : Expr}, cG g t e = true → PG X e (tG X.K t)
  | .nm i, e, h => by
    simp only [cG] at h
    split at h
    · obtain ⟨h1, h2, h3⟩ := wr_ok S h
      exact g_nm (pg_name S.sit.nd h1 h2 h3)
    · cases h
  | .t2 a b, e, h => by
    simp only [cG] at h
    split at h
    · simp only [Bool.and_eq_true] at h
      exact g_t2 S.sit.calm h.1 h.2.1 (cG_ok S h.2.2.1) (cG_ok S h.2.2.2)
    · cases h
  | .t3 a b c, e, h => by
    simp only [cG] at h
    split at h
    · simp only [Bool.and_eq_true] at h
      exact g_t3 S.sit.calm h.1 h.2.1 h.2.2.1 (cG_ok S h.2.2.2.1) (cG_ok S h.2.2.2.2.1) (cG_ok S h.2.2.2.2.2)
    · cases h
  | .t4 a b c d, e, h => by
    simp only [cG] at h
    split at h
    · simp only [Bool.and_eq_true] at h
      exact g_t4 S.sit.calm h.1 h.2.1 h.2.2.1 h.2.2.2.1 (cG_ok S h.2.2.2.2.1) (cG_ok S h.2.2.2.2.2.1) (cG_ok S h.2.2.2.2.2.2.1) (cG_ok S h.2.2.2.2.2.2.2)
    · cases h
theorem one_and {X : Cx} {e : Expr} {pos : Pos} {t : TT} (h : PT X e t) : PW X (.BoolOp .And [e] pos) t := pw_and1 h
theorem con_ok {cla : Str → Option Addr} {W : WX} {X : Cx} {g : G} (S : SitG g X W cla C) {x : Str} {c : Const} {p : Pos} (h : g.gl x = true) (hl : g.T.con.lookup x = some c) : PE X (.Name x p) (tM cla X.K W fun _ => constV c) := by
  obtain ⟨h1, h2⟩ := gl_ok S h
  obtain ⟨u, h3, h4⟩ := S.sit.con x c hl
  cases c with
  | int i => exact r_val (pe_glob (v := .int i) h1 h3 h4 h2) fun _ _ => .int
  | str y => exact r_val (pe_glob (v := .str y) h1 h3 h4.1 h2) fun _ _ => .str h4.2
  | _ => exact h4.elim
end
end Mg

/-! MgK: what the checker accepts does what the evaluator says (expressions). -/
namespace Mg
open PySem PySem.Spec PyProof.Rows L2
theorem pt_pw {X : Cx} {op : BoolOp} {es : List Expr} {pos : Pos} {t : TT} (h : PT X (.BoolOp op es pos) t) : PW X (.BoolOp op es pos) t := ⟨fun w pins s σ H Q I q => h.run pins s σ H Q I q⟩
theorem cE_and {g : G} {a b : Ex} {e : Expr} (h : cE (.and a b) g e = true) : ∃ x y r pos, e = .BoolOp .And (x :: y :: r) pos ∧ notIf x = true ∧ cE a g x = true ∧ ((r = [] ∧ notIf y = true ∧ cE b g y = true) ∨ (r ≠ [] ∧ cE b g (.BoolOp .And (y :: r) pos) = true)) := by
  simp only [cE] at h
  split at h
  · simp only [Bool.and_eq_true] at h
    rename_i x y r pos
    refine ⟨x, y, r, pos, rfl, h.1, h.2.1, ?_⟩
    cases r with
    | nil => have q := h.2.2; simp only [Bool.and_eq_true] at q; exact .inl ⟨rfl, q.1, q.2⟩
    | cons z r => exact .inr ⟨by simp, h.2.2⟩
  · cases h
theorem cE_or {g : G} {a b : Ex} {e : Expr} (h : cE (.or a b) g e = true) : ∃ x y r pos, e = .BoolOp .Or (x :: y :: r) pos ∧ notIf x = true ∧ cE a g x = true ∧ ((r = [] ∧ notIf y = true ∧ cE b g y = true) ∨ (r ≠ [] ∧ cE b g (.BoolOp .Or (y :: r) pos) = true)) := by
  simp only [cE] at h
  split at h
  · simp only [Bool.and_eq_true] at h
    rename_i x y r pos
    refine ⟨x, y, r, pos, rfl, h.1, h.2.1, ?_⟩
    cases r with
    | nil => have q := h.2.2; simp only [Bool.and_eq_true] at q; exact .inl ⟨rfl, q.1, q.2⟩
    | cons z r => exact .inr ⟨by simp, h.2.2⟩
  · cases h
section
variable {C : Str → List Val → M Val}
mutual
theorem sE : (ir : Ex) → (g : G) → (e : Expr) → cE ir g e = true → SndE g C ir e
  | .non, g, e, h => by
    simp only [cE] at h
    split at h
    · exact snd_val rfl fun X W cla S => r_val pe_non fun _ _ => .non
    · cases h
  | .bl b, g, e, h => by
    simp only [cE] at h
    split at h
    · have e := of_decide_eq_true h
      subst e
      exact snd_val rfl fun X W cla S => r_val pe_bl fun _ _ => .bl
    · cases h
  | .int i, g, e, h => by
    simp only [cE] at h
    split at h
    · have e := of_decide_eq_true h
      subst e
      exact snd_val rfl fun X W cla S => r_val pe_int fun _ _ => .int
    · cases h
  | .str x, g, e, h => by
    simp only [cE] at h
    split at h
    · simp only [Bool.and_eq_true, decide_eq_true_eq] at h
      obtain ⟨e, h2⟩ := h
      subst e
      exact snd_val rfl fun X W cla S => r_val pe_str fun _ _ => .str h2
    · cases h
  | .var i, g, e, h => by
    simp only [cE] at h
    split at h
    · exact snd_val rfl fun X W cla S => by
        obtain ⟨h1, h2, h3, h4⟩ := rd_ok S h
        exact r_var (pe_var h1 h2 h3 h4)
    · cases h
  | .con x c, g, e, h => by
    simp only [cE] at h
    split at h
    · simp only [Bool.and_eq_true, decide_eq_true_eq] at h
      obtain ⟨e, h2, h3⟩ := h
      subst e
      exact snd_val rfl fun X W cla S => con_ok S h2 h3
    · cases h
  | .tup l, g, e, h => by
    simp only [cE] at h
    split at h
    · exact snd_val rfl fun X W cla S => r_tup ((sEs l g _ h).2.1 X W cla S).1
    · cases h
  | .alloc l, g, e, h => by
    simp only [cE, Bool.and_eq_true] at h
    exact snd_val h.1 fun X W cla S => r_alloc (sL l g e h.2 X W cla S)
  | .dictK, g, e, h => by simp only [cE] at h; cases h
  | .dictT, g, e, h => by simp only [cE] at h; cases h
  | .neg a, g, e, h => by
    simp only [cE] at h
    split at h
    · exact snd_val rfl fun X W cla S => r_un (sE a g _ h X W cla S).1
    · cases h
  | .bin op a b, g, e, h => by
    simp only [cE] at h
    split at h
    · simp only [Bool.and_eq_true, decide_eq_true_eq] at h
      obtain ⟨e, h1, h2⟩ := h
      subst e
      exact snd_val rfl fun X W cla S => r_bin (bop_op op) (bop_ok op) (sE a g _ h1 X W cla S).1 (sE b g _ h2 X W cla S).1
    · cases h
  | .cmp o a b, g, e, h => by
    simp only [cE] at h
    split at h
    · simp only [Bool.and_eq_true, decide_eq_true_eq, Bool.not_eq_true'] at h
      obtain ⟨e, h0, h1, h2⟩ := h
      subst e
      exact fun X W cla S => ⟨r_cmp (cop_op S.sit.hu o) (cop_ok o) h0 (sE a g _ h1 X W cla S).1 (sE b g _ h2 X W cla S).1, fun _ => r_cmpT (cop_op S.sit.hu o) (cop_ok o) h0 (sE a g _ h1 X W cla S).1 (sE b g _ h2 X W cla S).1⟩
    · cases h
  | .cmpL _ _ _, g, e, h => by simp only [cE] at h; cases h
  | .inL _ _ _, g, e, h => by simp only [cE] at h; cases h
  | .isN neg a, g, e, h => by
    simp only [cE] at h
    split at h
    · simp only [Bool.and_eq_true, decide_eq_true_eq] at h
      obtain ⟨e, h1⟩ := h
      subst e
      exact fun X W cla S => ⟨r_isN neg (sE a g _ h1 X W cla S).1, fun _ => r_isNT neg (sE a g _ h1 X W cla S).1⟩
    · cases h
  | .chain o1 o2 a b c, g, e, h => by
    simp only [cE] at h
    split at h
    · simp only [Bool.and_eq_true, decide_eq_true_eq, Bool.not_eq_true'] at h
      obtain ⟨e, e2, h0, h1, h2, h3⟩ := h
      subst e e2
      exact fun X W cla S => ⟨r_chain (cop_op S.sit.hu o1) (cop_op S.sit.hu o2) (cop_ok o1) (cop_ok o2) h0 (sE a g _ h1 X W cla S).1 (sE b g _ h2 X W cla S).1 (sE c g _ h3 X W cla S).1,
        fun _ => r_chainT (cop_op S.sit.hu o1) (cop_op S.sit.hu o2) (cop_ok o1) (cop_ok o2) h0 (sE a g _ h1 X W cla S).1 (sE b g _ h2 X W cla S).1 (sE c g _ h3 X W cla S).1⟩
    · cases h
  | .and a b, g, e, h => by
    obtain ⟨x, y, r, pos, e1, h1, h2, h3⟩ := cE_and h
    subst e1
    intro X W cla S
    have A := sE a g x h2 X W cla S
    rcases h3 with ⟨e2, h3, h4⟩ | ⟨n, h4⟩
    · subst e2
      have B := sE b g y h4 X W cla S
      exact ⟨r_and A.1 (pe_one B.1), fun _ => (r_andT (A.2 h1) (pw_and1 (B.2 h3))).pt⟩
    · have B := sE b g _ h4 X W cla S
      exact ⟨r_and A.1 B.1, fun _ => (r_andT (A.2 h1) (pt_pw (B.2 rfl))).pt⟩
  | .or a b, g, e, h => by
    obtain ⟨x, y, r, pos, e1, h1, h2, h3⟩ := cE_or h
    subst e1
    intro X W cla S
    have A := sE a g x h2 X W cla S
    rcases h3 with ⟨e2, h3, h4⟩ | ⟨n, h4⟩
    · subst e2
      have B := sE b g y h4 X W cla S
      exact ⟨r_or A.1 (pe_one B.1), fun _ => (r_orT (A.2 h1) (pw_or1 (B.2 h3))).pt⟩
    · have B := sE b g _ h4 X W cla S
      exact ⟨r_or A.1 B.1, fun _ => (r_orT (A.2 h1) (pt_pw (B.2 rfl))).pt⟩
  | .not a, g, e, h => by
    simp only [cE] at h
    split at h
    · simp only [Bool.and_eq_true] at h
      exact fun X W cla S => ⟨r_not (sE a g _ h.2 X W cla S).1, fun _ => r_notT ((sE a g _ h.2 X W cla S).2 h.1)⟩
    · cases h
  | .ite c a b, g, e, h => by
    simp only [cE] at h
    split at h
    · simp only [Bool.and_eq_true] at h
      exact fun X W cla S => ⟨r_ite ((sE c g _ h.2.1 X W cla S).2 h.1) (sE a g _ h.2.2.1 X W cla S).1 (sE b g _ h.2.2.2 X W cla S).1, fun z => by cases z⟩
    · cases h
  | .ix a b, g, e, h => by
    simp only [cE] at h
    split at h
    · simp only [Bool.and_eq_true] at h
      exact snd_val rfl fun X W cla S => r_ix (by have := S.sit.hu; omega) (plainIx_of h.1) (sE a g _ h.2.1 X W cla S).1 (sE b g _ h.2.2 X W cla S).1
    · cases h
  | .ixL l b, g, e, h => by
    simp only [cE] at h
    split at h
    · simp only [Bool.and_eq_true] at h
      exact snd_val rfl fun X W cla S => r_ixL (by have := S.sit.hu; omega) (plainIx_of h.1) (sL l g _ h.2.1 X W cla S) (sE b g _ h.2.2 X W cla S).1
    · cases h
  | .sl a lo hi, g, e, h => by
    simp only [cE] at h
    split at h
    · simp only [Bool.and_eq_true] at h
      exact snd_val rfl fun X W cla S => r_sl (sE a g _ h.1 X W cla S).1 ((sO lo g _ h.2.1).1 X W cla S) ((sO hi g _ h.2.2).1 X W cla S)
    · cases h
  | .rev _, g, e, h => by simp only [cE] at h; cases h
  | .call f args, g, e, h => by
    simp only [cE] at h
    split at h
    · rename_i x p es pos
      simp only [Bool.and_eq_true, decide_eq_true_eq] at h
      obtain ⟨e, h1, h2, h3, h4⟩ := h
      subst e
      refine snd_val rfl fun X W cla S => ?_
      obtain ⟨q1, q2⟩ := gl_ok S h1
      obtain ⟨fa, fd, ps, k, c⟩ := S.sit.fn _ _ h2
      cases es with
      | nil =>
        have e : args = .nil := by
          have q := (sEs args g [] h4).1
          cases args with
          | nil => rfl
          | cons a l => cases q
        subst e
        exact r_call0 S.sit.tk c q1 q2
      | cons x es => exact r_call S.sit.tk c q1 q2 h3 ((sEs args g _ h4).2.1 X W cla S).1
    · cases h
  | .callK f args ks kws perm, g, e, h => by
    simp only [cE] at h
    split at h
    · rename_i x p es kw pos
      simp only [Bool.and_eq_true, decide_eq_true_eq] at h
      obtain ⟨e, h1, h2, h3, h4, h5, h6⟩ := h
      subst e
      refine snd_val rfl fun X W cla S => ?_
      obtain ⟨q1, q2⟩ := gl_ok S h1
      obtain ⟨fa, fd, ps, k, c, b⟩ := S.sit.kw _ _ _ _ h2
      have e1 := (sEs args g _ h4).1
      have e2 := (sEs kws g _ h6).1
      refine r_callK S.sit.tk c b q1 q2 h3 h5 e1 (fun ρ st vs st' z => (evs_len z).trans e1.symm) (fun ρ st vs st' z => (evs_len z).trans ?_) (fun z => ?_) ((sEs args g _ h4).2.1 X W cla S).1 (((sEs kws g _ h6).2.1 X W cla S).2 kw rfl)
      · rw [← e2, List.length_map]
        have q := congrArg List.length h5
        rw [List.length_map, List.length_map] at q
        exact q
      · subst z
        cases args with
        | nil => rfl
        | cons a l => cases e1
    · cases h
  | .b1 b a, g, e, h => by
    simp only [cE] at h
    split at h
    · simp only [Bool.and_eq_true, decide_eq_true_eq] at h
      obtain ⟨e, h1, h2, h3⟩ := h
      subst e
      refine snd_val rfl fun X W cla S => ?_
      obtain ⟨q1, q2⟩ := gl_ok S h1
      exact b1_ok b q1 (bltn_mem S (by cases b <;> decide)) q2 h2 (sE a g _ h3 X W cla S).1
    · cases h
  | .b2 b a c, g, e, h => by
    simp only [cE] at h
    split at h
    · simp only [Bool.and_eq_true, decide_eq_true_eq] at h
      obtain ⟨e, h1, h2, h3, h4, h5⟩ := h
      subst e
      refine snd_val rfl fun X W cla S => ?_
      obtain ⟨q1, q2⟩ := gl_ok S h1
      exact b2_ok S.sit.calm b q1 (bltn_mem S (by cases b <;> decide)) q2 h2 h3 (sE a g _ h4 X W cla S).1 (sE c g _ h5 X W cla S).1
    · cases h
  | .bL b l, g, e, h => by
    simp only [cE] at h
    split at h
    · simp only [Bool.and_eq_true, decide_eq_true_eq] at h
      obtain ⟨e, h1, h2, h3⟩ := h
      subst e
      refine snd_val rfl fun X W cla S => ?_
      obtain ⟨q1, q2⟩ := gl_ok S h1
      exact bL_ok S.sit.calm b q1 (bltn_mem S (by cases b <;> decide)) q2 h2 (sL l g _ h3 X W cla S)
    · cases h
  | .isi a ts, g, e, h => by
    simp only [cE] at h
    split at h
    · simp only [Bool.and_eq_true, decide_eq_true_eq] at h
      obtain ⟨e, h1, h2, h3, h4⟩ := h
      subst e
      refine snd_val rfl fun X W cla S => ?_
      obtain ⟨q1, q2⟩ := gl_ok S h1
      have A := (sE a g _ h3 X W cla S).1
      split at h4
      · simp only [Bool.and_eq_true] at h4
        exact r_isi q1 (bltn_mem S (by decide)) h2 h4.1 A (ty_name S h4.2)
      · simp only [Bool.and_eq_true, decide_eq_true_eq] at h4
        exact r_isiT q1 (bltn_mem S (by decide)) h2 (by simp) (by simp [sizeLine_eq]; omega) A (tys_name S h4.2)
      · cases h4
    · cases h
  | .meth m o args, g, e, h => by
    simp only [cE] at h
    split at h
    · simp only [Bool.and_eq_true, decide_eq_true_eq] at h
      obtain ⟨e, h1, h2, h3, h4, h5, h6⟩ := h
      subst e
      refine snd_val rfl fun X W cla S => ?_
      have A := (sE o g _ h5 X W cla S).1
      have B := (sEs args g _ h6).2.2
      have L := (sEs args g _ h6).1
      cases m with
      | append =>
        cases args with
        | nil => cases h1
        | cons a l =>
          cases l with
          | cons _ _ => cases h1
          | nil =>
            obtain ⟨x, e, hp, D⟩ := B a rfl
            subst e
            exact r_append h2 h3 hp A (D X W cla S).1
      | pop =>
        cases args with
        | cons a l => cases h1
        | nil =>
          have e := List.eq_nil_of_length_eq_zero L
          subst e
          exact r_pop h2 h3 A
      | popAt =>
        cases args with
        | nil => cases h1
        | cons a l =>
          cases l with
          | cons _ _ => cases h1
          | nil =>
            obtain ⟨x, e, hp, D⟩ := B a rfl
            subst e
            exact r_popAt h2 h3 hp A (D X W cla S).1
      | upper => cases h1
    · cases h
theorem sEs : (l : Exs) → (g : G) → (es : List Expr) → cEs l g es = true → SndEs g C l es
  | .nil, g, es, h => by
    simp only [cEs] at h
    split at h
    · refine ⟨rfl, fun X W cla S => ⟨r_nil, fun kw e => ?_⟩, fun a z => by cases z⟩
      cases kw with
      | nil => exact k_nil
      | cons _ _ => cases e
    · cases h
  | .cons a l, g, es, h => by
    simp only [cEs] at h
    split at h
    · simp only [Bool.and_eq_true] at h
      obtain ⟨h1, h2, h3⟩ := h
      have B := sEs l g _ h3
      refine ⟨congrArg (· + 1) B.1, fun X W cla S => ⟨r_cons h1 (sE a g _ h2 X W cla S).1 (B.2.1 X W cla S).1, fun kw e => ?_⟩, fun b z => ?_⟩
      · cases kw with
        | nil => cases e
        | cons k kw =>
          obtain ⟨nm, v, p⟩ := k
          injection e with e1 e2
          subst e1
          exact k_cons (sE a g _ h2 X W cla S).1 ((B.2.1 X W cla S).2 kw e2)
      · injection z with z1 z2
        subst z1 z2
        have q := B.1
        refine ⟨_, congrArg _ (List.eq_nil_of_length_eq_zero q), h1, sE a g _ h2⟩
    · cases h
theorem sO : (o : Oe) → (g : G) → (e : Option Expr) → cO o g e = true → SndO g C o e
  | .none, g, e, h => by
    simp only [cO] at h
    split at h
    · exact ⟨fun X W cla S => o_none, fun c x z => by cases z⟩
    · cases h
  | .some a, g, e, h => by
    simp only [cO] at h
    split at h
    · refine ⟨fun X W cla S => o_some (sE a g _ h X W cla S).1, fun c x z z2 => ?_⟩
      cases z
      cases z2
      exact sE a g _ h
    · cases h
theorem sL : (l : Lx) → (g : G) → (e : Expr) → cL l g e = true → SndL g C l e
  | .dis l, g, e, h => by
    simp only [cL] at h
    split at h
    · exact fun X W cla S => l_dis ((sEs l g _ h).2.1 X W cla S).1
    · cases h
  | .of a, g, e, h => by
    simp only [cL] at h
    exact fun X W cla S => l_of (sE a g _ h X W cla S).1
  | .sl l lo hi, g, e, h => by
    simp only [cL] at h
    split at h
    · simp only [Bool.and_eq_true] at h
      exact fun X W cla S => l_sl (sL l g _ h.1 X W cla S) ((sO lo g _ h.2.1).1 X W cla S) ((sO hi g _ h.2.2).1 X W cla S)
    · cases h
  | .cat a b, g, e, h => by
    simp only [cL] at h
    split at h
    · simp only [Bool.and_eq_true] at h
      exact fun X W cla S => l_cat (sL a g _ h.1 X W cla S) (sL b g _ h.2 X W cla S)
    · cases h
  | .lst l, g, e, h => by
    simp only [cL] at h
    split at h
    · simp only [Bool.and_eq_true, decide_eq_true_eq] at h
      obtain ⟨e, h1, h2, h3⟩ := h
      subst e
      intro X W cla S
      exact l_lst (gl_ok S h1).1 (bltn_mem S (by decide)) h2 (sL l g _ h3 X W cla S)
    · cases h
  | .comp elt tg src .none own, g, e, h => by
    simp only [cL] at h
    split at h
    · rename_i x t it scope pos
      simp only [Bool.and_eq_true, List.all_eq_true, decide_eq_true_eq] at h
      obtain ⟨hb, hsl, hns, hg, hs, he⟩ := h
      intro X W cla S
      have ok : BlkOk X.N X.env.scope scope own := by rw [S.N, S.sc]; exact blkOk_by hb
      have hk := blk_kind hb
      have hi := sS src g t it hs X W cla S
      have pg : ∀ (s : Shared) (H : Hp) (C' : Addr) (cl : List (Str × Addr)) (fp : List Addr), PG (X.blk s H scope (compEnvC scope cl C' X.env) fp) t (tG X.K tg) := fun s H D cl fp => cG_ok (sit_blk S hk s H D cl fp) hg
      have pe : ∀ (s : Shared) (H : Hp) (C' : Addr) (cl : List (Str × Addr)) (fp : List Addr), PE (X.blk s H scope (compEnvC scope cl C' X.env) fp) x (tM cla X.K WF (ev C elt)) := fun s H D cl fp => (sE elt _ x he _ WF cla (sit_blk S hk s H D cl fp)).1
      have pt : ∀ (s : Shared) (H : Hp) (C' : Addr) (cl : List (Str × Addr)) (fp : List Addr), PTs (X.blk s H scope (compEnvC scope cl C' X.env) fp) [] (tCnd cla X.K none) := fun s H D cl fp => pts_nil
      exact PE.weak (pe_lc S.sit.calm S.sit.nd hi ok pg pt pe (set_pure hns)) fun σ H Q q => l_comp (elt := x) (tg := t) (iter := it) (ifs := []) (scope := scope) (pos := pos) (mc := none) S.sit.calm S.sit.nd hi ok hsl pg pt pe (set_pure hns) q
    · cases h
  | .comp elt tg src (.some c) own, g, e, h => by
    simp only [cL] at h
    split at h
    · rename_i x t it y scope pos
      simp only [Bool.and_eq_true, List.all_eq_true, decide_eq_true_eq] at h
      obtain ⟨hb, hsl, hns, hg, hs, he, hc, hc2⟩ := h
      intro X W cla S
      have ok : BlkOk X.N X.env.scope scope own := by rw [S.N, S.sc]; exact blkOk_by hb
      have hk := blk_kind hb
      have hi := sS src g t it hs X W cla S
      have pg : ∀ (s : Shared) (H : Hp) (C' : Addr) (cl : List (Str × Addr)) (fp : List Addr), PG (X.blk s H scope (compEnvC scope cl C' X.env) fp) t (tG X.K tg) := fun s H D cl fp => cG_ok (sit_blk S hk s H D cl fp) hg
      have pe : ∀ (s : Shared) (H : Hp) (C' : Addr) (cl : List (Str × Addr)) (fp : List Addr), PE (X.blk s H scope (compEnvC scope cl C' X.env) fp) x (tM cla X.K WF (ev C elt)) := fun s H D cl fp => (sE elt _ x he _ WF cla (sit_blk S hk s H D cl fp)).1
      have pt : ∀ (s : Shared) (H : Hp) (C' : Addr) (cl : List (Str × Addr)) (fp : List Addr), PTs (X.blk s H scope (compEnvC scope cl C' X.env) fp) [y] (tCnd cla X.K (some (ev C c))) := fun s H D' cl fp => pts_one ((sE c _ y hc2 _ WF cla (sit_blk S hk s H D' cl fp)).2 hc)
      exact PE.weak (pe_lc S.sit.calm S.sit.nd hi ok pg pt pe (set_pure hns)) fun σ H Q q => l_comp (elt := x) (tg := t) (iter := it) (ifs := [y]) (scope := scope) (pos := pos) (mc := some (ev C c)) S.sit.calm S.sit.nd hi ok hsl pg pt pe (set_pure hns) q
    · cases h
theorem sS : (s : Sx) → (g : G) → (t e : Expr) → cS s g t e = true → SndS g C s t e
  | .l l, g, t, e, h => by
    simp only [cS] at h
    exact fun X W cla S => s_l (sL l g _ h X W cla S)
  | .r1 a, g, t, e, h => by
    simp only [cS] at h
    split at h
    · simp only [Bool.and_eq_true, decide_eq_true_eq] at h
      obtain ⟨e, h1, h2, h3⟩ := h
      subst e
      intro X W cla S
      exact s_r1 (gl_ok S h1).1 (bltn_mem S (by decide)) h2 (sE a g _ h3 X W cla S).1
    · cases h
  | .r2 a b, g, t, e, h => by
    simp only [cS] at h
    split at h
    · simp only [Bool.and_eq_true, decide_eq_true_eq] at h
      obtain ⟨e, h1, h2, h3, h4, h5⟩ := h
      subst e
      intro X W cla S
      exact s_r2 (gl_ok S h1).1 (bltn_mem S (by decide)) h2 h3 (sE a g _ h4 X W cla S).1 (sE b g _ h5 X W cla S).1
    · cases h
  | .enum l, g, t, e, h => by
    simp only [cS] at h
    split at h
    · simp only [Bool.and_eq_true, decide_eq_true_eq] at h
      obtain ⟨e, h1, h2, h3⟩ := h
      subst e
      intro X W cla S
      exact s_enum (gl_ok S h1).1 (bltn_mem S (by decide)) h2 (sL l g _ h3 X W cla S)
    · cases h
  | .zip2 a b, g, t, e, h => by
    simp only [cS] at h
    split at h
    · simp only [Bool.and_eq_true, decide_eq_true_eq] at h
      obtain ⟨e, h1, h2, h3, h4, h5⟩ := h
      subst e
      intro X W cla S
      exact s_zip2 (gl_ok S h1).1 (bltn_mem S (by decide)) h2 h3 (sL a g _ h4 X W cla S) (sL b g _ h5 X W cla S)
    · cases h
  | .zip3 _ _ _, g, t, e, h => by simp only [cS] at h; cases h
  | .str _, g, t, e, h => by simp only [cS] at h; cases h
end
end
end Mg

/-! MgL: statements: the checker, its soundness. -/
namespace Mg
open PySem PySem.Spec PyProof.Rows L2
/-- name = [..]: whether it is stored within its own block -/
def swC (g : G) (y : Str) (py : Pos) : Expr → Bool
  | .ListComp _ _ sc cp => (g.sc.names.lookup y == some .local) && (py.line == cp.line) && !(sc.names.any fun (n, k) => n == y && (k == .local || k == .cell))
  | .SetComp _ _ sc cp => (g.sc.names.lookup y == some .local) && (py.line == cp.line) && !(sc.names.any fun (n, k) => n == y && (k == .local || k == .cell))
  | .DictComp _ _ _ sc cp => (g.sc.names.lookup y == some .local) && (py.line == cp.line) && !(sc.names.any fun (n, k) => n == y && (k == .local || k == .cell))
  | _ => false
theorem swC_ok {g : G} {env : Env} (hk : env.scope.kind = .function) (hs : env.scope = g.sc) (e : Expr) (y : Str) (py : Pos) (l : Nat) : swapsWith e (some (.Name y py)) l env = pure (swC g y py e) := by
  have hb : env.blockKind = .function := by unfold Env.blockKind; rw [hk]; rfl
  have hkk : env.kindOf y = g.sc.names.lookup y := by rw [← hs]; rfl
  cases e with
  | ListComp elt gs sc cp =>
    unfold swapsWith
    simp only [hb, hkk, Expr.pos]
    rfl
  | SetComp elt gs sc cp =>
    unfold swapsWith
    simp only [hb, hkk, Expr.pos]
    rfl
  | DictComp k v gs sc cp =>
    unfold swapsWith
    simp only [hb, hkk, Expr.pos]
    rfl
  | _ => rfl
/-- the stores of a tuple display to a tuple of names, whether from the right -/
def swp (g : G) (ts : List Expr) : Expr → Option (Option (List Str))
  | .Tuple vs _ _ =>
    if (!(ts.length == 2 || ts.length == 3) || vs.length != ts.length) = true then some none
    else if (vs.any fun | .Starred .. => true | _ => false) = true then some none
    else
      let line := (ts.head?.map (·.pos.line)).getD 0
      let names := ts.filterMap fun
        | .Name id pos => if (g.sc.names.lookup id == some .local && pos.line == line) = true then some id else none
        | _ => none
      if (names.length != ts.length || names.eraseDups.length != names.length) = true then some none
      else if vs.all (foldedForSure 8) = true then some none
      else if vs.all (constantsAlone 8) = true then none
      else some (some names)
  | _ => some none
theorem swp_ok {g : G} {env : Env} {ts : List Expr} {k : Nat} {p : Pos} {v : Expr} {r : Option (List Str)} (hk : env.scope.kind = .function) (hs : env.scope = g.sc) (h : swp g ts v = some r) : swappedStores [.Tuple ts k p] v env = pure r := by
  have hb : env.blockKind = .function := by unfold Env.blockKind; rw [hk]; rfl
  have hkk : ∀ y, env.kindOf y = g.sc.names.lookup y := fun y => by rw [← hs]; rfl
  cases v with
  | Tuple vs k2 p2 =>
    unfold swappedStores
    unfold swp at h
    simp only [hb, hkk]
    have hne : (ScopeKind.function != ScopeKind.function) = false := rfl
    simp only [hne, Bool.or_false]
    dsimp only at h
    split
    · rename_i c; have h := (if_pos c).symm.trans h; cases h; rfl
    · rename_i c; replace h := (if_neg c).symm.trans h
      split
      · rename_i c; have h := (if_pos c).symm.trans h; cases h; rfl
      · rename_i c; replace h := (if_neg c).symm.trans h
        split
        · rename_i c; have h := (if_pos c).symm.trans h; cases h; rfl
        · rename_i c; replace h := (if_neg c).symm.trans h
          split
          · rename_i c; have h := (if_pos c).symm.trans h; cases h; rfl
          · rename_i c; replace h := (if_neg c).symm.trans h
            split
            · rename_i c; have h := (if_pos c).symm.trans h; cases h
            · rename_i c; replace h := (if_neg c).symm.trans h; cases h; rfl
  | _ => cases h; rfl
/-- two or three locals, each by its place -/
def parC (g : G) (t : Tg) (ts : List Expr) (r : List Str) : Bool := match t, ts with
  | .t2 (.nm i) (.nm j), [.Name x _, .Name y _] => decide (r = [x, y]) && (decide (g.N[i]? = some x) && (decide (g.N[j]? = some y) && (decide (i ≠ j) && (decide (g.sc.names.lookup x = some .local) && decide (g.sc.names.lookup y = some .local)))))
  | .t3 (.nm i) (.nm j) (.nm l), [.Name x _, .Name y _, .Name z _] => decide (r = [x, y, z]) && (decide (g.N[i]? = some x) && (decide (g.N[j]? = some y) && (decide (g.N[l]? = some z) && (decide (i ≠ j) && (decide (i ≠ l) && (decide (j ≠ l) &&
      (decide (g.sc.names.lookup x = some .local) && (decide (g.sc.names.lookup y = some .local) && decide (g.sc.names.lookup z = some .local)))))))))
  | _, _ => false
/-- the text of a comprehension -/
def isComp : Ex → Bool
  | .alloc (.comp _ _ _ _ _) => true
  | _ => false
mutual
def cM : Sm → G → Stmt → Bool
  | .set t e, g, s => match s with
    | .Assign [.Name y py] v _ => (match t with
      | .nm i => g.wr i y && ((!swC g y py v || isComp e) && cE e g v)
      | _ => false)
    | .Assign [.Tuple ts k p] v _ => notComp v && (cE e g v && (match swp g ts v with
      | some none => cG g t (.Tuple ts k p)
      | some (some r) => (match v, e with
        | .Tuple vs _ _, .tup l => decide (vs.length = ts.length) && parC g t ts r
        | _, _ => false)
      | none => false))
    | _ => false
  | .setIx o i e, g, s => match s with
    | .Assign [.Subscript x y _] v _ => notComp v && (noSlice y && (cE o g x && (cE i g y && cE e g v)))
    | _ => false
  | .ex e, g, s => match s with
    | .Expr v _ => notComp v && cE e g v
    | _ => false
  | .ifs c a b, g, s => match s with
    | .If x y z _ => notIf x && (cE c g x && (cMs a g y && cMs b g z))
    | _ => false
  | .for_ t sx b, g, s => match s with
    | .For tg it body [] _ => notSet it && (cG g t tg && (cS sx g tg it && cMs b g body))
    | _ => false
  | .while_ c b, g, s => match s with
    | .While x body [] _ => notIf x && (cE c g x && cMs b g body)
    | _ => false
  | .ret e, g, s => match s with
    | .Return (some v) _ => cE e g v
    | .Return none _ => (match e with
      | .non => true
      | _ => false)
    | _ => false
  | .pass, g, s => match s with
    | .Pass _ => true
    | _ => false
  | .brk, g, s => match s with
    | .Break _ => true
    | _ => false
  | .ct, g, s => match s with
    | .Continue _ => true
    | _ => false
def cMs : Sms → G → List Stmt → Bool
  | .nil, g, ss => match ss with
    | [] => true
    | _ => false
  | .cons s r, g, ss => match ss with
    | x :: xs => cM s g x && cMs r g xs
    | _ => false
end
section
variable {C : Str → List Val → M Val} {cla : Str → Option Addr} {W : WX} {X : Cx} {g : G}
/-- a comprehension that goes into a name -/
theorem set_cc {elt : Ex} {t : Tg} {src : Sx} {cond : Oe} {own : List (Str × Nat)} {v : Expr} {i : Nat} {y : Str} {py spos : Pos} (S : SitG g X W cla C) (hy : X.N[i]? = some y) (hyl : X.env.scope.names.lookup y = some .local) (hsw : swapsWith v (some (.Name y py)) spos.line X.env = pure true) (h : cL (.comp elt t src cond own) g v = true) :
    PS X (.Assign [.Name y py] v spos) (tS cla X.K W fun ρ => lft ρ (ev C (.alloc (.comp elt t src cond own)) ρ) fun v => bnd (asTg (.nm i) v ρ) fun ρ' => ret (.nx ρ')) := by
  cases cond with
  | none =>
    simp only [cL] at h
    split at h
    · rename_i x tg it scope pos
      simp only [Bool.and_eq_true, List.all_eq_true, decide_eq_true_eq] at h
      obtain ⟨hb, hsl, hns, hg, hs, he⟩ := h
      have ok : BlkOk X.N X.env.scope scope own := by rw [S.N, S.sc]; exact blkOk_by hb
      have hk := blk_kind hb
      have hi := sS (C := C) src g tg it hs X W cla S
      have pg : ∀ (s : Shared) (H : Hp) (C' : Addr) (cl : List (Str × Addr)) (fp : List Addr), PG (X.blk s H scope (compEnvC scope cl C' X.env) fp) tg (tG X.K t) := fun s H D cl fp => cG_ok (sit_blk S hk s H D cl fp) hg
      have pe : ∀ (s : Shared) (H : Hp) (C' : Addr) (cl : List (Str × Addr)) (fp : List Addr), PE (X.blk s H scope (compEnvC scope cl C' X.env) fp) x (tM cla X.K WF (ev C elt)) := fun s H D cl fp => (sE elt _ x he _ WF cla (sit_blk S hk s H D cl fp)).1
      have pt : ∀ (s : Shared) (H : Hp) (C' : Addr) (cl : List (Str × Addr)) (fp : List Addr), PTs (X.blk s H scope (compEnvC scope cl C' X.env) fp) [] (tCnd cla X.K none) := fun s H D cl fp => pts_nil
      exact s_setC (mc := none) S.sit.calm S.sit.nd hy hyl hsw hi ok hsl pg pt pe (set_pure hns)
    · cases h
  | some c =>
    simp only [cL] at h
    split at h
    · rename_i x tg it z scope pos
      simp only [Bool.and_eq_true, List.all_eq_true, decide_eq_true_eq] at h
      obtain ⟨hb, hsl, hns, hg, hs, he, hc, hc2⟩ := h
      have ok : BlkOk X.N X.env.scope scope own := by rw [S.N, S.sc]; exact blkOk_by hb
      have hk := blk_kind hb
      have hi := sS (C := C) src g tg it hs X W cla S
      have pg : ∀ (s : Shared) (H : Hp) (C' : Addr) (cl : List (Str × Addr)) (fp : List Addr), PG (X.blk s H scope (compEnvC scope cl C' X.env) fp) tg (tG X.K t) := fun s H D cl fp => cG_ok (sit_blk S hk s H D cl fp) hg
      have pe : ∀ (s : Shared) (H : Hp) (C' : Addr) (cl : List (Str × Addr)) (fp : List Addr), PE (X.blk s H scope (compEnvC scope cl C' X.env) fp) x (tM cla X.K WF (ev C elt)) := fun s H D cl fp => (sE elt _ x he _ WF cla (sit_blk S hk s H D cl fp)).1
      have pt : ∀ (s : Shared) (H : Hp) (C' : Addr) (cl : List (Str × Addr)) (fp : List Addr), PTs (X.blk s H scope (compEnvC scope cl C' X.env) fp) [z] (tCnd cla X.K (some (ev C c))) := fun s H D' cl fp => pts_one ((sE c _ z hc2 _ WF cla (sit_blk S hk s H D' cl fp)).2 hc)
      exact s_setC (mc := some (ev C c)) S.sit.calm S.sit.nd hy hyl hsw hi ok hsl pg pt pe (set_pure hns)
    · cases h
/-- three stored at once -/
theorem s_par3 {i j l : Nat} {x y z : Str} {a b c : Expr} {px py pz pt pos : Pos} {kt k2 pt2} {ma : Env' → M (List Val)} (hc : X.calm = true) (hN : X.N.Nodup) (hi : X.N[i]? = some x) (hj : X.N[j]? = some y) (hl : X.N[l]? = some z) (hij : i ≠ j) (hil : i ≠ l) (hjl : j ≠ l)
    (hx : X.env.scope.names.lookup x = some .local) (hy : X.env.scope.names.lookup y = some .local) (hz : X.env.scope.names.lookup z = some .local) (ha : PA X [a, b, c] (tMs cla X.K W ma))
    (hw : swappedStores [.Tuple [.Name x px, .Name y py, .Name z pz] kt pt] (.Tuple [a, b, c] k2 pt2) X.env = pure (some [x, y, z])) :
    PS X (.Assign [.Tuple [.Name x px, .Name y py, .Name z pz] kt pt] (.Tuple [a, b, c] k2 pt2) pos) (tS cla X.K W fun ρ => lft ρ (bnd (ma ρ) fun vs => if vs.length ≤ sizeLine then ret (.tup vs) else fail) fun v => bnd (asTg (.t3 (.nm i) (.nm j) (.nm l)) v ρ) fun ρ' => ret (.nx ρ')) :=
  PS.weak (ps_par3 hc hN hi hj hl hij hil hjl hx hy hz ha hw) fun D σ H ⟨μ, ρ, st, A, P⟩ => by
  refine ⟨μ, ρ, st, A, Post.mono (Post.bnd (Post.lft A P)) (Ext.refl _ _) fun vs st1 μ1 H1 e1 s1 P1 xs rx => ?_⟩
  obtain ⟨_, P2⟩ := if_post P1
  have P3 := P2 _ _ (Ext.refl _ _) s1
  have A1 := A.up e1 s1
  cases rx with
  | nil => exact P3.elim
  | cons r1 t => cases t with
    | nil => exact P3.elim
    | cons r2 t => cases t with
      | nil => exact P3.elim
      | cons r3 t => cases t with
        | cons r4 t => exact P3.elim
        | nil => exact ⟨_, _, _, rfl, P3 _ _ (Ext.refl _ _) s1 _ (((A1.re.set r1 i).set r2 j).set r3 l)⟩
end
end Mg

/-! MgM: statements are sound. -/
namespace Mg
open PySem PySem.Spec PyProof.Rows L2
section
variable {C : Str → List Val → M Val}
def Own (X : Cx) : Prop := PassesOwn (model X.prog X.w) X.A X.env X.xe
def SndM (g : G) (C : Str → List Val → M Val) (m : Sm) (s : Stmt) : Prop := ∀ X W cla, SitG g X W cla C → Own X → PS X s (tS cla X.K W (exec C m))
def SndMs (g : G) (C : Str → List Val → M Val) (m : Sms) (s : List Stmt) : Prop := ∀ X W cla, SitG g X W cla C → Own X → PSs X s (tS cla X.K W (execs C m))
theorem sc_kind {cla : Str → Option Addr} {W : WX} {X : Cx} {g : G} (S : SitG g X W cla C) : X.env.scope.kind = .function := S.sit.kind
theorem m_set {g : G} {t : Tg} {e : Ex} {s : Stmt} (h : cM (.set t e) g s = true) : SndM g C (.set t e) s := by
  simp only [cM] at h
  split at h
  · rename_i y py v pos
    split at h
    · rename_i i
      simp only [Bool.and_eq_true] at h
      obtain ⟨h1, h0, h2⟩ := h
      intro X W cla S O
      obtain ⟨q1, q2, q3⟩ := wr_ok S h1
      by_cases hs : swC g y py v = true
      · have hsw := swC_ok (sc_kind S) S.sc v y py pos.line
        rw [hs] at hsw
        have hyl : X.env.scope.names.lookup y = some .local := by
          rw [S.sc]
          cases v with
          | ListComp _ _ sc cp => simp only [swC, Bool.and_eq_true, beq_iff_eq] at hs; exact hs.1.1
          | SetComp _ _ sc cp => simp only [swC, Bool.and_eq_true, beq_iff_eq] at hs; exact hs.1.1
          | DictComp _ _ _ sc cp => simp only [swC, Bool.and_eq_true, beq_iff_eq] at hs; exact hs.1.1
          | _ => cases hs
        rw [hs] at h0
        match e, h0, h2 with
        | .alloc (.comp elt t src cond own), _, h2 =>
          simp only [cE, Bool.and_eq_true] at h2
          exact set_cc S q1 hyl hsw h2.2
      · have e0 : swC g y py v = false := by simpa using hs
        have hsw := swC_ok (sc_kind S) S.sc v y py pos.line
        rw [e0] at hsw
        exact s_set S.sit.nd q1 q2 q3 hsw (sE e g v h2 X W cla S).1
    · cases h
  · rename_i ts k p v pos
    simp only [Bool.and_eq_true] at h
    obtain ⟨h1, h2, h3⟩ := h
    intro X W cla S O
    split at h3
    · rename_i hsw
      exact s_setT h1 (swp_ok (sc_kind S) S.sc hsw) (cG_ok S h3) (sE e g v h2 X W cla S).1
    · rename_i r hsw
      have hw := swp_ok (k := k) (p := p) (sc_kind S) S.sc hsw
      split at h3
      · rename_i vs k2 p2 l
        simp only [Bool.and_eq_true, decide_eq_true_eq] at h3
        obtain ⟨hl, h3⟩ := h3
        have A := ((sEs (C := C) l g vs (by simpa only [cE] using h2)).2.1 X W cla S).1
        unfold parC at h3
        split at h3
        · rename_i i j x px y py
          simp only [Bool.and_eq_true, decide_eq_true_eq] at h3
          obtain ⟨er, b1, b2, b3, b4, b5⟩ := h3
          subst er
          match vs, hl, A, hw with
          | [a, b], _, A, hw => exact s_par2 S.sit.calm S.sit.nd (by rw [S.N]; exact b1) (by rw [S.N]; exact b2) b3 (by rw [S.sc]; exact b4) (by rw [S.sc]; exact b5) A hw
        · rename_i i j l' x px y py z pz
          simp only [Bool.and_eq_true, decide_eq_true_eq] at h3
          obtain ⟨er, b1, b2, b3, b4, b5, b6, b7, b8, b9⟩ := h3
          subst er
          match vs, hl, A, hw with
          | [a, b, c], _, A, hw => exact s_par3 S.sit.calm S.sit.nd (by rw [S.N]; exact b1) (by rw [S.N]; exact b2) (by rw [S.N]; exact b3) b4 b5 b6 (by rw [S.sc]; exact b7) (by rw [S.sc]; exact b8) (by rw [S.sc]; exact b9) A hw
        · cases h3
      · cases h3
    · cases h3
  · cases h
mutual
theorem sM : (m : Sm) → (g : G) → (s : Stmt) → cM m g s = true → SndM g C m s
  | .set t e, g, s, h => m_set h
  | .setIx o i e, g, s, h => by
    simp only [cM] at h
    split at h
    · simp only [Bool.and_eq_true] at h
      obtain ⟨h1, h2, h3, h4, h5⟩ := h
      exact fun X W cla S O => s_setIx h1 h2 (sE o g _ h3 X W cla S).1 (sE i g _ h4 X W cla S).1 (sE e g _ h5 X W cla S).1
    · cases h
  | .ex e, g, s, h => by
    simp only [cM] at h
    split at h
    · simp only [Bool.and_eq_true] at h
      exact fun X W cla S O => s_ex h.1 (sE e g _ h.2 X W cla S).1
    · cases h
  | .ifs c a b, g, s, h => by
    simp only [cM] at h
    split at h
    · simp only [Bool.and_eq_true] at h
      obtain ⟨h1, h2, h3, h4⟩ := h
      exact fun X W cla S O => s_if ((sE c g _ h2 X W cla S).2 h1) (sMs a g _ h3 X W cla S O) (sMs b g _ h4 X W cla S O)
    · cases h
  | .for_ t sx b, g, s, h => by
    simp only [cM] at h
    split at h
    · simp only [Bool.and_eq_true] at h
      obtain ⟨h1, h2, h3, h4⟩ := h
      exact fun X W cla S O => s_for O S.sit.calm (sS sx g _ _ h3 X W cla S) (cG_ok S h2) (sMs b g _ h4 X W cla S O) (set_pure h1)
    · cases h
  | .while_ c b, g, s, h => by
    simp only [cM] at h
    split at h
    · simp only [Bool.and_eq_true] at h
      obtain ⟨h1, h2, h3⟩ := h
      exact fun X W cla S O => s_while O ((sE c g _ h2 X W cla S).2 h1) (sMs b g _ h3 X W cla S O)
    · cases h
  | .ret e, g, s, h => by
    simp only [cM] at h
    split at h
    · exact fun X W cla S O => s_ret (sE e g _ h X W cla S).1
    · split at h
      · exact fun X W cla S O => PS.weak ps_retN fun D σ H ⟨μ, ρ, st, A, P⟩ => (show D.rt .non H from (PO.ok (P : PO' cla X.K W D μ H (ret (.rt .non) st)) A.rs) _ .non)
      · cases h
    · cases h
  | .pass, g, s, h => by
    simp only [cM] at h
    split at h
    · exact fun X W cla S O => s_pass
    · cases h
  | .brk, g, s, h => by
    simp only [cM] at h
    split at h
    · exact fun X W cla S O => s_brk
    · cases h
  | .ct, g, s, h => by
    simp only [cM] at h
    split at h
    · exact fun X W cla S O => s_ct
    · cases h
theorem sMs : (m : Sms) → (g : G) → (ss : List Stmt) → cMs m g ss = true → SndMs g C m ss
  | .nil, g, ss, h => by
    simp only [cMs] at h
    split at h
    · exact fun X W cla S O => b_nil
    · cases h
  | .cons s r, g, ss, h => by
    simp only [cMs] at h
    split at h
    · simp only [Bool.and_eq_true] at h
      exact fun X W cla S O => b_cons (sM s g _ h.1 X W cla S O) (sMs r g _ h.2 X W cla S O)
    · cases h
end
end
end Mg

/-! MgN: defs. -/
namespace Mg
open PySem PySem.Spec PyProof.Rows L2
section
variable {K : Frg} {μ μ' : List Addr} {H H' : Hp} {n : Nat}
mutual
theorem RV.closed : ∀ {x : V} {v : Val}, RV K μ H x v → Closed μ.length v
  | _, _, .non => .non
  | _, _, .bl => .bl
  | _, _, .int => .int
  | _, _, .str _ => .str
  | _, _, .tup _ r => .tup (RVs.closed r)
  | _, _, .rol _ r => .rol (RVs.closed r)
  | _, _, .ref (r := r) h => .ref (by
      by_cases z : r < μ.length
      · exact z
      · rw [List.getElem?_eq_none (by omega)] at h; cases h)
theorem RVs.closed : ∀ {x : List V} {v : List Val}, RVs K μ H x v → ∀ w ∈ v, Closed μ.length w
  | _, _, .nil => fun _ h => nomatch h
  | _, _, .cons r t => fun w h => by
    rcases List.mem_cons.mp h with z | z
    · rw [z]; exact RV.closed r
    · exact RVs.closed t w z
end
mutual
theorem RV.cut (look : ∀ (r : Nat) (a : Addr), r < n → μ[r]? = some a → μ'[r]? = some a) : ∀ {x : V} {v : Val}, RV K μ H x v → Closed n v → RV K μ' H x v
  | _, _, .non, _ => .non
  | _, _, .bl, _ => .bl
  | _, _, .int, _ => .int
  | _, _, .str h, _ => .str h
  | _, _, .tup h r, .tup c => .tup h (RVs.cut look r c)
  | _, _, .rol h r, .rol c => .rol h (RVs.cut look r c)
  | _, _, .ref h, .ref c => .ref (look _ _ c h)
theorem RVs.cut (look : ∀ (r : Nat) (a : Addr), r < n → μ[r]? = some a → μ'[r]? = some a) : ∀ {x : List V} {v : List Val}, RVs K μ H x v → (∀ w ∈ v, Closed n w) → RVs K μ' H x v
  | _, _, .nil, _ => .nil
  | _, _, .cons r t, c => .cons (RV.cut look r (c _ (List.mem_cons_self ..))) (RVs.cut look t fun w h => c w (List.mem_cons_of_mem _ h))
end
theorem Paired.cut {α β : Type} {R S : α → β → Prop} : ∀ {x : List α} {y : List β}, Paired R x y → (∀ a b, b ∈ y → R a b → S a b) → Paired S x y
  | _, _, .nil, _ => .nil
  | _, _, .cons r t, h => .cons (h _ _ (List.mem_cons_self ..) r) (Paired.cut t fun a b m => h a b (List.mem_cons_of_mem _ m))
theorem Paired.all {α β : Type} {R : α → β → Prop} {S : β → Prop} : ∀ {x : List α} {y : List β}, Paired R x y → (∀ a b, R a b → S b) → ∀ b ∈ y, S b
  | _, _, .nil, _ => fun _ h => nomatch h
  | _, _, .cons r t, h => fun b m => by
    rcases List.mem_cons.mp m with z | z
    · rw [z]; exact h _ _ r
    · exact Paired.all t h b z
theorem RC.cut (look : ∀ (r : Nat) (a : Addr), r < n → μ[r]? = some a → μ'[r]? = some a) {a : Addr} {c : Cell} (h : RC K μ H a c) (cl : ClosedC n c) : RC K μ' H a c := by
  cases c with
  | lst l => obtain ⟨xs, e1, r⟩ := h; exact ⟨xs, e1, r.cut look cl⟩
  | dct t l => cases t with
    | false => obtain ⟨kvs, e1, r⟩ := h; exact ⟨kvs, e1, Paired.cut r fun p q m w => ⟨w.1, w.2.1, w.2.2.cut look (cl q m)⟩⟩
    | true => obtain ⟨kvs, e1, r⟩ := h; exact ⟨kvs, e1, Paired.cut r fun p q m w => ⟨w.1, w.2.1, w.2.2.cut look (cl q m)⟩⟩
  | ins c fs => exact h.elim
theorem RC.closed {a : Addr} {c : Cell} (h : RC K μ H a c) : ClosedC μ.length c := by
  cases c with
  | lst l => obtain ⟨xs, e1, r⟩ := h; exact r.closed
  | dct t l => cases t with
    | false => obtain ⟨kvs, e1, r⟩ := h; exact Paired.all r fun p q w => w.2.2.closed
    | true => obtain ⟨kvs, e1, r⟩ := h; exact Paired.all r fun p q w => w.2.2.closed
  | ins c fs => exact h.elim
/-- what a def leaves, without its own things -/
theorem sweep_ok {cla : Str → Option Addr} {E : XK} {st st' : Sto} {v : Val} {Q : VK} (s : RS K μ H st) (h : Post cla K E μ H (sweep st v st') fun v _ μ' H' => ∀ x, RV K μ' H' x v → Q x H') (e : Ext μ H μ' H') (s' : RS K μ' H' st') {x : V} (rx : RV K μ' H' x v) : Q x H' := by
  unfold sweep at h
  by_cases ap : Apart st st'
  · rw [if_pos ap] at h
    obtain ⟨hlen, hap⟩ := ap
    obtain ⟨l, hl⟩ := e.pre
    have closed : ∀ i c, i < st.length → st'[i]? = some c → ClosedC st.length c := fun i c hi hc => by
      rcases hap i c hi hc with z | z
      · have hm : i < μ.length := by rw [s.len]; exact hi
        have q := (s.cell i c μ[i] z (List.getElem?_eq_getElem hm)).closed
        rw [s.len] at q
        exact q
      · exact z
    have look : ∀ (r : Nat) (a : Addr), r < st.length → μ'[r]? = some a → μ[r]? = some a := fun r a hr ha => by
      rw [hl, List.getElem?_append_left (by rw [s.len]; exact hr)] at ha
      exact ha
    have e0 : Ext μ H μ H' := ⟨⟨[], by simp⟩, e.keep, fun a h n => absurd h n⟩
    have cell0 : ∀ i c, i < st.length → (st'.take st.length)[i]? = some c → st'[i]? = some c := fun i c hi hc => by
      rw [List.getElem?_take] at hc
      rw [if_pos hi] at hc
      exact hc
    have take_lt : ∀ {i c}, (st'.take st.length)[i]? = some c → i < st.length := fun {i c} hc => by
      by_cases z : i < st.length
      · exact z
      · rw [List.getElem?_eq_none (by rw [List.length_take]; omega)] at hc; cases hc
    have up : ∀ (r : Nat) (a : Addr), μ[r]? = some a → μ'[r]? = some a := fun r a => e.look
    have s0 : RS K μ H' (st'.take st.length) := by
      refine ⟨by rw [List.length_take, s.len]; omega, s.nd, fun i c a h1 h2 => ?_⟩
      have hi := take_lt h1
      have q := s'.cell i c a (cell0 i c hi h1) (up i a h2)
      exact q.cut look (closed i c hi (cell0 i c hi h1))
    by_cases cv : Closed st.length v
    · rw [if_pos cv] at h
      exact h μ H' e0 s0 x (rx.cut look cv)
    · rw [if_neg cv] at h
      cases rx with
      | @ref a r hr =>
        cases hc : st'[r]? with
        | none => simp only [hc] at h; exact h μ' H' e s' _ (.ref hr)
        | some c =>
          simp only [hc] at h
          by_cases cc : ClosedC st.length c
          · rw [if_pos cc] at h
            have hge : ¬ r < st.length := fun z => cv (.ref z)
            have ha : a ∉ μ := fun z => by
              obtain ⟨i, hi, e1⟩ := List.mem_iff_getElem.mp z
              have q := eq_of_nodup s'.nd (up i a (by rw [List.getElem?_eq_getElem hi, e1])) hr
              rw [s.len] at hi
              omega
            have hH : H a = none := e.new a (List.mem_of_getElem? hr) ha
            have e1 : Ext μ H (μ ++ [a]) H' := ⟨⟨[a], rfl⟩, e.keep, fun b hb nb => by
              rcases List.mem_append.mp hb with z | z
              · exact absurd z nb
              · have : b = a := by simpa using z
                rw [this]; exact hH⟩
            have look1 : ∀ (r : Nat) (b : Addr), r < st.length → μ'[r]? = some b → (μ ++ [a])[r]? = some b := fun r b hr hb => by
              rw [List.getElem?_append_left (by rw [s.len]; exact hr)]
              exact look r b hr hb
            have s1 : RS K (μ ++ [a]) H' (st'.take st.length ++ [c]) := by
              refine ⟨by rw [List.length_append, List.length_append, s0.len]; rfl, List.nodup_append.mpr ⟨s.nd, by simp, fun b hb d hd => ?_⟩, fun i c' b h1 h2 => ?_⟩
              · have : d = a := by simpa using hd
                rw [this]
                exact fun z => ha (by rw [← z]; exact hb)
              · by_cases hi : i < st.length
                · have hl' : i < (st'.take st.length).length := by rw [List.length_take]; omega
                  rw [List.getElem?_append_left hl'] at h1
                  rw [List.getElem?_append_left (by rw [s.len]; exact hi)] at h2
                  have q := s'.cell i c' b (cell0 i c' hi h1) (up i b h2)
                  exact q.cut look1 (closed i c' hi (cell0 i c' hi h1))
                · have hl' : (st'.take st.length).length = st.length := by rw [List.length_take]; omega
                  have ei : i = st.length := by
                    by_cases z : i < (st'.take st.length ++ [c]).length
                    · rw [List.length_append, hl'] at z
                      have z' : i < st.length + 1 := z
                      omega
                    · rw [List.getElem?_eq_none (by omega)] at h1; cases h1
                  subst ei
                  rw [List.getElem?_append_right (by omega), hl'] at h1
                  rw [List.getElem?_append_right (by rw [s.len]; exact Nat.le_refl _), s.len] at h2
                  simp at h1 h2
                  subst h1 h2
                  exact (s'.cell r c a hc hr).cut look1 cc
            refine h _ _ e1 s1 _ (.ref ?_)
            rw [← s.len]
            simp
          · rw [if_neg cc] at h
            exact h μ' H' e s' _ (.ref hr)
      | non => exact absurd .non cv
      | bl => exact absurd .bl cv
      | int => exact absurd .int cv
      | str _ => exact absurd .str cv
      | tup h1 r => exact h μ' H' e s' _ (.tup h1 r)
      | rol h1 r => exact h μ' H' e s' _ (.rol h1 r)
  · rw [if_neg ap] at h
    exact h μ' H' e s' x rx
end
/-! ### the defs of a text -/
structure Def where
  name : Str
  qual : Str
  st : Stmt
  fn : Fn
structure DefOk (K : Frg) (mg : Str → Option Value) (d : Def) (fa : Addr) (fd : FuncData) : Prop where
  F : Fun K d.name d.qual d.st fa fd
  mg : mg d.name = some (.ref fa)
  b : Binds K fd d.fn.ps []
def gOf (T : Tab) (d : Def) : G := ⟨d.fn.ns, defScope d.st, fun _ => true, T⟩
def scopeC (N P : List Str) (sc : Scope) : Bool := decide (sc.kind = .function) && (!sc.isCoroutine && (!sc.isGenerator && (decide N.Nodup && (decide (N.take P.length = P) &&
  (P.all (fun x => decide (sc.names.lookup x = some .local ∨ sc.names.lookup x = some .cell)) && sc.names.all fun y => decide (y.2 ≠ .free))))))
theorem scope_ok {N P : List Str} {sc : Scope} (h : scopeC N P sc = true) : FnScope N P sc := by
  unfold scopeC at h
  simp only [Bool.and_eq_true, decide_eq_true_eq, Bool.not_eq_true', List.all_eq_true] at h
  obtain ⟨h1, h2, h3, h4, h5, h6, h7⟩ := h
  exact ⟨h1, h2, h3, h4, h5, h6, h7⟩
def chkDef (T : Tab) (d : Def) : Bool := scopeC d.fn.ns d.fn.ps (defScope d.st) && cMs d.fn.body (gOf T d) (defBody d.st)
/-- what the law's head has to show -/
structure Text (K : Frg) (mg : Str → Option Value) (cla : Str → Option Addr) (tab : Tab) (T : Str → Option Fn) (defs : List Def) : Prop where
  ok : ∀ d ∈ defs, ∃ fa fd, DefOk K mg d fa fd
  look : ∀ d ∈ defs, T d.name = some d.fn
  fn : ∀ f n, (f, n) ∈ tab.fn → ∃ d ∈ defs, d.name = f ∧ d.fn.ps.length = n
  kw : ∀ f m ks p, (f, m, ks, p) ∈ tab.kw → ∃ d ∈ defs, d.name = f ∧ d.fn.ps.length = p.length ∧ ∀ fa fd, DefOk K mg d fa fd → KBn K fd d.fn.ps m ks (fun us ws => pick p (us ++ ws)) fun vs zs => pick p (vs ++ zs)
  con : ∀ x c, tab.con.lookup x = some c → ∃ u, mg x = some u ∧ constOk c u
  bl : ∀ x : Str, x ∈ (["len", "max", "min", "tuple", "range", "isinstance", "zip", "all", "any", "sum", "list", "enumerate", "int", "str", "abs", "dict", "bool", "sorted", "set"] : List Str) → mg x = none
  chk : ∀ d ∈ defs, chkDef tab d = true
theorem start_re {K : Frg} {μ : List Addr} {H : Hp} {N : List Str} {vs : List V} {args : List Val} (r : RVs K μ H vs args) : RE K μ H (L2.start N vs) (args.map some ++ List.replicate (N.length - args.length) none) := by
  unfold L2.start
  refine ⟨by simp [r.length], fun i v h => ?_⟩
  by_cases hi : i < args.length
  · rw [List.getElem?_append_left (by simpa using hi)] at h
    rw [List.getElem?_map] at h
    cases q : args[i]? with
    | none => rw [q] at h; cases h
    | some w =>
      rw [q] at h
      injection h with h
      injection h with h
      subst h
      obtain ⟨x, h1, h2⟩ := r.get q
      have hx : i < vs.length := by rw [r.length]; exact hi
      exact ⟨x, by rw [List.getElem?_append_left (by simpa using hx), List.getElem?_map, h1]; rfl, h2⟩
  · rw [List.getElem?_append_right (by simp; omega)] at h
    rw [List.getElem?_replicate] at h
    split at h <;> cases h
theorem defs_ok {P : Program} {w : World} {K : Frg} {mg : Str → Option Value} {base : Heap} {cla : Str → Option Addr} {tab : Tab} {T : Str → Option Fn} {defs : List Def} (X : Text K mg cla tab T defs) :
    ∀ (k : Nat) (d : Def), d ∈ defs → ∀ fa fd, DefOk K mg d fa fd → FnOk P w K mg base (L2.CX P w) k fa fd d.fn.ps (spOf cla K d.fn.ps.length (callF T k d.name))
  | 0, d, hd, fa, fd, D => ⟨fun vs H Q E h => h.1, fun A outer s H args us vs Q E hr e0 hb hv h => by
      obtain ⟨_, μ, as, st, _, _, z⟩ := h
      exact z.elim⟩
  | k + 1, d, hd, fa, fd, D => by
    have ih := defs_ok (P := P) (w := w) (base := base) X k
    have hc := X.chk d hd
    unfold chkDef at hc
    rw [Bool.and_eq_true] at hc
    have sc := scope_ok hc.1
    refine D.F.okX sc (fun vs H Q E h => h.1) (fun cdv A outer s H vs Q E hr hsp => ?_)
    obtain ⟨hlen, μ, args, st, hs, rv, P0⟩ := hsp
    have callOk : ∀ f n, (∃ d ∈ defs, d.name = f ∧ d.fn.ps.length = n) → ∃ fa2 fd2 ps, CallOk (cxOf (L2.CX P w) P w K mg base d.fn.ns d.qual (defScope d.st) fa cdv A outer s H E) cla (callF T k) f n fa2 fd2 ps k := by
      rintro f n ⟨d', hd', e1, e2⟩
      subst e1 e2
      obtain ⟨fa', fd', D'⟩ := X.ok d' hd'
      refine ⟨fa', fd', d'.fn.ps, D'.mg, D'.F.kp, rfl, ih d' hd' fa' fd' D', hr, D'.b, fun as st h => ?_⟩
      cases k with
      | zero => rfl
      | succ k =>
        unfold callF
        rw [X.look d' hd']
        dsimp only
        rw [if_neg h]
        rfl
    refine ⟨tS cla K (fun cls d _ H => E cls d H) (execs (callF T k) d.fn.body), sMs (C := callF T k) d.fn.body (gOf tab d) (defBody d.st) hc.2 _ _ cla ⟨⟨rfl, sc.nd, sc.kind, takes_of rfl rfl rfl rfl, ?_, X.bl, X.con, ?_, ?_⟩, rfl, rfl, fun x _ => rfl⟩ (passes_of rfl), ?_⟩
    · have := hr.un
      show (A.deeper _).units + 65 < cLine
      omega
    · intro f n h
      obtain ⟨fa', fd', ps, c⟩ := callOk f n (X.fn f n h)
      exact ⟨fa', fd', ps, k, c⟩
    · intro f m ks p h
      obtain ⟨d', hd', e1, e2, kb⟩ := X.kw f m ks p h
      subst e1
      obtain ⟨fa', fd', D'⟩ := X.ok d' hd'
      refine ⟨fa', fd', d'.fn.ps, k, ⟨D'.mg, D'.F.kp, e2, by rw [← e2]; exact ih d' hd' fa' fd' D', hr, D'.b, fun as st h => ?_⟩, kb fa' fd' D'⟩
      cases k with
      | zero => rfl
      | succ k =>
        unfold callF
        rw [X.look d' hd']
        dsimp only
        rw [if_neg (by rw [e2]; exact h)]
        rfl
    · refine ⟨μ, args.map some ++ List.replicate (d.fn.ns.length - args.length) none, st, ⟨hs, start_re rv⟩, ?_⟩
      have e0 : args.length = d.fn.ps.length := by rw [← rv.length]; exact hlen
      have e1 : callF T (k + 1) d.name args st = leave st (execs (callF T k) d.fn.body (args.map some ++ List.replicate (d.fn.ns.length - args.length) none) st) := by
        unfold callF
        rw [X.look d hd]
        dsimp only
        rw [if_pos e0]
      rw [e1] at P0
      cases q : execs (callF T k) d.fn.body (args.map some ++ List.replicate (d.fn.ns.length - args.length) none) st with
      | bad => rw [q] at P0; exact P0.elim
      | exc e st' => rw [q] at P0; exact P0.elim
      | ok o st' =>
        rw [q] at P0
        intro μ' H' e s'
        cases o with
        | rt v => exact fun x rx => sweep_ok hs P0 e s' rx
        | nx ρ => exact fun σ _ => sweep_ok hs P0 e s' .non
        | bk ρ => exact P0.elim
        | ct ρ => exact P0.elim
        | ex x ρ => exact fun σ cls dd _ r => P0 μ' H' cls dd e s' r
end Mg

/-! MgO: a law's end. -/
namespace Mg
open PySem PySem.Spec PyProof.Rows L2
theorem def_mk {K : Frg} {h : Heap} {mg : Str → Option Value} (X : K.In h) (G : h.Ns mainGlobals mg) (d : Def) {f : Addr} {oc : Value} {od an : Option Addr} {sl : Array (Option Value)} {kV dc pm cd ct : Value}
    (a : PySem.W.nsIn K mainGlobals d.name = some (some (.ref f))) (l : K.lookup f = some ⟨oc, od, .func (PySem.W.fnOf d.name d.qual (defArgs d.st) (defBody d.st) (defScope d.st) .none kV dc pm an cd ct), sl⟩)
    (c : PySem.W.codeIn K cd d.qual = true) (k : PySem.W.keepIn K (.ref f) = true)
    (b : ∀ (kV doc pm : Value) (an : Option Addr) (cdv ct : Value) (us : List Value), us.length = d.fn.ps.length → bindArgs (PySem.W.fnOf d.name d.qual (defArgs d.st) (defBody d.st) (defScope d.st) .none kV doc pm an cdv ct) ⟨us, []⟩ = pure (d.fn.ps.zip us)) :
    ∃ fa fd, DefOk K mg d fa fd :=
  have F := fun_mk (st := d.st) l c k
  ⟨_, _, F, PySem.W.mg_of X G a, F.binds b⟩
/-- all facts of the text -/
structure Text0 (K : Frg) (mg : Str → Option Value) (defs : List Def) : Prop where
  ok : ∀ d ∈ defs, ∃ fa fd, DefOk K mg d fa fd
theorem cx_none {P : Program} {w : World} {H : Hp} {s s' : Shared} {e : Value} (h : L2.CX P w [] H s (fun _ _ _ => False) e s') : False := by
  obtain ⟨_, _, _, _, _, _, _, _, _, _, _, _, z⟩ := h
  exact z
theorem rvs_of_ints {K : Frg} {μ : List Addr} {H : Hp} : ∀ ns : List Int, RVs K μ H (ns.map V.int) (ns.map Val.int)
  | [] => .nil
  | _ :: r => .cons .int (rvs_of_ints r)
theorem law_end {l : PySem.W.OpenLaw} {n k : Nat} {q : Program} {loose : List Str} {XP : (Str → Option Value) → Heap → Prop} {YP : World → Heap → Prop} {d : PySem.DefRec} {K : Params → PySem.W.Frag} {x : Str} {cla : World → (Str → Option Value) → Str → Option Addr} {tab : Tab} {T : Str → Option Fn} {defs : List Def} (dl : Def)
    (hn : l.most = some n) (hn2 : n ≤ sizeLine) (hdf : d.params.defaults = []) (hr : Room k callerA)
    (hY : ∀ (w : World) (h : Heap), YP w h → (K w.params).In h)
    (hd : dl ∈ defs) (hname : dl.name = d.name) (hps : dl.fn.ps = [x])
    (hb : ∀ (kV doc pm : Value) (an : Option Addr) (cdv ct : Value) (us : List Value), us.length = dl.fn.ps.length → bindArgs (PySem.W.fnOf dl.name dl.qual (defArgs dl.st) (defBody dl.st) (defScope dl.st) .none kV doc pm an cdv ct) ⟨us, []⟩ = pure (dl.fn.ps.zip us))
    (F : ∀ (w : World) (mg : Str → Option Value) (h : Heap), (K w.params).In h → h.Ns mainGlobals mg → Text (K w.params) mg (cla w mg) tab T defs)
    (hlaw : ∀ ns : List Int, ns.length ≤ n → (∀ z ∈ ns, Builtin.Int.intBits z ≤ 1048576) → ∃ st', callF T k dl.name [.rol (ns.map .int)] [] = .ok (.bl true) st') :
    PySem.W.WalkO q loose XP YP l.row.toRowW d [] (fun f vs => PySem.call f vs) := by
  refine Att.attach_callB hn hdf fun w s₀ s₁ mg mb fa o pm cd doc a vs ns Gr Y ho hdd hcd hmg hobj hints hlen hbits hg => ?_
  have KX := hY w _ Y
  have X := F w mg _ KX Gr.T.g
  obtain ⟨fa', fd, D⟩ := X.ok dl hd
  have e := D.mg
  rw [hname, hmg] at e
  cases e
  have bind : ∀ (s : Shared) (u : Value), BindsTo s fd ⟨[u], []⟩ [(x, u)] := fun s v => by
    obtain ⟨oc, od, kV, doc, pm, an, cdv, ct, osl, rfl, lk, hcd⟩ := D.F.ex
    have := hb kV doc pm an cdv ct [v] (by rw [hps]; rfl)
    rw [hps] at this
    exact .of_eq this
  refine law_call (CX := L2.CX l.prog w) (sp := fun vs' H Q E => vs' = [V.ref a] ∧ SqL (K w.params) H a (List.map V.int ns) ∧ Only H ∧ ∀ H', Q (.bl true) H') KX Gr.T.g Gr.T.b Gr.T.builtins Gr.T.nolimit hg hobj hints (Nat.le_trans hlen hn2) hr (fun base hk hgn => ?_) bind
    (fun H hO hS => ⟨rfl, hS, hO, fun _ => rfl⟩) fun H e s' z => cx_none (P := l.prog) (w := w) z
  have O := defs_ok (P := l.prog) (w := w) (base := base) X k dl hd fa fd D
  rw [hps] at O
  refine O.imp fun vs' H Q E ⟨e, hS, hO, q⟩ => ?_
  subst e
  obtain ⟨st', hl⟩ := hlaw ns hlen hbits
  have fr : FrL (K w.params) H a (ns.map V.int) := by
    rcases hS with (hS | ⟨o, hS⟩) | ⟨o, its, m, h1, h2, h3, h4, h5, h6⟩
    · rcases hO a with z | ⟨o, xs, z⟩
      · rw [z] at hS; cases hS
      · rw [z] at hS; cases hS
    · exact .inl ⟨o, hS⟩
    · have e := KX a o h1
      rw [hobj] at e
      injection e with e
      subst e
      injection h4 with h4 h4'
      subst h4
      exact .inr ⟨_, _, h1, h5, h6⟩
  refine ⟨rfl, [], [.rol (ns.map .int)], [], ⟨rfl, List.nodup_nil, fun r c a h => by simp at h⟩, .cons (.rol fr (rvs_of_ints ns)) .nil, ?_⟩
  rw [hl]
  intro μ' H' _ _ x rx
  cases rx
  exact q H'
end Mg

/-! MgP: the facts of a text, put together. -/
namespace Mg
open PySem PySem.Spec PyProof.Rows L2
def look (defs : List Def) (f : Str) : Option Fn := (defs.find? fun d => decide (d.name = f)).map (·.fn)
theorem tbl_of : ∀ {defs : List Def}, (defs.map (·.name)).Nodup → ∀ d ∈ defs, look defs d.name = some d.fn
  | [], _, _, h => nomatch h
  | e :: r, nd, d, h => by
    unfold look
    rw [List.map_cons, List.nodup_cons] at nd
    rcases List.mem_cons.mp h with z | z
    · subst z
      rw [List.find?_cons_of_pos (by simp)]
      rfl
    · have ne : e.name ≠ d.name := fun q => nd.1 (by rw [q]; exact List.mem_map_of_mem z)
      rw [List.find?_cons_of_neg (by simpa using ne)]
      exact tbl_of nd.2 d z
theorem text_of {K : PySem.W.Frag} {h : Heap} {mg : Str → Option Value} {cla : Str → Option Addr} {con : List (Str × Const)} {kw : List KwE} {defs : List Def} (X : K.In h) (G : h.Ns mainGlobals mg)
    (hc : defs.all (chkDef ⟨con, defs.map fun d => (d.name, d.fn.ps.length), kw⟩) = true) (nd : (defs.map (·.name)).Nodup) (ok : ∀ d ∈ defs, ∃ fa fd, DefOk K mg d fa fd)
    (hk : ∀ f m ks p, (f, m, ks, p) ∈ kw → ∃ d ∈ defs, d.name = f ∧ d.fn.ps.length = p.length ∧ ∀ fa fd, DefOk K mg d fa fd → KBn K fd d.fn.ps m ks (fun us ws => pick p (us ++ ws)) fun vs zs => pick p (vs ++ zs))
    (hcon : ∀ x c, con.lookup x = some c → ∃ u, mg x = some u ∧ constOk c u)
    (bl : ∀ x : Str, x ∈ (["len", "max", "min", "tuple", "range", "isinstance", "zip", "all", "any", "sum", "list", "enumerate", "int", "str", "abs", "dict", "bool", "sorted", "set"] : List Str) → mg x = none) :
    Text K mg cla ⟨con, defs.map fun d => (d.name, d.fn.ps.length), kw⟩ (look defs) defs :=
  ⟨ok, tbl_of nd, fun f n hf => by
    obtain ⟨d, hd, e⟩ := List.mem_map.mp hf
    injection e with e1 e2
    exact ⟨d, hd, e1, e2⟩, hk, hcon, bl, fun d hd => List.all_eq_true.mp hc d hd⟩
theorem Fun.kbn {K : PySem.W.Frag} {x qual : Str} {st : Stmt} {f : Addr} {fd : FuncData} {ps ks : List Str} {n : Nat} {g : List Value → List Value → List Value} {gV : List V → List V → List V} (F : Fun K x qual st f fd)
    (h : ∀ (kV doc pm : Value) (an : Option Addr) (cdv ct : Value) (us ws : List Value), us.length = n → ws.length = ks.length → bindArgs (PySem.W.fnOf x qual (defArgs st) (defBody st) (defScope st) .none kV doc pm an cdv ct) ⟨us, ks.zip ws⟩ = pure (ps.zip (g us ws)))
    (r : ∀ {vs : List V} {us : List Value} {zs : List V} {ws : List Value}, Vals vs us → Vals zs ws → Vals (gV vs zs) (g us ws)) : KBn K fd ps n ks g gV := by
  obtain ⟨oc, od, kV, doc, pm, an, cdv, ct, osl, rfl, lk, hcd⟩ := F.ex
  exact ⟨fun s us ws _ h1 h2 => .of_eq (h kV doc pm an cdv ct us ws h1 h2), r⟩
theorem vals_get : ∀ {vs : List V} {us : List Value} (i : Nat), Vals vs us → (vs[i]? = none ∧ us[i]? = none) ∨ ∃ v u, vs[i]? = some v ∧ us[i]? = some u ∧ RelV v u
  | _, _, i, .nil => .inl ⟨by simp, by simp⟩
  | _, _, 0, .cons r t => .inr ⟨_, _, rfl, rfl, r⟩
  | _, _, i + 1, .cons r t => by
    rcases vals_get i t with h | h
    · exact .inl (by simpa using h)
    · exact .inr (by simpa using h)
theorem vals_pick {vs : List V} {us : List Value} (r : Vals vs us) : ∀ p : List Nat, Vals (pick p vs) (pick p us)
  | [] => .nil
  | i :: p => by
    have ih := vals_pick r p
    unfold pick at ih ⊢
    rw [List.filterMap_cons, List.filterMap_cons]
    rcases vals_get i r with ⟨h1, h2⟩ | ⟨v, u, h1, h2, h3⟩
    · rw [h1, h2]; exact ih
    · rw [h1, h2]; exact .cons h3 ih
end Mg

/-! MgQ: reading the evaluator. -/
namespace Mg
open PySem
abbrev XP := Exn → Sto → Prop
def wp {α : Type} (m : M α) (st : Sto) (P : α → Sto → Prop) (E : XP) : Prop := match m st with
  | .ok a s => P a s
  | .exc e s => E e s
  | .bad => False
section
variable {α β : Type} {m : M α} {f : α → M β} {st : Sto} {E E' : XP}
theorem wp_mono {P P' : α → Sto → Prop} (h : wp m st P E) (f : ∀ a s, P a s → P' a s) (g : ∀ e s, E e s → E' e s) : wp m st P' E' := by
  unfold wp at h ⊢
  cases q : m st with
  | ok a s => rw [q] at h; exact f a s h
  | exc e s => rw [q] at h; exact g e s h
  | bad => rw [q] at h; exact h
theorem wp_imp {P P' : α → Sto → Prop} (h : wp m st P E) (f : ∀ a s, P a s → P' a s) : wp m st P' E := wp_mono h f fun _ _ z => z
/-- what raises nothing -/
theorem wp_call {P P' : α → Sto → Prop} (h : wp m st P fun _ _ => False) (f : ∀ a s, P a s → P' a s) : wp m st P' E := wp_mono h f fun _ _ z => z.elim
theorem wp_bnd {P : β → Sto → Prop} : wp (bnd m f) st P E = wp m st (fun a s => wp (f a) s P E) E := by
  unfold wp bnd
  cases m st <;> rfl
theorem wp_ret {a : α} {P : α → Sto → Prop} : wp (ret a) st P E = P a st := rfl
theorem wp_fail {P : α → Sto → Prop} : wp (fail : M α) st P E = False := rfl
theorem wp_quiet {P : α → Sto → Prop} : wp (quiet m) st P E = wp m st P fun _ _ => False := by
  unfold wp quiet
  cases m st <;> rfl
theorem wp_chk {p : Sto → Prop} {P : Unit → Sto → Prop} : wp (chk p) st P E = (p st ∧ P () st) := by
  by_cases c : p st
  · have e : chk p st = .ok () st := if_pos c
    unfold wp
    rw [e]
    simp [c]
  · have e : chk p st = .bad := if_neg c
    unfold wp
    rw [e]
    simp [c]
theorem wp_lft {ρ : Env'} {f : α → M Out} {P : Out → Sto → Prop} : wp (lft ρ m f) st P E = wp m st (fun a s => wp (f a) s P E) (fun e s => P (.ex e ρ) s) := by
  unfold wp lft
  cases m st <;> rfl
theorem wp_ite {c : Prop} [Decidable c] {n : M α} {P : α → Sto → Prop} : wp (if c then m else n) st P E = if c then wp m st P E else wp n st P E := by
  by_cases h : c
  · rw [if_pos h, if_pos h]
  · rw [if_neg h, if_neg h]
theorem wp_if_fail {c : Prop} [Decidable c] {P : α → Sto → Prop} : wp (if c then m else fail) st P E = (c ∧ wp m st P E) := by
  by_cases h : c
  · rw [if_pos h]; simp [h]
  · rw [if_neg h]; simp [h, wp_fail]
theorem wp_mk {st : Sto} {g : Sto → Res α} {P : α → Sto → Prop} : wp (fun st => g st) st P E = match g st with
  | .ok a s => P a s
  | .exc e s => E e s
  | .bad => False := rfl
theorem wp_ok {P : α → Sto → Prop} (h : wp m st P fun _ _ => False) : ∃ a s, m st = .ok a s ∧ P a s := by
  unfold wp at h
  cases q : m st with
  | ok a s => rw [q] at h; exact ⟨a, s, rfl, h⟩
  | exc e s => rw [q] at h; exact h.elim
  | bad => rw [q] at h; exact h.elim
theorem wp_of {P : α → Sto → Prop} {a : α} {s : Sto} (h : m st = .ok a s) (p : P a s) : wp m st P E := by unfold wp; rw [h]; exact p
/-! ### what stands in the store -/
theorem wp_opIx_ref {r : Nat} {k : Int} {l : List Val} {P : Val → Sto → Prop} (h : st[r]? = some (.lst l)) : wp (opIx (.ref r) (.int k)) st P E = match L2.atI l k with
  | some v => P v st
  | none => False := by
  have e : opIx (.ref r) (.int k) st = idx l k st := by
    unfold opIx
    simp only [h]
  unfold wp
  rw [e]
  unfold idx
  cases L2.atI l k <;> rfl
theorem wp_setIx {r : Nat} {k : Int} {l : List Val} {v : Val} {P : Unit → Sto → Prop} (h : st[r]? = some (.lst l)) : wp (setIx (.ref r) (.int k) v) st P E = match L2.ixN l.length k with
  | some j => P () (st.set r (.lst (l.set j v)))
  | none => False := by
  have e : setIx (.ref r) (.int k) v st = match L2.ixN l.length k with
    | some j => .ok () (st.set r (.lst (l.set j v)))
    | none => .bad := by
    unfold setIx
    simp only [h]
    all_goals (cases L2.ixN l.length k <;> rfl)
  unfold wp
  rw [e]
  cases L2.ixN l.length k <;> rfl
theorem wp_ofV {r : Nat} {l : List Val} {P : LV → Sto → Prop} (h : st[r]? = some (.lst l)) : wp (ofV (.ref r)) st P E = P (.s l r) st := by
  have e : ofV (.ref r) st = .ok (.s l r) st := by
    show (match lget st r with
      | some l => Res.ok (LV.s l r) st
      | none => .bad) = _
    unfold lget
    simp only [h]
  unfold wp
  rw [e]
theorem wp_alloc {l : List Val} {P : Val → Sto → Prop} : wp (allocL l) st P E = P (.ref st.length) (st ++ [.lst l]) := rfl
/-! ### loops -/
theorem wp_forF {ok : Sto → Prop} {tg : Tg} {b : Env' → M Out} {P : Out → Sto → Prop} (I : Nat → Env' → Sto → Prop) :
    ∀ {xs : List Val} {ρ : Env'} {st : Sto}, I 0 ρ st → (∀ i ρ s, i ≤ xs.length → I i ρ s → ok s) →
    (∀ i x ρ s, xs[i]? = some x → I i ρ s → wp (bnd (asTg tg x ρ) b) s (fun o s' => match o with
      | .nx ρ' => I (i + 1) ρ' s'
      | .ct ρ' => I (i + 1) ρ' s'
      | .bk ρ' => P (.nx ρ') s'
      | o => P o s') E) → (∀ ρ s, I xs.length ρ s → P (.nx ρ) s) → wp (forF ok tg b xs ρ) st P E
  | [], ρ, st, h0, hok, _, he => by
    show wp (bnd (chk ok) fun _ => ret (.nx ρ)) st P E
    rw [wp_bnd, wp_chk]
    exact ⟨hok 0 ρ st (Nat.le_refl _) h0, he ρ st h0⟩
  | x :: r, ρ, st, h0, hok, hs, he => by
    show wp (bnd (chk ok) fun _ => bnd (asTg tg x ρ) fun ρ1 => bnd (b ρ1) fun o => match o with
      | .nx ρ' => forF ok tg b r ρ'
      | .ct ρ' => forF ok tg b r ρ'
      | .bk ρ' => ret (.nx ρ')
      | o => ret o) st P E
    rw [wp_bnd, wp_chk]
    refine ⟨hok 0 ρ st (Nat.zero_le _) h0, ?_⟩
    have q := hs 0 x ρ st rfl h0
    rw [wp_bnd] at q ⊢
    refine wp_mono q (fun ρ1 s1 q1 => ?_) fun _ _ z => z
    rw [wp_bnd]
    refine wp_mono q1 (fun o s2 q2 => ?_) fun _ _ z => z
    have ih : ∀ ρ' s', I 1 ρ' s' → wp (forF ok tg b r ρ') s' P E := fun ρ' s' h => wp_forF (fun i => I (i + 1)) h (fun i ρ s hi h => hok (i + 1) ρ s (by simpa using hi) h) (fun i x ρ s hx h => hs (i + 1) x ρ s (by simpa using hx) h) fun ρ s h => he ρ s h
    cases o with
    | nx ρ' => exact ih ρ' s2 q2
    | ct ρ' => exact ih ρ' s2 q2
    | bk ρ' => exact q2
    | rt v => exact q2
    | ex e ρ' => exact q2
theorem wp_mapF {ok : Sto → Prop} {f : Val → M (Option Val)} {P : List Val → Sto → Prop} (I : Nat → List Val → Sto → Prop) :
    ∀ {xs acc : List Val} {st : Sto}, I 0 acc st → (∀ i a s, i ≤ xs.length → I i a s → ok s) →
    (∀ i x a s, xs[i]? = some x → I i a s → wp (f x) s (fun o s' => I (i + 1) (a ++ o.toList) s') E) → (∀ ys s, I xs.length (acc ++ ys) s → P ys s) → wp (mapF ok f xs) st P E
  | [], acc, st, h0, hok, _, he => by
    show wp (bnd (chk ok) fun _ => ret []) st P E
    rw [wp_bnd, wp_chk]
    exact ⟨hok 0 acc st (Nat.le_refl _) h0, he [] st (by simpa using h0)⟩
  | x :: r, acc, st, h0, hok, hs, he => by
    show wp (bnd (chk ok) fun _ => bnd (f x) fun o => bnd (mapF ok f r) fun ys => ret (o.toList ++ ys)) st P E
    rw [wp_bnd, wp_chk]
    refine ⟨hok 0 acc st (Nat.zero_le _) h0, ?_⟩
    rw [wp_bnd]
    refine wp_mono (hs 0 x acc st rfl h0) (fun o s1 q1 => ?_) fun _ _ z => z
    rw [wp_bnd]
    refine wp_mono (wp_mapF (P := fun ys s => P (o.toList ++ ys) s) (fun i => I (i + 1)) q1 (fun i a s hi h => hok (i + 1) a s (by simpa using hi) h) (fun i x a s hx h => hs (i + 1) x a s (by simpa using hx) h) fun ys s h => he _ s (by simpa using h)) (fun ys s q => q) fun _ _ z => z
end
/-! ### blocks -/
theorem wp_nil {C : Str → List Val → M Val} {ρ : Env'} {st : Sto} {P : Out → Sto → Prop} {E : XP} : wp (execs C .nil ρ) st P E = P (.nx ρ) st := rfl
theorem wp_cons {C : Str → List Val → M Val} {s : Sm} {r : Sms} {ρ : Env'} {st : Sto} {P : Out → Sto → Prop} {E : XP} : wp (execs C (.cons s r) ρ) st P E = wp (exec C s ρ) st (fun o s' => match o with
    | .nx ρ' => wp (execs C r ρ') s' P E
    | o => P o s') E := by
  show wp (bnd (exec C s ρ) fun o => match o with
    | .nx ρ' => execs C r ρ'
    | o => ret o) st P E = _
  rw [wp_bnd]
  congr 1
  funext o s'
  cases o <;> rfl
/-! ### calls -/
theorem wp_callF {T : Str → Option Fn} {k : Nat} {f : Str} {fn : Fn} {args : List Val} {st : Sto} {P : Val → Sto → Prop} {E : XP} (hT : T f = some fn) (hl : args.length = fn.ps.length)
    (h : wp (execs (callF T k) fn.body (args.map some ++ List.replicate (fn.ns.length - args.length) none)) st (fun o s => match o with
      | .rt v => (match sweep st v s with | .ok v s => P v s | _ => False)
      | .nx _ => (match sweep st .non s with | .ok v s => P v s | _ => False)
      | .ex e _ => E e s
      | _ => False) fun _ _ => False) : wp (callF T (k + 1) f args) st P E := by
  unfold callF
  rw [hT]
  dsimp only
  rw [if_pos hl]
  unfold wp at h ⊢
  dsimp only
  cases q : execs (callF T k) fn.body (args.map some ++ List.replicate (fn.ns.length - args.length) none) st with
  | bad => rw [q] at h; exact h
  | exc e s => rw [q] at h; exact h
  | ok o s =>
    rw [q] at h
    cases o with
    | rt v =>
      dsimp only [leave] at h ⊢
      cases z : sweep st v s with
      | ok v s => rw [z] at h; exact h
      | exc e s => rw [z] at h; exact h.elim
      | bad => rw [z] at h; exact h.elim
    | nx ρ =>
      dsimp only [leave] at h ⊢
      cases z : sweep st .non s with
      | ok v s => rw [z] at h; exact h
      | exc e s => rw [z] at h; exact h.elim
      | bad => rw [z] at h; exact h.elim
    | ex e ρ => exact h
    | bk ρ => exact h
    | ct ρ => exact h
/-- a store that keeps its things, whatever came behind them -/
theorem sweep_eq {st st1 tl : Sto} {v : Val} (hl : st1.length = st.length) (hc : ∀ (i : Nat) (c : Cell), st1[i]? = some c → st[i]? = some c ∨ ClosedC st.length c) (hv : Closed st.length v) : sweep st v (st1 ++ tl) = .ok v st1 := by
  unfold sweep
  have ap : Apart st (st1 ++ tl) := ⟨by simp [hl], fun i c hi h => hc i c (by rw [List.getElem?_append_left (by omega)] at h; exact h)⟩
  rw [if_pos ap, if_pos hv, ← hl, List.take_left]
theorem sweep_same {st tl : Sto} {v : Val} (hv : Closed st.length v) : sweep st v (st ++ tl) = .ok v st := sweep_eq rfl (fun _ _ h => .inl h) hv
theorem sweep_bl {st s : Sto} {b : Bool} : ∃ s', sweep st (.bl b) s = .ok (.bl b) s' := by
  unfold sweep
  by_cases h : Apart st s
  · rw [if_pos h, if_pos .bl]; exact ⟨_, rfl⟩
  · rw [if_neg h]; exact ⟨_, rfl⟩
/-- a new thing handed back -/
theorem sweep_new {st st1 tl : Sto} {r : Nat} {c : Cell} (hl : st1.length = st.length) (hc : ∀ (i : Nat) (c : Cell), st1[i]? = some c → st[i]? = some c ∨ ClosedC st.length c) (hr : st.length ≤ r) (h : (st1 ++ tl)[r]? = some c) (cl : ClosedC st.length c) :
    sweep st (.ref r) (st1 ++ tl) = .ok (.ref st.length) (st1 ++ [c]) := by
  unfold sweep
  have ap : Apart st (st1 ++ tl) := ⟨by simp [hl], fun i c hi h => hc i c (by rw [List.getElem?_append_left (by omega)] at h; exact h)⟩
  have nv : ¬ Closed st.length (.ref r) := fun z => by
    cases z with
    | ref h => omega
  rw [if_pos ap, if_neg nv]
  simp only [h]
  rw [if_pos cl, ← hl, List.take_left]
end Mg

/-! MgR: the pot that the laws draw from. -/
namespace Mg
open PySem
def takeIR : Sms :=
  (.cons (.ifs (.cmp .gt (.ix (.var 0) (.int 0)) (.int 1)) (.cons (.set (.nm 2) (.bin .mod (.ix (.var 0) (.int 0)) (.var 1)))
  (.cons (.setIx (.var 0) (.int 0) (.bin .fdiv (.ix (.var 0) (.int 0)) (.var 1)))
  (.cons (.ret (.var 2))
  .nil))) .nil)
  (.cons (.setIx (.var 0) (.int 2) (.bin .add (.ix (.var 0) (.int 2)) (.int 1)))
  (.cons (.setIx (.var 0) (.int 1) (.bin .mod (.bin .add (.bin .mul (.ix (.var 0) (.int 1)) (.ix (.var 0) (.int 1))) (.bin .mul (.ix (.var 0) (.int 2)) (.bin .pow (.int 49979687) (.int 5)))) (.bin .add (.bin .pow (.int 10) (.int 52)) (.int 21))))
  (.cons (.ret (.bin .mod (.bin .fdiv (.ix (.var 0) (.int 1)) (.int 524287)) (.var 1)))
  .nil))))
def takeFn : Fn := ⟨["pot", "many"], ["pot", "many", "found"], takeIR⟩
abbrev potV (a b c : Int) : Cell := .lst [.int a, .int b, .int c]
def BIG : Int := 10 ^ 52 + 21
def Pot (st : Sto) (r : Nat) (B : Nat) : Prop := ∃ a b c : Int, st[r]? = some (potV a b c) ∧ 0 ≤ b ∧ b < BIG ∧ 0 ≤ c ∧ c + B ≤ 2 ^ 62
def PotTo (r : Nat) (st st' : Sto) : Prop := ∃ a b c : Int, st' = st.set r (potV a b c)
theorem potV_closed {n : Nat} {a b c : Int} : ClosedC n (potV a b c) := by
  intro v hv
  simp only [List.mem_cons, List.not_mem_nil, or_false] at hv
  rcases hv with rfl | rfl | rfl <;> exact .int
theorem sweep_pot {st : Sto} {r : Nat} {a b c : Int} {v : Val} (tl : Sto) (hv : Closed st.length v) : sweep st v (st.set r (potV a b c) ++ tl) = .ok v (st.set r (potV a b c)) :=
  sweep_eq (by simp) (fun i x h => by
    by_cases z : r = i
    · subst z
      by_cases hr : r < st.length
      · rw [List.getElem?_set_self hr] at h; cases h; exact .inr potV_closed
      · rw [List.getElem?_eq_none (by simpa using hr)] at h; cases h
    · rw [List.getElem?_set_ne z] at h; exact .inl h) hv
theorem sweep_pot0 {st : Sto} {r : Nat} {a b c : Int} {v : Val} (hv : Closed st.length v) : sweep st v (st.set r (potV a b c)) = .ok v (st.set r (potV a b c)) := by
  have := sweep_pot (st := st) (r := r) (a := a) (b := b) (c := c) [] hv
  rwa [List.append_nil] at this
theorem log2_lt {n k : Nat} (h : n < 2 ^ k) (hk : 0 < k) : n.log2 < k := by
  by_cases z : n = 0
  · subst z; simpa using hk
  · exact (Nat.log2_lt z).mpr h
theorem log2_le {n k : Nat} (h : n < 2 ^ (k + 1)) : n.log2 ≤ k := Nat.lt_succ_iff.mp (log2_lt h (by omega))
theorem take_ok {T : Str → Option Fn} {k : Nat} {st : Sto} {r B : Nat} {m : Int} (hT : T "_law_take" = some takeFn) (hp : Pot st r (B + 1)) (hm : 0 < m) (hm2 : m < 2 ^ 62) :
    wp (callF T (k + 1) "_law_take" [.ref r, .int m]) st (fun v s => ∃ j : Int, v = .int j ∧ 0 ≤ j ∧ j < m ∧ PotTo r st s ∧ Pot s r B) fun _ _ => False := by
  obtain ⟨a, b, c, h, hb, hb2, hc, hc2⟩ := hp
  have hr : r < st.length := by
    by_cases z : r < st.length
    · exact z
    · rw [List.getElem?_eq_none (by omega)] at h; cases h
  refine wp_callF hT rfl ?_
  have i0 : L2.atI [Val.int a, .int b, .int c] 0 = some (.int a) := rfl
  show wp (execs (callF T k) takeIR [some (.ref r), some (.int m), none]) st _ _
  have big : BIG = 10 ^ 52 + 21 := rfl
  have i0 : ∀ x y z : Val, L2.atI [x, y, z] 0 = some x := fun _ _ _ => rfl
  have i1 : ∀ x y z : Val, L2.atI [x, y, z] 1 = some y := fun _ _ _ => rfl
  have i2 : ∀ x y z : Val, L2.atI [x, y, z] 2 = some z := fun _ _ _ => rfl
  have n0 : L2.ixN 3 0 = some 0 := rfl
  have n1 : L2.ixN 3 1 = some 1 := rfl
  have n2 : L2.ixN 3 2 = some 2 := rfl
  unfold takeIR
  rw [wp_cons]
  simp only [exec, ev, wp_bnd, wp_lft, wp_ret, List.getElem?_cons_zero, List.getElem?_cons_succ, compare]
  rw [wp_opIx_ref h]
  simp only [i0, gtV, wp_ret, wp_bnd, asBl]
  by_cases c1 : 1 < a
  · simp only [c1, decide_true, if_true]
    rw [wp_cons]
    simp only [exec, ev, wp_bnd, wp_lft, wp_ret, List.getElem?_cons_zero, List.getElem?_cons_succ, binop, asTg, List.set_cons_zero, List.set_cons_succ]
    rw [wp_opIx_ref h]
    simp only [i0, modV, wp_if_fail, wp_ret]
    refine ⟨hm, ?_⟩
    rw [wp_cons]
    simp only [exec, ev, wp_bnd, wp_lft, wp_ret, List.getElem?_cons_zero, List.getElem?_cons_succ, binop]
    rw [wp_opIx_ref h]
    simp only [i0, fdivV, wp_if_fail, wp_ret]
    refine ⟨⟨hm, Nat.lt_trans (log2_lt (k := 62) (by omega) (by omega)) (by decide)⟩, ?_⟩
    rw [wp_setIx h]
    simp only [List.length_cons, List.length_nil, n0, List.set_cons_zero]
    rw [wp_cons]
    simp only [exec, ev, wp_bnd, wp_lft, wp_ret, List.getElem?_cons_zero, List.getElem?_cons_succ]
    rw [sweep_pot0 .int]
    exact ⟨_, rfl, Int.emod_nonneg _ (by omega), Int.emod_lt_of_pos _ hm, ⟨_, _, _, rfl⟩, _, b, c, by rw [List.getElem?_set_self hr], hb, hb2, hc, by push_cast at hc2; omega⟩
  · simp only [c1, decide_false, if_false, wp_nil]
    rw [if_neg (by decide)]
    rw [wp_nil]
    dsimp only
    rw [wp_cons]
    simp only [exec, ev, wp_bnd, wp_lft, wp_ret, List.getElem?_cons_zero, List.getElem?_cons_succ, binop]
    rw [wp_opIx_ref h]
    simp only [i2, addV, wp_ret]
    rw [wp_setIx h]
    simp only [List.length_cons, List.length_nil, n2, List.set_cons_zero, List.set_cons_succ]
    rw [wp_cons]
    have h1 : (st.set r (potV a b (c + 1)))[r]? = some (potV a b (c + 1)) := List.getElem?_set_self hr
    simp only [exec, ev, wp_bnd, wp_lft, wp_ret, List.getElem?_cons_zero, List.getElem?_cons_succ, binop]
    rw [wp_opIx_ref h1]
    simp only [i1]
    rw [wp_opIx_ref h1]
    simp only [i1, mulV, wp_if_fail, wp_ret]
    have lb : b.natAbs.log2 < 200 := log2_lt (by rw [big] at hb2; omega) (by omega)
    refine ⟨by omega, ?_⟩
    rw [wp_opIx_ref h1]
    simp only [i2, powV, wp_if_fail, wp_ret]
    have lc : (c + 1).natAbs.log2 < 64 := log2_lt (by push_cast at hc2; omega) (by omega)
    have p5 : ((49979687 : Int) ^ (5 : Int).toNat).natAbs.log2 < 130 := by decide +kernel
    refine ⟨by decide, by omega, ?_⟩
    simp only [addV, wp_ret]
    refine ⟨by decide, ?_⟩
    simp only [modV, wp_if_fail, wp_ret]
    refine ⟨by decide, ?_⟩
    rw [wp_setIx h1]
    simp only [List.length_cons, List.length_nil, n1, List.set_cons_zero, List.set_cons_succ]
    rw [wp_cons]
    rw [List.set_set]
    generalize hz : (b * b + (c + 1) * 49979687 ^ (5 : Int).toNat) % ((10 : Int) ^ (52 : Int).toNat + 21) = z
    have z0 : 0 ≤ z := by rw [← hz]; exact Int.emod_nonneg _ (by decide)
    have z1 : z < BIG := by rw [← hz]; exact Int.emod_lt_of_pos _ (by decide)
    have h2 : (st.set r (potV a z (c + 1)))[r]? = some (potV a z (c + 1)) := List.getElem?_set_self hr
    simp only [exec, ev, wp_bnd, wp_lft, wp_ret, List.getElem?_cons_zero, List.getElem?_cons_succ, binop]
    rw [wp_opIx_ref h2]
    simp only [i1, fdivV, wp_if_fail, wp_ret]
    refine ⟨by decide +kernel, ?_⟩
    simp only [modV, wp_if_fail, wp_ret]
    refine ⟨hm, ?_⟩
    rw [sweep_pot0 .int]
    exact ⟨_, rfl, Int.emod_nonneg _ (by omega), Int.emod_lt_of_pos _ hm, ⟨_, _, _, rfl⟩, _, z, c + 1, h2, z0, z1, by omega, by push_cast at hc2; omega⟩
def potIR : Sms :=
  (.cons (.ret (.alloc (.dis (.cons (.b2 .max (.int 0) (.bin .sub (.var 0) (.bin .pow (.int 10) (.int 18)))) (.cons (.bin .mod (.bin .add (.bin .mul (.var 0) (.bin .pow (.int 4256233) (.int 5))) (.int 141421356237309504880)) (.bin .add (.bin .pow (.int 10) (.int 52)) (.int 21))) (.cons (.int 0) .nil))))))
  .nil)
def potFn : Fn := ⟨["cell"], ["cell"], potIR⟩
def Cellish (z : Int) : Prop := z.natAbs.log2 ≤ 1048576
theorem Cellish.of {z : Int} (h : Builtin.Int.intBits z ≤ 1048576) : Cellish z := by
  unfold Builtin.Int.intBits at h
  unfold Cellish
  split at h
  · rename_i e
    have e' : z = 0 := by simpa using e
    subst e'
    exact Nat.zero_le _
  · omega
theorem pot_ok {T : Str → Option Fn} {k : Nat} {st : Sto} {z : Int} (hT : T "_law_pot" = some potFn) (hz : Cellish z) :
    wp (callF T (k + 1) "_law_pot" [.int z]) st (fun v s => v = .ref st.length ∧ (∃ c, s = st ++ [c]) ∧ Pot s st.length (2 ^ 62)) fun _ _ => False := by
  have big : BIG = 10 ^ 52 + 21 := rfl
  refine wp_callF hT rfl ?_
  show wp (execs (callF T k) potIR [some (.int z)]) st _ _
  unfold potIR
  rw [wp_cons]
  simp only [exec, ev, evs, evL, wp_bnd, wp_lft, wp_ret, List.getElem?_cons_zero, List.getElem?_cons_succ, binop, powV, wp_if_fail]
  refine ⟨by decide, ?_⟩
  simp only [subV, wp_ret, op2]
  refine ⟨by decide, ?_⟩
  have p5 : ((4256233 : Int) ^ (5 : Int).toNat).natAbs.log2 < 130 := by decide +kernel
  have hz' : z.natAbs.log2 ≤ 1048576 := hz
  simp only [mulV, wp_if_fail, wp_ret]
  refine ⟨by omega, ?_⟩
  simp only [addV, wp_ret]
  refine ⟨by decide, ?_⟩
  simp only [modV, wp_if_fail, wp_ret]
  refine ⟨by decide, ?_⟩
  refine ⟨(by decide : 3 ≤ sizeLine), ?_⟩
  simp only [wp_ret, allocV, wp_alloc]
  generalize hb : (z * 4256233 ^ (5 : Int).toNat + 141421356237309504880) % ((10 : Int) ^ (52 : Int).toNat + 21) = b
  have b0 : 0 ≤ b := by rw [← hb]; exact Int.emod_nonneg _ (by decide)
  have b1 : b < BIG := by rw [← hb]; exact Int.emod_lt_of_pos _ (by decide)
  have e := sweep_new (st := st) (st1 := st) (tl := [potV (if z - 10 ^ (18 : Int).toNat > 0 then z - 10 ^ (18 : Int).toNat else 0) b 0]) (r := st.length) (c := potV (if z - 10 ^ (18 : Int).toNat > 0 then z - 10 ^ (18 : Int).toNat else 0) b 0) rfl (fun _ _ h => .inl h) (Nat.le_refl _) (by simp) potV_closed
  rw [e]
  exact ⟨rfl, ⟨_, rfl⟩, _, b, 0, List.getElem?_concat_length, b0, b1, by omega, by omega⟩
/-! ### the store: the pot at r, new things behind -/
def Grow (r : Nat) (st s : Sto) : Prop := ∃ a b c tl, s = st.set r (potV a b c) ++ tl
theorem Pot.lt {st : Sto} {r B : Nat} (h : Pot st r B) : r < st.length := by
  obtain ⟨a, b, c, h, _⟩ := h
  by_cases z : r < st.length
  · exact z
  · rw [List.getElem?_eq_none (by omega)] at h; cases h
theorem Pot.le {st : Sto} {r B B' : Nat} (h : Pot st r B) (l : B' ≤ B) : Pot st r B' := by
  obtain ⟨a, b, c, h, h1, h2, h3, h4⟩ := h
  exact ⟨a, b, c, h, h1, h2, h3, by omega⟩
theorem set_same {α : Type} {l : List α} {r : Nat} {x : α} (h : l[r]? = some x) : l.set r x = l := by
  refine List.ext_getElem? fun i => ?_
  by_cases z : r = i
  · subst z
    have hr : r < l.length := by
      by_cases w : r < l.length
      · exact w
      · rw [List.getElem?_eq_none (by omega)] at h; cases h
    rw [List.getElem?_set_self hr, h]
  · rw [List.getElem?_set_ne z]
theorem Grow.refl {st : Sto} {r B : Nat} (h : Pot st r B) : Grow r st st := by
  obtain ⟨a, b, c, h, _⟩ := h
  exact ⟨a, b, c, [], by rw [set_same h, List.append_nil]⟩
theorem Grow.to {st s s' : Sto} {r : Nat} (hr : r < st.length) (g : Grow r st s) (h : PotTo r s s') : Grow r st s' := by
  obtain ⟨a, b, c, tl, rfl⟩ := g
  obtain ⟨a', b', c', rfl⟩ := h
  exact ⟨a', b', c', tl, by rw [List.set_append_left _ _ (by simpa using hr), List.set_set]⟩
theorem Grow.add {st s : Sto} {r : Nat} (g : Grow r st s) (c : Cell) : Grow r st (s ++ [c]) := by
  obtain ⟨a, b, c', tl, rfl⟩ := g
  exact ⟨a, b, c', tl ++ [c], by simp⟩
theorem Grow.len {st s : Sto} {r : Nat} (g : Grow r st s) : st.length ≤ s.length := by
  obtain ⟨a, b, c', tl, rfl⟩ := g
  simp
theorem Grow.sweep {st s : Sto} {r B : Nat} {v : Val} (hr : r < st.length) (g : Grow r st s) (hp : Pot s r B) (hv : Closed st.length v) : ∃ s', Mg.sweep st v s = .ok v s' ∧ PotTo r st s' ∧ Pot s' r B := by
  obtain ⟨a, b, c, tl, rfl⟩ := g
  refine ⟨_, sweep_pot tl hv, ⟨_, _, _, rfl⟩, ?_⟩
  obtain ⟨a', b', c', h, q⟩ := hp
  rw [List.getElem?_append_left (by simpa using hr)] at h
  exact ⟨a', b', c', h, q⟩
/-! ### comprehensions -/
theorem wp_mapF_pure {ok : Sto → Prop} {f : Val → M (Option Val)} {g : Val → Val} {P : List Val → Sto → Prop} {E : XP} {st : Sto} (hok : ok st) : ∀ {xs : List Val}, (∀ x ∈ xs, wp (f x) st (fun o s => o = some (g x) ∧ s = st) E) → P (xs.map g) st → wp (mapF ok f xs) st P E
  | [], _, h => by
    show wp (bnd (chk ok) fun _ => ret []) st P E
    rw [wp_bnd, wp_chk]
    exact ⟨hok, h⟩
  | x :: r, hf, h => by
    show wp (bnd (chk ok) fun _ => bnd (f x) fun o => bnd (mapF ok f r) fun ys => ret (o.toList ++ ys)) st P E
    rw [wp_bnd, wp_chk]
    refine ⟨hok, ?_⟩
    rw [wp_bnd]
    refine wp_imp (hf x (List.mem_cons_self ..)) fun o s q => ?_
    obtain ⟨rfl, rfl⟩ := q
    rw [wp_bnd]
    exact wp_mapF_pure (P := fun ys s => P ((some (g x)).toList ++ ys) s) hok (fun y hy => hf y (List.mem_cons_of_mem _ hy)) h
theorem wp_mapF_pot {f : Val → M (Option Val)} {R : Val → Val → Prop} {E : XP} {st0 : Sto} {r d : Nat} : ∀ {xs : List Val} {st : Sto} {B : Nat} {P : List Val → Sto → Prop},
    (∀ x ∈ xs, ∀ s b, Grow r st0 s → Pot s r (b + d) → wp (f x) s (fun o s' => ∃ y, o = some y ∧ R x y ∧ Grow r st0 s' ∧ Pot s' r b) E) → Grow r st0 st → Pot st r (B + xs.length * d) →
    (∀ (ys : List Val) (s : Sto), ys.length = xs.length → (∀ (i : Nat) (x y : Val), xs[i]? = some x → ys[i]? = some y → R x y) → Grow r st0 s → Pot s r B → P ys s) → wp (mapF (fun _ => True) f xs) st P E
  | [], st, B, P, _, g, hp, h => by
    show wp (bnd (chk _) fun _ => ret []) st P E
    rw [wp_bnd, wp_chk]
    exact ⟨trivial, h [] st rfl (fun i x y e => by simp at e) g (by simpa using hp)⟩
  | x :: l, st, B, P, hf, g, hp, h => by
    show wp (bnd (chk _) fun _ => bnd (f x) fun o => bnd (mapF _ f l) fun ys => ret (o.toList ++ ys)) st P E
    rw [wp_bnd, wp_chk]
    refine ⟨trivial, ?_⟩
    rw [wp_bnd]
    refine wp_imp (hf x (List.mem_cons_self ..) st (B + l.length * d) g (hp.le (by rw [List.length_cons, Nat.add_mul]; omega))) fun o s q => ?_
    obtain ⟨y, rfl, hy, g', hp'⟩ := q
    rw [wp_bnd]
    refine wp_mapF_pot (fun z hz => hf z (List.mem_cons_of_mem _ hz)) g' hp' fun ys s hl hr g2 hp2 => ?_
    refine h (y :: ys) s (by simp [hl]) (fun i a b e1 e2 => ?_) g2 hp2
    cases i with
    | zero => simp at e1 e2; rw [← e1, ← e2]; exact hy
    | succ i => exact hr i a b (by simpa using e1) (by simpa using e2)
theorem boolsV_map : ∀ bs : List Bool, boolsV (bs.map Val.bl) = some bs
  | [] => rfl
  | b :: r => by show (boolsV (r.map Val.bl)).map (b :: ·) = _; rw [boolsV_map r]; rfl
theorem intsV_map : ∀ bs : List Int, intsV (bs.map Val.int) = some bs
  | [] => rfl
  | b :: r => by show (intsV (r.map Val.int)).map (b :: ·) = _; rw [intsV_map r]; rfl
abbrev tupI (l : List Int) : Val := .tup (l.map Val.int)
theorem tupI_closed {n : Nat} {l : List Int} : Closed n (tupI l) := .tup fun v hv => by
  obtain ⟨i, _, rfl⟩ := List.mem_map.mp hv
  exact .int
/-! ### equality -/
theorem datum_bl {st : Sto} {b : Bool} : ∀ n, datum st n (.bl b) = some (.bool b)
  | 0 => rfl
  | n + 1 => datum_bl n
theorem datum_int {st : Sto} {b : Int} : ∀ n, datum st n (.int b) = some (.int b)
  | 0 => rfl
  | n + 1 => datum_int n
theorem datum_str {st : Sto} {b : Str} : ∀ n, datum st n (.str b) = some (.str b)
  | 0 => rfl
  | n + 1 => datum_str n
theorem datum_non {st : Sto} : ∀ n, datum st n .non = some .none
  | 0 => rfl
  | n + 1 => datum_non n
theorem mapM_ints {st : Sto} {n : Nat} : ∀ l : List Int, (l.map Val.int).mapM (datum st n) = some (l.map PyData.int)
  | [] => rfl
  | i :: r => by
    rw [List.map_cons, List.mapM_cons, datum_int, mapM_ints r]
    rfl
theorem datum_tupI {st : Sto} {n : Nat} {l : List Int} : datum st (n + 1) (tupI l) = some (.tuple (l.map PyData.int)) := by
  show ((l.map Val.int).mapM (datum st n)).map PyData.tuple = _
  rw [mapM_ints]
  rfl
theorem eqvAll_ints : ∀ a b : List Int, PyData.eqvAll (a.map PyData.int) (b.map PyData.int) = decide (a = b)
  | [], [] => rfl
  | [], _ :: _ => rfl
  | _ :: _, [] => rfl
  | x :: a, y :: b => by
    simp only [List.map_cons, PyData.eqvAll, PyData.eqv, eqvAll_ints a b]
    by_cases h : x = y
    · subst h; simp
    · simp [h]
theorem eqVal_bl {x y : Bool} : eqVal (.bl x) (.bl y) = ret (x == y) := by
  funext st
  show (match datum st 60 (.bl x), datum st 60 (.bl y) with
    | some d, some e => Res.ok (PyData.eqv d e) st
    | _, _ => .bad) = _
  rw [datum_bl, datum_bl]
  rfl
theorem eqVal_int {x y : Int} : eqVal (.int x) (.int y) = ret (decide (x = y)) := by
  funext st
  show (match datum st 60 (.int x), datum st 60 (.int y) with
    | some d, some e => Res.ok (PyData.eqv d e) st
    | _, _ => .bad) = _
  rw [datum_int, datum_int]
  show Res.ok (x == y) st = Res.ok (decide (x = y)) st
  rw [Bool.beq_eq_decide_eq]
theorem eqVal_tupI {x y : List Int} : eqVal (tupI x) (tupI y) = ret (decide (x = y)) := by
  funext st
  cases y with
  | nil =>
    show Res.ok (x.map Val.int).isEmpty st = Res.ok (decide (x = [])) st
    cases x <;> simp
  | cons j y =>
    show (match datum st 60 (tupI x), datum st 60 (tupI (j :: y)) with
      | some d, some e => Res.ok (PyData.eqv d e) st
      | _, _ => .bad) = _
    rw [datum_tupI, datum_tupI]
    show Res.ok (PyData.eqvAll (x.map PyData.int) ((j :: y).map PyData.int)) st = Res.ok (decide (x = j :: y)) st
    rw [eqvAll_ints]
theorem atI_nat {l : List Val} {k : Nat} : L2.atI l (k : Int) = l[k]? := by
  unfold L2.atI L2.ixN
  by_cases h : k < l.length
  · simp [h]
  · simp [h]
/-- ints, each -/
theorem ints_of {Q : Int → Prop} : ∀ {ys : List Val}, (∀ y ∈ ys, ∃ j : Int, y = .int j ∧ Q j) → ∃ l : List Int, ys = l.map Val.int ∧ ∀ j ∈ l, Q j
  | [], _ => ⟨[], rfl, fun _ h => nomatch h⟩
  | y :: r, h => by
    obtain ⟨j, e, q⟩ := h y (List.mem_cons_self ..)
    obtain ⟨l, e2, q2⟩ := ints_of fun z hz => h z (List.mem_cons_of_mem _ hz)
    exact ⟨j :: l, by rw [e, e2]; rfl, fun i hi => by
      rcases List.mem_cons.mp hi with z | z
      · rw [z]; exact q
      · exact q2 i z⟩
theorem rel_mem {R : Val → Val → Prop} {xs ys : List Val} (hl : ys.length = xs.length) (h : ∀ (i : Nat) (x y : Val), xs[i]? = some x → ys[i]? = some y → R x y) : ∀ y ∈ ys, ∃ x ∈ xs, R x y := fun y hy => by
  obtain ⟨i, hi, e⟩ := List.mem_iff_getElem.mp hy
  have hi' : i < xs.length := by omega
  exact ⟨xs[i], List.getElem_mem hi', h i _ y (List.getElem?_eq_getElem hi') (by rw [List.getElem?_eq_getElem hi, e])⟩
theorem rel_ints {xs ys : List Val} (hl : ys.length = xs.length) (h : ∀ (i : Nat) (x y : Val), xs[i]? = some x → ys[i]? = some y → ∃ j : Int, y = .int j) : ∃ l : List Int, ys = l.map Val.int ∧ l.length = xs.length := by
  obtain ⟨l, e, _⟩ := ints_of (Q := fun _ => True) (ys := ys) fun y hy => by
    obtain ⟨x, _, j, q⟩ := rel_mem (R := fun _ y => ∃ j : Int, y = .int j) hl h y hy
    exact ⟨j, q, trivial⟩
  exact ⟨l, e, by rw [← hl, e, List.length_map]⟩
theorem rangeV_length {a : Int} {n : Nat} : (rangeV a n).length = n := by unfold rangeV; simp
end Mg

namespace Mg.L
open PySem PySem.Spec PyProof.Rows L2 Mg
def topS (i : Nat) : Stmt := PySem.Challenge.pw_mistgrid_k08_beneath.main.body.getD i (.Pass ⟨0, 0, 0, 0⟩)
def if_beneath : Sms :=
  (.cons (.ret (.bL .all (.comp (.cmp .le (.var 2) (.var 3)) (.t2 (.nm 2) (.nm 3)) (.zip2 (.of (.var 0)) (.of (.var 1))) .none [("low", 2), ("high", 3)])))
  .nil)
def f_beneath : Def := ⟨"beneath", "beneath", topS 1, ⟨["one", "other"], ["one", "other", "low", "high"], if_beneath⟩⟩
def if_law_pot : Sms :=
  (.cons (.ret (.alloc (.dis (.cons (.b2 .max (.int 0) (.bin .sub (.var 0) (.bin .pow (.int 10) (.int 18)))) (.cons (.bin .mod (.bin .add (.bin .mul (.var 0) (.bin .pow (.int 4256233) (.int 5))) (.int 141421356237309504880)) (.bin .add (.bin .pow (.int 10) (.int 52)) (.int 21))) (.cons (.int 0) .nil))))))
  .nil)
def f_law_pot : Def := ⟨"_law_pot", "_law_pot", topS 3, ⟨["cell"], ["cell"], if_law_pot⟩⟩
def if_law_take : Sms :=
  (.cons (.ifs (.cmp .gt (.ix (.var 0) (.int 0)) (.int 1)) (.cons (.set (.nm 2) (.bin .mod (.ix (.var 0) (.int 0)) (.var 1)))
  (.cons (.setIx (.var 0) (.int 0) (.bin .fdiv (.ix (.var 0) (.int 0)) (.var 1)))
  (.cons (.ret (.var 2))
  .nil))) .nil)
  (.cons (.setIx (.var 0) (.int 2) (.bin .add (.ix (.var 0) (.int 2)) (.int 1)))
  (.cons (.setIx (.var 0) (.int 1) (.bin .mod (.bin .add (.bin .mul (.ix (.var 0) (.int 1)) (.ix (.var 0) (.int 1))) (.bin .mul (.ix (.var 0) (.int 2)) (.bin .pow (.int 49979687) (.int 5)))) (.bin .add (.bin .pow (.int 10) (.int 52)) (.int 21))))
  (.cons (.ret (.bin .mod (.bin .fdiv (.ix (.var 0) (.int 1)) (.int 524287)) (.var 1)))
  .nil))))
def f_law_take : Def := ⟨"_law_take", "_law_take", topS 4, ⟨["pot", "many"], ["pot", "many", "found"], if_law_take⟩⟩
def if_law_due : Sms :=
  (.cons (.for_ (.nm 2) (.r1 (.b1 .len (.var 0))) (.cons (.ifs (.cmp .gt (.ix (.var 0) (.var 2)) (.ix (.var 1) (.var 2))) (.cons (.ret (.bl false))
  .nil) .nil)
  .nil))
  (.cons (.ret (.bl true))
  .nil))
def f_law_due : Def := ⟨"_law_due", "_law_due", topS 5, ⟨["first", "second"], ["first", "second", "k"], if_law_due⟩⟩
def if_law_right : Sms :=
  (.cons (.set (.nm 1) (.bin .add (.int 1) (.call "_law_take" (.cons (.var 0) (.cons (.int 4) .nil)))))
  (.cons (.set (.nm 2) (.bL .tuple (.comp (.call "_law_take" (.cons (.var 0) (.cons (.int 8) .nil))) (.nm 10) (.r1 (.var 1)) .none [("k", 10)])))
  (.cons (.set (.nm 3) (.var 2))
  (.cons (.set (.nm 4) (.call "_law_take" (.cons (.var 0) (.cons (.int 4) .nil))))
  (.cons (.ifs (.cmp .eq (.var 4) (.int 1)) (.cons (.set (.nm 3) (.bL .tuple (.comp (.call "_law_take" (.cons (.var 0) (.cons (.int 8) .nil))) (.nm 10) (.r1 (.var 1)) .none [("k", 10)])))
  .nil) .nil)
  (.cons (.ifs (.cmp .gt (.var 4) (.int 1)) (.cons (.set (.nm 3) (.bL .tuple (.comp (.bin .sub (.bin .add (.var 11) (.bin .mul (.call "_law_take" (.cons (.var 0) (.cons (.int 2) .nil))) (.call "_law_take" (.cons (.var 0) (.cons (.int 2) .nil))))) (.call "_law_take" (.cons (.var 0) (.cons (.bin .sub (.var 4) (.int 1)) .nil)))) (.nm 11) (.l (.of (.var 2))) .none [("level", 11)])))
  (.cons (.set (.nm 3) (.bL .tuple (.comp (.b2 .min (.int 7) (.b2 .max (.int 0) (.var 11))) (.nm 11) (.l (.of (.var 3))) .none [("level", 11)])))
  .nil)) .nil)
  (.cons (.set (.nm 5) (.bL .tuple (.comp (.b2 .min (.int 7) (.bin .add (.var 11) (.call "_law_take" (.cons (.var 0) (.cons (.int 3) .nil))))) (.nm 11) (.l (.of (.var 3))) .none [("level", 11)])))
  (.cons (.set (.nm 6) (.alloc (.dis (.cons (.tup (.cons (.var 2) (.cons (.var 3) .nil))) (.cons (.tup (.cons (.var 3) (.cons (.var 2) .nil))) (.cons (.tup (.cons (.var 2) (.cons (.var 2) .nil))) (.cons (.tup (.cons (.var 3) (.cons (.var 5) .nil))) (.cons (.tup (.cons (.var 2) (.cons (.var 5) .nil))) (.cons (.tup (.cons (.var 5) (.cons (.var 2) .nil))) .nil)))))))))
  (.cons (.for_ (.t2 (.nm 7) (.nm 8)) (.l (.of (.var 6))) (.cons (.for_ (.nm 9) (.l (.dis (.cons (.call "beneath" (.cons (.var 7) (.cons (.var 8) .nil))) (.cons (.callK "beneath" .nil ["other", "one"] (.cons (.var 8) (.cons (.var 7) .nil)) [1, 0]) .nil)))) (.cons (.ifs (.or (.not (.isi (.var 9) [.bool])) (.cmp .ne (.var 9) (.call "_law_due" (.cons (.var 7) (.cons (.var 8) .nil))))) (.cons (.ret (.bl false))
  .nil) .nil)
  .nil))
  .nil))
  (.cons (.ret (.or (.not (.and (.call "beneath" (.cons (.var 2) (.cons (.var 3) .nil))) (.call "beneath" (.cons (.var 3) (.cons (.var 2) .nil))))) (.cmp .eq (.var 2) (.var 3))))
  .nil))))))))))
def f_law_right : Def := ⟨"_law_right", "_law_right", topS 6, ⟨["pot"], ["pot", "many", "first", "second", "way", "third", "pairs", "low", "high", "found", "k", "level"], if_law_right⟩⟩
def if_law : Sms :=
  (.cons (.for_ (.nm 1) (.l (.sl (.cat (.of (.var 0)) (.dis (.cons (.int 0) .nil))) .none (.some (.b2 .max (.int 1) (.b2 .min (.b1 .len (.var 0)) (.int 40)))))) (.cons (.ifs (.not (.call "_law_right" (.cons (.call "_law_pot" (.cons (.var 1) .nil)) .nil))) (.cons (.ret (.bl false))
  .nil) .nil)
  .nil))
  (.cons (.ret (.bl true))
  .nil))
def f_law : Def := ⟨"law", "law", topS 7, ⟨["script"], ["script", "cell"], if_law⟩⟩
def defs : List Def := [f_beneath, f_law_pot, f_law_take, f_law_due, f_law_right, f_law]
def tab : Tab := ⟨[], defs.map fun d => (d.name, d.fn.ps.length), [("beneath", 0, ["other", "one"], [1, 0])]⟩
theorem chk_all : defs.all (chkDef tab) = true := by decide +kernel
theorem names_nodup : (defs.map (·.name)).Nodup := by decide +kernel
section
variable {K : PySem.W.Frag} {h : Heap} {mg : Str → Option Value}
theorem bind_f_beneath : ∀ (kV doc pm : Value) (an : Option Addr) (cdv ct : Value) (us : List Value), us.length = f_beneath.fn.ps.length → bindArgs (PySem.W.fnOf f_beneath.name f_beneath.qual (defArgs f_beneath.st) (defBody f_beneath.st) (defScope f_beneath.st) .none kV doc pm an cdv ct) ⟨us, []⟩ = pure (f_beneath.fn.ps.zip us) := fun _ _ _ _ _ _ us hl => match us, hl with | [_, _], _ => rfl
theorem bind__law_pot : ∀ (kV doc pm : Value) (an : Option Addr) (cdv ct : Value) (us : List Value), us.length = f_law_pot.fn.ps.length → bindArgs (PySem.W.fnOf f_law_pot.name f_law_pot.qual (defArgs f_law_pot.st) (defBody f_law_pot.st) (defScope f_law_pot.st) .none kV doc pm an cdv ct) ⟨us, []⟩ = pure (f_law_pot.fn.ps.zip us) := fun _ _ _ _ _ _ us hl => match us, hl with | [_], _ => rfl
theorem bind__law_take : ∀ (kV doc pm : Value) (an : Option Addr) (cdv ct : Value) (us : List Value), us.length = f_law_take.fn.ps.length → bindArgs (PySem.W.fnOf f_law_take.name f_law_take.qual (defArgs f_law_take.st) (defBody f_law_take.st) (defScope f_law_take.st) .none kV doc pm an cdv ct) ⟨us, []⟩ = pure (f_law_take.fn.ps.zip us) := fun _ _ _ _ _ _ us hl => match us, hl with | [_, _], _ => rfl
theorem bind__law_due : ∀ (kV doc pm : Value) (an : Option Addr) (cdv ct : Value) (us : List Value), us.length = f_law_due.fn.ps.length → bindArgs (PySem.W.fnOf f_law_due.name f_law_due.qual (defArgs f_law_due.st) (defBody f_law_due.st) (defScope f_law_due.st) .none kV doc pm an cdv ct) ⟨us, []⟩ = pure (f_law_due.fn.ps.zip us) := fun _ _ _ _ _ _ us hl => match us, hl with | [_, _], _ => rfl
theorem bind__law_right : ∀ (kV doc pm : Value) (an : Option Addr) (cdv ct : Value) (us : List Value), us.length = f_law_right.fn.ps.length → bindArgs (PySem.W.fnOf f_law_right.name f_law_right.qual (defArgs f_law_right.st) (defBody f_law_right.st) (defScope f_law_right.st) .none kV doc pm an cdv ct) ⟨us, []⟩ = pure (f_law_right.fn.ps.zip us) := fun _ _ _ _ _ _ us hl => match us, hl with | [_], _ => rfl
theorem bind_f_law : ∀ (kV doc pm : Value) (an : Option Addr) (cdv ct : Value) (us : List Value), us.length = f_law.fn.ps.length → bindArgs (PySem.W.fnOf f_law.name f_law.qual (defArgs f_law.st) (defBody f_law.st) (defScope f_law.st) .none kV doc pm an cdv ct) ⟨us, []⟩ = pure (f_law.fn.ps.zip us) := fun _ _ _ _ _ _ us hl => match us, hl with | [_], _ => rfl
theorem kw_0 {fa : Addr} {fd : FuncData} (D : DefOk K mg f_beneath fa fd) : KBn K fd f_beneath.fn.ps 0 ["other", "one"] (fun us ws => pick [1, 0] (us ++ ws)) fun vs zs => pick [1, 0] (vs ++ zs) := Mg.Fun.kbn D.F (fun kV doc pm an cdv ct us ws h1 h2 => match us, ws, h1, h2 with | [], [w0, w1], _, _ => rfl) (fun r rz => vals_pick (r.append rz) [1, 0])
set_option maxHeartbeats 0 in
theorem text_mk (X : K.In h) (G : h.Ns mainGlobals mg)
    {f0 : Addr} {oc0 : Value} {od0 an0 : Option Addr} {sl0 : Array (Option Value)} {kV0 dc0 pm0 cd0 ct0 : Value} (a0 : PySem.W.nsIn K mainGlobals "beneath" = some (some (.ref f0)))
    (l0 : K.lookup f0 = some ⟨oc0, od0, .func (PySem.W.fnOf "beneath" "beneath" (defArgs (topS 1)) (defBody (topS 1)) (defScope (topS 1)) .none kV0 dc0 pm0 an0 cd0 ct0), sl0⟩) (c0 : PySem.W.codeIn K cd0 "beneath" = true) (k0 : PySem.W.keepIn K (.ref f0) = true)
    {f1 : Addr} {oc1 : Value} {od1 an1 : Option Addr} {sl1 : Array (Option Value)} {kV1 dc1 pm1 cd1 ct1 : Value} (a1 : PySem.W.nsIn K mainGlobals "_law_pot" = some (some (.ref f1)))
    (l1 : K.lookup f1 = some ⟨oc1, od1, .func (PySem.W.fnOf "_law_pot" "_law_pot" (defArgs (topS 3)) (defBody (topS 3)) (defScope (topS 3)) .none kV1 dc1 pm1 an1 cd1 ct1), sl1⟩) (c1 : PySem.W.codeIn K cd1 "_law_pot" = true) (k1 : PySem.W.keepIn K (.ref f1) = true)
    {f2 : Addr} {oc2 : Value} {od2 an2 : Option Addr} {sl2 : Array (Option Value)} {kV2 dc2 pm2 cd2 ct2 : Value} (a2 : PySem.W.nsIn K mainGlobals "_law_take" = some (some (.ref f2)))
    (l2 : K.lookup f2 = some ⟨oc2, od2, .func (PySem.W.fnOf "_law_take" "_law_take" (defArgs (topS 4)) (defBody (topS 4)) (defScope (topS 4)) .none kV2 dc2 pm2 an2 cd2 ct2), sl2⟩) (c2 : PySem.W.codeIn K cd2 "_law_take" = true) (k2 : PySem.W.keepIn K (.ref f2) = true)
    {f3 : Addr} {oc3 : Value} {od3 an3 : Option Addr} {sl3 : Array (Option Value)} {kV3 dc3 pm3 cd3 ct3 : Value} (a3 : PySem.W.nsIn K mainGlobals "_law_due" = some (some (.ref f3)))
    (l3 : K.lookup f3 = some ⟨oc3, od3, .func (PySem.W.fnOf "_law_due" "_law_due" (defArgs (topS 5)) (defBody (topS 5)) (defScope (topS 5)) .none kV3 dc3 pm3 an3 cd3 ct3), sl3⟩) (c3 : PySem.W.codeIn K cd3 "_law_due" = true) (k3 : PySem.W.keepIn K (.ref f3) = true)
    {f4 : Addr} {oc4 : Value} {od4 an4 : Option Addr} {sl4 : Array (Option Value)} {kV4 dc4 pm4 cd4 ct4 : Value} (a4 : PySem.W.nsIn K mainGlobals "_law_right" = some (some (.ref f4)))
    (l4 : K.lookup f4 = some ⟨oc4, od4, .func (PySem.W.fnOf "_law_right" "_law_right" (defArgs (topS 6)) (defBody (topS 6)) (defScope (topS 6)) .none kV4 dc4 pm4 an4 cd4 ct4), sl4⟩) (c4 : PySem.W.codeIn K cd4 "_law_right" = true) (k4 : PySem.W.keepIn K (.ref f4) = true)
    {f5 : Addr} {oc5 : Value} {od5 an5 : Option Addr} {sl5 : Array (Option Value)} {kV5 dc5 pm5 cd5 ct5 : Value} (a5 : PySem.W.nsIn K mainGlobals "law" = some (some (.ref f5)))
    (l5 : K.lookup f5 = some ⟨oc5, od5, .func (PySem.W.fnOf "law" "law" (defArgs (topS 7)) (defBody (topS 7)) (defScope (topS 7)) .none kV5 dc5 pm5 an5 cd5 ct5), sl5⟩) (c5 : PySem.W.codeIn K cd5 "law" = true) (k5 : PySem.W.keepIn K (.ref f5) = true)
    (z0 : PySem.W.nsIn K mainGlobals "len" = some none)
    (z1 : PySem.W.nsIn K mainGlobals "max" = some none)
    (z2 : PySem.W.nsIn K mainGlobals "min" = some none)
    (z3 : PySem.W.nsIn K mainGlobals "tuple" = some none)
    (z4 : PySem.W.nsIn K mainGlobals "range" = some none)
    (z5 : PySem.W.nsIn K mainGlobals "isinstance" = some none)
    (z6 : PySem.W.nsIn K mainGlobals "zip" = some none)
    (z7 : PySem.W.nsIn K mainGlobals "all" = some none)
    (z8 : PySem.W.nsIn K mainGlobals "any" = some none)
    (z9 : PySem.W.nsIn K mainGlobals "sum" = some none)
    (z10 : PySem.W.nsIn K mainGlobals "list" = some none)
    (z11 : PySem.W.nsIn K mainGlobals "enumerate" = some none)
    (z12 : PySem.W.nsIn K mainGlobals "int" = some none)
    (z13 : PySem.W.nsIn K mainGlobals "str" = some none)
    (z14 : PySem.W.nsIn K mainGlobals "abs" = some none)
    (z15 : PySem.W.nsIn K mainGlobals "dict" = some none)
    (z16 : PySem.W.nsIn K mainGlobals "bool" = some none)
    (z17 : PySem.W.nsIn K mainGlobals "sorted" = some none)
    (z18 : PySem.W.nsIn K mainGlobals "set" = some none) :
    Text K mg (fun _ => none) tab (look defs) defs := by
  refine text_of X G chk_all names_nodup (fun d hd => ?_) ?_ ?_ ?_
  · simp only [defs, List.mem_cons, List.not_mem_nil, or_false] at hd
    rcases hd with rfl | rfl | rfl | rfl | rfl | rfl
    · exact def_mk X G f_beneath a0 l0 c0 k0 bind_f_beneath
    · exact def_mk X G f_law_pot a1 l1 c1 k1 bind__law_pot
    · exact def_mk X G f_law_take a2 l2 c2 k2 bind__law_take
    · exact def_mk X G f_law_due a3 l3 c3 k3 bind__law_due
    · exact def_mk X G f_law_right a4 l4 c4 k4 bind__law_right
    · exact def_mk X G f_law a5 l5 c5 k5 bind_f_law
  · intro f mm ks p hk
    simp only [tab, List.mem_cons, List.not_mem_nil, or_false, Prod.mk.injEq] at hk
    rcases hk with ⟨rfl, rfl, rfl, rfl⟩
    · exact ⟨f_beneath, by simp [defs], rfl, rfl, fun fa fd D => kw_0 D⟩
  · intro x c hx
    exact absurd hx (by simp [tab])
  · intro x hx
    simp only [List.mem_cons, List.not_mem_nil, or_false] at hx
    rcases hx with rfl | rfl | rfl | rfl | rfl | rfl | rfl | rfl | rfl | rfl | rfl | rfl | rfl | rfl | rfl | rfl | rfl | rfl | rfl
    · exact PySem.W.mg_none_of X G z0
    · exact PySem.W.mg_none_of X G z1
    · exact PySem.W.mg_none_of X G z2
    · exact PySem.W.mg_none_of X G z3
    · exact PySem.W.mg_none_of X G z4
    · exact PySem.W.mg_none_of X G z5
    · exact PySem.W.mg_none_of X G z6
    · exact PySem.W.mg_none_of X G z7
    · exact PySem.W.mg_none_of X G z8
    · exact PySem.W.mg_none_of X G z9
    · exact PySem.W.mg_none_of X G z10
    · exact PySem.W.mg_none_of X G z11
    · exact PySem.W.mg_none_of X G z12
    · exact PySem.W.mg_none_of X G z13
    · exact PySem.W.mg_none_of X G z14
    · exact PySem.W.mg_none_of X G z15
    · exact PySem.W.mg_none_of X G z16
    · exact PySem.W.mg_none_of X G z17
    · exact PySem.W.mg_none_of X G z18
end
section
abbrev T := look defs
theorem T_take : T "_law_take" = some takeFn := tbl_of names_nodup f_law_take (by simp [defs])
theorem T_pot : T "_law_pot" = some potFn := tbl_of names_nodup f_law_pot (by simp [defs])
theorem T_beneath : T "beneath" = some f_beneath.fn := tbl_of names_nodup f_beneath (by simp [defs])
theorem T_due : T "_law_due" = some f_law_due.fn := tbl_of names_nodup f_law_due (by simp [defs])
theorem T_right : T "_law_right" = some f_law_right.fn := tbl_of names_nodup f_law_right (by simp [defs])
theorem T_law : T "law" = some f_law.fn := tbl_of names_nodup f_law (by simp [defs])
def le (a b : List Int) : Bool := (List.zipWith (fun x y => decide (x ≤ y)) a b).all id
theorem le_iff {a b : List Int} : le a b = true ↔ ∀ (j : Nat) (x y : Int), a[j]? = some x → b[j]? = some y → x ≤ y := by
  unfold le
  rw [List.all_eq_true]
  constructor
  · intro h j x y h1 h2
    have := h (decide (x ≤ y)) (List.mem_of_getElem? (i := j) (by rw [List.getElem?_zipWith, h1, h2]))
    simpa using this
  · intro h z hz
    obtain ⟨j, hj, e⟩ := List.mem_iff_getElem.mp hz
    have e' : (List.zipWith (fun x y => decide (x ≤ y)) a b)[j]? = some z := by rw [List.getElem?_eq_getElem hj, e]
    rw [List.getElem?_zipWith] at e'
    cases h1 : a[j]? with
    | none => rw [h1] at e'; simp at e'
    | some x =>
      cases h2 : b[j]? with
      | none => rw [h1, h2] at e'; simp at e'
      | some y =>
        rw [h1, h2] at e'
        have q := h j x y h1 h2
        simp at e'
        rw [← e']
        simpa using q
theorem zip_mem {a b : List Int} {x : Val} (h : x ∈ zip2V (a.map Val.int) (b.map Val.int)) : ∃ i j : Int, x = .tup [.int i, .int j] := by
  unfold zip2V at h
  obtain ⟨n, hn, e⟩ := List.mem_iff_getElem.mp h
  rw [List.getElem_zipWith] at e
  simp at e
  exact ⟨_, _, e.symm⟩
theorem zip_map {a b : List Int} : (zip2V (a.map Val.int) (b.map Val.int)).map (fun x => match x with
    | .tup [.int i, .int j] => Val.bl (decide (i ≤ j))
    | _ => .non) = (List.zipWith (fun x y => decide (x ≤ y)) a b).map Val.bl := by
  unfold zip2V
  induction a generalizing b with
  | nil => rfl
  | cons x a ih => cases b with
    | nil => rfl
    | cons y b => simp only [List.map_cons, List.zipWith_cons_cons, List.map]; rw [ih]
theorem beneath_ok {k : Nat} {st : Sto} (a b : List Int) : wp (callF T (k + 1) "beneath" [tupI a, tupI b]) st (fun v s => v = .bl (le a b) ∧ s = st) fun _ _ => False := by
  refine wp_callF T_beneath rfl ?_
  show wp (execs (callF T k) if_beneath [some (tupI a), some (tupI b), none, none]) st _ _
  unfold if_beneath
  rw [wp_cons]
  simp only [exec, ev, evL, evS, ofV, wp_bnd, wp_lft, wp_ret, wp_chk, LV.there, true_and, zipI, List.getElem?_cons_zero, List.getElem?_cons_succ, wp_quiet]
  refine wp_mapF_pure (ok := fun _ => True) (g := fun x => match x with | .tup [.int i, .int j] => .bl (decide (i ≤ j)) | _ => .non) trivial (fun x hx => ?_) ?_
  · obtain ⟨i, j, rfl⟩ := zip_mem hx
    simp only [asTg, wp_bnd, wp_ret, ev, wipeE, List.map, List.set_cons_zero, List.set_cons_succ, List.getElem?_cons_zero, List.getElem?_cons_succ, compare, leV]
    simp
  · rw [zip_map]
    simp only [opLV, opL, LV.xs, boolsV_map, wp_ret]
    have e := sweep_same (st := st) (tl := []) (v := .bl (le a b)) .bl
    rw [List.append_nil] at e
    show (match sweep st (.bl (le a b)) st with | .ok v s => v = .bl (le a b) ∧ s = st | _ => False)
    rw [e]
    simp
theorem due_ok {k : Nat} {st : Sto} (a b : List Int) (hl : a.length = b.length) (hs : a.length ≤ 1000) : wp (callF T (k + 1) "_law_due" [tupI a, tupI b]) st (fun v s => v = .bl (le a b) ∧ s = st) fun _ _ => False := by
  refine wp_callF T_due rfl ?_
  show wp (execs (callF T k) if_law_due [some (tupI a), some (tupI b), none]) st _ _
  unfold if_law_due
  have e0 : ∀ b : Bool, sweep st (.bl b) st = .ok (.bl b) st := fun b => by
    have e := sweep_same (st := st) (tl := []) (v := .bl b) .bl
    rw [List.append_nil] at e
    exact e
  rw [wp_cons]
  simp only [exec, ev, evS, wp_bnd, wp_lft, wp_ret, List.getElem?_cons_zero, List.getElem?_cons_succ, op1, List.length_map, asInt, wp_if_fail]
  refine ⟨by omega, ?_⟩
  refine wp_forF (fun i ρ s => s = st ∧ (∃ o, ρ = [some (tupI a), some (tupI b), o]) ∧ ∀ (j : Nat) (x y : Int), j < i → a[j]? = some x → b[j]? = some y → x ≤ y) ?_ (fun _ _ _ _ _ => trivial) ?_ ?_
  · exact ⟨rfl, ⟨none, rfl⟩, fun j x y h => absurd h (by omega)⟩
  · rintro i x ρ s hx ⟨rfl, ⟨o, rfl⟩, hj⟩
    have hi : i < a.length := by
      unfold rangeV at hx
      by_cases z : i < a.length
      · exact z
      · rw [List.getElem?_eq_none (by simp; omega)] at hx; cases hx
    have ex : x = .int i := by
      unfold rangeV at hx
      rw [List.getElem?_map, List.getElem?_range (by simpa using hi)] at hx
      simp at hx
      exact hx.symm
    subst ex
    have hi2 : i < b.length := by omega
    have ga : L2.atI (a.map Val.int) (i : Int) = some (.int a[i]) := by rw [atI_nat]; simp [hi]
    have gb : L2.atI (b.map Val.int) (i : Int) = some (.int b[i]) := by rw [atI_nat]; simp [hi2]
    simp only [asTg, wp_bnd, wp_ret, List.set_cons_zero, List.set_cons_succ]
    rw [wp_cons]
    simp only [exec, ev, wp_bnd, wp_lft, wp_ret, List.getElem?_cons_zero, List.getElem?_cons_succ, opIx, idx, ga, gb, compare, gtV, asBl]
    by_cases c : b[i] < a[i]
    · simp only [c, decide_true, if_true]
      rw [wp_cons]
      simp only [exec, ev, wp_lft, wp_ret]
      have : le a b = false := by
        cases z : le a b with
        | false => rfl
        | true =>
          have := le_iff.mp z i a[i] b[i] (by simp [hi]) (by simp [hi2])
          omega
      rw [e0, this]
      simp
    · simp only [c, decide_false]
      rw [if_neg (by decide), wp_nil]
      dsimp only
      rw [wp_nil]
      refine ⟨rfl, ⟨_, rfl⟩, fun j x y h1 h2 h3 => ?_⟩
      by_cases z : j = i
      · subst z
        rw [List.getElem?_eq_getElem hi] at h2
        rw [List.getElem?_eq_getElem hi2] at h3
        injection h2 with h2
        injection h3 with h3
        omega
      · exact hj j x y (by omega) h2 h3
  · rintro ρ s ⟨rfl, ⟨o, rfl⟩, hj⟩
    dsimp only
    rw [wp_cons]
    simp only [exec, ev, wp_lft, wp_ret]
    have : le a b = true := le_iff.mpr fun j x y h1 h2 => hj j x y (by
      unfold rangeV
      simp
      by_cases z : j < a.length
      · exact z
      · rw [List.getElem?_eq_none (by omega)] at h1; cases h1) h1 h2
    rw [e0, this]
    simp
theorem right_ok {k : Nat} {st : Sto} {r : Nat} (hp : Pot st r 1000) : wp (callF T (k + 2) "_law_right" [.ref r]) st (fun v _ => v = .bl true) fun _ _ => False := by
  have hr := hp.lt
  refine wp_callF T_right rfl ?_
  show wp (execs (callF T (k + 1)) if_law_right [some (.ref r), none, none, none, none, none, none, none, none, none, none, none]) st _ _
  unfold if_law_right
  rw [wp_cons]
  simp only [exec, ev, evs, wp_bnd, wp_lft, wp_ret, List.getElem?_cons_zero, binop]
  refine wp_call (take_ok (B := 999) T_take hp (by decide) (by decide)) ?_
  rintro v s1 ⟨j1, rfl, a1, a2, g1, p1⟩
  have G1 : Grow r st s1 := (Grow.refl hp).to hr g1
  simp only [addV, wp_ret, asTg, wp_bnd, List.set_cons_zero, List.set_cons_succ]
  -- first
  rw [wp_cons]
  simp only [exec, ev, evs, evL, evS, wp_bnd, wp_lft, wp_ret, List.getElem?_cons_zero, List.getElem?_cons_succ, asInt, wp_if_fail, wp_quiet]
  refine ⟨by omega, ?_⟩
  refine wp_mapF_pot (R := fun _ y => ∃ j : Int, y = .int j) (d := 1) (B := 900) (st0 := st) (r := r) (fun x hx s b g hp => ?_) G1 (p1.le (by rw [rangeV_length]; omega)) ?_
  · simp only [asTg, wipeE, List.map, wp_bnd, wp_ret, List.set_cons_zero, List.set_cons_succ, List.getElem?_cons_zero, List.getElem?_cons_succ]
    refine wp_call (take_ok T_take hp (by decide) (by decide)) ?_
    rintro v s2 ⟨j, rfl, b1, b2, g2, p2⟩
    exact ⟨_, rfl, ⟨j, rfl⟩, g.to hr g2, p2⟩
  intro ys s2 hlen hR G2 p2
  obtain ⟨first, rfl, hf⟩ := rel_ints hlen hR
  rw [rangeV_length] at hf
  have hf4 : first.length ≤ 4 := by omega
  simp only [opLV, opL, LV.xs, wp_ret, asTg, wp_bnd, List.set_cons_zero, List.set_cons_succ]
  -- second = first
  rw [wp_cons]
  simp only [exec, ev, wp_bnd, wp_lft, wp_ret, List.getElem?_cons_zero, List.getElem?_cons_succ, asTg, List.set_cons_zero, List.set_cons_succ]
  -- way
  rw [wp_cons]
  simp only [exec, ev, evs, wp_bnd, wp_lft, wp_ret, List.getElem?_cons_zero, List.getElem?_cons_succ]
  refine wp_call (take_ok (B := 899) T_take p2 (by decide) (by decide)) ?_
  rintro v s3 ⟨way, rfl, w1, w2, g3, p3⟩
  have G3 : Grow r st s3 := G2.to hr g3
  simp only [asTg, wp_bnd, wp_ret, List.set_cons_zero, List.set_cons_succ]
  -- if way == 1
  rw [wp_cons]
  refine wp_imp (P := fun o s => ∃ second : List Int, o = .nx [some (.ref r), some (.int (1 + j1)), some (tupI first), some (tupI second), some (.int way), none, none, none, none, none, none, none] ∧ second.length = first.length ∧ Grow r st s ∧ Pot s r 800) ?_ ?_
  · simp only [exec, ev, wp_bnd, wp_lft, wp_ret, List.getElem?_cons_zero, List.getElem?_cons_succ, compare, eqVal_int, asBl]
    by_cases c : way = 1
    · simp only [c, decide_true, if_true]
      rw [wp_cons]
      simp only [exec, ev, evs, evL, evS, wp_bnd, wp_lft, wp_ret, List.getElem?_cons_zero, List.getElem?_cons_succ, asInt, wp_if_fail, wp_quiet]
      refine ⟨by omega, ?_⟩
      refine wp_mapF_pot (R := fun _ y => ∃ j : Int, y = .int j) (d := 1) (B := 800) (st0 := st) (r := r) (fun x hx s b g hp => ?_) G3 (p3.le (by rw [rangeV_length]; omega)) ?_
      · simp only [asTg, wipeE, List.map, wp_bnd, wp_ret, List.set_cons_zero, List.set_cons_succ, List.getElem?_cons_zero, List.getElem?_cons_succ]
        refine wp_call (take_ok T_take hp (by decide) (by decide)) ?_
        rintro v s4 ⟨j, rfl, b1, b2, g4, p4⟩
        exact ⟨_, rfl, ⟨j, rfl⟩, g.to hr g4, p4⟩
      · intro ys s4 hlen hR G4 p4
        obtain ⟨second, rfl, hf2⟩ := rel_ints hlen hR
        rw [rangeV_length] at hf2
        simp only [opLV, opL, LV.xs, wp_ret, asTg, wp_bnd, List.set_cons_zero, List.set_cons_succ, wp_nil]
        exact ⟨second, rfl, by omega, G4, p4⟩
    · simp only [c, decide_false]
      rw [if_neg (by decide), wp_nil]
      exact ⟨first, rfl, rfl, G3, p3.le (by omega)⟩
  rintro o s4 ⟨second, rfl, hs, G4, p4⟩
  dsimp only
  -- if way > 1
  rw [wp_cons]
  refine wp_imp (P := fun o s => ∃ second : List Int, o = .nx [some (.ref r), some (.int (1 + j1)), some (tupI first), some (tupI second), some (.int way), none, none, none, none, none, none, none] ∧ second.length = first.length ∧ Grow r st s ∧ Pot s r 600) ?_ ?_
  · simp only [exec, ev, wp_bnd, wp_lft, wp_ret, List.getElem?_cons_zero, List.getElem?_cons_succ, compare, gtV, asBl]
    by_cases c : 1 < way
    · simp only [c, decide_true, if_true]
      rw [wp_cons]
      simp only [exec, ev, evs, evL, evS, ofV, LV.there, LV.xs, wp_bnd, wp_lft, wp_ret, List.getElem?_cons_zero, List.getElem?_cons_succ, wp_quiet]
      refine wp_mapF_pot (R := fun _ y => ∃ j : Int, y = .int j) (d := 3) (B := 700) (st0 := st) (r := r) (fun x hx s b g hp => ?_) G4 (p4.le (by rw [List.length_map]; omega)) ?_
      · obtain ⟨lv, _, rfl⟩ := List.mem_map.mp hx
        simp only [asTg, wipeE, List.map, wp_bnd, wp_ret, List.set_cons_zero, List.set_cons_succ, List.getElem?_cons_zero, List.getElem?_cons_succ, binop]
        refine wp_call (take_ok (B := b + 2) T_take hp (by decide) (by decide)) ?_
        rintro v s5 ⟨j, rfl, b1, b2, g5, p5⟩
        refine wp_call (take_ok (B := b + 1) T_take p5 (by decide) (by decide)) ?_
        rintro v s6 ⟨j', rfl, c1, c2, g6, p6⟩
        have l1 : j.natAbs.log2 < 10 := log2_lt (by omega) (by omega)
        have l2 : j'.natAbs.log2 < 10 := log2_lt (by omega) (by omega)
        simp only [mulV, wp_if_fail, wp_ret]
        refine ⟨by omega, ?_⟩
        simp only [addV, subV, wp_ret]
        refine wp_call (take_ok (B := b) T_take p6 (by omega) (by omega)) ?_
        rintro v s7 ⟨j'', rfl, d1, d2, g7, p7⟩
        simp only [subV, wp_ret]
        exact ⟨_, rfl, ⟨_, rfl⟩, ((g.to hr g5).to hr g6).to hr g7, p7⟩
      · intro ys s5 hlen hR G5 p5
        obtain ⟨second, rfl, hf2⟩ := rel_ints hlen hR
        rw [List.length_map] at hf2
        simp only [opLV, opL, LV.xs, wp_ret, asTg, wp_bnd, List.set_cons_zero, List.set_cons_succ]
        rw [wp_cons]
        simp only [exec, ev, evs, evL, evS, ofV, LV.there, LV.xs, wp_bnd, wp_lft, wp_ret, List.getElem?_cons_zero, List.getElem?_cons_succ, wp_quiet]
        refine wp_mapF_pot (R := fun _ y => ∃ j : Int, y = .int j) (d := 0) (B := 600) (st0 := st) (r := r) (fun x hx s b g hp => ?_) G5 (p5.le (by omega)) ?_
        · obtain ⟨lv, _, rfl⟩ := List.mem_map.mp hx
          simp only [asTg, wipeE, List.map, wp_bnd, wp_ret, List.set_cons_zero, List.set_cons_succ, List.getElem?_cons_zero, List.getElem?_cons_succ, op2]
          exact ⟨_, rfl, ⟨_, rfl⟩, g, hp⟩
        · intro ys s6 hlen hR G6 p6
          obtain ⟨third, rfl, hf3⟩ := rel_ints hlen hR
          rw [List.length_map] at hf3
          simp only [opLV, opL, LV.xs, wp_ret, asTg, wp_bnd, List.set_cons_zero, List.set_cons_succ, wp_nil]
          exact ⟨third, rfl, by omega, G6, p6⟩
    · simp only [c, decide_false]
      rw [if_neg (by decide), wp_nil]
      exact ⟨second, rfl, hs, G4, p4.le (by omega)⟩
  clear hs second
  rintro o s5 ⟨second, rfl, hs, G5, p5⟩
  dsimp only
  -- third
  rw [wp_cons]
  simp only [exec, ev, evs, evL, evS, ofV, LV.there, LV.xs, wp_bnd, wp_lft, wp_ret, List.getElem?_cons_zero, List.getElem?_cons_succ, wp_quiet]
  refine wp_mapF_pot (R := fun _ y => ∃ j : Int, y = .int j) (d := 1) (B := 500) (st0 := st) (r := r) (fun x hx s b g hp => ?_) G5 (p5.le (by rw [List.length_map]; omega)) ?_
  · obtain ⟨lv, _, rfl⟩ := List.mem_map.mp hx
    simp only [asTg, wipeE, List.map, wp_bnd, wp_ret, List.set_cons_zero, List.set_cons_succ, List.getElem?_cons_zero, List.getElem?_cons_succ, binop]
    refine wp_call (take_ok T_take hp (by decide) (by decide)) ?_
    rintro v s6 ⟨j, rfl, b1, b2, g6, p6⟩
    simp only [addV, wp_ret, op2]
    exact ⟨_, rfl, ⟨_, rfl⟩, g.to hr g6, p6⟩
  intro ys s6 hlen hR G6 p6
  obtain ⟨third, rfl, ht⟩ := rel_ints hlen hR
  rw [List.length_map] at ht
  simp only [opLV, opL, LV.xs, wp_ret, asTg, wp_bnd, List.set_cons_zero, List.set_cons_succ]
  -- pairs
  rw [wp_cons]
  simp only [exec, ev, evs, evL, wp_bnd, wp_lft, wp_ret, List.getElem?_cons_zero, List.getElem?_cons_succ, wp_if_fail, allocV]
  have z2 : 2 ≤ sizeLine := by decide
  have z6 : 6 ≤ sizeLine := by decide
  refine ⟨z2, z2, z2, z2, z2, z2, z6, ?_⟩
  simp only [wp_alloc, asTg, wp_ret, List.set_cons_zero, List.set_cons_succ]
  generalize hpairs : [Val.tup [tupI first, tupI second], .tup [tupI second, tupI first], .tup [tupI first, tupI first], .tup [tupI second, tupI third], .tup [tupI first, tupI third], .tup [tupI third, tupI first]] = pairs
  have hitem : ∀ x ∈ pairs, ∃ a b : List Int, x = .tup [tupI a, tupI b] ∧ a.length = b.length ∧ a.length ≤ 1000 := by
    intro x hx
    rw [← hpairs] at hx
    simp only [List.mem_cons, List.not_mem_nil, or_false] at hx
    rcases hx with rfl | rfl | rfl | rfl | rfl | rfl
    · exact ⟨_, _, rfl, by omega, by omega⟩
    · exact ⟨_, _, rfl, by omega, by omega⟩
    · exact ⟨_, _, rfl, by omega, by omega⟩
    · exact ⟨_, _, rfl, by omega, by omega⟩
    · exact ⟨_, _, rfl, by omega, by omega⟩
    · exact ⟨_, _, rfl, by omega, by omega⟩
  have hat : (s6 ++ [Cell.lst pairs])[s6.length]? = some (.lst pairs) := List.getElem?_concat_length
  generalize s6 ++ [Cell.lst pairs] = s7 at hat
  generalize s6.length = p at hat
  -- the pairs, one by one
  rw [wp_cons]
  simp only [exec, ev, evS, evL, wp_bnd, wp_lft, wp_ret, List.getElem?_cons_zero, List.getElem?_cons_succ]
  rw [wp_ofV hat]
  simp only [LV.xs, LV.there]
  refine wp_forF (fun i ρ s => s = s7 ∧ ∃ o7 o8 o9, ρ = [some (.ref r), some (.int (1 + j1)), some (tupI first), some (tupI second), some (.int way), some (tupI third), some (.ref p), o7, o8, o9, none, none]) ⟨rfl, _, _, _, rfl⟩ (fun i ρ s _ h => by rw [h.1]; exact hat) ?_ ?_
  · rintro i x ρ s hx ⟨rfl, o7, o8, o9, rfl⟩
    obtain ⟨a, b, rfl, hab, ha⟩ := hitem x (List.mem_of_getElem? hx)
    simp only [asTg, wp_bnd, wp_ret, List.set_cons_zero, List.set_cons_succ]
    rw [wp_cons]
    simp only [exec, ev, evs, evS, evL, wp_bnd, wp_lft, wp_ret, List.getElem?_cons_zero, List.getElem?_cons_succ]
    refine wp_call (beneath_ok a b) ?_
    rintro v s8 ⟨rfl, rfl⟩
    refine wp_call (beneath_ok a b) ?_
    rintro v s9 ⟨rfl, rfl⟩
    simp only [wp_if_fail, wp_ret]
    refine ⟨z2, ?_⟩
    simp only [LV.xs, LV.there]
    refine wp_forF (fun i ρ s => s = s9 ∧ ∃ o9, ρ = [some (.ref r), some (.int (1 + j1)), some (tupI first), some (tupI second), some (.int way), some (tupI third), some (.ref p), some (tupI a), some (tupI b), o9, none, none]) ⟨rfl, _, rfl⟩ (fun i ρ s _ h => trivial) ?_ ?_
    · rintro i x ρ s hx ⟨rfl, o9, rfl⟩
      have ex : x = .bl (le a b) := by
        have := List.mem_of_getElem? hx
        simpa using this
      subst ex
      simp only [asTg, wp_bnd, wp_ret, List.set_cons_zero, List.set_cons_succ]
      rw [wp_cons]
      simp only [exec, ev, evs, wp_bnd, wp_lft, wp_ret, List.getElem?_cons_zero, List.getElem?_cons_succ]
      refine wp_of (a := .bl true) (s := s) rfl ?_
      simp only [asBl, wp_ret, wp_bnd, Bool.not_true]
      rw [if_neg (by decide)]
      simp only [wp_bnd, wp_ret]
      refine wp_call (due_ok a b hab ha) ?_
      rintro v s10 ⟨rfl, rfl⟩
      simp only [compare, eqVal_bl, wp_bnd, wp_ret, asBl]
      rw [show (le a b == le a b) = true by simp]
      rw [if_neg (by decide), wp_nil]
      dsimp only
      rw [wp_nil]
      exact ⟨rfl, _, rfl⟩
    · rintro ρ s ⟨rfl, o9, rfl⟩
      dsimp only
      rw [wp_nil]
      exact ⟨rfl, _, _, _, rfl⟩
  · rintro ρ s ⟨rfl, o7, o8, o9, rfl⟩
    dsimp only
    have fin : ∀ z s', (∀ c, z = .bl c → c = true) → (∃ c, z = .bl c) → (match sweep st z s' with | .ok v s => v = Val.bl true | _ => False) := by
      rintro z s' h ⟨c, rfl⟩
      have := h c rfl
      subst this
      obtain ⟨s'', e⟩ := sweep_bl (st := st) (s := s') (b := true)
      rw [e]
    rw [wp_cons]
    simp only [exec, ev, evs, wp_bnd, wp_lft, wp_ret, List.getElem?_cons_zero, List.getElem?_cons_succ]
    refine wp_call (beneath_ok first second) ?_
    rintro v s8 ⟨rfl, rfl⟩
    simp only [asBl, wp_ret]
    cases q1 : le first second with
    | false =>
      rw [if_neg (by decide)]
      simp only [wp_ret, asBl, Bool.not_false]
      rw [if_pos trivial]
      simp only [wp_ret]
      exact fin _ _ (fun c h => by cases h; rfl) ⟨_, rfl⟩
    | true =>
      rw [if_pos rfl]
      refine wp_call (beneath_ok second first) ?_
      rintro v s9 ⟨rfl, rfl⟩
      simp only [asBl, wp_ret]
      cases q2 : le second first with
      | false =>
        simp only [Bool.not_false]
        rw [if_pos trivial]
        exact fin _ _ (fun c h => by cases h; rfl) ⟨_, rfl⟩
      | true =>
        simp only [Bool.not_true]
        rw [if_neg (by decide)]
        simp only [wp_bnd, wp_ret, compare, eqVal_tupI]
        refine fin _ _ (fun c h => ?_) ⟨_, rfl⟩
        cases h
        refine decide_eq_true ?_
        refine List.ext_getElem? fun i => ?_
        by_cases hi : i < first.length
        · have hi2 : i < second.length := by omega
          have e1 := le_iff.mp q1 i first[i] second[i] (by simp [hi]) (by simp [hi2])
          have e2 := le_iff.mp q2 i second[i] first[i] (by simp [hi2]) (by simp [hi])
          rw [List.getElem?_eq_getElem hi, List.getElem?_eq_getElem hi2]
          congr 1
          omega
        · rw [List.getElem?_eq_none (by omega), List.getElem?_eq_none (by omega)]
end
theorem law_true (ns : List Int) (h : ns.length ≤ 63) (hc : ∀ z ∈ ns, Cellish z) : ∃ st', callF (look defs) 10 f_law.name [.rol (ns.map .int)] [] = .ok (.bl true) st' := by
  have main : wp (callF T (9 + 1) "law" [.rol (ns.map .int)]) [] (fun v _ => v = .bl true) fun _ _ => False := by
    refine wp_callF T_law rfl ?_
    show wp (execs (callF T 9) if_law [some (.rol (ns.map .int)), none]) [] _ _
    unfold if_law
    rw [wp_cons]
    simp only [exec, ev, evs, evS, evL, evO, ofV, wp_bnd, wp_lft, wp_ret, wp_chk, wp_if_fail, List.getElem?_cons_zero, List.getElem?_cons_succ, LV.there, LV.xs, LV.cat, op1, op2, asInt, true_and, List.length_append, List.length_map, List.length_cons, List.length_nil]
    have z1 : 1 ≤ sizeLine := by decide
    have z64 : 64 ≤ sizeLine := by decide
    refine ⟨z1, by omega, ?_⟩
    refine wp_forF (fun i ρ s => ∃ o, ρ = [some (.rol (ns.map .int)), o]) ⟨_, rfl⟩ (fun _ _ _ _ _ => trivial) ?_ ?_
    · rintro i x ρ s hx ⟨o, rfl⟩
      have hm : ∃ z, x = .int z ∧ Cellish z := by
        have q := List.mem_of_getElem? hx
        unfold cutL at q
        have q := List.mem_of_mem_drop (List.mem_of_mem_take q)
        rcases List.mem_append.mp q with w | w
        · obtain ⟨z, hz, rfl⟩ := List.mem_map.mp w
          exact ⟨z, rfl, hc z hz⟩
        · have : x = .int 0 := by simpa using w
          exact ⟨0, this, by unfold Cellish; decide⟩
      obtain ⟨z, rfl, hz⟩ := hm
      simp only [asTg, wp_bnd, wp_ret, List.set_cons_zero, List.set_cons_succ]
      rw [wp_cons]
      simp only [exec, ev, evs, wp_bnd, wp_lft, wp_ret, List.getElem?_cons_zero, List.getElem?_cons_succ]
      refine wp_call (pot_ok (k := 8) T_pot hz) ?_
      rintro v s1 ⟨rfl, _, p⟩
      refine wp_call (right_ok (k := 7) (p.le (by decide))) ?_
      rintro v s2 rfl
      simp only [asBl, wp_ret, Bool.not_true]
      rw [if_neg (by decide), wp_nil]
      dsimp only
      rw [wp_nil]
      exact ⟨_, rfl⟩
    · rintro ρ s ⟨o, rfl⟩
      dsimp only
      rw [wp_cons]
      simp only [exec, ev, wp_bnd, wp_lft, wp_ret]
      obtain ⟨s', e⟩ := sweep_bl (st := []) (s := s) (b := true)
      rw [e]
  obtain ⟨a, s, e, rfl⟩ := wp_ok main
  exact ⟨s, e⟩

end Mg.L
open PySem PySem.W PyProof.Rows
set_option maxRecDepth 100000 in
set_option maxHeartbeats 0 in
theorem PySem.Challenge.cw_mistgrid_k08_beneath_holds : PySem.Challenge.rw_mistgrid_k08_beneath.Holds := by
  w_on; o_law; k_head; (case hw => w_witness2)
  k_fill
  refine Mg.law_end (l := PySem.Challenge.rw_mistgrid_k08_beneath) (n := 63) (k := 10) (x := "script") (cla := fun _ _ _ => none) (tab := Mg.L.tab) (T := Mg.look Mg.L.defs) (defs := Mg.L.defs) Mg.L.f_law rfl (by decide) rfl ⟨rfl, by decide, by decide⟩ (fun w h Y => PySem.W.kIn_of Y) (by simp [Mg.L.defs]) rfl rfl Mg.L.bind_f_law ?F (fun ns h1 h2 => Mg.L.law_true ns h1 fun z hz => Mg.Cellish.of (h2 z hz))
  case F =>
    intro w mg h KX G
    refine' Mg.L.text_mk KX G ?a0 ?l0 ?c0 ?k0 ?a1 ?l1 ?c1 ?k1 ?a2 ?l2 ?c2 ?k2 ?a3 ?l3 ?c3 ?k3 ?a4 ?l4 ?c4 ?k4 ?a5 ?l5 ?c5 ?k5 ?z0 ?z1 ?z2 ?z3 ?z4 ?z5 ?z6 ?z7 ?z8 ?z9 ?z10 ?z11 ?z12 ?z13 ?z14 ?z15 ?z16 ?z17 ?z18
    (case a0 => k_is); (case l0 => k_is); (case c0 => k_is); (case k0 => k_is); (case a1 => k_is); (case l1 => k_is); (case c1 => k_is); (case k1 => k_is); (case a2 => k_is); (case l2 => k_is); (case c2 => k_is); (case k2 => k_is); (case a3 => k_is); (case l3 => k_is); (case c3 => k_is); (case k3 => k_is); (case a4 => k_is); (case l4 => k_is); (case c4 => k_is); (case k4 => k_is); (case a5 => k_is); (case l5 => k_is); (case c5 => k_is); (case k5 => k_is); (case z0 => k_is); (case z1 => k_is); (case z2 => k_is); (case z3 => k_is); (case z4 => k_is); (case z5 => k_is); (case z6 => k_is); (case z7 => k_is); (case z8 => k_is); (case z9 => k_is); (case z10 => k_is); (case z11 => k_is); (case z12 => k_is); (case z13 => k_is); (case z14 => k_is); (case z15 => k_is); (case z16 => k_is); (case z17 => k_is); (case z18 => k_is)

