import PyProof.Rows.All
import Wide.All
import OpenK.AllK
import Wide.FinOn
import HandS.ForMost
import HandS.ForExc
import HandS.Wide
import HandS.WideBits
import HandS.WideMore
import HandS.Flow
import HandS.Style
import HandS.Deep
import HandS.TupAny
import HandS.TupMul
import HandS.TupLe
import HandS.Flt
import HandS.IsInst
import HandS.CallLocal
import HandS.CallSlots
import HandS.Lambda
import HandS.ExcInit
import HandS.ExcIs
import HandS.ExcField
import HandS.Conv
import HandS.Zip
import HandS.NoneIn
import HandS.SortInts
import HandS.Small
import HandS.TupLen
import HandS.Replace
import HandS.HotCalls
import HandS.TryMany
import HandS.EndBits
import HandS.EndTab
import HandS.HeadHook2
import HandS.HeadEnd
import HandS.Head2
import KE.GoesEnum
import HandS.ExcCtx
import KE.KUnpack
import HandS.ExcInitHot
import KE.KExcIs
import HandS.Head0
import HandS.Head1
import HandS.HeadHook1
import PySem.Challenge.RW_toldties_k02_given_books_by_models
set_option Elab.async false
set_option linter.all false
set_option maxRecDepth 100000
/-! Ev0: an own small language and its weakest preconditions: values without a heap, a store of mutable cells. -/
namespace Ev
open PySem

/-- a value: numbers, texts, tuples (ktup: written in the text's top) and read-only lists as trees; tmp: a new list that nobody holds; scr: the script; loc: a mutable cell; fn: a def of the text -/
inductive W where
  | undef | non | bl (b : Bool) | int (i : Int) | str (x : Str)
  | tup (ws : List W) | ktup (ws : List W) | lst (ws : List W) | tmp (ws : List W) | scr (ns : List Int)
  | loc (n : Nat) | fn (g : Nat)

inductive Cell where
  | lst (ws : List W)
  | dK (kvs : List (L2.Key × W))
  | dT (kvs : List (List L2.Key × W))
abbrev Store := List Cell
abbrev Env := List W
/-- a lambda with its maker's slots -/
structure Clo where
  env : Env
  l : Nat
/-- what is handed on as a def's first argument: a lambda of the text, or the one that was got in slot i -/
inductive Ca where
  | lam (l : Nat)
  | pass (i : Nat)
/-- what a piece of code has besides its slots: the lambda that its def got; in an except suite the error: its class, what it keeps -/
structure Ex where
  cl : Option Clo
  xc : Option (Nat × W)

def ro : W → W
  | .tmp ws => .lst ws
  | w => w

/-- the items of a list (not of a tuple) -/
def lstW (st : Store) : W → Option (List W)
  | .lst ws => some ws
  | .tmp ws => some ws
  | .loc n => match st[n]? with
    | some (.lst ws) => some ws
    | _ => none
  | _ => none
/-- the items of a tuple -/
def tupW : W → Option (List W)
  | .tup ws => some ws
  | .ktup ws => some ws
  | _ => none
/-- the items of a list or a tuple -/
def seqW (st : Store) : W → Option (List W)
  | .tup ws => some ws
  | .ktup ws => some ws
  | .lst ws => some ws
  | .tmp ws => some ws
  | .scr ns => some (ns.map .int)
  | .loc n => match st[n]? with
    | some (.lst ws) => some ws
    | _ => none
  | _ => none

def isScr : W → Bool
  | .scr _ => true
  | _ => false
/-- truth -/
def truW (st : Store) : W → Option Bool
  | .non => some false
  | .bl b => some b
  | .int i => some (i != 0)
  | .str x => if x.length ≤ sizeLine then some (x.length != 0) else none
  | .tup ws => some (!ws.isEmpty)
  | .ktup ws => some (!ws.isEmpty)
  | .lst ws => some (!ws.isEmpty)
  | .tmp ws => some (!ws.isEmpty)
  | .loc n => match st[n]? with
    | some (.lst ws) => some (!ws.isEmpty)
    | some (.dK kvs) => some (!kvs.isEmpty)
    | _ => none
  | _ => none

/-! ### plain data, for == and in -/
mutual
def toD : W → PyData
  | .non => .none
  | .bl b => .bool b
  | .int i => .int i
  | .str x => .str x
  | .tup ws => .tuple (toDs ws)
  | .ktup ws => .tuple (toDs ws)
  | .lst ws => .list (toDs ws)
  | .tmp ws => .list (toDs ws)
  | _ => .none
def toDs : List W → List PyData
  | [] => []
  | w :: ws => toD w :: toDs ws
end
mutual
/-- it is plain data (no cell, no def within) -/
def isD : W → Bool
  | .non => true
  | .bl _ => true
  | .int _ => true
  | .str _ => true
  | .tup ws => isDs ws
  | .ktup ws => isDs ws
  | .lst ws => isDs ws
  | .tmp ws => isDs ws
  | _ => false
def isDs : List W → Bool
  | [] => true
  | w :: ws => isD w && isDs ws
end
/-- a value as data, one list cell looked through -/
def datW (st : Store) : W → Option PyData
  | .loc n => match st[n]? with
    | some (.lst ws) => if isDs ws then some (.list (toDs ws)) else none
    | _ => none
  | w => if isD w then some (toD w) else none

/-! ### the language -/
/-- a target of names -/
inductive Tg where
  | nm (i : Nat)
  | tup (ts : List Tg)
/-- built-in functions -/
inductive Bi where
  | len | int | bool | max | min | all | any | tuple | list | sum | sorted | str | trange | lrange | dictT | dictK | set | abs
  deriving DecidableEq
/-- built-in methods -/
inductive Me where
  | append | extend | pop | popi | bitlen | index | join | get | update | setdefault | items | values | reverse | clear | split | find | upper
  deriving DecidableEq
/-- what isinstance asks for -/
inductive Ty where
  | tInt | tBool | tStr | tTuple | tList
  deriving DecidableEq

mutual
inductive E where
  | var (i : Nat) | int (i : Int) | bl (b : Bool) | non | str (x : Str)
  | gfn (g : Nat) | gcon (k : Nat)
  | tup (es : List E) | lst (es : List E) | alloc (e : E)
  | bin (op : Operator) (a b : E) | neg (a : E) | not (a : E)
  | band (es : List E) | bor (es : List E)
  | cmp (op : CmpOp) (a b : E) | cmp2 (o1 o2 : CmpOp) (a b c : E)
  | ife (c a b : E)
  | call (g : Nat) (es : List E) | callv (i : Nat) (es : List E) | callc (i : Nat) | callC (g : Nat) (ca : Ca) (es : List E)
  | bi (f : Bi) (es : List E)
  | isi (e : E) (t : Ty)
  | meth (m : Me) (o : E) (es : List E)
  | sub (a b : E) | slice (a : E) (lo hi : Option E) | rev (a : E)
  | comp (own : List (Str × Nat)) (elt : E) (tg : Tg) (it : It) (ifs : List E)
  | comp2 (own : List (Str × Nat)) (vs1 : List Nat) (elt : E) (tg : Tg) (it : It) (ifs : List E) (tg1 : Tg) (it1 : It) (ifs1 : List E)
  | what (i : Nat) | isx (i c : Nat)
  | dnewK | dnewT
inductive It where
  | seq (e : E) | rng1 (a : E) | rng2 (a b : E) | enum (e : E) | zip (a b : E)
end

/-- targets of any sort -/
inductive Tx where
  | nm (i : Nat)
  | sub (o ix : E)

inductive S where
  | asg (i : Nat) (e : E) | asgT (tg : Tg) (e : E) | par (is : List Nat) (es : List E)
  | asgS (o ix e : E) | asgX (ts : List Tx) (e : E)
  | ex (e : E) | ite (c : E) (a b : List S)
  | for_ (tg : Tg) (it : It) (body : List S) | while_ (c : E) (body : List S)
  | ret (e : E) | retN | brk | cont | pass
  | raise_ (c : Nat) (e : E)
  | try_ (body : List S) (c i : Nat) (suite : List S)
  | tryN (body : List S)

/-- np: how many parameters; nc: is the first one a lambda -/
structure Fn where
  name : Str
  np : Nat
  nc : Bool
  n : Nat
  body : List S
structure Lam where
  body : E
structure Prog where
  fns : List Fn
  lams : List Lam
  cons : List (Str × W)
  cls : List Str
  sub : Nat → Nat → Bool

/-! ### what the operators do -/
/-- an index, counted from the end if it is negative -/
def ixN (n : Nat) (i : Int) : Option Nat := L2.ixN n i
def rangeW (i j : Int) : List W := (List.range (j - i).toNat).map fun k => .int (i + (k : Nat))
def enumW (ws : List W) : List W := ws.zipIdx.map fun p => .tup [.int ((p.2 : Nat) : Int), p.1]
def zipW (xs ys : List W) : List W := (xs.zip ys).map fun p => .tup [p.1, p.2]
def allInt : List W → Option (List Int)
  | [] => some []
  | .int i :: ws => (allInt ws).map (i :: ·)
  | _ => none
def allBl : List W → Option (List Bool)
  | [] => some []
  | .bl b :: ws => (allBl ws).map (b :: ·)
  | _ => none
def allStr : List W → Option (List Str)
  | [] => some []
  | .str b :: ws => (allStr ws).map (b :: ·)
  | _ => none
/-- a key of a dict -/
def keyW : W → Option L2.Key
  | .int i => some (.inl i)
  | .str x => some (.inr x)
  | _ => none
def keysW : List W → Option (List L2.Key)
  | [] => some []
  | w :: ws => match keyW w, keysW ws with
    | some k, some ks => some (k :: ks)
    | _, _ => none
def wKey : L2.Key → W
  | .inl i => .int i
  | .inr x => .str x
def lookK {κ : Type} [DecidableEq κ] (k : κ) (kvs : List (κ × W)) : Option W := (kvs.find? fun kv => decide (kv.1 = k)).map (·.2)
def putK {κ : Type} [DecidableEq κ] (k : κ) (w : W) (kvs : List (κ × W)) : List (κ × W) :=
  if (kvs.any fun kv => decide (kv.1 = k)) = true then kvs.map (fun kv => if kv.1 = k then (kv.1, w) else kv) else kvs ++ [(k, w)]

def CMulA (i j : Int) : Prop := L2.CMul i j ∨ L2.CMulW i j
def CDivA (i j : Int) : Prop := L2.CDiv i j ∨ L2.CDivW i j

def binW (st : Store) (op : Operator) (x y : W) (Q : W → Prop) : Prop :=
  match op with
  | .Add => match x, y with
    | .int i, .int j => Q (.int (i + j))
    | .str a, .str b => a.length + b.length ≤ sizeLine ∧ Q (.str (a ++ b))
    | .tup xs, .tup ys => xs.length + ys.length ≤ sizeLine ∧ Q (.tup (xs ++ ys))
    | x, y => ∃ xs ys, lstW st x = some xs ∧ lstW st y = some ys ∧ xs.length + ys.length ≤ sizeLine ∧ Q (.tmp (xs ++ ys))
  | .Sub => match x, y with
    | .int i, .int j => Q (.int (i - j))
    | _, _ => False
  | .Mult => match x, y with
    | .int i, .int j => CMulA i j ∧ Q (.int (i * j))
    | .tup xs, .int k => xs ≠ [] ∧ 1 ≤ k ∧ k ≤ 1000 ∧ xs.length ≤ 1000 ∧ Q (.tup (List.replicate k.toNat xs).flatten)
    | x, .int k => ∃ xs, lstW st x = some xs ∧ -(2 ^ 63) ≤ k ∧ k < 2 ^ 63 ∧ xs.length * k.toNat ≤ sizeLine ∧ Q (.tmp (List.replicate k.toNat xs).flatten)
    | _, _ => False
  | .FloorDiv => match x, y with
    | .int i, .int j => CDivA i j ∧ Q (.int (i / j))
    | _, _ => False
  | .Mod => match x, y with
    | .int i, .int j => 0 < j ∧ Q (.int (i % j))
    | _, _ => False
  | .Pow => match x, y with
    | .int i, .int j => L2.CPow i j ∧ Q (.int (i ^ j.toNat))
    | _, _ => False
  | .LShift => match x, y with
    | .int i, .int j => L2.CPow i j ∧ Q (.int (i * 2 ^ j.toNat))
    | _, _ => False
  | .RShift => match x, y with
    | .int i, .int j => 0 ≤ j ∧ Q (.int (i / 2 ^ j.toNat))
    | _, _ => False
  | .BitAnd => match x, y with
    | .int i, .int j => Q (.int (Builtin.bitAnd i j))
    | _, _ => False
  | .BitOr => match x, y with
    | .int i, .int j => Q (.int (Builtin.bitOr i j))
    | _, _ => False
  | _ => False

def eqW (st : Store) (x y : W) (Q : Bool → Prop) : Prop :=
  (∃ d e, datW st x = some d ∧ datW st y = some e ∧ SeqAt.shaped d = true ∧ SeqAt.shaped e = true ∧ Q (PyData.eqv d e)) ∨
  (∃ xs ys, lstW st x = some xs ∧ lstW st y = some ys ∧ xs.length ≠ ys.length ∧ Q false)
def inW (st : Store) (x y : W) (Q : Bool → Prop) : Prop :=
  match y with
  | .loc n => match st[n]? with
    | some (.dK kvs) => ∃ k, keyW x = some k ∧ Q (lookK k kvs).isSome
    | some (.dT kvs) => ∃ ws ks, x = .tup ws ∧ keysW ws = some ks ∧ Q (lookK ks kvs).isSome
    | some (.lst ws) => isD x = true ∧ isDs ws = true ∧ SeqAt.shaped (toD x) = true ∧ SeqAt.shaped (.list (toDs ws)) = true ∧ Q ((toDs ws).any fun z => PyData.eqv z (toD x))
    | none => False
  | .ktup ws => isD x = true ∧ isDs ws = true ∧ SeqAt.shaped (toD x) = true ∧ SeqAt.shaped (.list (toDs ws)) = true ∧ Q ((toDs ws).any fun z => PyData.eqv z (toD x))
  | .tup ws => isD x = true ∧ isDs ws = true ∧ SeqAt.shaped (toD x) = true ∧ SeqAt.shaped (.list (toDs ws)) = true ∧ Q ((toDs ws).any fun z => PyData.eqv z (toD x))
  | .lst ws => isD x = true ∧ isDs ws = true ∧ SeqAt.shaped (toD x) = true ∧ SeqAt.shaped (.list (toDs ws)) = true ∧ Q ((toDs ws).any fun z => PyData.eqv z (toD x))
  | .tmp ws => isD x = true ∧ isDs ws = true ∧ SeqAt.shaped (toD x) = true ∧ SeqAt.shaped (.list (toDs ws)) = true ∧ Q ((toDs ws).any fun z => PyData.eqv z (toD x))
  | _ => False

/-- lists of ints in order -/
def lexLt : List Int → List Int → Bool := HT.lexLt

def cmpW (st : Store) (op : CmpOp) (x y : W) (Q : Bool → Prop) : Prop :=
  match op with
  | .Eq => match x, y with
    | .int i, .int j => Q (decide (i = j))
    | x, y => eqW st x y Q
  | .NotEq => match x, y with
    | .int i, .int j => Q (!decide (i = j))
    | x, y => eqW st x y fun b => Q (!b)
  | .Lt => match x, y with
    | .int i, .int j => Q (decide (i < j))
    | .str i, .str j => Q (decide (i.cps.toList < j.cps.toList))
    | .tup xs, .tup ys => ∃ ns ms, allInt xs = some ns ∧ allInt ys = some ms ∧ Q (lexLt ns ms)
    | _, _ => False
  | .LtE => match x, y with
    | .int i, .int j => Q (decide (i ≤ j))
    | _, _ => False
  | .Gt => match x, y with
    | .int i, .int j => Q (decide (j < i))
    | _, _ => False
  | .GtE => match x, y with
    | .int i, .int j => Q (decide (j ≤ i))
    | _, _ => False
  | .Is => match y with
    | .non => (match x with
      | .non => Q true
      | .undef => False
      | _ => Q false)
    | .bl b => (match x with
      | .bl a => Q (decide (a = b))
      | _ => False)
    | _ => False
  | .IsNot => match y with
    | .non => (match x with
      | .non => Q false
      | .undef => False
      | _ => Q true)
    | .bl b => (match x with
      | .bl a => Q (!decide (a = b))
      | _ => False)
    | _ => False
  | .In => inW st x y Q
  | .NotIn => inW st x y fun b => Q (!b)

/-- isinstance -/
def isiW (st : Store) (x : W) (t : Ty) (Q : Bool → Prop) : Prop :=
  match x with
  | .non => (match t with
    | _ => Q false)
  | .bl _ => (match t with
    | .tBool => Q true
    | .tInt => Q true
    | _ => Q false)
  | .int _ => (match t with
    | .tInt => Q true
    | _ => Q false)
  | .str _ => (match t with
    | .tStr => Q true
    | _ => Q false)
  | .tup _ => (match t with
    | .tTuple => Q true
    | _ => Q false)
  | .ktup _ => (match t with
    | .tTuple => Q true
    | _ => Q false)
  | .lst _ => (match t with
    | .tList => Q true
    | _ => Q false)
  | .tmp _ => (match t with
    | .tList => Q true
    | _ => Q false)
  | .loc n => (match st[n]? with
    | some (.lst _) => (match t with
      | .tList => Q true
        | _ => Q false)
    | _ => False)
  | _ => False

/-- x[i] -/
def subW (st : Store) (x y : W) (Q : W → Prop) : Prop :=
  match x with
  | .str z => (match y with
    | .int i => ∃ j c, z.length ≤ sizeLine ∧ ixN z.length i = some j ∧ z.cps.toList[j]? = some c ∧ Q (.str ⟨#[c]⟩)
    | _ => False)
  | .loc n => (match st[n]? with
    | some (.lst ws) => (match y with
      | .int i => ∃ j w, ixN ws.length i = some j ∧ ws[j]? = some w ∧ Q w
      | _ => False)
    | some (.dK kvs) => ∃ k w, keyW y = some k ∧ lookK k kvs = some w ∧ Q w
    | some (.dT kvs) => ∃ ws ks w, y = .tup ws ∧ keysW ws = some ks ∧ lookK ks kvs = some w ∧ Q w
    | none => False)
  | x => (match y with
    | .int i => ∃ ws j w, seqW st x = some ws ∧ ixN ws.length i = some j ∧ ws[j]? = some w ∧ Q w
    | _ => False)
/-- x[lo:hi] of a list -/
def cutL {α : Type} (xs : List α) (lo hi : Option Int) : List α :=
  (xs.drop (HT.sIx xs.length 0 lo)).take (HT.sIx xs.length xs.length hi - HT.sIx xs.length 0 lo)
def sliceW (st : Store) (x : W) (lo hi : Option Int) (Q : W → Prop) : Prop :=
  match x with
  | .str z => z.length ≤ sizeLine ∧ Q (.str (Txt.slice z lo hi))
  | .tup ws => Q (.tup (cutL ws lo hi))
  | x => ∃ ws, lstW st x = some ws ∧ Q (.tmp (cutL ws lo hi))

/-- x[::-1] -/
def revW (st : Store) (x : W) (Q : W → Prop) : Prop :=
  match x with
  | .tup ws => Q (.tup ws.reverse)
  | .ktup ws => Q (.tup ws.reverse)
  | x => ∃ ws, lstW st x = some ws ∧ Q (.tmp ws.reverse)

/-- o[i] = v -/
def setW (st : Store) (o i v : W) (Q : Store → Prop) : Prop :=
  match o with
  | .loc n => (match st[n]? with
    | some (.lst ws) => (match i with
      | .int k => ∃ j, ixN ws.length k = some j ∧ Q (st.set n (.lst (ws.set j (ro v))))
      | _ => False)
    | some (.dK kvs) => ∃ k, keyW i = some k ∧ kvs.length < sizeLine ∧ Q (st.set n (.dK (putK k (ro v) kvs)))
    | some (.dT kvs) => ∃ ws ks, i = .tup ws ∧ keysW ws = some ks ∧ kvs.length < sizeLine ∧ Q (st.set n (.dT (putK ks (ro v) kvs)))
    | none => False)
  | _ => False

def biW (st : Store) (f : Bi) (ws : List W) (Q : W → Store → Prop) : Prop :=
  match f, ws with
  | .len, [.str z] => z.length ≤ sizeLine ∧ Q (.int z.length) st
  | .len, [.loc n] => (match st[n]? with
    | some (.lst ws) => Q (.int ws.length) st
    | some (.dK kvs) => Q (.int kvs.length) st
    | some (.dT kvs) => Q (.int kvs.length) st
    | none => False)
  | .len, [w] => ∃ ws, seqW st w = some ws ∧ Q (.int ws.length) st
  | .int, [.int i] => Q (.int i) st
  | .int, [.bl b] => Q (.int (if b then 1 else 0)) st
  | .bool, [.bl b] => Q (.bl b) st
  | .bool, [.int i] => Q (.bl (i != 0)) st
  | .max, [.int i, .int j] => Q (.int (if j > i then j else i)) st
  | .min, [.int i, .int j] => Q (.int (if j < i then j else i)) st
  | .max, [.int i, .int j, .int k] => Q (.int (if k > (if j > i then j else i) then k else (if j > i then j else i))) st
  | .max, [w] => ∃ ws ns, lstW st w = some ws ∧ allInt ws = some ns ∧ 0 < ns.length ∧ ∀ m, m ∈ ns → (∀ y ∈ ns, y ≤ m) → Q (.int m) st
  | .min, [w] => ∃ ws ns, lstW st w = some ws ∧ allInt ws = some ns ∧ 0 < ns.length ∧ ∀ m, m ∈ ns → (∀ y ∈ ns, m ≤ y) → Q (.int m) st
  | .all, [w] => ∃ ws bs, lstW st w = some ws ∧ allBl ws = some bs ∧ Q (.bl (bs.all id)) st
  | .any, [w] => ∃ ws bs, lstW st w = some ws ∧ allBl ws = some bs ∧ Q (.bl (bs.any id)) st
  | .sum, [w] => ∃ ws ns, lstW st w = some ws ∧ allInt ws = some ns ∧ Q (.int ns.sum) st
  | .tuple, [.ktup ws] => Q (.ktup ws) st
  | .tuple, [w] => ∃ ws, seqW st w = some ws ∧ (∀ ns, w ≠ .scr ns) ∧ Q (.tup ws) st
  | .list, [w] => ∃ ws, seqW st w = some ws ∧ (∀ ns, w ≠ .scr ns) ∧ Q (.tmp ws) st
  | .trange, [.int j] => -(2 ^ 62) ≤ j ∧ j ≤ sizeLine ∧ Q (.tup (rangeW 0 j)) st
  | .trange, [.int i, .int j] => -(2 ^ 62) ≤ i ∧ j - i ≤ sizeLine ∧ i < 2 ^ 62 ∧ -(2 ^ 62) ≤ j ∧ j < 2 ^ 62 ∧ Q (.tup (rangeW i j)) st
  | .lrange, [.int j] => -(2 ^ 62) ≤ j ∧ j ≤ sizeLine ∧ Q (.tmp (rangeW 0 j)) st
  | .lrange, [.int i, .int j] => -(2 ^ 62) ≤ i ∧ j - i ≤ sizeLine ∧ i < 2 ^ 62 ∧ -(2 ^ 62) ≤ j ∧ j < 2 ^ 62 ∧ Q (.tmp (rangeW i j)) st
  | .sorted, [w] => ∃ ws ns, lstW st w = some ws ∧ allInt ws = some ns ∧ ∀ ns' : List Int, ns'.Perm ns → ns'.Pairwise (· ≤ ·) → Q (.tmp (ns'.map .int)) st
  | .str, [.int i] => i.natAbs.log2 < 1920 ∧ Q (.str (toString i)) st
  | _, _ => False

def meW (st : Store) (m : Me) (o : W) (ws : List W) (Q : W → Store → Prop) : Prop :=
  match m, o, ws with
  | .append, .loc n, [w] => (match st[n]? with
    | some (.lst xs) => xs.length < sizeLine ∧ Q .non (st.set n (.lst (xs ++ [ro w])))
    | _ => False)
  | .extend, .loc n, [w] => (match st[n]? with
    | some (.lst xs) => ∃ ys, lstW st w = some ys ∧ xs.length + ys.length ≤ sizeLine ∧ Q .non (st.set n (.lst (xs ++ ys)))
    | _ => False)
  | .pop, .loc n, [] => (match st[n]? with
    | some (.lst xs) => ∃ y, xs[xs.length - 1]? = some y ∧ Q y (st.set n (.lst xs.dropLast))
    | _ => False)
  | .popi, .loc n, [.int i] => (match st[n]? with
    | some (.lst xs) => ∃ k y, -(2 ^ 63) ≤ i ∧ i < 2 ^ 63 ∧ seqIndex? i xs.length = some k ∧ xs[k]? = some y ∧ Q y (st.set n (.lst (xs.eraseIdx k)))
    | _ => False)
  | .bitlen, .int i, [] => Q (.int (Builtin.Int.intBits i : Nat)) st
  | .join, .str a, [w] => ∃ ws ys, lstW st w = some ws ∧ allStr ws = some ys ∧ (ys.map (·.length)).sum + ys.length * a.length ≤ 16777216 ∧ Q (.str (Txt.join a ys)) st
  | _, _, _ => False

/-- what a method's receiver is -/
def meTy (st : Store) (m : Me) (o : W) : Prop :=
  match m with
  | .bitlen => ∃ i, o = .int i
  | .join => ∃ a, o = .str a
  | .split => ∃ a, o = .str a
  | .find => ∃ a, o = .str a
  | .upper => ∃ a, o = .str a
  | .get => ∃ n, o = .loc n ∧ ((∃ kvs, st[n]? = some (.dK kvs)) ∨ ∃ kvs, st[n]? = some (.dT kvs))
  | .update => ∃ n, o = .loc n ∧ ((∃ kvs, st[n]? = some (.dK kvs)) ∨ ∃ kvs, st[n]? = some (.dT kvs))
  | .setdefault => ∃ n, o = .loc n ∧ ((∃ kvs, st[n]? = some (.dK kvs)) ∨ ∃ kvs, st[n]? = some (.dT kvs))
  | .items => ∃ n, o = .loc n ∧ ((∃ kvs, st[n]? = some (.dK kvs)) ∨ ∃ kvs, st[n]? = some (.dT kvs))
  | .values => ∃ n, o = .loc n ∧ ((∃ kvs, st[n]? = some (.dK kvs)) ∨ ∃ kvs, st[n]? = some (.dT kvs))
  | _ => ∃ n ws, o = .loc n ∧ st[n]? = some (.lst ws)

/-! ### binding, walking -/
mutual
def bindT (st : Store) : Tg → W → Env → Option Env
  | .nm i, w, env => if i < env.length then some (env.set i (ro w)) else none
  | .tup ts, w, env => if isScr w = true then none else match seqW st w with
    | some ws => bindTs st ts ws env
    | none => none
def bindTs (st : Store) : List Tg → List W → Env → Option Env
  | [], [], env => some env
  | t :: ts, w :: ws, env => match bindT st t w env with
    | some env' => bindTs st ts ws env'
    | none => none
  | _, _, _ => none
end
mutual
def tgS : Tg → List Nat
  | .nm i => [i]
  | .tup ts => tgSs ts
def tgSs : List Tg → List Nat
  | [] => []
  | t :: ts => tgS t ++ tgSs ts
end
def wipeW (env : Env) : List Nat → Env
  | [] => env
  | v :: vs => (wipeW env vs).set v .undef

abbrev Post := W → Store → Prop
abbrev XPost := Nat → W → Store → Prop
structure Ends where
  nx : Env → Store → Prop
  rt : Post
  bk : Env → Store → Prop
  ct : Env → Store → Prop
  ex : Nat → W → Env → Store → Prop
structure CallSem where
  fn : Nat → Option Clo → List W → Store → Post → XPost → Prop
  clo : Clo → Store → Post → XPost → Prop
def noX : XPost := fun _ _ _ => False

/-- the walk of a for: guard tells that what is walked stands still -/
def wpFor (turn : W → Env → Store → Ends → Prop) (guard : Store → Prop) : List W → Env → Store → Ends → Prop
  | [], env, st, D => guard st ∧ D.nx env st
  | x :: xs, env, st, D => guard st ∧ turn x env st { D with nx := fun env' st' => wpFor turn guard xs env' st' D, ct := fun env' st' => wpFor turn guard xs env' st' D, bk := D.nx }
/-- the walk of a comprehension, what is made so far as a letter -/
def wpComp (turn : W → List W → Store → (List W → Store → Prop) → Prop) (guard : Store → Prop) : List W → List W → Store → (List W → Store → Prop) → Prop
  | [], acc, st, Q => guard st ∧ Q acc st
  | x :: xs, acc, st, Q => guard st ∧ turn x acc st fun acc' st' => wpComp turn guard xs acc' st' Q

/-- what a walked value is, at each turn -/
def still (w : W) (ws : List W) (st : Store) : Prop := seqW st w = some ws

mutual
def wpE (C : CallSem) (P : Prog) (cl : Ex) : E → Env → Store → Post → XPost → Prop
  | .var i, env, st, Q, _ => ∃ w, env[i]? = some w ∧ w ≠ .undef ∧ Q w st
  | .int i, _, st, Q, _ => Q (.int i) st
  | .bl b, _, st, Q, _ => Q (.bl b) st
  | .non, _, st, Q, _ => Q .non st
  | .str x, _, st, Q, _ => Q (.str x) st
  | .gfn g, _, st, Q, _ => Q (.fn g) st
  | .gcon k, _, st, Q, _ => ∃ c, P.cons[k]? = some c ∧ Q c.2 st
  | .tup es, env, st, Q, X => wpEs C P cl es env st (fun ws st' => ws.length ≤ sizeLine ∧ Q (.tup (ws.map ro)) st') X
  | .lst es, env, st, Q, X => wpEs C P cl es env st (fun ws st' => ws.length ≤ sizeLine ∧ Q (.tmp (ws.map ro)) st') X
  | .alloc e, env, st, Q, X => wpE C P cl e env st (fun w st' => match w with
      | .tmp ws => Q (.loc st'.length) (st' ++ [.lst ws])
      | _ => False) X
  | .bin op a b, env, st, Q, X => wpE C P cl a env st (fun x st1 => wpE C P cl b env st1 (fun y st2 => binW st2 op x y fun w => Q w st2) X) X
  | .neg a, env, st, Q, X => wpE C P cl a env st (fun x st1 => match x with
      | .int i => Q (.int (-i)) st1
      | _ => False) X
  | .not a, env, st, Q, X => wpE C P cl a env st (fun x st1 => ∃ b, truW st1 x = some b ∧ Q (.bl (!b)) st1) X
  | .band es, env, st, Q, X => wpAnd C P cl es env st Q X
  | .bor es, env, st, Q, X => wpOr C P cl es env st Q X
  | .cmp op a b, env, st, Q, X => wpE C P cl a env st (fun x st1 => wpE C P cl b env st1 (fun y st2 => cmpW st2 op x y fun c => Q (.bl c) st2) X) X
  | .cmp2 o1 o2 a b c, env, st, Q, X => wpE C P cl a env st (fun x st1 => wpE C P cl b env st1 (fun y st2 => cmpW st2 o1 x y fun k => if k = true then wpE C P cl c env st2 (fun z st3 => cmpW st3 o2 y z fun k' => Q (.bl k') st3) X else Q (.bl false) st2) X) X
  | .ife c a b, env, st, Q, X => wpE C P cl c env st (fun x st1 => ∃ k, truW st1 x = some k ∧ if k = true then wpE C P cl a env st1 Q X else wpE C P cl b env st1 Q X) X
  | .call g es, env, st, Q, X => wpEs C P cl es env st (fun ws st' => C.fn g none (ws.map ro) st' Q X) X
  | .callv i es, env, st, Q, X => ∃ g, env[i]? = some (.fn g) ∧ g < P.fns.length ∧ wpEs C P cl es env st (fun ws st' => C.fn g none (ws.map ro) st' Q X) X
  | .callc _, _, st, Q, X => ∃ c, cl.cl = some c ∧ C.clo c st Q X
  | .callC g ca es, env, st, Q, X => ∃ c, (match ca with
      | .lam l => c = ⟨env, l⟩
      | .pass _ => cl.cl = some c) ∧ wpEs C P cl es env st (fun ws st' => C.fn g (some c) (ws.map ro) st' Q X) X
  | .bi f es, env, st, Q, X => wpEs C P cl es env st (fun ws st' => biW st' f ws Q) X
  | .isi e t, env, st, Q, X => wpE C P cl e env st (fun x st1 => isiW st1 x t fun b => Q (.bl b) st1) X
  | .meth m o es, env, st, Q, X => wpE C P cl o env st (fun x st1 => meTy st1 m x ∧ wpEs C P cl es env st1 (fun ws st' => meW st' m x ws Q) X) X
  | .sub a b, env, st, Q, X => wpE C P cl a env st (fun x st1 => wpE C P cl b env st1 (fun y st2 => subW st2 x y fun w => Q w st2) X) X
  | .slice a lo hi, env, st, Q, X => wpE C P cl a env st (fun x st1 => wpO C P cl lo env st1 (fun l st2 => wpO C P cl hi env st2 (fun h st3 => sliceW st3 x l h fun w => Q w st3) X) X) X
  | .rev a, env, st, Q, X => wpE C P cl a env st (fun x st1 => revW st1 x fun w => Q w st1) X
  | .comp own elt tg it ifs, env, st, Q, X => wpI C P cl it env st (fun items guard st1 =>
      wpComp (fun x acc st2 K => ∃ env2, bindT st2 tg x (wipeW env (own.map (·.2))) = some env2 ∧
        wpTs C P ⟨none, none⟩ ifs env2 st2 fun b st3 => if b = true then wpE C P ⟨none, none⟩ elt env2 st3 (fun w st4 => acc.length < sizeLine ∧ K (acc ++ [ro w]) st4) noX else K acc st3) guard items [] st1 fun acc st' => Q (.tmp acc) st') X
  | .comp2 own vs1 elt tg it ifs tg1 it1 ifs1, env, st, Q, X => wpI C P cl it env st (fun items guard st1 =>
      wpComp (fun x acc st2 K => ∃ env2, bindT st2 tg x (wipeW env (own.map (·.2))) = some env2 ∧
        wpTs C P ⟨none, none⟩ ifs env2 st2 fun b st3 => if b = true then
          wpI C P ⟨none, none⟩ it1 env2 st3 (fun items1 guard1 st4 =>
            wpComp (fun y acc st5 K1 => ∃ env5, bindT st5 tg1 y (wipeW env2 vs1) = some env5 ∧
              wpTs C P ⟨none, none⟩ ifs1 env5 st5 fun b st6 => if b = true then wpE C P ⟨none, none⟩ elt env5 st6 (fun w st7 => acc.length < sizeLine ∧ K1 (acc ++ [ro w]) st7) noX else K1 acc st6) guard1 items1 acc st4 K) noX
          else K acc st3) guard items [] st1 fun acc st' => Q (.tmp acc) st') X
  | .what _, _, st, Q, _ => ∃ c w, cl.xc = some (c, w) ∧ Q w st
  | .isx _ d, _, st, Q, _ => ∃ c w, cl.xc = some (c, w) ∧ Q (.bl (P.sub c d)) st
  | .dnewK, _, st, Q, _ => Q (.loc st.length) (st ++ [.dK []])
  | .dnewT, _, st, Q, _ => Q (.loc st.length) (st ++ [.dT []])
def wpEs (C : CallSem) (P : Prog) (cl : Ex) : List E → Env → Store → (List W → Store → Prop) → XPost → Prop
  | [], _, st, Q, _ => Q [] st
  | e :: es, env, st, Q, X => wpE C P cl e env st (fun w st1 => wpEs C P cl es env st1 (fun ws st2 => Q (w :: ws) st2) X) X
/-- x and y and ..: the value -/
def wpAnd (C : CallSem) (P : Prog) (cl : Ex) : List E → Env → Store → Post → XPost → Prop
  | [], _, _, _, _ => False
  | e :: es, env, st, Q, X => wpE C P cl e env st (fun x st1 => match es with
      | [] => Q x st1
      | _ :: _ => ∃ b, x = .bl b ∧ if b = true then wpAnd C P cl es env st1 Q X else Q (.bl false) st1) X
def wpOr (C : CallSem) (P : Prog) (cl : Ex) : List E → Env → Store → Post → XPost → Prop
  | [], _, _, _, _ => False
  | e :: es, env, st, Q, X => wpE C P cl e env st (fun x st1 => match es with
      | [] => Q x st1
      | _ :: _ => ∃ b, x = .bl b ∧ if b = true then Q (.bl true) st1 else wpOr C P cl es env st1 Q X) X
/-- tests in a row, none of which raises -/
def wpTs (C : CallSem) (P : Prog) (cl : Ex) : List E → Env → Store → (Bool → Store → Prop) → Prop
  | [], _, st, Q => Q true st
  | e :: es, env, st, Q => wpE C P cl e env st (fun x st1 => ∃ b, truW st1 x = some b ∧ if b = true then wpTs C P cl es env st1 Q else Q false st1) noX
def wpO (C : CallSem) (P : Prog) (cl : Ex) : Option E → Env → Store → (Option Int → Store → Prop) → XPost → Prop
  | none, _, st, Q, _ => Q none st
  | some e, env, st, Q, X => wpE C P cl e env st (fun x st1 => match x with
      | .int i => Q (some i) st1
      | _ => False) X
def wpI (C : CallSem) (P : Prog) (cl : Ex) : It → Env → Store → (List W → (Store → Prop) → Store → Prop) → XPost → Prop
  | .seq e, env, st, Q, X => wpE C P cl e env st (fun x st1 => ∃ ws, seqW st1 x = some ws ∧ (∀ ns, x ≠ .scr ns) ∧ Q ws (still x ws) st1) X
  | .rng1 a, env, st, Q, X => wpE C P cl a env st (fun x st1 => match x with
      | .int j => -(2 ^ 62) ≤ j ∧ j < 2 ^ 62 ∧ Q (rangeW 0 j) (fun _ => True) st1
      | _ => False) X
  | .rng2 a b, env, st, Q, X => wpE C P cl a env st (fun x st1 => wpE C P cl b env st1 (fun y st2 => match x, y with
      | .int i, .int j => -(2 ^ 62) ≤ i ∧ i < 2 ^ 62 ∧ -(2 ^ 62) ≤ j ∧ j < 2 ^ 62 ∧ Q (rangeW i j) (fun _ => True) st2
      | _, _ => False) X) X
  | .enum e, env, st, Q, X => wpE C P cl e env st (fun x st1 => ∃ ws, seqW st1 x = some ws ∧ (∀ ns, x ≠ .scr ns) ∧ Q (enumW ws) (still x ws) st1) X
  | .zip a b, env, st, Q, X => wpE C P cl a env st (fun x st1 => wpE C P cl b env st1 (fun y st2 => ∃ xs ys, ((lstW st2 x = some xs ∧ lstW st2 y = some ys) ∨ (tupW x = some xs ∧ tupW y = some ys)) ∧
      Q (zipW xs ys) (fun s => still x xs s ∧ still y ys s) st2) X) X
end

def wpX (C : CallSem) (P : Prog) (cl : Ex) : List Tx → List W → Env → Store → (Env → Store → Prop) → (Nat → W → Env → Store → Prop) → Prop
  | [], [], env, st, K, _ => K env st
  | .nm i :: ts, w :: ws, env, st, K, X => i < env.length ∧ wpX C P cl ts ws (env.set i w) st K X
  | .sub o ix :: ts, w :: ws, env, st, K, X => wpE C P cl o env st (fun x st2 => wpE C P cl ix env st2 (fun y st3 => setW st3 x y w fun st4 => wpX C P cl ts ws env st4 K X) fun c w st1 => X c w env st1) fun c w st1 => X c w env st1
  | _, _, _, _, _, _ => False
mutual
def wpS (C : CallSem) (P : Prog) (cl : Ex) : S → Env → Store → Ends → Prop
  | .asg i e, env, st, D => wpE C P cl e env st (fun w st1 => i < env.length ∧ D.nx (env.set i (ro w)) st1) fun c w st1 => D.ex c w env st1
  | .asgT tg e, env, st, D => wpE C P cl e env st (fun w st1 => ∃ env1, bindT st1 tg w env = some env1 ∧ D.nx env1 st1) fun c w st1 => D.ex c w env st1
  | .par is es, env, st, D => wpEs C P cl es env st (fun ws st1 => ∃ env1, bindTs st1 (is.map .nm) ws env = some env1 ∧ D.nx env1 st1) fun c w st1 => D.ex c w env st1
  | .asgS o ix e, env, st, D => wpE C P cl e env st (fun v st1 => wpE C P cl o env st1 (fun x st2 => wpE C P cl ix env st2 (fun y st3 => setW st3 x y v fun st4 => D.nx env st4)
      fun c w st1 => D.ex c w env st1) fun c w st1 => D.ex c w env st1) fun c w st1 => D.ex c w env st1
  | .asgX ts e, env, st, D => wpE C P cl e env st (fun v st1 => isScr v = false ∧ ∃ vs, seqW st1 v = some vs ∧ vs.length = ts.length ∧ wpX C P cl ts vs env st1 D.nx D.ex) fun c w st1 => D.ex c w env st1
  | .ex e, env, st, D => wpE C P cl e env st (fun _ st1 => D.nx env st1) fun c w st1 => D.ex c w env st1
  | .ite c a b, env, st, D => wpE C P cl c env st (fun x st1 => ∃ k, truW st1 x = some k ∧ if k = true then wpSs C P cl a env st1 D else wpSs C P cl b env st1 D) fun c w st1 => D.ex c w env st1
  | .for_ tg it body, env, st, D => wpI C P cl it env st (fun items guard st1 =>
      wpFor (fun x env2 st2 D2 => ∃ env3, bindT st2 tg x env2 = some env3 ∧ wpSs C P cl body env3 st2 D2) guard items env st1 D) fun c w st1 => D.ex c w env st1
  | .while_ c body, env, st, D => ∃ I : Nat → Env → Store → Prop, (∃ n, I n env st) ∧ ∀ n env st, I n env st →
      wpE C P cl c env st (fun x st1 => ∃ k, truW st1 x = some k ∧ if k = true then wpSs C P cl body env st1 { D with nx := fun env' st' => ∃ n', n' < n ∧ I n' env' st', ct := fun env' st' => ∃ n', n' < n ∧ I n' env' st', bk := D.nx }
        else D.nx env st1) fun c w st1 => D.ex c w env st1
  | .ret e, env, st, D => wpE C P cl e env st D.rt fun c w st1 => D.ex c w env st1
  | .retN, _, st, D => D.rt .non st
  | .brk, env, st, D => D.bk env st
  | .cont, env, st, D => D.ct env st
  | .pass, env, st, D => D.nx env st
  | .raise_ c e, env, st, D => wpE C P cl e env st (fun w st1 => D.ex c (ro w) env st1) fun c w st1 => D.ex c w env st1
  | .tryN body, env, st, D => wpSs C P cl body env st { D with ex := fun _ _ _ _ => False }
  | .try_ body c i suite, env, st, D => wpSs C P cl body env st { D with ex := fun c' w env' st' => if (P.sub c' c) = true then i < env'.length ∧ wpSs C P ⟨none, some (c', w)⟩ suite (env'.set i .undef) st' { D with nx := fun env2 st2 => D.nx (env2.set i .undef) st2, bk := fun _ _ => False, ct := fun _ _ => False, ex := fun _ _ _ _ => False } else D.ex c' w env' st' }
def wpSs (C : CallSem) (P : Prog) (cl : Ex) : List S → Env → Store → Ends → Prop
  | [], env, st, D => D.nx env st
  | s :: ss, env, st, D => wpS C P cl s env st { D with nx := fun env' st' => wpSs C P cl ss env' st' D }
end
end Ev

set_option maxRecDepth 100000
set_option maxHeartbeats 4000000
/-! EvU: what the hand layer lacks: tuple * 1, t[::-1]. -/
namespace Ev
open PySem PySem.Spec PyProof.Rows L2
theorem fm_eq {α β : Type} {f : α → Option β} {g : α → β} : ∀ {l : List α}, (∀ x ∈ l, f x = some (g x)) → l.filterMap f = l.map g
  | [], _ => rfl
  | x :: l, h => by
    rw [List.filterMap_cons, h x (List.mem_cons_self ..), List.map_cons, fm_eq fun y hy => h y (List.mem_cons_of_mem _ hy)]
section
variable {prog : Program} {w : World} {A : Around} {E : Value → Shared → Prop} {s : Shared}
theorem tuple_mulW1 (l : Addr) (items : Array Value) (n : Nat) (dd : Option Addr) (sl : Array (Option Value)) (u : Tok) :
    Meets (Builtin.«tuple.__mul__» ⟨[.ref l, .int 1 u], []⟩) (fun _ R s => s.heap.get? l = some { cls := .type "tuple", dict := dd, data := .seq items n, slots := sl } ∧
      R (.ok (.ret (Value.ref l))) s) :=
  .of_wp fun prog w A R s h => by
    obtain ⟨hp, g, d, tk, os⟩ := s
    obtain ⟨hl, h⟩ := h
    have f1 := AutoSeq1.idx_int
    have c1 : (items.isEmpty || (1 : Int) == 1) = true := by simp
    wp_walk using wpAny_loadPart' hl
    repeat (first
      | (refine wpAny_ite_false (by decide) ?_; wp_walk using wpAny_loadPart' hl)
      | (refine wpAny_ite_true (decide_eq_true c1) ?_; wp_walk using wpAny_loadPart' hl))
    exact ⟨_, rfl, h⟩
theorem getItem_tuple_rev {t sl : Addr} {items : Array Value} {vs : Value} {Q : Value → Shared → Prop} (ht : IsTup s.heap t items) (hs : s.heap.IsSliceOf sl .none .none vs) (ps : IsPart vs (some (-1)))
    (h : Q (.ref s.heap.objs.size) { s with heap := s.heap.push { cls := .type "tuple", data := .seq items.toList.reverse.toArray } })
    (hsz : items.size ≤ sizeLine) : wpAny (model prog w) A (getItem (.ref t) (.ref sl)) Q E s := by
  have htake : sizeOk (.seq items.toList.reverse.toArray) := by
    show items.toList.reverse.toArray.size ≤ sizeLine
    rw [List.size_toArray, List.length_reverse, Array.length_toList]
    exact hsz
  obtain ⟨os, hos, hcs, hds⟩ := id hs
  have hTs : s.TypeIs (.ref sl) "slice" := ⟨os, hos, hcs⟩
  unfold getItem
  try with_reducible refine wpAny_holding ?_
  first | refine wpAny_bind (wpAny_pure ?_) | skip
  refine wpAny_bind (wpAny_sequenceKey ht.typeIs (by decide) ?_)
  refine wpAny_bind (wpAny_callSpecial?_slot (name := Str.ofString "__getitem__") ht.typeIs PyProof.Rows.slot_tuple_getitem
    (wpAny_call_entry PyProof.Rows.slot_tuple_getitem ht.typeIs entry_tuple_getitem ?_ (args_tuple_getitem _ _)))
  show wpAny _ _ (Builtin.Tuple.tupleItemsOf (.ref t) >>= _) _ _ s
  refine wpAny_bind (tupleItemsOf_ ht ?_)
  refine wpAny_bind (wpAny_typeOf hTs ?_)
  rw [if_pos (by decide)]
  have app : ∀ {A : Around} {E : _ → Shared → Prop} {K : Int × Int × Nat → Shared → Prop}, K (((items.size : Nat) : Int) - 1, -1, items.size) s → wpAny (model prog w) A (Builtin.Slice.sliceApplied (.ref sl) (pure ((items.size : Nat) : Int))) K E s := by
    intro A E K k
    unfold Builtin.Slice.sliceApplied Builtin.Slice.sliceFields
    refine wpAny_bind (wpAny_bind (wpAny_field hos hds (x := .none) rfl (wpAny_bind (wpAny_field hos hds (x := .none) rfl (wpAny_bind (wpAny_field hos hds (x := vs) rfl (wpAny_pure ?_)))))))
    refine wpAny_bind (HT.slicePart_ ps ?_)
    show wpAny _ _ (if ((-1 : Int) == 0) = true then _ else _) _ _ s
    rw [if_neg (by decide)]
    refine wpAny_bind (slicePart_none (wpAny_bind (slicePart_none (wpAny_bind (wpAny_pure ?_)))))
    have e1 : Builtin.Slice.sliceAdjust none none (-1) ((items.size : Nat) : Int) = (((items.size : Nat) : Int) - 1, -1) := by
      unfold Builtin.Slice.sliceAdjust
      simp
    have e2 : Builtin.Slice.slicePlaces (((items.size : Nat) : Int) - 1) (-1) (-1) = items.size := by
      unfold Builtin.Slice.slicePlaces
      simp
      omega
    show wpAny _ _ (match Builtin.Slice.sliceAdjust none none (-1) ((items.size : Nat) : Int) with | (lo, hi) => pure (lo, (-1 : Int), Builtin.Slice.slicePlaces lo hi (-1))) _ _ s
    rw [e1]
    show wpAny _ _ (pure (((items.size : Nat) : Int) - 1, (-1 : Int), Builtin.Slice.slicePlaces (((items.size : Nat) : Int) - 1) (-1) (-1))) _ _ s
    rw [e2]
    exact wpAny_pure k
  refine wpAny_bind (app ?_)
  have hno : ¬ ((((items.size : Nat) : Int) - 1 == 0 && (-1 : Int) == 1 && items.size == items.size) = true) := by simp
  show wpAny _ _ (if (((items.size : Nat) : Int) - 1 == 0 && (-1 : Int) == 1 && items.size == items.size) = true then _ else _) _ _ s
  have ep : ((List.range items.size).filterMap fun (k : Nat) => items[((((items.size : Nat) : Int) - 1) + (k : Int) * (-1)).toNat]?).toArray = items.toList.reverse.toArray := by
    congr 1
    refine List.ext_getElem? fun i => ?_
    have e3 : ((List.range items.size).filterMap fun (k : Nat) => items[((((items.size : Nat) : Int) - 1) + (k : Int) * (-1)).toNat]?) = (List.range items.size).map fun k => items.getD (items.size - 1 - k) .none := by
      refine fm_eq fun k hk => ?_
      have hk := List.mem_range.mp hk
      have e4 : ((((items.size : Nat) : Int) - 1) + (k : Int) * (-1)).toNat = items.size - 1 - k := by omega
      rw [e4]
      have hl : items.size - 1 - k < items.size := by omega
      simp [Array.getD, hl]
    rw [e3, List.getElem?_map]
    by_cases hi : i < items.size
    · rw [List.getElem?_range hi, List.getElem?_reverse (by simpa using hi)]
      have hl : items.size - 1 - i < items.size := by omega
      simp [Array.getD, hl]
    · rw [List.getElem?_eq_none (by simpa using hi), List.getElem?_eq_none (by simpa using hi)]
      rfl
  rw [if_neg hno, ep]
  first
    | exact wpAny_bind (m := Builtin.Tuple.tupleExact _) (wpAny_newObj_type (wpAny_pure ⟨_, rfl, wpAny_pure h⟩) htake)
    | exact wpAny_bind (m := Builtin.Tuple.tupleExact _) (wpAny_newObj_type (wpAny_bind (wpAny_pure (wpAny_pure ⟨_, rfl, wpAny_pure h⟩))) htake)
    | exact wpAny_bind (wpAny_bind (m := Builtin.Tuple.tupleExact _) (wpAny_newObj_type (wpAny_pure (wpAny_pure ⟨_, rfl, wpAny_pure h⟩)) htake))
    | exact wpAny_bind (wpAny_bind (m := Builtin.Tuple.tupleExact _) (wpAny_newObj_type (wpAny_pure ⟨_, rfl, wpAny_pure h⟩) htake))
end
section
variable {X : Cx}
def rRepT1 (K : PySem.W.Frag) : R2 := fun x y H Q => ∃ l xs, x = .ref l ∧ y = .int 1 ∧ SqT K H l xs ∧ Q (.ref l) H
theorem op_repT1 : OpR X (binaryOp .Mult) (rRepT1 X.K) := by
  intro pins s σ H x y v u Q I rx ry h
  obtain ⟨l, xs, rfl, rfl, hT, q⟩ := h
  cases rx
  obtain ⟨t, rfl⟩ := ry
  obtain ⟨its, r, ⟨⟨cls, dd, data, sl⟩, ho, hc, n, hd⟩, hs⟩ := I.tuple hT
  simp only at hc hd
  subst hc hd
  exact wpAny_binaryOp_repeat_ref (T := "tuple") (U := "int") (by decide) ⟨_, ho, rfl⟩ (fun s' => typeIs_int s' 1 t) noFill_tuple_mul F.fills_int_mul F.slot_int_rmul repeat_tuple F.slot_int_index.lookup
    (call_meets F.slot_int_rmul (typeIs_int s 1 t) F.entry_int_rmul (F.args_int_rmul_2 _ _) (int_rmul_tuple 1 t l its.toArray n dd sl)
      ⟨ho, rfl, ⟨_, ho, rfl⟩, call_meets F.slot_tuple_mul ⟨_, ho, rfl⟩ F.entry_tuple_mul (F.args_tuple_mul_2 _ _) (tuple_mulW1 l its.toArray n dd sl t) ⟨ho, ⟨.ref l, H, I.tok _, rfl, q⟩⟩⟩)
def tRevA (K : PySem.W.Frag) (te : TE) : TE := fun σ H Q => te σ H fun x H1 => ∃ a xs, x = .ref a ∧ ((SqL K H1 a xs ∧ ∀ p, H1 p = none → Q (.ref p) (upd H1 p (.lst xs.reverse))) ∨ (SqT K H1 a xs ∧ ∀ p, H1 p = none → Q (.ref p) (upd H1 p (.tup xs.reverse))))
theorem pe_revA {e : Expr} {te : TE} {k : Nat} {p1 p2 p3 pos : Pos} (he : PE X e te) : PE X (.Subscript e (.Slice none none (some (.UnaryOp .USub (.Constant (.int 1) k p1) p2)) p3) pos) (tRevA X.K te) := by
  refine ⟨fun pins s σ H Q I h => ?_⟩
  refine Subscript_ (thn (he.run pins s σ H _ I h) fun v s1 ⟨x, H1, I1, r1, q1⟩ => ?_)
  obtain ⟨a, xs, ex, hx⟩ := q1
  subst ex
  cases r1
  have hst : PO X (some (.UnaryOp .USub (.Constant (.int 1) k p1) p2)) (tPart (tUn (rU fun i => .int (-i)) (tC (.int 1)))) := po_some (pe_un un_neg pe_int)
  refine wpAny_Slice (thn (po_none.run pins s1 σ H1 (fun o H2 => o = none ∧ H2 = H1) I1 ⟨rfl, rfl⟩) fun vl s2 ⟨l, H2, I2, pl, el, e2⟩ => ?_)
  subst el e2
  refine thn (po_none.run pins s2 σ H2 (fun o H3 => o = none ∧ H3 = H2) I2 ⟨rfl, rfl⟩) fun vu s3 ⟨u, H3, I3, pu, eu, e3⟩ => ?_
  subst eu e3
  refine thn (hst.run pins s3 σ H3 (fun o H4 => o = some (-1) ∧ H4 = H3) I3 ⟨1, rfl, -1, rfl, rfl, rfl⟩) fun vs s4 ⟨o, H4, I4, ps, eo, e4⟩ => ?_
  subst eo e4
  have I5 : Inv X pins σ H4 { s4 with heap := s4.heap.push { cls := .type "slice", data := .fields #[vl, vu, vs] } } := I4.kept (t' := s4.toks) fun b ob q => Heap.get?_push_of_some _ q
  show wpAny (model X.prog X.w) X.A (subscriptTail e (.Slice none none (some (.UnaryOp .USub (.Constant (.int 1) k p1) p2)) p3) (.ref a) (.ref s4.heap.objs.size)) (EP X pins σ Q) X.xe { s4 with heap := s4.heap.push { cls := .type "slice", data := .fields #[vl, vu, vs] } }
  rcases hx with ⟨hx, q⟩ | ⟨hx, q⟩
  · obtain ⟨its, r, ht, hz⟩ := I5.list hx
    have hlen := r.length
    refine tail_any (ops := [.ref a, .ref s4.heap.objs.size]) ht.isList.typeIs (PySem.slot_list_getitem.lookup) ?_ (by with_unfolding_all rfl)
    refine wpAny_getItem_list_slice ht.isList (Heap.IsSliceOf.new _ vl vu vs) pl pu ps (by decide) ?_ (by rw [List.size_toArray]; omega)
    rw [PySem.W.krv_pick]
    refine ⟨.ref _, _, I5.laid (t' := s4.toks) (o := .lst xs.reverse) (fun b ob q => Heap.get?_push_of_some _ q) (Nat.le_refl _) ?_, rfl, q _ (I5.hok.fresh (Nat.le_refl _))⟩
    exact ⟨by rw [List.length_reverse]; exact hz, _, 0, r.reverse, Heap.get?_push_size _ rfl⟩
  · obtain ⟨its, r, ht, hz⟩ := I5.tuple hx
    have hlen := r.length
    cases pl
    cases pu
    refine tail_any (ops := [.ref a, .ref s4.heap.objs.size]) ht.typeIs (PyProof.Rows.slot_tuple_getitem.lookup) ?_ (by with_unfolding_all rfl)
    refine getItem_tuple_rev ht (Heap.IsSliceOf.new _ .none .none vs) ps ?_ (by rw [List.size_toArray]; omega)
    refine ⟨.ref _, _, I5.laid (t' := s4.toks) (o := .tup xs.reverse) (fun b ob q => Heap.get?_push_of_some _ q) (Nat.le_refl _) ?_, rfl, q _ (I5.hok.fresh (Nat.le_refl _))⟩
    exact ⟨by rw [List.length_reverse]; exact hz, _, by simpa using r.reverse, IsTup.new _ _⟩
end
end Ev

set_option maxRecDepth 100000
/-! Ev1: what the small language's values and cells stand for over the abstract heap; going on (Le). -/
namespace Ev
open PySem PySem.Spec PyProof.Rows L2

structure Gam where
  P : Prog
  prog : Program
  w : World
  K : PySem.W.Frag
  mg : Str → Option Value
  base : Heap
  fa : Nat → Addr
  ca : Nat → Addr
  T : List (Addr × Str)

/-- what a context knows: the state at the def's entry, the state at the except suite's entry; the lambda that stands in slot 0; the slot and the object of the error -/
structure Kn where
  ρ0 : Nat → Addr
  n0 : Nat
  Hv0 : Hp
  H0 : Hp
  ρ1 : Nat → Addr
  n1 : Nat
  Hv1 : Hp
  H1 : Hp
  v0 : Option V
  vx : Option (Nat × V)

mutual
def RV (G : Gam) (ρ : Nat → Addr) (n : Nat) (H : Hp) : W → V → Prop
  | .undef, _ => False
  | .non, v => v = .non
  | .bl b, v => v = .bl b
  | .int i, v => v = .int i
  | .str x, v => v = .str x
  | .tup ws, v => ∃ a vs, v = .ref a ∧ H a = some (.tup vs) ∧ (∀ i, i < n → ρ i ≠ a) ∧ RVs G ρ n H ws vs
  | .ktup ws, v => ∃ a vs, v = .ref a ∧ (∀ H', SqT G.K H' a vs) ∧ RVs G ρ n H ws vs
  | .lst ws, v => ∃ a vs, v = .ref a ∧ H a = some (.lst vs) ∧ (∀ i, i < n → ρ i ≠ a) ∧ RVs G ρ n H ws vs
  | .tmp _, _ => False
  | .scr ns, v => ∃ a, v = .ref a ∧ ((Rd H a (.lst (ns.map V.int)) ∧ ∀ i, i < n → ρ i ≠ a) ∨ ∀ H', SqL G.K H' a (ns.map V.int))
  | .loc i, v => i < n ∧ v = .ref (ρ i)
  | .fn g, v => v = .ref (G.fa g)
def RVs (G : Gam) (ρ : Nat → Addr) (n : Nat) (H : Hp) : List W → List V → Prop
  | [], vs => vs = []
  | w :: ws, vs => ∃ v r, vs = v :: r ∧ RV G ρ n H w v ∧ RVs G ρ n H ws r
/-- slots: what is undef is not told -/
def RVo (G : Gam) (ρ : Nat → Addr) (n : Nat) (H : Hp) : List W → L2.St → Prop
  | [], σ => σ = []
  | w :: ws, σ => ∃ o r, σ = o :: r ∧ (w = .undef ∨ ∃ v, o = some v ∧ RV G ρ n H w v) ∧ RVo G ρ n H ws r
end

/-- what may be spoken of goes on -/
structure Lv (ρ : Nat → Addr) (n : Nat) (Hv : Hp) (ρ' : Nat → Addr) (n' : Nat) (Hv' : Hp) : Prop where
  le : n ≤ n'
  same : ∀ i, i < n → ρ' i = ρ i
  new : ∀ i, n ≤ i → i < n' → Hv (ρ' i) = none
  keep : ∀ a o, Hv a = some o → (∀ i, i < n → ρ i ≠ a) → Hv' a = some o
  vis : ∀ a, Hv a ≠ none → Hv' a ≠ none
/-- nothing is tracked at a, or a table -/
def Fr (H : Hp) (a : Addr) : Prop := ∀ o, H a = some o → ∃ ps, o = .tbl ps
theorem Fr.none {H : Hp} {a : Addr} (h : H a = none) : Fr H a := fun o e => by rw [h] at e; cases e
theorem Fr.ne {H : Hp} {a b : Addr} {o : HO} (f : Fr H a) (e : H b = some o) (n : ∀ ps, o ≠ .tbl ps) : b ≠ a := fun z => by
  rw [z] at e
  obtain ⟨ps, q⟩ := f o e
  exact n ps q
/-- from (ρ, n, Hv, H) one comes to (ρ', n', Hv', H') -/
structure Le (ρ : Nat → Addr) (n : Nat) (Hv H : Hp) (ρ' : Nat → Addr) (n' : Nat) (Hv' H' : Hp) : Prop where
  lv : Lv ρ n Hv ρ' n' Hv'
  hid : ∀ a o, H a = some o → Hv a = none → (∀ ps, o ≠ .tbl ps) → H' a = some o ∧ Hv' a = none
  trk : ∀ a, Fr H' a → Fr H a

section
variable {G : Gam} {ρ ρ' ρ'' : Nat → Addr} {n n' n'' : Nat} {Hv H Hv' H' Hv'' H'' : Hp}
theorem Lv.refl : Lv ρ n Hv ρ n Hv := ⟨Nat.le_refl _, fun _ _ => rfl, fun i h1 h2 => by omega, fun _ _ h _ => h, fun _ h => h⟩
theorem Le.refl : Le ρ n Hv H ρ n Hv H := ⟨Lv.refl, fun _ _ h1 h2 _ => ⟨h1, h2⟩, fun _ h => h⟩

theorem Lv.off (l : Lv ρ n Hv ρ' n' Hv') {a : Addr} {o : HO} (e : Hv a = some o) (h : ∀ i, i < n → ρ i ≠ a) : ∀ i, i < n' → ρ' i ≠ a := fun i hi z => by
  by_cases hn : i < n
  · exact h i hn (by rw [← l.same i hn]; exact z)
  · have := l.new i (by omega) hi
    rw [z, e] at this
    cases this

mutual
theorem RV.mono (l : Lv ρ n Hv ρ' n' Hv') : ∀ (w : W) (v : V), RV G ρ n Hv w v → RV G ρ' n' Hv' w v
  | .undef, _, h => h.elim
  | .non, _, h => h
  | .bl _, _, h => h
  | .int _, _, h => h
  | .str _, _, h => h
  | .tup ws, v, h => by
    simp only [RV] at h ⊢
    obtain ⟨a, vs, e, hs, hn, hr⟩ := h
    exact ⟨a, vs, e, l.keep a _ hs hn, l.off hs hn, RVs.mono l ws vs hr⟩
  | .ktup ws, v, h => by
    simp only [RV] at h ⊢
    obtain ⟨a, vs, e, hs, hr⟩ := h
    exact ⟨a, vs, e, hs, RVs.mono l ws vs hr⟩
  | .lst ws, v, h => by
    simp only [RV] at h ⊢
    obtain ⟨a, vs, e, hs, hn, hr⟩ := h
    exact ⟨a, vs, e, l.keep a _ hs hn, l.off hs hn, RVs.mono l ws vs hr⟩
  | .tmp _, _, h => h.elim
  | .scr ns, v, h => by
    simp only [RV] at h ⊢
    obtain ⟨a, e, h⟩ := h
    refine ⟨a, e, ?_⟩
    rcases h with ⟨h | ⟨o, h⟩, hn⟩ | h
    · exact .inl ⟨.inl (l.keep a _ h hn), l.off h hn⟩
    · exact .inl ⟨.inr ⟨o, l.keep a _ h hn⟩, l.off h hn⟩
    · exact .inr h
  | .loc i, v, h => by
    simp only [RV] at h ⊢
    exact ⟨Nat.lt_of_lt_of_le h.1 l.le, by rw [l.same i h.1]; exact h.2⟩
  | .fn _, _, h => h
theorem RVs.mono (l : Lv ρ n Hv ρ' n' Hv') : ∀ (ws : List W) (vs : List V), RVs G ρ n Hv ws vs → RVs G ρ' n' Hv' ws vs
  | [], _, h => h
  | w :: ws, vs, h => by
    simp only [RVs] at h ⊢
    obtain ⟨v, r, e, h1, h2⟩ := h
    exact ⟨v, r, e, RV.mono l w v h1, RVs.mono l ws r h2⟩
theorem RVo.mono (l : Lv ρ n Hv ρ' n' Hv') : ∀ (ws : List W) (vs : L2.St), RVo G ρ n Hv ws vs → RVo G ρ' n' Hv' ws vs
  | [], _, h => h
  | w :: ws, vs, h => by
    simp only [RVo] at h ⊢
    obtain ⟨v, r, e, h1, h2⟩ := h
    refine ⟨v, r, e, ?_, RVo.mono l ws r h2⟩
    rcases h1 with h1 | ⟨u, e1, h1⟩
    · exact .inl h1
    · exact .inr ⟨u, e1, RV.mono l w u h1⟩
end
theorem Lv.trans (a : Lv ρ n Hv ρ' n' Hv') (b : Lv ρ' n' Hv' ρ'' n'' Hv'') : Lv ρ n Hv ρ'' n'' Hv'' where
  le := Nat.le_trans a.le b.le
  same := fun i hi => (b.same i (Nat.lt_of_lt_of_le hi a.le)).trans (a.same i hi)
  new := fun i h1 h2 => by
    by_cases hn : i < n'
    · rw [b.same i hn]
      exact a.new i h1 hn
    · have e := b.new i (by omega) h2
      cases q : Hv (ρ'' i) with
      | none => rfl
      | some o => exact absurd e (a.vis _ (by rw [q]; simp))
  keep := fun c o h hn => b.keep c o (a.keep c o h hn) (a.off h hn)
  vis := fun c h => b.vis c (a.vis c h)
theorem Le.trans (a : Le ρ n Hv H ρ' n' Hv' H') (b : Le ρ' n' Hv' H' ρ'' n'' Hv'' H'') : Le ρ n Hv H ρ'' n'' Hv'' H'' where
  lv := a.lv.trans b.lv
  hid := fun c o h1 h2 h3 => by
    obtain ⟨e1, e2⟩ := a.hid c o h1 h2 h3
    exact b.hid c o e1 e2 h3
  trk := fun c h => a.trk c (b.trk c h)
end

/-- pairs of a dict -/
def RKs (G : Gam) (ρ : Nat → Addr) (n : Nat) (H : Hp) {κ : Type} : List (κ × W) → List (κ × V) → Prop
  | [], vs => vs = []
  | p :: ps, vs => ∃ v r, vs = (p.1, v) :: r ∧ RV G ρ n H p.2 v ∧ RKs G ρ n H ps r
def RC (G : Gam) (ρ : Nat → Addr) (n : Nat) (H : Hp) : Cell → HO → Prop
  | .lst ws, o => ∃ vs, o = .lst vs ∧ RVs G ρ n H ws vs
  | .dK kvs, o => ∃ vs, o = .dK vs ∧ RKs G ρ n H kvs vs
  | .dT kvs, o => ∃ vs, o = .dT vs ∧ RKs G ρ n H kvs vs

/-- what may be spoken of -/
def Vk : HO → Prop
  | .lst _ => True
  | .tup _ => True
  | .dK _ => True
  | .dT _ => True
  | .xd _ => True
  | .frz _ _ => True
  | _ => False
/-- the store stands in the heap: Hv is what may be spoken of, H all that is tracked -/
structure StO (G : Gam) (ρ : Nat → Addr) (Hv H : Hp) (st : Store) : Prop where
  sub : ∀ a o, Hv a = some o → H a = some o
  sto : ∀ (i : Nat) c, st[i]? = some c → ∃ o, Hv (ρ i) = some o ∧ RC G ρ st.length Hv c o
  inj : ∀ i j, i < st.length → j < st.length → ρ i = ρ j → i = j
  tab : LamX.Tabs G.T H
  nt : ∀ a o, Hv a = some o → Vk o
structure Sim (G : Gam) (k : Kn) (σ : L2.St) (Hv H : Hp) (env : Env) (st : Store) (ρ : Nat → Addr) : Prop where
  le : Le k.ρ0 k.n0 k.Hv0 k.H0 ρ st.length Hv H
  le1 : Le k.ρ1 k.n1 k.Hv1 k.H1 ρ st.length Hv H
  so : StO G ρ Hv H st
  env : RVo G ρ st.length Hv env σ
  s0 : ∀ v, k.v0 = some v → σ[0]? = some (some v)
  sx : ∀ p, k.vx = some p → σ[p.1]? = some (some p.2)

section
variable {G : Gam} {ρ ρ' ρ'' : Nat → Addr} {n n' n'' : Nat} {Hv H Hv' H' Hv'' H'' : Hp} {κ : Type}
theorem RKs.mono (l : Lv ρ n Hv ρ' n' Hv') : ∀ (ws : List (κ × W)) (vs : List (κ × V)), RKs G ρ n Hv ws vs → RKs G ρ' n' Hv' ws vs
  | [], _, h => h
  | w :: ws, vs, h => by
    simp only [RKs] at h ⊢
    obtain ⟨v, r, e, h1, h2⟩ := h
    exact ⟨v, r, e, RV.mono l w.2 v h1, RKs.mono l ws r h2⟩
theorem RC.mono (l : Lv ρ n Hv ρ' n' Hv') {c : Cell} {o : HO} (h : RC G ρ n Hv c o) : RC G ρ' n' Hv' c o := by
  cases c with
  | lst ws => obtain ⟨vs, e, h⟩ := h; exact ⟨vs, e, RVs.mono l ws vs h⟩
  | dK ws => obtain ⟨vs, e, h⟩ := h; exact ⟨vs, e, RKs.mono l ws vs h⟩
  | dT ws => obtain ⟨vs, e, h⟩ := h; exact ⟨vs, e, RKs.mono l ws vs h⟩

theorem RVs.length : ∀ {ws : List W} {vs : List V}, RVs G ρ n H ws vs → ws.length = vs.length
  | [], _, h => by
    have e : _ = [] := h
    subst e
    rfl
  | w :: ws, vs, h => by
    simp only [RVs] at h
    obtain ⟨v, r, rfl, _, h2⟩ := h
    simp [RVs.length h2]
theorem RVs.get : ∀ {ws : List W} {vs : List V} {i : Nat} {w : W}, RVs G ρ n H ws vs → ws[i]? = some w → ∃ v, vs[i]? = some v ∧ RV G ρ n H w v
  | [], _, _, _, _, e => by simp at e
  | x :: ws, vs, 0, w, h, e => by
    simp only [RVs] at h
    obtain ⟨v, r, rfl, h1, h2⟩ := h
    simp at e
    subst e
    exact ⟨v, rfl, h1⟩
  | x :: ws, vs, i + 1, w, h, e => by
    simp only [RVs] at h
    obtain ⟨v, r, rfl, h1, h2⟩ := h
    have := RVs.get (i := i) h2 (by simpa using e)
    simpa using this
theorem RVs.set {w : W} {v : V} (h0 : RV G ρ n H w v) : ∀ {ws : List W} {vs : List V} (i : Nat), RVs G ρ n H ws vs → RVs G ρ n H (ws.set i w) (vs.set i v)
  | [], _, _, h => by
    have : _ = [] := h
    rw [this]
    exact rfl
  | x :: ws, vs, 0, h => by
    simp only [RVs] at h
    obtain ⟨u, r, rfl, h1, h2⟩ := h
    exact ⟨v, r, rfl, h0, h2⟩
  | x :: ws, vs, i + 1, h => by
    simp only [RVs] at h
    obtain ⟨u, r, rfl, h1, h2⟩ := h
    exact ⟨u, r.set i v, rfl, h1, RVs.set h0 i h2⟩
theorem RVs.append : ∀ {ws ws' : List W} {vs vs' : List V}, RVs G ρ n H ws vs → RVs G ρ n H ws' vs' → RVs G ρ n H (ws ++ ws') (vs ++ vs')
  | [], _, _, _, h, h' => by
    have : _ = [] := h
    rw [this]
    exact h'
  | x :: ws, _, vs, _, h, h' => by
    simp only [RVs] at h
    obtain ⟨u, r, rfl, h1, h2⟩ := h
    exact ⟨u, _, rfl, h1, RVs.append h2 h'⟩
theorem RVs.take : ∀ {ws : List W} {vs : List V} (i : Nat), RVs G ρ n H ws vs → RVs G ρ n H (ws.take i) (vs.take i)
  | _, _, 0, _ => by simp [RVs]
  | [], _, i + 1, h => by
    have : _ = [] := h
    rw [this]
    exact rfl
  | x :: ws, vs, i + 1, h => by
    simp only [RVs] at h
    obtain ⟨u, r, rfl, h1, h2⟩ := h
    exact ⟨u, _, rfl, h1, RVs.take i h2⟩
theorem RVs.drop : ∀ {ws : List W} {vs : List V} (i : Nat), RVs G ρ n H ws vs → RVs G ρ n H (ws.drop i) (vs.drop i)
  | _, _, 0, h => h
  | [], _, i + 1, h => by
    have : _ = [] := h
    rw [this]
    exact rfl
  | x :: ws, vs, i + 1, h => by
    simp only [RVs] at h
    obtain ⟨u, r, rfl, h1, h2⟩ := h
    exact RVs.drop i h2
theorem RVs.eraseIdx : ∀ {ws : List W} {vs : List V} (i : Nat), RVs G ρ n H ws vs → RVs G ρ n H (ws.eraseIdx i) (vs.eraseIdx i)
  | [], _, _, h => by
    have : _ = [] := h
    rw [this]
    exact rfl
  | x :: ws, vs, 0, h => by
    simp only [RVs] at h
    obtain ⟨u, r, rfl, h1, h2⟩ := h
    exact h2
  | x :: ws, vs, i + 1, h => by
    simp only [RVs] at h
    obtain ⟨u, r, rfl, h1, h2⟩ := h
    exact ⟨u, _, rfl, h1, RVs.eraseIdx i h2⟩
theorem RVs.reverse : ∀ {ws : List W} {vs : List V}, RVs G ρ n H ws vs → RVs G ρ n H ws.reverse vs.reverse
  | [], _, h => by
    have : _ = [] := h
    rw [this]
    exact rfl
  | x :: ws, vs, h => by
    simp only [RVs] at h
    obtain ⟨u, r, rfl, h1, h2⟩ := h
    rw [List.reverse_cons, List.reverse_cons]
    exact RVs.append (RVs.reverse h2) ⟨u, [], rfl, h1, rfl⟩
theorem RVo.get : ∀ {ws : List W} {σ : L2.St} {i : Nat} {w : W}, RVo G ρ n H ws σ → ws[i]? = some w → w ≠ .undef → ∃ v, σ[i]? = some (some v) ∧ RV G ρ n H w v
  | [], _, _, _, _, e, _ => by simp at e
  | x :: ws, vs, 0, w, h, e, hw => by
    simp only [RVo] at h
    obtain ⟨o, r, rfl, h1, h2⟩ := h
    simp at e
    subst e
    rcases h1 with h1 | ⟨v, rfl, h1⟩
    · exact absurd h1 hw
    · exact ⟨v, rfl, h1⟩
  | x :: ws, vs, i + 1, w, h, e, hw => by
    simp only [RVo] at h
    obtain ⟨o, r, rfl, h1, h2⟩ := h
    have := RVo.get (i := i) h2 (by simpa using e) hw
    simpa using this
theorem RVo.length : ∀ {ws : List W} {σ : L2.St}, RVo G ρ n H ws σ → ws.length = σ.length
  | [], _, h => by
    have e : _ = [] := h
    subst e
    rfl
  | x :: ws, vs, h => by
    simp only [RVo] at h
    obtain ⟨o, r, rfl, h1, h2⟩ := h
    simp [RVo.length h2]
theorem RVo.set {w : W} {o : Option V} (h0 : w = .undef ∨ ∃ v, o = some v ∧ RV G ρ n H w v) : ∀ {ws : List W} {σ : L2.St} (i : Nat), RVo G ρ n H ws σ → RVo G ρ n H (ws.set i w) (σ.set i o)
  | [], _, _, h => by
    have : _ = [] := h
    rw [this]
    exact rfl
  | x :: ws, vs, 0, h => by
    simp only [RVo] at h
    obtain ⟨u, r, rfl, h1, h2⟩ := h
    exact ⟨o, r, rfl, h0, h2⟩
  | x :: ws, vs, i + 1, h => by
    simp only [RVo] at h
    obtain ⟨u, r, rfl, h1, h2⟩ := h
    exact ⟨u, r.set i o, rfl, h1, RVo.set h0 i h2⟩
theorem RVo.wipe {env : Env} {σ : L2.St} (h : RVo G ρ n H env σ) : ∀ vs : List Nat, RVo G ρ n H (wipeW env vs) (L2.wipe σ vs)
  | [] => h
  | v :: vs => by
    unfold wipeW L2.wipe
    exact RVo.set (.inl rfl) v (RVo.wipe h vs)
theorem Sim.mono {k : Kn} {σ : L2.St} {env : Env} {st st' : Store} (s : Sim G k σ Hv H env st ρ) (l : Le ρ st.length Hv H ρ' st'.length Hv' H') (so : StO G ρ' Hv' H' st') : Sim G k σ Hv' H' env st' ρ' :=
  ⟨s.le.trans l, s.le1.trans l, so, RVo.mono l.lv env σ s.env, s.s0, s.sx⟩
end
end Ev

set_option maxRecDepth 100000
/-! Ev2: the judgements' readings by the small language; new objects; operators by values. -/
namespace Ev
open PySem PySem.Spec PyProof.Rows L2

def RVt (G : Gam) (ρ : Nat → Addr) (n : Nat) (Hv H H0 : Hp) : W → V → Prop
  | .tmp ws, v => ∃ a vs, v = .ref a ∧ H a = some (.lst vs) ∧ Hv a = none ∧ Fr H0 a ∧ RVs G ρ n Hv ws vs
  | w, v => RV G ρ n Hv w v
/-- what is told of a raised error's dict -/
def RX (G : Gam) (ρ : Nat → Addr) (n : Nat) (Hv : Hp) (w : W) (d : Addr) : Prop :=
  ∃ y, Hv d = some (.xd [("what", y)]) ∧ (∀ i, i < n → ρ i ≠ d) ∧ RV G ρ n Hv w y
def PostE (G : Gam) (ρ : Nat → Addr) (n : Nat) (Hv H : Hp) (Qw : Post) (Q : VK) : Prop :=
  ∀ w st' v Hv' H' ρ', Qw w st' → Le ρ n Hv H ρ' st'.length Hv' H' → StO G ρ' Hv' H' st' → RVt G ρ' st'.length Hv' H' H w v → Q v H'
def PostX (G : Gam) (ρ : Nat → Addr) (n : Nat) (Hv H : Hp) (Xw : XPost) (σ : L2.St) (Wx : WX) : Prop :=
  ∀ c w st' Hv' H' ρ' d, Xw c w st' → Le ρ n Hv H ρ' st'.length Hv' H' → StO G ρ' Hv' H' st' → RX G ρ' st'.length Hv' w d → Wx (.ref (G.ca c)) (some d) σ H'
abbrev WpF := Env → Store → Post → XPost → Prop
def tevW (G : Gam) (k : Kn) (Wx : WX) (f : WpF) : TE := fun σ H Q => ∃ Hv env st ρ Qw Xw, Sim G k σ Hv H env st ρ ∧ f env st Qw Xw ∧
  PostE G ρ st.length Hv H Qw Q ∧ PostX G ρ st.length Hv H Xw σ Wx
abbrev tev (G : Gam) (k : Kn) (C : CallSem) (cl : Ex) (Wx : WX) (e : E) : TE := tevW G k Wx (wpE C G.P cl e)
/-- as a test -/
def PostT (G : Gam) (ρ : Nat → Addr) (n : Nat) (Hv H : Hp) (Qw : Post) (Q : Bool → Hp → Prop) : Prop :=
  ∀ w st' Hv' H' ρ', Qw w st' → Le ρ n Hv H ρ' st'.length Hv' H' → StO G ρ' Hv' H' st' → ∃ b, truW st' w = some b ∧ Q b H'
def ttvW (G : Gam) (k : Kn) (Wx : WX) (f : WpF) : TT := fun σ H Q => ∃ Hv env st ρ Qw Xw, Sim G k σ Hv H env st ρ ∧ f env st Qw Xw ∧
  PostT G ρ st.length Hv H Qw Q ∧ PostX G ρ st.length Hv H Xw σ Wx
abbrev ttv (G : Gam) (k : Kn) (C : CallSem) (cl : Ex) (Wx : WX) (e : E) : TT := ttvW G k Wx (wpE C G.P cl e)
/-- several -/
def RVts (G : Gam) (ρ : Nat → Addr) (n : Nat) (Hv H H0 : Hp) : List W → List V → Prop
  | [], vs => vs = []
  | w :: ws, vs => ∃ v r, vs = v :: r ∧ RVt G ρ n Hv H H0 w v ∧ RVts G ρ n Hv H H0 ws r
def PostA (G : Gam) (ρ : Nat → Addr) (n : Nat) (Hv H : Hp) (Qw : List W → Store → Prop) (Q : List V → Hp → Prop) : Prop :=
  ∀ ws st' vs Hv' H' ρ', Qw ws st' → Le ρ n Hv H ρ' st'.length Hv' H' → StO G ρ' Hv' H' st' → RVts G ρ' st'.length Hv' H' H ws vs → Q vs H'
def tav (G : Gam) (k : Kn) (C : CallSem) (cl : Ex) (Wx : WX) (es : List E) : TA := fun σ H Q => ∃ Hv env st ρ Qw Xw, Sim G k σ Hv H env st ρ ∧ wpEs C G.P cl es env st Qw Xw ∧
  PostA G ρ st.length Hv H Qw Q ∧ PostX G ρ st.length Hv H Xw σ Wx

/-! ### weakening -/
theorem pe_weak {X : Cx} {e : Expr} {t t' : TE} (h : PE X e t) (i : ∀ σ H Q, t' σ H Q → t σ H Q) : PE X e t' := ⟨fun pins s σ H Q I q => h.run pins s σ H Q I (i σ H Q q)⟩
theorem pt_weak {X : Cx} {e : Expr} {t t' : TT} (h : PT X e t) (i : ∀ σ H Q, t' σ H Q → t σ H Q) : PT X e t' := ⟨fun pins s σ H Q I q => h.run pins s σ H Q I (i σ H Q q)⟩
theorem pw_weak {X : Cx} {e : Expr} {t t' : TT} (h : PW X e t) (i : ∀ σ H Q, t' σ H Q → t σ H Q) : PW X e t' := ⟨fun wh pins s σ H Q I q => h.run wh pins s σ H Q I (i σ H Q q)⟩
theorem pa_weak {X : Cx} {e : List Expr} {t t' : TA} (h : PA X e t) (i : ∀ σ H Q, t' σ H Q → t σ H Q) : PA X e t' := ⟨fun pos pins s σ H Q I q => h.run pos pins s σ H Q I (i σ H Q q)⟩
theorem ps_weak {X : Cx} {e : Stmt} {t t' : TS} (h : PS X e t) (i : ∀ D σ H, t' D σ H → t D σ H) : PS X e t' := ⟨fun pins s σ H D I q => h.run pins s σ H D I (i D σ H q)⟩
theorem pss_weak {X : Cx} {e : List Stmt} {t t' : TS} (h : PSs X e t) (i : ∀ D σ H, t' D σ H → t D σ H) : PSs X e t' := ⟨fun pins s σ H D I q => h.run pins s σ H D I (i D σ H q)⟩

section
variable {G : Gam} {ρ ρ' ρ'' : Nat → Addr} {n n' n'' : Nat} {Hv H Hv' H' Hv'' H'' H0 : Hp} {st st' : Store}
theorem RVt.of {w : W} {v : V} (h : RV G ρ n Hv w v) : RVt G ρ n Hv H H0 w v := by
  cases w <;> first | exact h | exact h.elim
theorem RVt.mono {w : W} {v : V} (l : Le ρ n Hv H ρ' n' Hv' H') (h : RVt G ρ n Hv H H0 w v) : RVt G ρ' n' Hv' H' H0 w v := by
  cases w with
  | tmp ws =>
    obtain ⟨a, vs, e, h1, h2, h3, h4⟩ := h
    obtain ⟨q1, q2⟩ := l.hid a _ h1 h2 (fun ps z => by cases z)
    exact ⟨a, vs, e, q1, q2, h3, RVs.mono l.lv ws vs h4⟩
  | _ => exact RV.mono l.lv _ _ h
theorem RVt.back {H1 : Hp} {w : W} {v : V} (b : ∀ a, Fr H1 a → Fr H0 a) (h : RVt G ρ n Hv H H1 w v) : RVt G ρ n Hv H H0 w v := by
  cases w with
  | tmp ws =>
    obtain ⟨a, vs, e, h1, h2, h3, h4⟩ := h
    exact ⟨a, vs, e, h1, h2, b a h3, h4⟩
  | _ => exact h
theorem RVts.mono (l : Le ρ n Hv H ρ' n' Hv' H') : ∀ {ws : List W} {vs : List V}, RVts G ρ n Hv H H0 ws vs → RVts G ρ' n' Hv' H' H0 ws vs
  | [], _, h => h
  | w :: ws, vs, h => by
    obtain ⟨v, r, e, h1, h2⟩ := h
    exact ⟨v, r, e, h1.mono l, RVts.mono l h2⟩
theorem RVts.back {H1 : Hp} (b : ∀ a, Fr H1 a → Fr H0 a) : ∀ {ws : List W} {vs : List V}, RVts G ρ n Hv H H1 ws vs → RVts G ρ n Hv H H0 ws vs
  | [], _, h => h
  | w :: ws, vs, h => by
    obtain ⟨v, r, e, h1, h2⟩ := h
    exact ⟨v, r, e, h1.back b, RVts.back b h2⟩
theorem Le.back (l : Le ρ n Hv H ρ' n' Hv' H') : ∀ a, Fr H' a → Fr H a := l.trk
theorem PostE.step {Qw : Post} {Q : VK} (p : PostE G ρ n Hv H Qw Q) (l : Le ρ n Hv H ρ' n' Hv' H') : PostE G ρ' n' Hv' H' Qw Q :=
  fun w st' v Hv2 H2 ρ2 q l2 so r => p w st' v Hv2 H2 ρ2 q (l.trans l2) so (r.back l.back)
theorem PostT.step {Qw : Post} {Q : Bool → Hp → Prop} (p : PostT G ρ n Hv H Qw Q) (l : Le ρ n Hv H ρ' n' Hv' H') : PostT G ρ' n' Hv' H' Qw Q :=
  fun w st' Hv2 H2 ρ2 q l2 so => p w st' Hv2 H2 ρ2 q (l.trans l2) so
theorem PostA.step {Qw : List W → Store → Prop} {Q : List V → Hp → Prop} (p : PostA G ρ n Hv H Qw Q) (l : Le ρ n Hv H ρ' n' Hv' H') : PostA G ρ' n' Hv' H' Qw Q :=
  fun w st' v Hv2 H2 ρ2 q l2 so r => p w st' v Hv2 H2 ρ2 q (l.trans l2) so (r.back l.back)
theorem PostX.step {Xw : XPost} {σ : L2.St} {Wx : WX} (p : PostX G ρ n Hv H Xw σ Wx) (l : Le ρ n Hv H ρ' n' Hv' H') : PostX G ρ' n' Hv' H' Xw σ Wx :=
  fun c w st' Hv2 H2 ρ2 d q l2 so r => p c w st' Hv2 H2 ρ2 d q (l.trans l2) so r

/-! ### new objects -/
theorem StO.hn (so : StO G ρ Hv H st) {p : Addr} (h : H p = none) : Hv p = none := by
  cases q : Hv p with
  | none => rfl
  | some o => rw [so.sub p o q] at h; cases h
theorem StO.cell_ne (so : StO G ρ Hv H st) {p : Addr} (h : Hv p = none) : ∀ i, i < st.length → ρ i ≠ p := fun i hi z => by
  obtain ⟨o, e, _⟩ := so.sto i st[i] (List.getElem?_eq_getElem hi)
  rw [z, h] at e
  cases e
/-- an object that may not be spoken of -/
theorem le_hid (so : StO G ρ Hv H st) {p : Addr} {o : HO} (h : H p = none) : Le ρ n Hv H ρ n Hv (upd H p o) where
  lv := Lv.refl
  hid := fun a u e1 e2 _ => ⟨by rw [upd_ne (ne_of_none e1 h)]; exact e1, e2⟩
  trk := fun a f u e => f u (by rw [upd_ne (ne_of_none e h)]; exact e)
theorem tabs_upd {T : List (Addr × Str)} {p : Addr} {o : HO} (t : LamX.Tabs T H) (h : H p = none) : LamX.Tabs T (upd H p o) := t.ext fun b u e => by
  rw [upd_ne (ne_of_none e h)]; exact e
theorem so_hid (so : StO G ρ Hv H st) {p : Addr} {o : HO} (h : H p = none) : StO G ρ Hv (upd H p o) st where
  sub := fun a u e => by
    have e' := so.sub a u e
    rw [upd_ne (ne_of_none e' h)]; exact e'
  sto := so.sto
  inj := so.inj
  tab := tabs_upd so.tab h
  nt := so.nt
/-- a new object that may be spoken of -/
theorem lv_new {p : Addr} {o : HO} (h : Hv p = none) : Lv ρ n Hv ρ n (upd Hv p o) where
  le := Nat.le_refl _
  same := fun _ _ => rfl
  new := fun i h1 h2 => by omega
  keep := fun a u e _ => by rw [upd_ne (ne_of_none e h)]; exact e
  vis := fun a e => by
    by_cases ha : a = p
    · subst ha; rw [upd_same]; simp
    · rw [upd_ne ha]; exact e
theorem le_new (so : StO G ρ Hv H st) {p : Addr} {o : HO} (h : H p = none) : Le ρ n Hv H ρ n (upd Hv p o) (upd H p o) where
  lv := lv_new (so.hn h)
  hid := fun a u e1 e2 _ => ⟨by rw [upd_ne (ne_of_none e1 h)]; exact e1, by rw [upd_ne (ne_of_none e1 h)]; exact e2⟩
  trk := fun a f u e => f u (by rw [upd_ne (ne_of_none e h)]; exact e)
theorem so_new (so : StO G ρ Hv H st) {p : Addr} {o : HO} (h : H p = none) (ho : Vk o) : StO G ρ (upd Hv p o) (upd H p o) st where
  sub := fun a u e => by
    by_cases ha : a = p
    · subst ha; rw [upd_same] at e ⊢; exact e
    · rw [upd_ne ha] at e ⊢; exact so.sub a u e
  sto := fun i c e => by
    obtain ⟨u, e1, e2⟩ := so.sto i c e
    exact ⟨u, by rw [upd_ne (ne_of_none e1 (so.hn h))]; exact e1, e2.mono (lv_new (so.hn h))⟩
  inj := so.inj
  tab := tabs_upd so.tab h
  nt := fun a u e => by
    by_cases ha : a = p
    · subst ha; rw [upd_same] at e; cases e; exact ho
    · rw [upd_ne ha] at e; exact so.nt a u e
theorem fin_tup (so : StO G ρ Hv H st) {Qw : Post} {Q : VK} {p : Addr} {ws : List W} {vs : List V} (P : PostE G ρ st.length Hv H Qw Q) (hp : H p = none) (r : RVs G ρ st.length Hv ws vs) (q : Qw (.tup ws) st) : Q (.ref p) (upd H p (.tup vs)) :=
  P _ st _ (upd Hv p (.tup vs)) _ ρ q (le_new so hp) (so_new so hp trivial)
    ⟨p, vs, rfl, upd_same, so.cell_ne (so.hn hp), RVs.mono (lv_new (so.hn hp)) ws vs r⟩
theorem fin_tmp (so : StO G ρ Hv H st) {Qw : Post} {Q : VK} {p : Addr} {ws : List W} {vs : List V} (P : PostE G ρ st.length Hv H Qw Q) (hp : H p = none) (r : RVs G ρ st.length Hv ws vs) (q : Qw (.tmp ws) st) : Q (.ref p) (upd H p (.lst vs)) :=
  P _ st _ Hv _ ρ q (le_hid so hp) (so_hid so hp) ⟨p, vs, rfl, upd_same, so.hn hp, Fr.none hp, r⟩
theorem fin_val (so : StO G ρ Hv H st) {Qw : Post} {Q : VK} {w : W} {v : V} (P : PostE G ρ st.length Hv H Qw Q) (r : RV G ρ st.length Hv w v) (q : Qw w st) : Q v H :=
  P w st v Hv H ρ q Le.refl so (RVt.of r)
/-! ### a new list comes to be known (read-only), or a cell -/
/-- a value on its way to be told: a list that nobody else holds, known or not -/
def RVr (G : Gam) (ρ : Nat → Addr) (n : Nat) (Hv H H0 : Hp) : W → V → Prop
  | .tmp ws, v => ∃ a vs, v = .ref a ∧ H a = some (.lst vs) ∧ (Hv a = none ∨ Hv a = some (.lst vs)) ∧ (∀ i, i < n → ρ i ≠ a) ∧ Fr H0 a ∧ RVs G ρ n Hv ws vs
  | w, v => RV G ρ n Hv w v
def RVrs (G : Gam) (ρ : Nat → Addr) (n : Nat) (Hv H H0 : Hp) : List W → List V → Prop
  | [], vs => vs = []
  | w :: ws, vs => ∃ v r, vs = v :: r ∧ RVr G ρ n Hv H H0 w v ∧ RVrs G ρ n Hv H H0 ws r
theorem RVt.r (so : StO G ρ Hv H st) {w : W} {v : V} (h : RVt G ρ st.length Hv H H0 w v) : RVr G ρ st.length Hv H H0 w v := by
  cases w with
  | tmp ws =>
    obtain ⟨a, vs, e, h1, h2, h3, h4⟩ := h
    exact ⟨a, vs, e, h1, .inl h2, so.cell_ne h2, h3, h4⟩
  | _ => exact h
theorem RVts.r (so : StO G ρ Hv H st) : ∀ {ws : List W} {vs : List V}, RVts G ρ st.length Hv H H0 ws vs → RVrs G ρ st.length Hv H H0 ws vs
  | [], _, h => h
  | w :: ws, vs, h => by
    obtain ⟨v, r, e, h1, h2⟩ := h
    exact ⟨v, r, e, h1.r so, RVts.r so h2⟩
theorem RVr.grow {a : Addr} {vs0 : List V} (ha : Hv a = none) (hH : H a = some (.lst vs0)) {w : W} {v : V} (h : RVr G ρ n Hv H H0 w v) : RVr G ρ n (upd Hv a (.lst vs0)) H H0 w v := by
  cases w with
  | tmp ws =>
    obtain ⟨b, vs, e, h1, h2, h3, h4, h5⟩ := h
    refine ⟨b, vs, e, h1, ?_, h3, h4, RVs.mono (lv_new ha) ws vs h5⟩
    by_cases hb : b = a
    · subst hb
      rw [upd_same]
      rw [h1] at hH
      exact .inr hH.symm
    · rw [upd_ne hb]
      exact h2
  | _ => exact RV.mono (lv_new ha) _ _ h
theorem RVrs.grow {a : Addr} {vs0 : List V} (ha : Hv a = none) (hH : H a = some (.lst vs0)) : ∀ {ws : List W} {vs : List V}, RVrs G ρ n Hv H H0 ws vs → RVrs G ρ n (upd Hv a (.lst vs0)) H H0 ws vs
  | [], _, h => h
  | w :: ws, vs, h => by
    obtain ⟨v, r, e, h1, h2⟩ := h
    exact ⟨v, r, e, h1.grow ha hH, RVrs.grow ha hH h2⟩
theorem le_known {ρ0 : Nat → Addr} {n0 : Nat} {Hv0 : Hp} (l : Le ρ0 n0 Hv0 H0 ρ n Hv H) {a : Addr} {o : HO} (ha : Hv a = none) (h0 : Fr H0 a) : Le ρ0 n0 Hv0 H0 ρ n (upd Hv a o) H where
  lv := l.lv.trans (lv_new ha)
  hid := fun b u e1 e2 e3 => by
    obtain ⟨q1, q2⟩ := l.hid b u e1 e2 e3
    exact ⟨q1, by rw [upd_ne (h0.ne e1 e3)]; exact q2⟩
  trk := l.trk
theorem so_known (so : StO G ρ Hv H st) {a : Addr} {o : HO} (ha : Hv a = none) (hH : H a = some o) (ho : Vk o) : StO G ρ (upd Hv a o) H st where
  sub := fun b u e => by
    by_cases hb : b = a
    · subst hb; rw [upd_same] at e; rw [← Option.some.inj e]; exact hH
    · rw [upd_ne hb] at e; exact so.sub b u e
  sto := fun i c e => by
    obtain ⟨u, e1, e2⟩ := so.sto i c e
    exact ⟨u, by rw [upd_ne (ne_of_none e1 ha)]; exact e1, e2.mono (lv_new ha)⟩
  inj := so.inj
  tab := so.tab
  nt := fun b u e => by
    by_cases hb : b = a
    · subst hb; rw [upd_same] at e; cases e; exact ho
    · rw [upd_ne hb] at e; exact so.nt b u e
/-- one value is told -/
theorem known1 {ρ0 : Nat → Addr} {n0 : Nat} {Hv0 : Hp} (l : Le ρ0 n0 Hv0 H0 ρ st.length Hv H) (so : StO G ρ Hv H st) {w : W} {v : V} (r : RVr G ρ st.length Hv H H0 w v) :
    ∃ Hv', Le ρ0 n0 Hv0 H0 ρ st.length Hv' H ∧ Lv ρ st.length Hv ρ st.length Hv' ∧ StO G ρ Hv' H st ∧ RV G ρ st.length Hv' (ro w) v ∧ (∀ ws vs, RVrs G ρ st.length Hv H H0 ws vs → RVrs G ρ st.length Hv' H H0 ws vs) := by
  cases w with
  | tmp ws =>
    obtain ⟨a, vs, e, h1, h2, h3, h4, h5⟩ := r
    rcases h2 with h2 | h2
    · exact ⟨upd Hv a (.lst vs), le_known l h2 h4, lv_new h2, so_known so h2 h1 trivial, ⟨a, vs, e, upd_same, h3, RVs.mono (lv_new h2) ws vs h5⟩, fun _ _ h => h.grow h2 h1⟩
    · exact ⟨Hv, l, Lv.refl, so, ⟨a, vs, e, h2, h3, h5⟩, fun _ _ h => h⟩
  | _ => exact ⟨Hv, l, Lv.refl, so, r, fun _ _ h => h⟩
/-- all are told -/
theorem knowns {ρ0 : Nat → Addr} {n0 : Nat} {Hv0 : Hp} : ∀ {ws : List W} {vs : List V} {Hv : Hp}, Le ρ0 n0 Hv0 H0 ρ st.length Hv H → StO G ρ Hv H st → RVrs G ρ st.length Hv H H0 ws vs →
    ∃ Hv', Le ρ0 n0 Hv0 H0 ρ st.length Hv' H ∧ Lv ρ st.length Hv ρ st.length Hv' ∧ StO G ρ Hv' H st ∧ RVs G ρ st.length Hv' (ws.map ro) vs
  | [], vs, Hv, l, so, h => ⟨Hv, l, Lv.refl, so, h⟩
  | w :: ws, vs, Hv, l, so, h => by
    obtain ⟨v, r, e, h1, h2⟩ := h
    obtain ⟨Hv1, l1, lv1, so1, r1, g1⟩ := known1 l so h1
    obtain ⟨Hv2, l2, lv2, so2, r2⟩ := knowns l1 so1 (g1 _ _ h2)
    exact ⟨Hv2, l2, lv1.trans lv2, so2, v, r, e, RV.mono lv2 _ _ r1, r2⟩
end
end Ev

set_option maxRecDepth 100000
set_option maxHeartbeats 1000000
/-! Ev3: operators, subscripts, tests by values. -/
namespace Ev
open PySem PySem.Spec PyProof.Rows L2

/-- a two-place operation that leaves the store -/
def opR (G : Gam) (sem : Store → W → W → (W → Prop) → Prop) : R2 := fun x y H Q => ∃ Hv st ρ w1 w2 Ha Hb Qb, StO G ρ Hv H st ∧ RVt G ρ st.length Hv H Ha w1 x ∧ RVt G ρ st.length Hv H Hb w2 y ∧ sem st w1 w2 Qb ∧
  PostE G ρ st.length Hv H (fun w st' => st' = st ∧ Qb w) Q
theorem opR_weak {X : Cx} {f : Value → Value → Sem Value} {r r' : R2} (h : OpR X f r) (i : ∀ x y H Q, r' x y H Q → r x y H Q) : OpR X f r' :=
  fun pins s σ H x y v u Q I r1 r2 q => h pins s σ H x y v u Q I r1 r2 (i x y H Q q)

section
variable {G : Gam} {ρ : Nat → Addr} {n : Nat} {Hv H H0 : Hp} {st : Store} {X : Cx}
/-! ### what stands there -/
theorem seq_tup (so : StO G ρ Hv H st) {a : Addr} {vs : List V} (h : Hv a = some (.tup vs)) : SqT G.K H a vs := .inl (.inl (so.sub _ _ h))
/-- a list (of a cell, known or of nobody) -/
theorem seq_lst (so : StO G ρ Hv H st) {w : W} {v : V} {ws : List W} (r : RVt G ρ st.length Hv H H0 w v) (e : lstW st w = some ws) : ∃ a vs, v = .ref a ∧ H a = some (.lst vs) ∧ RVs G ρ st.length Hv ws vs := by
  cases w with
  | lst us =>
    obtain ⟨a, vs, e1, h1, _, h2⟩ := r
    simp only [lstW, Option.some.injEq] at e
    subst e
    exact ⟨a, vs, e1, so.sub _ _ h1, h2⟩
  | tmp us =>
    obtain ⟨a, vs, e1, h1, _, _, h2⟩ := r
    simp only [lstW, Option.some.injEq] at e
    subst e
    exact ⟨a, vs, e1, h1, h2⟩
  | loc i =>
    obtain ⟨hi, e1⟩ := r
    simp only [lstW] at e
    split at e
    · rename_i us hu
      cases e
      obtain ⟨o, h1, vs, rfl, h2⟩ := so.sto i _ hu
      exact ⟨ρ i, vs, e1, so.sub _ _ h1, h2⟩
    · cases e
  | _ => simp [lstW] at e
/-- a list or a tuple -/
theorem seq_any (so : StO G ρ Hv H st) {w : W} {v : V} {ws : List W} (r : RVt G ρ st.length Hv H H0 w v) (e : seqW st w = some ws) (hs : ∀ ns, w ≠ .scr ns) :
    ∃ a vs, v = .ref a ∧ (SqL G.K H a vs ∨ SqT G.K H a vs) ∧ RVs G ρ st.length Hv ws vs := by
  cases w with
  | tup us =>
    obtain ⟨a, vs, e1, h1, _, h2⟩ := r
    simp only [seqW, Option.some.injEq] at e
    subst e
    exact ⟨a, vs, e1, .inr (seq_tup so h1), h2⟩
  | ktup us =>
    obtain ⟨a, vs, e1, h1, h2⟩ := r
    simp only [seqW, Option.some.injEq] at e
    subst e
    exact ⟨a, vs, e1, .inr (h1 H), h2⟩
  | scr ns => exact absurd rfl (hs ns)
  | lst us =>
    obtain ⟨a, vs, e1, h1, h2⟩ := seq_lst (ws := ws) so r (by simpa [lstW, seqW] using e)
    exact ⟨a, vs, e1, .inl (SqL.of h1), h2⟩
  | tmp us =>
    obtain ⟨a, vs, e1, h1, h2⟩ := seq_lst (ws := ws) so r (by simpa [lstW, seqW] using e)
    exact ⟨a, vs, e1, .inl (SqL.of h1), h2⟩
  | loc i =>
    obtain ⟨a, vs, e1, h1, h2⟩ := seq_lst (ws := ws) so r (by simpa [lstW, seqW] using e)
    exact ⟨a, vs, e1, .inl (SqL.of h1), h2⟩
  | _ => simp [seqW] at e
/-! ### plain data -/
mutual
theorem dp_of (so : StO G ρ Hv H st) : ∀ (w : W) (v : V), RV G ρ st.length Hv w v → isD w = true → Dp G.K H v (toD w)
  | .non, v, h, _ => by
    have e : v = _ := h
    subst e
    exact .non
  | .bl b, v, h, _ => by
    have e : v = _ := h
    subst e
    exact .bl b
  | .int i, v, h, _ => by
    have e : v = _ := h
    subst e
    exact .int i
  | .str x, v, h, _ => by
    have e : v = _ := h
    subst e
    exact .str x
  | .tup ws, v, h, hd => by
    simp only [RV] at h
    obtain ⟨a, vs, rfl, h1, _, h2⟩ := h
    exact .tup (seq_tup so h1) (dps_of so ws vs h2 (by simpa [isD] using hd))
  | .ktup ws, v, h, hd => by
    simp only [RV] at h
    obtain ⟨a, vs, rfl, h1, h2⟩ := h
    exact .tup (h1 H) (dps_of so ws vs h2 (by simpa [isD] using hd))
  | .lst ws, v, h, hd => by
    simp only [RV] at h
    obtain ⟨a, vs, rfl, h1, _, h2⟩ := h
    exact .lst (SqL.of (so.sub _ _ h1)) (dps_of so ws vs h2 (by simpa [isD] using hd))
  | .undef, _, h, _ => h.elim
  | .tmp _, _, h, _ => h.elim
  | .scr _, _, _, hd => by simp [isD] at hd
  | .loc _, _, _, hd => by simp [isD] at hd
  | .fn _, _, _, hd => by simp [isD] at hd
theorem dps_of (so : StO G ρ Hv H st) : ∀ (ws : List W) (vs : List V), RVs G ρ st.length Hv ws vs → isDs ws = true → DpAll G.K H vs (toDs ws)
  | [], vs, h, _ => by
    have e : vs = [] := h
    subst e
    exact .nil
  | w :: ws, vs, h, hd => by
    simp only [RVs] at h
    obtain ⟨v, r, rfl, h1, h2⟩ := h
    have hd' : isD w = true ∧ isDs ws = true := by simpa [isDs] using hd
    exact .cons (dp_of so w v h1 hd'.1) (dps_of so ws r h2 hd'.2)
end
theorem dp_t (so : StO G ρ Hv H st) {w : W} {v : V} (h : RVt G ρ st.length Hv H H0 w v) (hd : isD w = true) : Dp G.K H v (toD w) := by
  cases w with
  | tmp ws =>
    obtain ⟨a, vs, rfl, h1, _, _, h2⟩ := h
    exact .lst (SqL.of h1) (dps_of so ws vs h2 (by simpa [isD] using hd))
  | _ => exact dp_of so _ _ h hd
theorem dp_dat (so : StO G ρ Hv H st) {w : W} {v : V} {d : PyData} (h : RVt G ρ st.length Hv H H0 w v) (e : datW st w = some d) : Dp G.K H v d := by
  cases w with
  | loc i =>
    obtain ⟨hi, rfl⟩ := h
    simp only [datW] at e
    split at e
    · rename_i us hu
      split at e
      · rename_i hd
        cases e
        obtain ⟨o, h1, vs, rfl, h2⟩ := so.sto i _ hu
        exact .lst (SqL.of (so.sub _ _ h1)) (dps_of so us vs h2 hd)
      · cases e
    · cases e
  | _ =>
    simp only [datW] at e
    split at e
    · rename_i hd
      cases e
      exact dp_t so h hd
    · cases e
/-- the end of an operation whose answer is no new object -/
theorem fin1 (so : StO G ρ Hv H st) {Qb : W → Prop} {Q : VK} {w : W} {v : V} (P : PostE G ρ st.length Hv H (fun w st' => st' = st ∧ Qb w) Q) (q : Qb w) (r : RV G ρ st.length Hv w v) : Q v H :=
  fin_val so P r ⟨rfl, q⟩
theorem fin1t (so : StO G ρ Hv H st) {Qb : W → Prop} {Q : VK} {ws : List W} {vs : List V} {p : Addr} (P : PostE G ρ st.length Hv H (fun w st' => st' = st ∧ Qb w) Q) (q : Qb (.tup ws)) (hp : H p = none) (r : RVs G ρ st.length Hv ws vs) : Q (.ref p) (upd H p (.tup vs)) :=
  fin_tup so P hp r ⟨rfl, q⟩
theorem fin1l (so : StO G ρ Hv H st) {Qb : W → Prop} {Q : VK} {ws : List W} {vs : List V} {p : Addr} (P : PostE G ρ st.length Hv H (fun w st' => st' = st ∧ Qb w) Q) (q : Qb (.tmp ws)) (hp : H p = none) (r : RVs G ρ st.length Hv ws vs) : Q (.ref p) (upd H p (.lst vs)) :=
  fin_tmp so P hp r ⟨rfl, q⟩
theorem RVs.len0 {ws : List W} {vs : List V} (r : RVs G ρ n Hv ws vs) : ws = [] ↔ vs = [] := by
  have := r.length
  cases ws <;> cases vs <;> simp_all

/-! ### the operators -/
theorem w_add (hK : X.K = G.K) : OpR X (binaryOp .Add) (opR G fun st => binW st .Add) := by
  refine opR_weak (OpR.or (OpR.or op_add op_add_str) (OpR.or op_catA op_cat)) fun x y H Q h => ?_
  obtain ⟨Hv, st, ρ, w1, w2, Ha, Hb, Qb, so, r1, r2, q, P⟩ := h
  have lists : (∃ xs ys, lstW st w1 = some xs ∧ lstW st w2 = some ys ∧ xs.length + ys.length ≤ sizeLine ∧ Qb (.tmp (xs ++ ys))) → rCat x y H Q := by
    rintro ⟨xs, ys, e1, e2, hz, q⟩
    obtain ⟨a, vs, rfl, h1, h2⟩ := seq_lst so r1 e1
    obtain ⟨b, us, rfl, h3, h4⟩ := seq_lst so r2 e2
    exact ⟨a, b, vs, us, rfl, rfl, h1, h3, by rw [← h2.length, ← h4.length]; exact hz, fun p hp => fin1l so P q hp (RVs.append h2 h4)⟩
  simp only [binW] at q
  split at q
  · obtain rfl : x = _ := r1
    obtain rfl : y = _ := r2
    exact .inl (.inl ⟨_, _, rfl, rfl, fin1 so P q rfl⟩)
  · obtain rfl : x = _ := r1
    obtain rfl : y = _ := r2
    exact .inl (.inr ⟨_, _, rfl, rfl, q.1, fin1 so P q.2 rfl⟩)
  · rename_i xs ys
    obtain ⟨a, vs, rfl, h1, g1, h2⟩ := r1
    obtain ⟨b, us, rfl, h3, g3, h4⟩ := r2
    obtain ⟨hz, q⟩ := q
    refine .inr (.inl ⟨a, b, vs, us, rfl, rfl, by rw [hK]; exact seq_tup so h1, by rw [hK]; exact seq_tup so h3, by rw [← h2.length, ← h4.length]; exact hz, fun e => ?_, fun e1 e => ?_, fun _ _ p hp => fin1t so P q hp (RVs.append h2 h4)⟩)
    · have e' := h2.len0.mpr e
      subst e'
      exact fin1 so P (w := .tup ys) (by simpa using q) ⟨b, us, rfl, h3, g3, h4⟩
    · have e' := h4.len0.mpr e
      subst e'
      exact fin1 so P (w := .tup xs) (by simpa using q) ⟨a, vs, rfl, h1, g1, h2⟩
  · exact .inr (.inr (lists q))
theorem w_sub : OpR X (binaryOp .Sub) (opR G fun st => binW st .Sub) := by
  refine opR_weak op_sub fun x y H Q h => ?_
  obtain ⟨Hv, st, ρ, w1, w2, Ha, Hb, Qb, so, r1, r2, q, P⟩ := h
  simp only [binW] at q
  split at q
  · obtain rfl : x = _ := r1
    obtain rfl : y = _ := r2
    exact ⟨_, _, rfl, rfl, fin1 so P q rfl⟩
  · exact q.elim
theorem w_mul (hK : X.K = G.K) : OpR X (binaryOp .Mult) (opR G fun st => binW st .Mult) := by
  refine opR_weak (OpR.or (OpR.or op_mul op_mulW) (OpR.or op_repT (OpR.or op_rep op_repT1))) fun x y H Q h => ?_
  obtain ⟨Hv, st, ρ, w1, w2, Ha, Hb, Qb, so, r1, r2, q, P⟩ := h
  simp only [binW] at q
  split at q
  · obtain rfl : x = _ := r1
    obtain rfl : y = _ := r2
    obtain ⟨hc | hc, q⟩ := q
    · exact .inl (.inl ⟨_, _, rfl, rfl, hc, fin1 so P q rfl⟩)
    · exact .inl (.inr ⟨_, _, rfl, rfl, hc, fin1 so P q rfl⟩)
  · rename_i xs j
    obtain ⟨a, vs, rfl, h1, h1', h2⟩ := r1
    obtain rfl : y = _ := r2
    obtain ⟨q1, q2, q3, q4, q⟩ := q
    by_cases hj1 : j = 1
    · subst hj1
      refine .inr (.inr (.inr ⟨a, vs, rfl, rfl, by rw [hK]; exact seq_tup so h1, fin1 so P (w := .tup xs) (by simpa using q) ⟨a, vs, rfl, h1, h1', h2⟩⟩))
    refine .inr (.inl ⟨a, _, vs, rfl, rfl, by rw [hK]; exact seq_tup so h1, fun e => q1 (h2.len0.mpr e), by omega, q3, by rw [← h2.length]; exact q4, fun p hp => fin1t so P q hp ?_⟩)
    clear q
    induction j.toNat with
    | zero => exact rfl
    | succ m ih =>
      rw [List.replicate_succ, List.replicate_succ, List.flatten_cons, List.flatten_cons]
      exact RVs.append h2 ih
  · rename_i j _ _
    obtain rfl : y = _ := r2
    obtain ⟨xs, e1, q2, q3, q4, q⟩ := q
    obtain ⟨a, vs, rfl, h1, h2⟩ := seq_lst so r1 e1
    refine .inr (.inr (.inl ⟨a, _, vs, rfl, rfl, h1, q2, q3, by rw [← h2.length]; exact q4, fun p hp => fin1l so P q hp ?_⟩))
    clear q q4
    induction j.toNat with
    | zero => exact rfl
    | succ m ih =>
      rw [List.replicate_succ, List.replicate_succ, List.flatten_cons, List.flatten_cons]
      exact RVs.append h2 ih
  · exact q.elim
theorem w_fdiv : OpR X (binaryOp .FloorDiv) (opR G fun st => binW st .FloorDiv) := by
  refine opR_weak (OpR.or op_fdiv op_fdivW) fun x y H Q h => ?_
  obtain ⟨Hv, st, ρ, w1, w2, Ha, Hb, Qb, so, r1, r2, q, P⟩ := h
  simp only [binW] at q
  split at q
  · obtain rfl : x = _ := r1
    obtain rfl : y = _ := r2
    obtain ⟨hc | hc, q⟩ := q
    · exact .inl ⟨_, _, rfl, rfl, hc, fin1 so P q rfl⟩
    · exact .inr ⟨_, _, rfl, rfl, hc, fin1 so P q rfl⟩
  · exact q.elim
theorem w_int {op : Operator} {C : Int → Int → Prop} {g : Int → Int → Int} (h0 : OpR X (binaryOp op) (rI C fun i j => .int (g i j))) (hs : ∀ st x y Q, binW st op x y Q → ∃ i j, x = .int i ∧ y = .int j ∧ C i j ∧ Q (.int (g i j))) :
    OpR X (binaryOp op) (opR G fun st => binW st op) := by
  refine opR_weak h0 fun x y H Q h => ?_
  obtain ⟨Hv, st, ρ, w1, w2, Ha, Hb, Qb, so, r1, r2, q, P⟩ := h
  obtain ⟨i, j, rfl, rfl, hc, q⟩ := hs _ _ _ _ q
  obtain rfl : x = _ := r1
  obtain rfl : y = _ := r2
  exact ⟨_, _, rfl, rfl, hc, fin1 so P q rfl⟩
theorem w_int0 {op : Operator} {g : Int → Int → Int} (h0 : OpR X (binaryOp op) (rI0 fun i j => .int (g i j))) (hs : ∀ st x y Q, binW st op x y Q → ∃ i j, x = .int i ∧ y = .int j ∧ Q (.int (g i j))) :
    OpR X (binaryOp op) (opR G fun st => binW st op) := by
  refine opR_weak h0 fun x y H Q h => ?_
  obtain ⟨Hv, st, ρ, w1, w2, Ha, Hb, Qb, so, r1, r2, q, P⟩ := h
  obtain ⟨i, j, e1, e2, q'⟩ := hs _ _ _ _ q
  subst e1 e2
  obtain rfl : x = _ := r1
  obtain rfl : y = _ := r2
  exact ⟨_, _, rfl, rfl, fin1 so P q' rfl⟩
theorem w_bin (hK : X.K = G.K) : ∀ op, OpR X (binaryOp op) (opR G fun st => binW st op)
  | .Add => w_add hK
  | .Sub => w_sub
  | .Mult => w_mul hK
  | .FloorDiv => w_fdiv
  | .Mod => w_int op_mod fun st x y Q h => by
    simp only [binW] at h
    split at h
    · exact ⟨_, _, rfl, rfl, h⟩
    · exact h.elim
  | .Pow => w_int op_pow fun st x y Q h => by
    simp only [binW] at h
    split at h
    · exact ⟨_, _, rfl, rfl, h⟩
    · exact h.elim
  | .LShift => w_int op_shl fun st x y Q h => by
    simp only [binW] at h
    split at h
    · exact ⟨_, _, rfl, rfl, h⟩
    · exact h.elim
  | .RShift => w_int op_shr fun st x y Q h => by
    simp only [binW] at h
    split at h
    · exact ⟨_, _, rfl, rfl, h⟩
    · exact h.elim
  | .BitAnd => w_int0 op_and fun st x y Q h => by
    simp only [binW] at h
    split at h
    · exact ⟨_, _, rfl, rfl, h⟩
    · exact h.elim
  | .BitOr => w_int0 op_or fun st x y Q h => by
    simp only [binW] at h
    split at h
    · exact ⟨_, _, rfl, rfl, h⟩
    · exact h.elim
  | .BitXor => fun pins s σ H x y v u Q I r1 r2 ⟨_, _, _, _, _, _, _, _, _, _, _, q, _⟩ => q.elim
  | .MatMult => fun pins s σ H x y v u Q I r1 r2 ⟨_, _, _, _, _, _, _, _, _, _, _, q, _⟩ => q.elim
  | .Div => fun pins s σ H x y v u Q I r1 r2 ⟨_, _, _, _, _, _, _, _, _, _, _, q, _⟩ => q.elim
/-! ### comparisons -/
theorem rvt_int {i : Int} {v : V} (r : RVt G ρ n Hv H H0 (.int i) v) : v = .int i := r
theorem rvt_str {i : Str} {v : V} (r : RVt G ρ n Hv H H0 (.str i) v) : v = .str i := r
theorem rvt_bl {i : Bool} {v : V} (r : RVt G ρ n Hv H H0 (.bl i) v) : v = .bl i := r
theorem rvt_non {v : V} (r : RVt G ρ n Hv H H0 .non v) : v = .non := r
theorem in1 (r : Room 1 X.A) : X.A.units + 65 < cLine := by have := r.un; omega
/-- two lists of different lengths -/
def rLn (c : Bool) : R2 := fun x y H Q => ∃ a b vs us, x = .ref a ∧ y = .ref b ∧ H a = some (.lst vs) ∧ H b = some (.lst us) ∧ vs.length ≠ us.length ∧ Q (.bl c) H
theorem op_eqLn (hu : X.A.units < cLine) : OpR X (compareOp .Eq) (rLn false) := by
  intro pins s σ H x y v u Q I rx ry h
  obtain ⟨a, b, vs, us, rfl, rfl, ha, hb, hl, q⟩ := h
  cases (show v = Value.ref a from rx)
  cases (show u = Value.ref b from ry)
  obtain ⟨as, r1, p1, _⟩ := I.list (SqL.of ha)
  obtain ⟨bs, r2, p2, _⟩ := I.list (SqL.of hb)
  refine SeqAt.RcAt.lists_lengths p1.isList p2.isList ?_ hu X.prog X.w X.xe _ ⟨.bl _, H, I, rfl, q⟩
  rw [List.size_toArray, List.size_toArray, ← r1.length, ← r2.length]
  simpa using hl
theorem op_neLn (hu : X.A.units < cLine) : OpR X (compareOp .NotEq) (rLn true) := by
  intro pins s σ H x y v u Q I rx ry h
  obtain ⟨a, b, vs, us, rfl, rfl, ha, hb, hl, q⟩ := h
  cases (show v = Value.ref a from rx)
  cases (show u = Value.ref b from ry)
  obtain ⟨as, r1, p1, _⟩ := I.list (SqL.of ha)
  obtain ⟨bs, r2, p2, _⟩ := I.list (SqL.of hb)
  refine SeqAt.RcNeAt.lists_lengths p1.isList p2.isList ?_ hu X.prog X.w X.xe _ ⟨.bl _, H, I, rfl, q⟩
  rw [List.size_toArray, List.size_toArray, ← r1.length, ← r2.length]
  simpa using hl
theorem ln_core {c : Bool} (so : StO G ρ Hv H st) {w1 w2 : W} {Ha Hb : Hp} {x y : V} {Qb : Bool → Prop} {Q : V → Hp → Prop} (r1 : RVt G ρ st.length Hv H Ha w1 x) (r2 : RVt G ρ st.length Hv H Hb w2 y)
    (q : ∃ xs ys, lstW st w1 = some xs ∧ lstW st w2 = some ys ∧ xs.length ≠ ys.length ∧ Qb c) (P : Qb c → Q (.bl c) H) : rLn c x y H Q := by
  obtain ⟨xs, ys, h1, h2, hl, q⟩ := q
  obtain ⟨a, vs, e1, g1, k1⟩ := seq_lst so r1 h1
  obtain ⟨b, us, e2, g2, k2⟩ := seq_lst so r2 h2
  exact ⟨a, b, vs, us, e1, e2, g1, g2, by rw [← k1.length, ← k2.length]; exact hl, P q⟩
/-- x == y of data -/
theorem w_eq (hK : X.K = G.K) (hr : Room 1 X.A) : OpR X (compareOp .Eq) (opR G fun st x y Q => cmpW st .Eq x y fun c => Q (.bl c)) := by
  refine opR_weak (OpR.or (OpR.or op_eq (op_eqD (by have := in1 hr; omega))) (op_eqLn (by have := in1 hr; omega))) fun x y H Q h => ?_
  obtain ⟨Hv, st, ρ, w1, w2, Ha, Hb, Qb, so, r1, r2, q, P⟩ := h
  simp only [cmpW] at q
  split at q
  · obtain rfl := rvt_int r1
    obtain rfl := rvt_int r2
    refine .inl (.inl ⟨rfl, ?_⟩)
    have := fin1 so P (v := .bl _) q rfl
    rw [dec_int]
    exact this
  · rcases q with ⟨d, e, h1, h2, h3, h4, q⟩ | q
    · exact .inl (.inr ⟨d, e, by rw [hK]; exact dp_dat so r1 h1, by rw [hK]; exact dp_dat so r2 h2, h3, h4, fin1 so P q rfl⟩)
    · exact .inr (ln_core (c := false) (Qb := fun c => Qb (.bl c)) so r1 r2 q fun q => fin1 so P (v := .bl _) q rfl)
theorem w_ne (hK : X.K = G.K) (hr : Room 1 X.A) : OpR X (compareOp .NotEq) (opR G fun st x y Q => cmpW st .NotEq x y fun c => Q (.bl c)) := by
  refine opR_weak (OpR.or (OpR.or op_ne (op_neD (by have := in1 hr; omega))) (op_neLn (by have := in1 hr; omega))) fun x y H Q h => ?_
  obtain ⟨Hv, st, ρ, w1, w2, Ha, Hb, Qb, so, r1, r2, q, P⟩ := h
  simp only [cmpW] at q
  split at q
  · obtain rfl := rvt_int r1
    obtain rfl := rvt_int r2
    refine .inl (.inl ⟨rfl, ?_⟩)
    have := fin1 so P (v := .bl _) q rfl
    rw [dec_int]
    exact this
  · rcases q with ⟨d, e, h1, h2, h3, h4, q⟩ | q
    · exact .inl (.inr ⟨d, e, by rw [hK]; exact dp_dat so r1 h1, by rw [hK]; exact dp_dat so r2 h2, h3, h4, fin1 so P q rfl⟩)
    · exact .inr (ln_core (c := true) (Qb := fun c => Qb (.bl c)) so r1 r2 q fun q => fin1 so P (v := .bl _) q rfl)
theorem allInt_rv : ∀ {ws : List W} {ns : List Int} {vs : List V}, allInt ws = some ns → RVs G ρ n Hv ws vs → vs = ns.map V.int
  | [], ns, vs, e, h => by
    simp only [allInt, Option.some.injEq] at e
    subst e
    exact h
  | .int i :: ws, ns, vs, e, h => by
    simp only [RVs] at h
    obtain ⟨v, r, rfl, h1, h2⟩ := h
    simp only [allInt, Option.map_eq_some_iff] at e
    obtain ⟨ms, e1, rfl⟩ := e
    obtain rfl : v = _ := h1
    rw [allInt_rv e1 h2]
    rfl
  | .undef :: _, _, _, e, _ => by simp [allInt] at e
  | .non :: _, _, _, e, _ => by simp [allInt] at e
  | .bl _ :: _, _, _, e, _ => by simp [allInt] at e
  | .str _ :: _, _, _, e, _ => by simp [allInt] at e
  | .tup _ :: _, _, _, e, _ => by simp [allInt] at e
  | .ktup _ :: _, _, _, e, _ => by simp [allInt] at e
  | .lst _ :: _, _, _, e, _ => by simp [allInt] at e
  | .tmp _ :: _, _, _, e, _ => by simp [allInt] at e
  | .scr _ :: _, _, _, e, _ => by simp [allInt] at e
  | .loc _ :: _, _, _, e, _ => by simp [allInt] at e
  | .fn _ :: _, _, _, e, _ => by simp [allInt] at e
theorem allBl_rv : ∀ {ws : List W} {ns : List Bool} {vs : List V}, allBl ws = some ns → RVs G ρ n Hv ws vs → vs = ns.map V.bl
  | [], ns, vs, e, h => by
    simp only [allBl, Option.some.injEq] at e
    subst e
    exact h
  | .bl i :: ws, ns, vs, e, h => by
    simp only [RVs] at h
    obtain ⟨v, r, rfl, h1, h2⟩ := h
    simp only [allBl, Option.map_eq_some_iff] at e
    obtain ⟨ms, e1, rfl⟩ := e
    obtain rfl : v = _ := h1
    rw [allBl_rv e1 h2]
    rfl
  | .undef :: _, _, _, e, _ => by simp [allBl] at e
  | .non :: _, _, _, e, _ => by simp [allBl] at e
  | .int _ :: _, _, _, e, _ => by simp [allBl] at e
  | .str _ :: _, _, _, e, _ => by simp [allBl] at e
  | .tup _ :: _, _, _, e, _ => by simp [allBl] at e
  | .ktup _ :: _, _, _, e, _ => by simp [allBl] at e
  | .lst _ :: _, _, _, e, _ => by simp [allBl] at e
  | .tmp _ :: _, _, _, e, _ => by simp [allBl] at e
  | .scr _ :: _, _, _, e, _ => by simp [allBl] at e
  | .loc _ :: _, _, _, e, _ => by simp [allBl] at e
  | .fn _ :: _, _, _, e, _ => by simp [allBl] at e
theorem allStr_rv : ∀ {ws : List W} {ns : List Str} {vs : List V}, allStr ws = some ns → RVs G ρ n Hv ws vs → vs = ns.map V.str
  | [], ns, vs, e, h => by
    simp only [allStr, Option.some.injEq] at e
    subst e
    exact h
  | .str i :: ws, ns, vs, e, h => by
    simp only [RVs] at h
    obtain ⟨v, r, rfl, h1, h2⟩ := h
    simp only [allStr, Option.map_eq_some_iff] at e
    obtain ⟨ms, e1, rfl⟩ := e
    obtain rfl : v = _ := h1
    rw [allStr_rv e1 h2]
    rfl
  | .undef :: _, _, _, e, _ => by simp [allStr] at e
  | .non :: _, _, _, e, _ => by simp [allStr] at e
  | .int _ :: _, _, _, e, _ => by simp [allStr] at e
  | .bl _ :: _, _, _, e, _ => by simp [allStr] at e
  | .tup _ :: _, _, _, e, _ => by simp [allStr] at e
  | .ktup _ :: _, _, _, e, _ => by simp [allStr] at e
  | .lst _ :: _, _, _, e, _ => by simp [allStr] at e
  | .tmp _ :: _, _, _, e, _ => by simp [allStr] at e
  | .scr _ :: _, _, _, e, _ => by simp [allStr] at e
  | .loc _ :: _, _, _, e, _ => by simp [allStr] at e
  | .fn _ :: _, _, _, e, _ => by simp [allStr] at e
theorem w_lt (hK : X.K = G.K) (hr : Room 1 X.A) : OpR X (compareOp .Lt) (opR G fun st x y Q => cmpW st .Lt x y fun c => Q (.bl c)) := by
  refine opR_weak (OpR.or (OpR.or op_lt op_lt_str) (op_ltT (by have := in1 hr; omega))) fun x y H Q h => ?_
  obtain ⟨Hv, st, ρ, w1, w2, Ha, Hb, Qb, so, r1, r2, q, P⟩ := h
  simp only [cmpW] at q
  split at q
  · obtain rfl := rvt_int r1
    obtain rfl := rvt_int r2
    exact .inl (.inl ⟨_, _, rfl, rfl, fin1 so P q rfl⟩)
  · obtain rfl := rvt_str r1
    obtain rfl := rvt_str r2
    exact .inl (.inr ⟨_, _, rfl, rfl, fin1 so P q rfl⟩)
  · obtain ⟨a, vs, rfl, h1, _, h2⟩ := r1
    obtain ⟨b, us, rfl, h3, _, h4⟩ := r2
    obtain ⟨ns, ms, e1, e2, q⟩ := q
    have f1 := allInt_rv e1 h2
    have f2 := allInt_rv e2 h4
    subst f1 f2
    exact .inr ⟨a, b, ns, ms, rfl, rfl, by rw [hK]; exact seq_tup so h1, by rw [hK]; exact seq_tup so h3, fin1 so P q rfl⟩
  · exact q.elim
theorem w_cmpI {op : CmpOp} {g : Int → Int → Bool} (h0 : OpR X (compareOp op) (rI0 fun i j => .bl (g i j))) (hs : ∀ st x y Q, cmpW st op x y Q → ∃ i j, x = .int i ∧ y = .int j ∧ Q (g i j)) :
    OpR X (compareOp op) (opR G fun st x y Q => cmpW st op x y fun c => Q (.bl c)) := by
  refine opR_weak h0 fun x y H Q h => ?_
  obtain ⟨Hv, st, ρ, w1, w2, Ha, Hb, Qb, so, r1, r2, q, P⟩ := h
  obtain ⟨i, j, e1, e2, q'⟩ := hs _ _ _ _ q
  subst e1 e2
  obtain rfl := rvt_int r1
  obtain rfl := rvt_int r2
  exact ⟨_, _, rfl, rfl, fin1 so P q' rfl⟩
theorem rvt_isnon {w : W} {v : V} (r : RVt G ρ n Hv H H0 w v) : (v = .non ∧ w = .non) ∨ (v ≠ .non ∧ w ≠ .non ∧ w ≠ .undef) := by
  cases w with
  | undef => exact r.elim
  | non => exact .inl ⟨r, rfl⟩
  | bl b => right; rw [show v = _ from r]; refine ⟨?_, ?_, ?_⟩ <;> (intro z; cases z)
  | int b => right; rw [show v = _ from r]; refine ⟨?_, ?_, ?_⟩ <;> (intro z; cases z)
  | str b => right; rw [show v = _ from r]; refine ⟨?_, ?_, ?_⟩ <;> (intro z; cases z)
  | ktup b => obtain ⟨a, vs, e, _⟩ := r; right; rw [e]; refine ⟨?_, ?_, ?_⟩ <;> (intro z; cases z)
  | tup b => obtain ⟨a, vs, e, _⟩ := r; right; rw [e]; refine ⟨?_, ?_, ?_⟩ <;> (intro z; cases z)
  | lst b => obtain ⟨a, vs, e, _⟩ := r; right; rw [e]; refine ⟨?_, ?_, ?_⟩ <;> (intro z; cases z)
  | tmp b => obtain ⟨a, vs, e, _⟩ := r; right; rw [e]; refine ⟨?_, ?_, ?_⟩ <;> (intro z; cases z)
  | scr b => obtain ⟨a, e, _⟩ := r; right; rw [e]; refine ⟨?_, ?_, ?_⟩ <;> (intro z; cases z)
  | loc b => right; rw [show v = _ from r.2]; refine ⟨?_, ?_, ?_⟩ <;> (intro z; cases z)
  | fn b => right; rw [show v = _ from r]; refine ⟨?_, ?_, ?_⟩ <;> (intro z; cases z)
theorem w_is : OpR X (compareOp .Is) (opR G fun st x y Q => cmpW st .Is x y fun c => Q (.bl c)) := by
  refine opR_weak (OpR.or op_isN op_isBl) fun x y H Q h => ?_
  obtain ⟨Hv, st, ρ, w1, w2, Ha, Hb, Qb, so, r1, r2, q, P⟩ := h
  simp only [cmpW] at q
  split at q
  · obtain rfl := rvt_non r2
    refine .inl ⟨rfl, ?_⟩
    rcases rvt_isnon r1 with ⟨rfl, rfl⟩ | ⟨h1, h2, h3⟩
    · rw [decide_eq_true rfl]
      exact fin1 so P q rfl
    · rw [decide_eq_false h1]
      have q' : Qb (.bl false) := by
        split at q
        · exact absurd rfl h2
        · exact absurd rfl h3
        · exact q
      exact fin1 so P q' rfl
  · obtain rfl := rvt_bl r2
    split at q
    · obtain rfl := rvt_bl r1
      exact .inr ⟨_, _, rfl, rfl, fin1 so P q rfl⟩
    · exact q.elim
  · exact q.elim
theorem w_isnot : OpR X (compareOp .IsNot) (opR G fun st x y Q => cmpW st .IsNot x y fun c => Q (.bl c)) := by
  refine opR_weak (OpR.or op_notN op_notBl) fun x y H Q h => ?_
  obtain ⟨Hv, st, ρ, w1, w2, Ha, Hb, Qb, so, r1, r2, q, P⟩ := h
  simp only [cmpW] at q
  split at q
  · obtain rfl := rvt_non r2
    refine .inl ⟨rfl, ?_⟩
    rcases rvt_isnon r1 with ⟨rfl, rfl⟩ | ⟨h1, h2, h3⟩
    · rw [decide_eq_true rfl]
      exact fin1 so P q rfl
    · rw [decide_eq_false h1]
      have q' : Qb (.bl true) := by
        split at q
        · exact absurd rfl h2
        · exact absurd rfl h3
        · exact q
      exact fin1 so P q' rfl
  · obtain rfl := rvt_bl r2
    split at q
    · obtain rfl := rvt_bl r1
      exact .inr ⟨_, _, rfl, rfl, fin1 so P q rfl⟩
    · exact q.elim
  · exact q.elim
end
end Ev

set_option maxRecDepth 100000
set_option maxHeartbeats 1000000
/-! Ev4: dicts, in, subscripts, stores to o[i], truth, isinstance by values. -/
namespace Ev
open PySem PySem.Spec PyProof.Rows L2

section
variable {G : Gam} {ρ : Nat → Addr} {n : Nat} {Hv H H0 : Hp} {st : Store} {X : Cx} {κ : Type} [DecidableEq κ]
/-! ### pairs -/
theorem RKs.look {kk : κ} : ∀ {ps : List (κ × W)} {vs : List (κ × V)}, RKs G ρ n Hv ps vs →
    (lookK kk ps = none ∧ valV vs kk = none) ∨ ∃ w v, lookK kk ps = some w ∧ valV vs kk = some v ∧ RV G ρ n Hv w v
  | [], vs, h => by
    have e : vs = [] := h
    subst e
    exact .inl ⟨rfl, rfl⟩
  | p :: ps, vs, h => by
    simp only [RKs] at h
    obtain ⟨v, r, rfl, h1, h2⟩ := h
    by_cases e : p.1 = kk
    · exact .inr ⟨p.2, v, by simp [lookK, e], valV_pos (p := (p.1, v)) e, h1⟩
    · have := RKs.look (kk := kk) h2
      rw [valV_neg (p := (p.1, v)) e]
      have e2 : lookK kk (p :: ps) = lookK kk ps := by simp [lookK, List.find?_cons, e]
      rw [e2]
      exact this
theorem RKs.length : ∀ {ps : List (κ × W)} {vs : List (κ × V)}, RKs G ρ n Hv ps vs → ps.length = vs.length
  | [], vs, h => by
    have e : vs = [] := h
    subst e
    rfl
  | p :: ps, vs, h => by
    simp only [RKs] at h
    obtain ⟨v, r, rfl, h1, h2⟩ := h
    simp [RKs.length h2]
theorem RKs.any {kk : κ} : ∀ {ps : List (κ × W)} {vs : List (κ × V)}, RKs G ρ n Hv ps vs → (ps.any fun kv => decide (kv.1 = kk)) = (vs.any fun kv => decide (kv.1 = kk))
  | [], vs, h => by
    have e : vs = [] := h
    subst e
    rfl
  | p :: ps, vs, h => by
    simp only [RKs] at h
    obtain ⟨v, r, rfl, h1, h2⟩ := h
    simp only [List.any_cons]
    rw [RKs.any h2]
theorem RKs.map {kk : κ} {w : W} {v : V} (r : RV G ρ n Hv w v) : ∀ {ps : List (κ × W)} {vs : List (κ × V)}, RKs G ρ n Hv ps vs →
    RKs G ρ n Hv (ps.map fun kv => if kv.1 = kk then (kv.1, w) else kv) (vs.map fun kv => if kv.1 = kk then (kv.1, v) else kv)
  | [], vs, h => by
    have e : vs = [] := h
    subst e
    exact rfl
  | p :: ps, vs, h => by
    simp only [RKs] at h
    obtain ⟨u, r', rfl, h1, h2⟩ := h
    by_cases e : p.1 = kk
    · exact ⟨v, _, by simp [e], by simpa [e] using r, RKs.map r h2⟩
    · exact ⟨u, _, by simp [e], by simpa [e] using h1, RKs.map r h2⟩
theorem RKs.append : ∀ {ps qs : List (κ × W)} {vs us : List (κ × V)}, RKs G ρ n Hv ps vs → RKs G ρ n Hv qs us → RKs G ρ n Hv (ps ++ qs) (vs ++ us)
  | [], _, vs, _, h, h' => by
    have e : vs = [] := h
    subst e
    exact h'
  | p :: ps, _, vs, _, h, h' => by
    simp only [RKs] at h
    obtain ⟨u, r', rfl, h1, h2⟩ := h
    exact ⟨u, _, rfl, h1, RKs.append h2 h'⟩
theorem RKs.put {kk : κ} {w : W} {v : V} (r : RV G ρ n Hv w v) {ps : List (κ × W)} {vs : List (κ × V)} (h : RKs G ρ n Hv ps vs) : RKs G ρ n Hv (putK kk w ps) (L2.putK vs kk v) := by
  unfold putK L2.putK
  rw [h.any]
  split
  · exact RKs.map r h
  · exact RKs.append h ⟨v, [], rfl, r, rfl⟩
theorem key_rv {w : W} {kk : Key} {v : V} (e : keyW w = some kk) (r : RVt G ρ n Hv H H0 w v) : v = kV kk := by
  cases w <;> simp [keyW] at e
  · subst e; exact r
  · subst e; exact r
theorem keys_rv : ∀ {ws : List W} {ks : List Key} {vs : List V}, keysW ws = some ks → RVs G ρ n Hv ws vs → vs = ks.map kV
  | [], ks, vs, e, h => by
    simp only [keysW, Option.some.injEq] at e
    subst e
    exact h
  | w :: ws, ks, vs, e, h => by
    simp only [RVs] at h
    obtain ⟨v, r, rfl, h1, h2⟩ := h
    simp only [keysW] at e
    split at e
    · rename_i k1 ks1 e1 e2
      cases e
      rw [keys_rv e2 h2, key_rv (H := Hv) (H0 := Hv) e1 (RVt.of h1)]
      rfl
    · cases e
/-- what a dict cell holds at a key -/
theorem dget_K (so : StO G ρ Hv H st) {i : Nat} {kvs : List (Key × W)} {kk : Key} {w : W} {v : V} (hs : st[i]? = some (.dK kvs)) (e : keyW w = some kk) (r : RVt G ρ st.length Hv H H0 w v) :
    ∃ o, DGet H (ρ i) v o ∧ ((lookK kk kvs = none ∧ o = none) ∨ ∃ w' v', lookK kk kvs = some w' ∧ o = some v' ∧ RV G ρ st.length Hv w' v') := by
  obtain ⟨o, h1, vs, rfl, h2⟩ := so.sto i _ hs
  rw [key_rv e r]
  refine ⟨_, DGet.k (so.sub _ _ h1), ?_⟩
  rcases h2.look (kk := kk) with ⟨q1, q2⟩ | ⟨w', v', q1, q2, q3⟩
  · exact .inl ⟨q1, q2⟩
  · exact .inr ⟨w', v', q1, q2, q3⟩
theorem dget_T (so : StO G ρ Hv H st) {i : Nat} {kvs : List (List Key × W)} {ks : List Key} {ws : List W} {v : V} (hs : st[i]? = some (.dT kvs)) (e : keysW ws = some ks) (r : RVt G ρ st.length Hv H H0 (.tup ws) v) :
    ∃ o, DGet H (ρ i) v o ∧ ((lookK ks kvs = none ∧ o = none) ∨ ∃ w' v', lookK ks kvs = some w' ∧ o = some v' ∧ RV G ρ st.length Hv w' v') := by
  obtain ⟨o, h1, vs, rfl, h2⟩ := so.sto i _ hs
  obtain ⟨a, us, rfl, g1, g2, g3⟩ := r
  have e3 := keys_rv e g3
  subst e3
  refine ⟨_, DGet.t (so.sub _ _ h1) (so.sub _ _ g1), ?_⟩
  rcases h2.look (kk := ks) with ⟨q1, q2⟩ | ⟨w', v', q1, q2, q3⟩
  · exact .inl ⟨q1, q2⟩
  · exact .inr ⟨w', v', q1, q2, q3⟩

/-! ### in -/
def rInT (K : PySem.W.Frag) (neg : Bool) : R2 := fun x y H Q => ∃ d ds, Dp K H x d ∧ Dp K H y (.tuple ds) ∧ SeqAt.shaped d = true ∧ SeqAt.shaped (.list ds) = true ∧ Q (.bl (if neg then !ds.any fun z => PyData.eqv z d else ds.any fun z => PyData.eqv z d)) H
theorem op_inT (hu : X.A.units + 65 < cLine) : OpR X (compareOp .In) (rInT X.K false) := by
  intro pins s σ H x y v u Q I rx ry h
  obtain ⟨d, ds, hd, he, sd, se, q⟩ := h
  obtain ⟨as, r1⟩ := Dp.reads I d x v hd rx
  obtain ⟨bs, r2⟩ := Dp.reads I (.tuple ds) y u he ry
  exact SeqAt.in_tuple_reads r2 r1 (SeqAt.canLay_of_shaped se) (SeqAt.canLay_of_shaped sd) (room_in_shaped sd hu) ⟨.bl _, H, I, rfl, q⟩
theorem op_notInT (hu : X.A.units + 65 < cLine) : OpR X (compareOp .NotIn) (rInT X.K true) := by
  intro pins s σ H x y v u Q I rx ry h
  obtain ⟨d, ds, hd, he, sd, se, q⟩ := h
  obtain ⟨as, r1⟩ := Dp.reads I d x v hd rx
  obtain ⟨bs, r2⟩ := Dp.reads I (.tuple ds) y u he ry
  exact SeqAt.notIn_tuple_reads r2 r1 (SeqAt.canLay_of_shaped se) (SeqAt.canLay_of_shaped sd) (room_in_shaped sd hu) ⟨.bl _, H, I, rfl, q⟩
def rInDi (neg : Bool) : R2 := fun y x H Q => ∃ a o, x = .ref a ∧ DGet H a y o ∧ Q (.bl (if neg then !o.isSome else o.isSome)) H
theorem op_inDi (hu : X.A.units + 1 < cLine) : OpR X (compareOp .In) (rInDi false) := by
  intro pins s σ H y x u v Q I ry rx h
  obtain ⟨a, o, rfl, g, q⟩ := h
  cases rx
  exact d_in hu I g ry fun s' I' => ⟨.bl _, H, I', rfl, q⟩
theorem op_notInDi (hu : X.A.units + 1 < cLine) : OpR X (compareOp .NotIn) (rInDi true) := by
  intro pins s σ H y x u v Q I ry rx h
  obtain ⟨a, o, rfl, g, q⟩ := h
  cases rx
  exact d_notIn hu I g ry fun s' I' => ⟨.bl _, H, I', rfl, q⟩
/-- both ways at once -/
theorem in_core {K : PySem.W.Frag} (hK : K = G.K) (so : StO G ρ Hv H st) {w1 w2 : W} {x y : V} {Ha Hb : Hp} {Qb : Bool → Prop} (r1 : RVt G ρ st.length Hv H Ha w1 x) (r2 : RVt G ρ st.length Hv H Hb w2 y) (q : inW st w1 w2 Qb) :
    (∃ d ds, Dp K H x d ∧ Dp K H y (.tuple ds) ∧ SeqAt.shaped d = true ∧ SeqAt.shaped (.list ds) = true ∧ Qb (ds.any fun z => PyData.eqv z d)) ∨
    (∃ d ds, Dp K H x d ∧ Dp K H y (.list ds) ∧ SeqAt.shaped d = true ∧ SeqAt.shaped (.list ds) = true ∧ Qb (ds.any fun z => PyData.eqv z d)) ∨ ∃ a o, y = .ref a ∧ DGet H a x o ∧ Qb o.isSome := by
  subst hK
  cases w2 with
  | tup ws =>
    obtain ⟨g1, g2, g3, g4, q⟩ := q
    obtain ⟨a, vs, rfl, h1, _, h2⟩ := r2
    exact .inl ⟨_, _, dp_t so r1 g1, .tup (seq_tup so h1) (dps_of so ws vs h2 g2), g3, g4, q⟩
  | ktup ws =>
    obtain ⟨g1, g2, g3, g4, q⟩ := q
    obtain ⟨a, vs, rfl, h1, h2⟩ := r2
    exact .inl ⟨_, _, dp_t so r1 g1, .tup (h1 H) (dps_of so ws vs h2 g2), g3, g4, q⟩
  | lst ws =>
    obtain ⟨g1, g2, g3, g4, q⟩ := q
    obtain ⟨a, vs, rfl, h1, _, h2⟩ := r2
    exact .inr (.inl ⟨_, _, dp_t so r1 g1, .lst (SqL.of (so.sub _ _ h1)) (dps_of so ws vs h2 g2), g3, g4, q⟩)
  | tmp ws =>
    obtain ⟨g1, g2, g3, g4, q⟩ := q
    obtain ⟨a, vs, rfl, h1, _, _, h2⟩ := r2
    exact .inr (.inl ⟨_, _, dp_t so r1 g1, .lst (SqL.of h1) (dps_of so ws vs h2 g2), g3, g4, q⟩)
  | loc i =>
    obtain ⟨_, rfl⟩ := r2
    simp only [inW] at q
    split at q
    · rename_i kvs hs
      obtain ⟨kk, e, q⟩ := q
      obtain ⟨o, g, h⟩ := dget_K so hs e r1
      refine .inr (.inr ⟨_, o, rfl, g, ?_⟩)
      rcases h with ⟨e1, rfl⟩ | ⟨w', v', e1, rfl, _⟩
      · rw [e1] at q; exact q
      · rw [e1] at q; exact q
    · rename_i kvs hs
      obtain ⟨ws, ks, rfl, e, q⟩ := q
      obtain ⟨o, g, h⟩ := dget_T so hs e r1
      refine .inr (.inr ⟨_, o, rfl, g, ?_⟩)
      rcases h with ⟨e1, rfl⟩ | ⟨w', v', e1, rfl, _⟩
      · rw [e1] at q; exact q
      · rw [e1] at q; exact q
    · rename_i ws hs
      obtain ⟨g1, g2, g3, g4, q⟩ := q
      obtain ⟨o, h1, vs, rfl, h2⟩ := so.sto i _ hs
      exact .inr (.inl ⟨_, _, dp_t so r1 g1, .lst (SqL.of (so.sub _ _ h1)) (dps_of so ws vs h2 g2), g3, g4, q⟩)
    · exact q.elim
  | _ => exact q.elim
theorem w_in (hK : X.K = G.K) (hr : Room 1 X.A) : OpR X (compareOp .In) (opR G fun st x y Q => cmpW st .In x y fun c => Q (.bl c)) := by
  have hu := in1 hr
  refine opR_weak (OpR.or (OpR.or (op_inT hu) (op_inD hu)) (op_inDi (by omega))) fun x y H Q h => ?_
  obtain ⟨Hv, st, ρ, w1, w2, Ha, Hb, Qb, so, r1, r2, q, P⟩ := h
  rcases in_core hK so r1 r2 (show inW st w1 w2 (fun c => Qb (.bl c)) from q) with ⟨d, ds, h1, h2, h3, h4, q⟩ | ⟨d, ds, h1, h2, h3, h4, q⟩ | ⟨a, o, e, g, q⟩
  · exact .inl (.inl ⟨d, ds, h1, h2, h3, h4, fin1 so P (v := .bl _) q rfl⟩)
  · exact .inl (.inr ⟨d, ds, h1, h2, h3, h4, fin1 so P (v := .bl _) q rfl⟩)
  · exact .inr ⟨a, o, e, g, fin1 so P (v := .bl _) q rfl⟩
theorem w_notin (hK : X.K = G.K) (hr : Room 1 X.A) : OpR X (compareOp .NotIn) (opR G fun st x y Q => cmpW st .NotIn x y fun c => Q (.bl c)) := by
  have hu := in1 hr
  refine opR_weak (OpR.or (OpR.or (op_notInT hu) (op_notInD hu)) (op_notInDi (by omega))) fun x y H Q h => ?_
  obtain ⟨Hv, st, ρ, w1, w2, Ha, Hb, Qb, so, r1, r2, q, P⟩ := h
  rcases in_core hK so r1 r2 (show inW st w1 w2 (fun c => Qb (.bl (!c))) from q) with ⟨d, ds, h1, h2, h3, h4, q⟩ | ⟨d, ds, h1, h2, h3, h4, q⟩ | ⟨a, o, e, g, q⟩
  · exact .inl (.inl ⟨d, ds, h1, h2, h3, h4, fin1 so P (v := .bl _) q rfl⟩)
  · exact .inl (.inr ⟨d, ds, h1, h2, h3, h4, fin1 so P (v := .bl _) q rfl⟩)
  · exact .inr ⟨a, o, e, g, fin1 so P (v := .bl _) q rfl⟩
theorem w_cmp (hK : X.K = G.K) (hr : Room 1 X.A) : ∀ op, OpR X (compareOp op) (opR G fun st x y Q => cmpW st op x y fun c => Q (.bl c))
  | .Eq => w_eq hK hr
  | .NotEq => w_ne hK hr
  | .Lt => w_lt hK hr
  | .LtE => w_cmpI op_le fun st x y Q h => by
    simp only [cmpW] at h
    split at h
    · exact ⟨_, _, rfl, rfl, h⟩
    · exact h.elim
  | .Gt => w_cmpI op_gt fun st x y Q h => by
    simp only [cmpW] at h
    split at h
    · exact ⟨_, _, rfl, rfl, h⟩
    · exact h.elim
  | .GtE => w_cmpI op_ge fun st x y Q h => by
    simp only [cmpW] at h
    split at h
    · exact ⟨_, _, rfl, rfl, h⟩
    · exact h.elim
  | .Is => w_is
  | .IsNot => w_isnot
  | .In => w_in hK hr
  | .NotIn => w_notin hK hr

/-! ### subscripts -/
theorem ixR_weak {r r' : R2} (h : IxR X r) (i : ∀ x y H Q, r' x y H Q → r x y H Q) : IxR X r' :=
  fun a b pins s σ H x y v u Q I r1 r2 q hs => h a b pins s σ H x y v u Q I r1 r2 (i x y H Q q) hs
def rIxDi : R2 := fun x y H Q => ∃ a v, x = .ref a ∧ DGet H a y (some v) ∧ Q v H
theorem ix_di (hu : X.A.units + 1 < cLine) : IxR X rIxDi := by
  intro a b pins s σ H x y v u Q I rx ry h hs
  obtain ⟨a, z, rfl, g, q⟩ := h
  cases rx
  exact tail_any (dict_typeIs I g) PySem.F.slot_dict_getitem.lookup (d_getItem hu I g ry fun w' s' I' rw' => ⟨z, H, I', rw', q⟩) hs
theorem atI_of {α : Type} {xs : List α} {i : Int} {j : Nat} {x : α} (h : Ev.ixN xs.length i = some j) (e : xs[j]? = some x) : atI xs i = some x := by
  unfold atI
  rw [show L2.ixN xs.length i = some j from h]
  exact e
theorem w_ix (hK : X.K = G.K) (hr : Room 1 X.A) : IxR X (opR G subW) := by
  refine ixR_weak (IxR.or (IxR.or ix_list ix_tup) (IxR.or ix_str (ix_di (by have := in1 hr; omega)))) fun x y H Q h => ?_
  obtain ⟨Hv, st, ρ, w1, w2, Ha, Hb, Qb, so, r1, r2, q, P⟩ := h
  have tups : ∀ ws j w i, w2 = .int i → (∃ a vs, x = .ref a ∧ SqT X.K H a vs ∧ RVs G ρ st.length Hv ws vs) → Ev.ixN ws.length i = some j → ws[j]? = some w → Qb w → rIxT X.K x y H Q := by
    intro ws j w i e2 h e g q'
    subst e2
    obtain ⟨a, vs, rfl, h1, h2⟩ := h
    obtain rfl := rvt_int r2
    obtain ⟨z, gz, rz⟩ := h2.get g
    exact ⟨a, vs, i, z, rfl, rfl, h1, atI_of (by rw [← h2.length]; exact e) gz, fin1 so P q' rz⟩
  have lsts : ∀ ws j w i, w2 = .int i → (∃ a vs, x = .ref a ∧ SqL X.K H a vs ∧ RVs G ρ st.length Hv ws vs) → Ev.ixN ws.length i = some j → ws[j]? = some w → Qb w → rIxL X.K x y H Q := by
    intro ws j w i e2 h e g q'
    subst e2
    obtain ⟨a, vs, rfl, h1, h2⟩ := h
    obtain rfl := rvt_int r2
    obtain ⟨z, gz, rz⟩ := h2.get g
    exact ⟨a, vs, i, z, rfl, rfl, h1, atI_of (by rw [← h2.length]; exact e) gz, fin1 so P q' rz⟩
  have gen : ∀ i ws j w, w2 = .int i → seqW st w1 = some ws → Ev.ixN ws.length i = some j → ws[j]? = some w → Qb w → (∀ ns, w1 ≠ .scr ns) → rIxL X.K x y H Q ∨ rIxT X.K x y H Q := by
    intro i ws j w e0 e1 e2 e3 q' hs
    obtain ⟨a, vs, e, h1 | h1, h2⟩ := seq_any so r1 e1 hs
    · exact .inl (lsts ws j w i e0 ⟨a, vs, e, by rw [hK]; exact h1, h2⟩ e2 e3 q')
    · exact .inr (tups ws j w i e0 ⟨a, vs, e, by rw [hK]; exact h1, h2⟩ e2 e3 q')
  cases w1 with
  | str z =>
    obtain rfl := rvt_str r1
    cases w2 with
    | int i =>
      obtain rfl := rvt_int r2
      obtain ⟨j, c, hz, e1, e2, q⟩ := q
      exact .inr (.inl ⟨z, i, c, rfl, rfl, hz, atI_of (by rw [show z.cps.toList.length = z.length from Array.length_toList]; exact e1) e2, fin1 so P q rfl⟩)
    | _ => exact q.elim
  | loc i =>
    simp only [subW] at q
    split at q
    · rename_i ws hs
      cases w2 with
      | int j =>
        obtain ⟨a, w, e1, e2, q⟩ := q
        obtain ⟨b, vs, e, h1, h2⟩ := seq_lst (ws := ws) so r1 (by simp only [lstW, hs])
        exact .inl (.inl (lsts ws a w j rfl ⟨b, vs, e, SqL.of h1, h2⟩ e1 e2 q))
      | _ => exact q.elim
    · rename_i kvs hs
      obtain ⟨kk, w, e1, e2, q⟩ := q
      obtain ⟨_, rfl⟩ := r1
      obtain ⟨o, g, h⟩ := dget_K so hs e1 r2
      rcases h with ⟨h, _⟩ | ⟨w', v', h1, rfl, h3⟩
      · rw [e2] at h; cases h
      · rw [e2] at h1; cases h1
        exact .inr (.inr ⟨_, v', rfl, g, fin1 so P q h3⟩)
    · rename_i kvs hs
      obtain ⟨ws, ks, w, rfl, e1, e2, q⟩ := q
      obtain ⟨_, rfl⟩ := r1
      obtain ⟨o, g, h⟩ := dget_T so hs e1 r2
      rcases h with ⟨h, _⟩ | ⟨w', v', h1, rfl, h3⟩
      · rw [e2] at h; cases h
      · rw [e2] at h1; cases h1
        exact .inr (.inr ⟨_, v', rfl, g, fin1 so P q h3⟩)
    · exact q.elim
  | scr ns =>
    cases w2 with
    | int i =>
      obtain rfl := rvt_int r2
      obtain ⟨ws, j, w, e1, e2, e3, q⟩ := q
      simp only [seqW, Option.some.injEq] at e1
      subst e1
      obtain ⟨a, rfl, h1⟩ := r1
      have hS : SqL G.K H a (ns.map V.int) := by
        rcases h1 with ⟨h | ⟨o, h⟩, _⟩ | h
        · exact .inl (.inl (so.sub _ _ h))
        · exact .inl (.inr ⟨o, so.sub _ _ h⟩)
        · exact h H
      rw [List.getElem?_map, Option.map_eq_some_iff] at e3
      obtain ⟨m, e4, rfl⟩ := e3
      refine .inl (.inl ⟨a, _, i, .int m, rfl, rfl, by rw [hK]; exact hS, atI_of (j := j) (by simpa using e2) (by rw [List.getElem?_map, e4]; rfl), fin1 so P q rfl⟩)
    | _ => exact q.elim
  | tup ws =>
    cases w2 with
    | int i =>
      obtain ⟨us, j, w, e1, e2, e3, q⟩ := q
      exact .inl (gen i us j w rfl e1 e2 e3 q (fun ns z => by cases z))
    | _ => exact q.elim
  | ktup ws =>
    cases w2 with
    | int i =>
      obtain ⟨us, j, w, e1, e2, e3, q⟩ := q
      exact .inl (gen i us j w rfl e1 e2 e3 q (fun ns z => by cases z))
    | _ => exact q.elim
  | lst ws =>
    cases w2 with
    | int i =>
      obtain ⟨us, j, w, e1, e2, e3, q⟩ := q
      exact .inl (gen i us j w rfl e1 e2 e3 q (fun ns z => by cases z))
    | _ => exact q.elim
  | tmp ws =>
    cases w2 with
    | int i =>
      obtain ⟨us, j, w, e1, e2, e3, q⟩ := q
      exact .inl (gen i us j w rfl e1 e2 e3 q (fun ns z => by cases z))
    | _ => exact q.elim
  | undef => exact r1.elim
  | non => cases w2 <;> simp [subW, seqW] at q
  | bl b => cases w2 <;> simp [subW, seqW] at q
  | int b => cases w2 <;> simp [subW, seqW] at q
  | fn b => cases w2 <;> simp [subW, seqW] at q
end
end Ev

set_option maxRecDepth 100000
set_option maxHeartbeats 1000000
/-! Ev5: cells written; calls of built-ins and their methods by values; truth; isinstance. -/
namespace Ev
open PySem PySem.Spec PyProof.Rows L2

/-- a call by values: what comes in is told from (ρ0, n0, Hv0, H0) on -/
def calR (G : Gam) (sem : Store → List W → Post → Prop) : List V → Hp → VK → Prop := fun vs H Q => ∃ ρ0 n0 Hv0 H0 Hv st ρ ws Qw,
  Le ρ0 n0 Hv0 H0 ρ st.length Hv H ∧ StO G ρ Hv H st ∧ RVts G ρ st.length Hv H H0 ws vs ∧ sem st ws Qw ∧ PostE G ρ0 n0 Hv0 H0 Qw Q
/-- a method's call -/
def metR (G : Gam) (sem : Store → W → List W → Post → Prop) : V → List V → Hp → VK → Prop := fun x vs H Q => ∃ ρ0 n0 Hv0 H0 Hv st ρ w ws Qw,
  Le ρ0 n0 Hv0 H0 ρ st.length Hv H ∧ StO G ρ Hv H st ∧ RVt G ρ st.length Hv H H0 w x ∧ RVts G ρ st.length Hv H H0 ws vs ∧ sem st w ws Qw ∧ PostE G ρ0 n0 Hv0 H0 Qw Q
def setR (G : Gam) : TSet := fun o i v H Q => ∃ ρ0 n0 Hv0 H0 Hv st ρ wo wi wv Qs,
  Le ρ0 n0 Hv0 H0 ρ st.length Hv H ∧ StO G ρ Hv H st ∧ RVt G ρ st.length Hv H H0 wo o ∧ RVt G ρ st.length Hv H H0 wi i ∧ RVt G ρ st.length Hv H H0 wv v ∧ setW st wo wi wv Qs ∧
  ∀ st' Hv' H' ρ', Qs st' → Le ρ0 n0 Hv0 H0 ρ' st'.length Hv' H' → StO G ρ' Hv' H' st' → Q H'
theorem callR_weak {X : Cx} {f : Value} {r r' : List V → Hp → VK → Prop} (h : CallR X f r) (i : ∀ x H Q, r' x H Q → r x H Q) : CallR X f r' :=
  fun pins s σ H xs us Q I r1 q => h pins s σ H xs us Q I r1 (i xs H Q q)
theorem mtR_weak {X : Cx} {id : String} {r r' : V → List V → Hp → VK → Prop} (h : MtR X id r) (i : ∀ x xs H Q, r' x xs H Q → r x xs H Q) : MtR X id r' :=
  fun pins s σ H x xs v us Q I r1 r2 q => h pins s σ H x xs v us Q I r1 r2 (i x xs H Q q)
theorem pset_weak {X : Cx} {r r' : TSet} (h : PSet X r) (i : ∀ o i v H Q, r' o i v H Q → r o i v H Q) : PSet X r' :=
  fun pins s σ H o j v ov iv u Q I r1 r2 r3 q => h pins s σ H o j v ov iv u Q I r1 r2 r3 (i o j v H Q q)
theorem pset_or {X : Cx} {r r' : TSet} (h : PSet X r) (h' : PSet X r') : PSet X (fun o i v H Q => r o i v H Q ∨ r' o i v H Q) :=
  fun pins s σ H o j v ov iv u Q I r1 r2 r3 q => q.elim (h pins s σ H o j v ov iv u Q I r1 r2 r3) (h' pins s σ H o j v ov iv u Q I r1 r2 r3)

section
variable {G : Gam} {ρ ρ0 : Nat → Addr} {n n0 : Nat} {Hv H H0 Hv0 : Hp} {st : Store} {X : Cx}
/-- a cell is written -/
theorem le_cell (so : StO G ρ Hv H st) {i : Nat} {c : Cell} {o : HO} (ho : Vk o) (hs : st[i]? = some c) : Le ρ st.length Hv H ρ st.length (upd Hv (ρ i) o) (upd H (ρ i) o) := by
  obtain ⟨u, e1, _⟩ := so.sto i c hs
  have hi : i < st.length := (List.getElem?_eq_some_iff.mp hs).1
  refine ⟨⟨Nat.le_refl _, fun _ _ => rfl, fun j h1 h2 => by omega, fun a v e hn => ?_, fun a e => ?_⟩, fun a v e1' e2 _ => ?_, fun a f v e => ?_⟩
  · rw [upd_ne (hn i hi).symm]; exact e
  · by_cases ha : a = ρ i
    · subst ha; rw [upd_same]; simp
    · rw [upd_ne ha]; exact e
  · have ha : a ≠ ρ i := fun z => by rw [z, e1] at e2; cases e2
    rw [upd_ne ha, upd_ne ha]
    exact ⟨e1', e2⟩
  · by_cases ha : a = ρ i
    · subst ha
      obtain ⟨ps, q⟩ := f o upd_same
      subst q
      exact ho.elim
    · exact f v (by rw [upd_ne ha]; exact e)
theorem so_cell (so : StO G ρ Hv H st) {i : Nat} {c c' : Cell} {o : HO} (hs : st[i]? = some c) (ho : Vk o) (r : RC G ρ st.length Hv c' o) : StO G ρ (upd Hv (ρ i) o) (upd H (ρ i) o) (st.set i c') := by
  obtain ⟨u, e1, hc⟩ := so.sto i c hs
  have hi : i < st.length := (List.getElem?_eq_some_iff.mp hs).1
  have lv := (le_cell (o := o) so ho hs).lv
  refine ⟨fun a v e => ?_, fun j d e => ?_, fun a b ha hb => so.inj a b (by simpa using ha) (by simpa using hb), ?_, fun a ps e => ?_⟩
  · by_cases ha : a = ρ i
    · subst ha; rw [upd_same] at e ⊢; exact e
    · rw [upd_ne ha] at e ⊢; exact so.sub a v e
  · rw [List.length_set]
    by_cases hj : j = i
    · subst hj
      rw [List.getElem?_set_self hi] at e
      cases e
      exact ⟨o, upd_same, r.mono lv⟩
    · rw [List.getElem?_set_ne (Ne.symm hj)] at e
      obtain ⟨v, f1, f2⟩ := so.sto j d e
      have hjl : j < st.length := (List.getElem?_eq_some_iff.mp e).1
      exact ⟨v, by rw [upd_ne (fun z => hj (so.inj j i hjl hi z))]; exact f1, f2.mono lv⟩
  · refine fun p hp => ?_
    have hn : ∀ b v, H b = some v → ¬ Vk v → b ≠ ρ i := fun b v e hv z => by
      subst z
      rw [so.sub _ _ e1] at e
      cases e
      exact hv (so.nt _ _ e1)
    have keepT : ∀ b ps, H b = some (.tbl ps) → upd H (ρ i) o b = some (.tbl ps) := fun b ps e => by
      rw [upd_ne (hn b _ e id)]; exact e
    have keepC : ∀ b q, H b = some (LamX.CodeO b q) → upd H (ρ i) o b = some (LamX.CodeO b q) := fun b q e => by
      rw [upd_ne (hn b _ e (show ¬ Vk (HO.ext _) from id))]; exact e
    obtain ⟨ps, h1, h2, h3⟩ := so.tab p hp
    refine ⟨ps, keepT _ _ h1, h2, fun pos cv hcv => ?_⟩
    obtain ⟨c0, q1, q2⟩ := h3 pos cv hcv
    exact ⟨c0, q1, keepC _ _ q2⟩
  · by_cases ha : a = ρ i
    · subst ha; rw [upd_same] at e; cases e; exact ho
    · rw [upd_ne ha] at e; exact so.nt a ps e
/-- a cell is written, told from the start on -/
theorem fin_cell (l : Le ρ0 n0 Hv0 H0 ρ st.length Hv H) (so : StO G ρ Hv H st) {Qw : Post} {Q : VK} (P : PostE G ρ0 n0 Hv0 H0 Qw Q) {i : Nat} {c c' : Cell} {o : HO} {w : W} {v : V} (hs : st[i]? = some c) (ho : Vk o) (r : RC G ρ st.length Hv c' o)
    (rv : RV G ρ st.length Hv w v) (q : Qw w (st.set i c')) : Q v (upd H (ρ i) o) := by
  refine P w _ v (upd Hv (ρ i) o) _ ρ q ?_ (so_cell so hs ho r) (RVt.of ?_)
  · rw [List.length_set]
    exact l.trans (le_cell so ho hs)
  · rw [List.length_set]
    exact RV.mono (le_cell (o := o) so ho hs).lv _ _ rv
theorem fin_at (l : Le ρ0 n0 Hv0 H0 ρ st.length Hv H) (so : StO G ρ Hv H st) {Qw : Post} {Q : VK} (P : PostE G ρ0 n0 Hv0 H0 Qw Q) {w : W} {v : V} (rv : RVt G ρ st.length Hv H H0 w v) (q : Qw w st) : Q v H :=
  P w st v Hv H ρ q l so rv
theorem fin_atl (l : Le ρ0 n0 Hv0 H0 ρ st.length Hv H) (so : StO G ρ Hv H st) {Qw : Post} {Q : VK} (P : PostE G ρ0 n0 Hv0 H0 Qw Q) {ws : List W} {vs : List V} {p : Addr} (hp : H p = none) (rv : RVs G ρ st.length Hv ws vs) (q : Qw (.tmp ws) st) : Q (.ref p) (upd H p (.lst vs)) :=
  fin_tmp so (P.step l) hp rv q
theorem fin_att (l : Le ρ0 n0 Hv0 H0 ρ st.length Hv H) (so : StO G ρ Hv H st) {Qw : Post} {Q : VK} (P : PostE G ρ0 n0 Hv0 H0 Qw Q) {ws : List W} {vs : List V} {p : Addr} (hp : H p = none) (rv : RVs G ρ st.length Hv ws vs) (q : Qw (.tup ws) st) : Q (.ref p) (upd H p (.tup vs)) :=
  fin_tup so (P.step l) hp rv q

theorem rvs1 {w : W} {vs : List V} (h : RVts G ρ n Hv H H0 [w] vs) : ∃ v, vs = [v] ∧ RVt G ρ n Hv H H0 w v := by
  obtain ⟨v, r, rfl, h1, h2⟩ := h
  have e : r = [] := h2
  subst e
  exact ⟨v, rfl, h1⟩
theorem rvs2 {w w' : W} {vs : List V} (h : RVts G ρ n Hv H H0 [w, w'] vs) : ∃ v v', vs = [v, v'] ∧ RVt G ρ n Hv H H0 w v ∧ RVt G ρ n Hv H H0 w' v' := by
  obtain ⟨v, r, rfl, h1, h2⟩ := h
  obtain ⟨v', rfl, h3⟩ := rvs1 h2
  exact ⟨v, v', rfl, h1, h3⟩
theorem rvs0 {vs : List V} (h : RVts G ρ n Hv H H0 [] vs) : vs = [] := h

/-! ### o[i] = v -/
theorem w_set (hr : Room 1 X.A) : PSet X (setR G) := by
  refine pset_weak (pset_or set_list (set_dict (by have := in1 hr; omega))) fun o i v H Q h => ?_
  obtain ⟨ρ0, n0, Hv0, H0, Hv, st, ρ, wo, wi, wv, Qs, l, so, ro', ri, rv, q, P⟩ := h
  cases wo with
  | loc j =>
    obtain ⟨_, rfl⟩ := ro'
    simp only [setW] at q
    obtain ⟨Hv1, l1, lv1, so1, r1, g1⟩ := known1 l so (rv.r so)
    split at q
    · rename_i ws hs
      cases wi with
      | int m =>
        obtain rfl := rvt_int ri
        obtain ⟨jj, e, q⟩ := q
        obtain ⟨o, h1, vs, rfl, h2⟩ := so1.sto j _ hs
        refine .inl ⟨ρ j, vs, m, jj, rfl, rfl, so1.sub _ _ h1, by rw [← h2.length]; exact e, ?_⟩
        refine P _ _ _ ρ q ?_ (so_cell so1 hs trivial ⟨_, rfl, RVs.set r1 jj h2⟩)
        rw [List.length_set]
        exact l1.trans (le_cell so1 (by trivial) hs)
      | _ => exact q.elim
    · rename_i kvs hs
      obtain ⟨kk, e, hz, q⟩ := q
      obtain ⟨o, h1, vs, rfl, h2⟩ := so1.sto j _ hs
      refine .inr ⟨ρ j, upd H (ρ j) (.dK (L2.putK vs kk v)), rfl, ?_, ?_⟩
      · rw [key_rv e ri]
        exact DPut.k (so1.sub _ _ h1) (by rw [← h2.length]; exact hz)
      · refine P _ _ _ ρ q ?_ (so_cell so1 hs trivial ⟨_, rfl, h2.put r1⟩)
        rw [List.length_set]
        exact l1.trans (le_cell so1 (by trivial) hs)
    · rename_i kvs hs
      obtain ⟨ws, ks, rfl, e, hz, q⟩ := q
      obtain ⟨o, h1, vs, rfl, h2⟩ := so1.sto j _ hs
      obtain ⟨a, us, rfl, g1', g2, g3⟩ := ri
      have e3 := keys_rv e g3
      subst e3
      refine .inr ⟨ρ j, upd H (ρ j) (.dT (L2.putK vs ks v)), rfl, ?_, ?_⟩
      · exact DPut.t (so1.sub _ _ h1) (so.sub _ _ g1') (by rw [← h2.length]; exact hz)
      · refine P _ _ _ ρ q ?_ (so_cell so1 hs trivial ⟨_, rfl, h2.put r1⟩)
        rw [List.length_set]
        exact l1.trans (le_cell so1 (by trivial) hs)
    · exact q.elim
  | _ => exact q.elim

/-! ### truth -/
theorem tru_of (hK : X.K = G.K) (so : StO G ρ Hv H st) {w : W} {v : V} {b : Bool} (r : RVt G ρ st.length Hv H H0 w v) (e : truW st w = some b) : TruV X.K v H b := by
  have emp : ∀ {ws : List W} {vs : List V}, RVs G ρ st.length Hv ws vs → (!ws.isEmpty) = !vs.isEmpty := fun {ws vs} h => by
    have := h.len0
    cases ws <;> cases vs <;> simp_all
  have empK : ∀ {κ : Type} {ws : List (κ × W)} {vs : List (κ × V)}, RKs G ρ st.length Hv ws vs → (!ws.isEmpty) = !vs.isEmpty := fun {κ ws vs} h => by
    cases ws with
    | nil =>
      have e : vs = [] := h
      subst e
      rfl
    | cons p ps =>
      obtain ⟨u, r', rfl, _, _⟩ := h
      rfl
  cases w with
  | non => obtain rfl := rvt_non r; cases e; exact rfl
  | bl c => obtain rfl := rvt_bl r; cases e; exact rfl
  | int c => obtain rfl := rvt_int r; cases e; exact rfl
  | str c =>
    obtain rfl := rvt_str r
    simp only [truW] at e
    split at e
    · rename_i hz
      cases e
      refine ⟨hz, ?_⟩
      by_cases h0 : c.length = 0
      · rw [h0]; rfl
      · have h1 : (c.length : Int) ≠ 0 := by omega
        rw [bne, bne, beq_eq_false_iff_ne.mpr h0, beq_eq_false_iff_ne.mpr h1]
    · cases e
  | tup ws =>
    obtain ⟨a, vs, rfl, h1, _, h2⟩ := r
    cases e
    exact .inr (.inl ⟨vs, by rw [hK]; exact seq_tup so h1, emp h2⟩)
  | ktup ws =>
    obtain ⟨a, vs, rfl, h1, h2⟩ := r
    cases e
    exact .inr (.inl ⟨vs, by rw [hK]; exact h1 H, emp h2⟩)
  | lst ws =>
    obtain ⟨a, vs, rfl, h1, _, h2⟩ := r
    cases e
    exact .inl ⟨vs, SqL.of (so.sub _ _ h1), emp h2⟩
  | tmp ws =>
    obtain ⟨a, vs, rfl, h1, _, _, h2⟩ := r
    cases e
    exact .inl ⟨vs, SqL.of h1, emp h2⟩
  | loc i =>
    obtain ⟨_, rfl⟩ := r
    simp only [truW] at e
    split at e
    · rename_i ws hs
      cases e
      obtain ⟨o, h1, vs, rfl, h2⟩ := so.sto i _ hs
      exact .inl ⟨vs, SqL.of (so.sub _ _ h1), emp h2⟩
    · rename_i ws hs
      cases e
      obtain ⟨o, h1, vs, rfl, h2⟩ := so.sto i _ hs
      exact .inr (.inr ⟨vs, so.sub _ _ h1, empK h2⟩)
    · cases e
  | _ => cases e
end
end Ev

set_option maxRecDepth 100000
set_option maxHeartbeats 1000000
/-! Ev6: built-in functions and methods by values; isinstance. -/
namespace Ev
open PySem PySem.Spec PyProof.Rows L2

section
variable {G : Gam} {ρ ρ0 : Nat → Addr} {n n0 : Nat} {Hv H H0 Hv0 : Hp} {st : Store} {X : Cx}
abbrev biR (G : Gam) (f : Bi) := calR G fun st ws Q => biW st f ws Q
theorem w_len (hK : X.K = G.K) : CallR X (.builtin "len") (biR G .len) := by
  refine callR_weak (CallR.or call_len (CallR.or call_lenD call_len_dT)) fun xs H Q h => ?_
  obtain ⟨ρ0, n0, Hv0, H0, Hv, st, ρ, ws, Qw, l, so, r, q, P⟩ := h
  have gen : ∀ (w : W) (us : List W), ws = [w] → seqW st w = some us → Qw (.int us.length) st → (∃ x n, xs = [x] ∧ LenV X.K x H n ∧ Q (.int n) H) := by
    intro w us e e1 q'
    subst e
    obtain ⟨v, rfl, r1⟩ := rvs1 r
    by_cases hs : ∃ ns, w = .scr ns
    · obtain ⟨ns, rfl⟩ := hs
      obtain ⟨a, rfl, h1⟩ := r1
      have hS : SqL G.K H a (ns.map V.int) := by
        rcases h1 with ⟨h | ⟨o, h⟩, _⟩ | h
        · exact .inl (.inl (so.sub _ _ h))
        · exact .inl (.inr ⟨o, so.sub _ _ h⟩)
        · exact h H
      simp only [seqW, Option.some.injEq] at e1
      subst e1
      refine ⟨_, ns.length, rfl, .inl ⟨_, by rw [hK]; exact hS, by simp⟩, ?_⟩
      exact fin_at l so P (w := .int ns.length) rfl (by simpa using q')
    · obtain ⟨a, vs, rfl, h1 | h1, h2⟩ := seq_any so r1 e1 (fun ns z => hs ⟨ns, z⟩)
      · exact ⟨_, us.length, rfl, .inl ⟨_, by rw [hK]; exact h1, h2.length⟩, fin_at l so P (w := .int us.length) rfl q'⟩
      · exact ⟨_, us.length, rfl, .inr ⟨_, by rw [hK]; exact h1, h2.length⟩, fin_at l so P (w := .int us.length) rfl q'⟩
  match ws, r, q, gen with
  | [], _, q, _ => exact q.elim
  | _ :: _ :: _, _, q, _ => simp [biW] at q
  | [w], r, q, gen =>
    cases w with
    | str z =>
      obtain ⟨v, rfl, r1⟩ := rvs1 r
      obtain rfl := rvt_str r1
      exact .inl ⟨_, z.length, rfl, ⟨q.1, rfl⟩, fin_at l so P (w := .int z.length) rfl q.2⟩
    | loc i =>
      simp only [biW] at q
      split at q
      · rename_i us hs
        exact .inl (gen _ us rfl (by simp only [seqW, hs]) q)
      · rename_i kvs hs
        obtain ⟨v, rfl, _, rfl⟩ := rvs1 r
        obtain ⟨o, h1, vs, rfl, h2⟩ := so.sto i _ hs
        refine .inr (.inl ⟨ρ i, vs, rfl, so.sub _ _ h1, ?_⟩)
        rw [← h2.length]
        exact fin_at l so P (w := .int kvs.length) rfl q
      · rename_i kvs hs
        obtain ⟨v, rfl, _, rfl⟩ := rvs1 r
        obtain ⟨o, h1, vs, rfl, h2⟩ := so.sto i _ hs
        refine .inr (.inr ⟨ρ i, vs, rfl, so.sub _ _ h1, ?_⟩)
        rw [← h2.length]
        exact fin_at l so P (w := .int kvs.length) rfl q
      · exact q.elim
    | tup us => obtain ⟨vs, e, q⟩ := q; exact .inl (gen _ vs rfl e q)
    | ktup us => obtain ⟨vs, e, q⟩ := q; exact .inl (gen _ vs rfl e q)
    | lst us => obtain ⟨vs, e, q⟩ := q; exact .inl (gen _ vs rfl e q)
    | tmp us => obtain ⟨vs, e, q⟩ := q; exact .inl (gen _ vs rfl e q)
    | scr us => obtain ⟨vs, e, q⟩ := q; exact .inl (gen _ vs rfl e q)
    | _ => obtain ⟨vs, e, q⟩ := q; cases e
/-- one argument -/
theorem call_one {f : Value} {sem : Store → List W → Post → Prop} {r : List V → Hp → VK → Prop} (h : CallR X f r)
    (hs : ∀ st ws Qw, sem st ws Qw → ∃ w, ws = [w])
    (i : ∀ (ρ0 : Nat → Addr) (n0 : Nat) (Hv0 H0 Hv : Hp) (st : Store) (ρ : Nat → Addr) (w : W) (v : V) (H : Hp) (Qw : Post) (Q : VK), Le ρ0 n0 Hv0 H0 ρ st.length Hv H → StO G ρ Hv H st → RVt G ρ st.length Hv H H0 w v → sem st [w] Qw → PostE G ρ0 n0 Hv0 H0 Qw Q → r [v] H Q) :
    CallR X f (calR G sem) := by
  refine callR_weak h fun xs H Q h => ?_
  obtain ⟨ρ0, n0, Hv0, H0, Hv, st, ρ, ws, Qw, l, so, r, q, P⟩ := h
  obtain ⟨w, rfl⟩ := hs st ws Qw q
  obtain ⟨v, rfl, r1⟩ := rvs1 r
  exact i ρ0 n0 Hv0 H0 Hv st ρ w v H Qw Q l so r1 q P
theorem call_two {f : Value} {sem : Store → List W → Post → Prop} {r : List V → Hp → VK → Prop} (h : CallR X f r)
    (hs : ∀ st ws Qw, sem st ws Qw → ∃ i j, ws = [.int i, .int j])
    (i : ∀ (ρ0 : Nat → Addr) (n0 : Nat) (Hv0 H0 Hv : Hp) (st : Store) (ρ : Nat → Addr) (i j : Int) (H : Hp) (Qw : Post) (Q : VK), Le ρ0 n0 Hv0 H0 ρ st.length Hv H → StO G ρ Hv H st → sem st [.int i, .int j] Qw → PostE G ρ0 n0 Hv0 H0 Qw Q → r [.int i, .int j] H Q) :
    CallR X f (calR G sem) := by
  refine callR_weak h fun xs H Q h => ?_
  obtain ⟨ρ0, n0, Hv0, H0, Hv, st, ρ, ws, Qw, l, so, r, q, P⟩ := h
  obtain ⟨a, b, rfl⟩ := hs st ws Qw q
  obtain ⟨v, v', rfl, r1, r2⟩ := rvs2 r
  obtain rfl := rvt_int r1
  obtain rfl := rvt_int r2
  exact i ρ0 n0 Hv0 H0 Hv st ρ a b H Qw Q l so q P
theorem one_of {f : Bi} (h0 : ∀ st Q, ¬ biW st f [] Q) (h2 : ∀ st a b r Q, ¬ biW st f (a :: b :: r) Q) : ∀ st ws Qw, biW st f ws Qw → ∃ w, ws = [w] := by
  intro st ws Qw q
  match ws, q with
  | [], q => exact (h0 _ _ q).elim
  | [w], _ => exact ⟨w, rfl⟩
  | _ :: _ :: _, q => exact (h2 _ _ _ _ _ q).elim
theorem w_intc : CallR X (.type "int") (biR G .int) := by
  refine call_one call_int1 (one_of (fun _ _ q => q.elim) (fun _ _ _ _ _ q => by simp [biW] at q)) fun ρ0 n0 Hv0 H0 Hv st ρ w v H Qw Q l so r q P => ?_
  cases w with
  | int i => obtain rfl := rvt_int r; exact .inl ⟨i, rfl, fin_at l so P (w := .int i) rfl q⟩
  | bl b => obtain rfl := rvt_bl r; exact .inr ⟨b, rfl, fin_at l so P (w := .int (if b then 1 else 0)) rfl q⟩
  | _ => exact q.elim
theorem w_boolc : CallR X (.type "bool") (biR G .bool) := by
  refine call_one call_bool1 (one_of (fun _ _ q => q.elim) (fun _ _ _ _ _ q => by simp [biW] at q)) fun ρ0 n0 Hv0 H0 Hv st ρ w v H Qw Q l so r q P => ?_
  cases w with
  | int i => obtain rfl := rvt_int r; exact .inl ⟨i, rfl, fin_at l so P (w := .bl (i != 0)) rfl q⟩
  | bl b => obtain rfl := rvt_bl r; exact .inr ⟨b, rfl, fin_at l so P (w := .bl b) rfl q⟩
  | _ => exact q.elim
theorem w_strc : CallR X (.type "str") (biR G .str) := by
  refine call_one call_str_int (one_of (fun _ _ q => q.elim) (fun _ _ _ _ _ q => by simp [biW] at q)) fun ρ0 n0 Hv0 H0 Hv st ρ w v H Qw Q l so r q P => ?_
  cases w with
  | int i => obtain rfl := rvt_int r; exact ⟨i, rfl, q.1, fin_at l so P (w := .str (toString i)) rfl q.2⟩
  | _ => exact q.elim
theorem rvs3 {G : Gam} {ρ : Nat → Addr} {n : Nat} {Hv H H0 : Hp} {w w' w'' : W} {vs : List V} (h : RVts G ρ n Hv H H0 [w, w', w''] vs) : ∃ v v' v'', vs = [v, v', v''] ∧ RVt G ρ n Hv H H0 w v ∧ RVt G ρ n Hv H H0 w' v' ∧ RVt G ρ n Hv H H0 w'' v'' := by
  obtain ⟨v, r, rfl, h1, h2⟩ := h
  obtain ⟨v', v'', rfl, h3, h4⟩ := rvs2 h2
  exact ⟨v, v', v'', rfl, h1, h3, h4⟩
theorem max3_int (i j k : Int) : nuMax3 (.int i) (.int j) (.int k) = some (.int (if k > (if j > i then j else i) then k else (if j > i then j else i))) := by
  have h2 : ∀ a b : Int, nuMax2 (.int a) (.int b) = some (.int (if b > a then b else a)) := by
    intro a b
    by_cases h : a < b
    · simp [nuMax2, nuLt, nuCB, h]
    · simp [nuMax2, nuLt, nuCB, h]
  unfold nuMax3
  rw [h2, Option.bind_some, h2]
theorem w_max (hc : X.calm = true) (hK : X.K = G.K) : CallR X (.builtin "max") (biR G .max) := by
  refine callR_weak (CallR.or (call_max2 hc) (CallR.or (cr_max hc) (call_max3Nu hc))) fun xs H Q h => ?_
  obtain ⟨ρ0, n0, Hv0, H0, Hv, st, ρ, ws, Qw, l, so, r, q, P⟩ := h
  simp only [biW] at q
  split at q <;> first
    | exact q.elim
    | cases ‹Bi.max = _›
    | skip
  · obtain ⟨v, v', rfl, r1, r2⟩ := rvs2 r
    obtain rfl := rvt_int r1
    obtain rfl := rvt_int r2
    rename_i i j
    exact .inl ⟨i, j, rfl, fin_at l so P (w := .int (if j > i then j else i)) rfl q⟩
  · obtain ⟨v, v', v'', rfl, r1, r2, r3⟩ := rvs3 r
    obtain rfl := rvt_int r1
    obtain rfl := rvt_int r2
    obtain rfl := rvt_int r3
    rename_i i j kk
    exact .inr (.inr ⟨.int i, .int j, .int kk, .int (if kk > (if j > i then j else i) then kk else (if j > i then j else i)), rfl, max3_int i j kk, fin_at l so P (w := .int _) rfl q⟩)
  · obtain ⟨us, ns, e1, e2, hz, q⟩ := q
    obtain ⟨v, rfl, r1⟩ := rvs1 r
    obtain ⟨a, vs, rfl, h1, h2⟩ := seq_lst so r1 e1
    have e3 := allInt_rv e2 h2
    subst e3
    exact .inr (.inl ⟨a, ns, rfl, by rw [hK]; exact SqL.of h1, hz, fun m hm hle => fin_at l so P (w := .int m) rfl (q m hm hle)⟩)
theorem w_min (hc : X.calm = true) (hK : X.K = G.K) : CallR X (.builtin "min") (biR G .min) := by
  refine callR_weak (CallR.or (call_min2 hc) (cr_min hc)) fun xs H Q h => ?_
  obtain ⟨ρ0, n0, Hv0, H0, Hv, st, ρ, ws, Qw, l, so, r, q, P⟩ := h
  simp only [biW] at q
  split at q <;> first
    | exact q.elim
    | cases ‹Bi.min = _›
    | skip
  · rename_i i j
    obtain ⟨v, v', rfl, r1, r2⟩ := rvs2 r
    obtain rfl := rvt_int r1
    obtain rfl := rvt_int r2
    exact .inl ⟨i, j, rfl, fin_at l so P (w := .int (if j < i then j else i)) rfl q⟩
  · obtain ⟨us, ns, e1, e2, hz, q⟩ := q
    obtain ⟨v, rfl, r1⟩ := rvs1 r
    obtain ⟨a, vs, rfl, h1, h2⟩ := seq_lst so r1 e1
    have e3 := allInt_rv e2 h2
    subst e3
    exact .inr ⟨a, ns, rfl, by rw [hK]; exact SqL.of h1, hz, fun m hm hle => fin_at l so P (w := .int m) rfl (q m hm hle)⟩
theorem w_all (hc : X.calm = true) (hK : X.K = G.K) : CallR X (.builtin "all") (biR G .all) := by
  refine call_one (cr_all hc) (one_of (fun _ _ q => q.elim) (fun _ _ _ _ _ q => by simp [biW] at q)) fun ρ0 n0 Hv0 H0 Hv st ρ w v H Qw Q l so r q P => ?_
  obtain ⟨us, bs, e1, e2, q⟩ := q
  obtain ⟨a, vs, rfl, h1, h2⟩ := seq_lst so r e1
  have e3 := allBl_rv e2 h2
  subst e3
  exact ⟨a, bs, rfl, by rw [hK]; exact SqL.of h1, fin_at l so P (w := .bl (bs.all id)) rfl q⟩
theorem w_any (hc : X.calm = true) (hK : X.K = G.K) : CallR X (.builtin "any") (biR G .any) := by
  refine call_one (cr_any hc) (one_of (fun _ _ q => q.elim) (fun _ _ _ _ _ q => by simp [biW] at q)) fun ρ0 n0 Hv0 H0 Hv st ρ w v H Qw Q l so r q P => ?_
  obtain ⟨us, bs, e1, e2, q⟩ := q
  obtain ⟨a, vs, rfl, h1, h2⟩ := seq_lst so r e1
  have e3 := allBl_rv e2 h2
  subst e3
  exact ⟨a, bs, rfl, by rw [hK]; exact SqL.of h1, fin_at l so P (w := .bl (bs.any id)) rfl q⟩
theorem w_sum (hc : X.calm = true) (hK : X.K = G.K) : CallR X (.builtin "sum") (biR G .sum) := by
  refine call_one (cr_sum hc) (one_of (fun _ _ q => q.elim) (fun _ _ _ _ _ q => by simp [biW] at q)) fun ρ0 n0 Hv0 H0 Hv st ρ w v H Qw Q l so r q P => ?_
  obtain ⟨us, ns, e1, e2, q⟩ := q
  obtain ⟨a, vs, rfl, h1, h2⟩ := seq_lst so r e1
  have e3 := allInt_rv e2 h2
  subst e3
  exact ⟨a, ns, rfl, by rw [hK]; exact SqL.of h1, fin_at l so P (w := .int ns.sum) rfl q⟩
theorem rvs_ints : ∀ ns : List Int, RVs G ρ n Hv (ns.map .int) (ns.map V.int)
  | [] => rfl
  | i :: ns => ⟨.int i, _, rfl, rfl, rvs_ints ns⟩
theorem w_sorted (hK : X.K = G.K) : CallR X (.builtin "sorted") (biR G .sorted) := by
  refine call_one cr_sortedI (one_of (fun _ _ q => q.elim) (fun _ _ _ _ _ q => by simp [biW] at q)) fun ρ0 n0 Hv0 H0 Hv st ρ w v H Qw Q l so r q P => ?_
  obtain ⟨us, ns, e1, e2, q⟩ := q
  obtain ⟨a, vs, rfl, h1, h2⟩ := seq_lst so r e1
  have e3 := allInt_rv e2 h2
  subst e3
  exact ⟨a, ns, rfl, by rw [hK]; exact SqL.of h1, fun ns' p h3 h4 hp => fin_atl l so P hp (rvs_ints ns') (q ns' h3 h4)⟩
theorem w_tuple (hK : X.K = G.K) : CallR X (.type "tuple") (biR G .tuple) := by
  refine call_one call_tuple_of (one_of (fun _ _ q => q.elim) (fun _ _ _ _ _ q => by simp [biW] at q)) fun ρ0 n0 Hv0 H0 Hv st ρ w v H Qw Q l so r q P => ?_
  have gen : ∀ us, seqW st w = some us → (∀ ns, w ≠ .scr ns) → (∀ us, w ≠ .ktup us) → Qw (.tup us) st → ∃ p ys, [v] = [V.ref p] ∧ ((SqL X.K H p ys ∧ ∀ l, H l = none → Q (.ref l) (upd H l (.tup ys))) ∨ (SqT X.K H p ys ∧ Q (.ref p) H)) := by
    intro us e hs hk q'
    cases w with
    | tup ws =>
      obtain ⟨a, vs, rfl, h1, h0, h2⟩ := r
      simp only [seqW, Option.some.injEq] at e
      subst e
      exact ⟨a, vs, rfl, .inr ⟨by rw [hK]; exact seq_tup so h1, fin_at l so P (w := .tup ws) ⟨a, vs, rfl, h1, h0, h2⟩ q'⟩⟩
    | ktup ws => exact absurd rfl (hk ws)
    | scr ws => exact absurd rfl (hs ws)
    | lst ws =>
      obtain ⟨a, vs, rfl, h1, h2⟩ := seq_lst (ws := us) so r (by simpa [lstW, seqW] using e)
      exact ⟨a, vs, rfl, .inl ⟨SqL.of h1, fun p hp => fin_att l so P hp h2 q'⟩⟩
    | tmp ws =>
      obtain ⟨a, vs, rfl, h1, h2⟩ := seq_lst (ws := us) so r (by simpa [lstW, seqW] using e)
      exact ⟨a, vs, rfl, .inl ⟨SqL.of h1, fun p hp => fin_att l so P hp h2 q'⟩⟩
    | loc ws =>
      obtain ⟨a, vs, rfl, h1, h2⟩ := seq_lst (ws := us) so r (by simpa [lstW, seqW] using e)
      exact ⟨a, vs, rfl, .inl ⟨SqL.of h1, fun p hp => fin_att l so P hp h2 q'⟩⟩
    | _ => cases e
  cases w with
  | ktup ws =>
    obtain ⟨a, vs, rfl, h1, h2⟩ := r
    exact ⟨a, vs, rfl, .inr ⟨by rw [hK]; exact h1 H, fin_at l so P (w := .ktup ws) ⟨a, vs, rfl, h1, h2⟩ q⟩⟩
  | tup ws => obtain ⟨us, e1, hs, q⟩ := q; exact gen us e1 hs (fun _ z => by cases z) q
  | lst ws => obtain ⟨us, e1, hs, q⟩ := q; exact gen us e1 hs (fun _ z => by cases z) q
  | tmp ws => obtain ⟨us, e1, hs, q⟩ := q; exact gen us e1 hs (fun _ z => by cases z) q
  | loc ws => obtain ⟨us, e1, hs, q⟩ := q; exact gen us e1 hs (fun _ z => by cases z) q
  | scr ws => obtain ⟨us, e1, hs, q⟩ := q; exact gen us e1 hs (fun _ z => by cases z) q
  | _ => obtain ⟨us, e1, hs, q⟩ := q; cases e1
theorem w_list (hK : X.K = G.K) : CallR X (.type "list") (biR G .list) := by
  refine call_one call_list_of (one_of (fun _ _ q => q.elim) (fun _ _ _ _ _ q => by simp [biW] at q)) fun ρ0 n0 Hv0 H0 Hv st ρ w v H Qw Q l so r q P => ?_
  obtain ⟨us, e1, hs, q⟩ := q
  obtain ⟨a, vs, rfl, h1, h2⟩ := seq_any so r e1 hs
  exact ⟨a, vs, rfl, by rw [hK]; exact h1, fun p hp => fin_atl l so P hp h2 q⟩

/-! ### methods -/
theorem rc_lst {ws : List W} {vs : List V} (r : RVs G ρ n Hv ws vs) : RC G ρ n Hv (.lst ws) (.lst vs) := ⟨vs, rfl, r⟩
abbrev meR (G : Gam) (m : Me) := metR G fun st w ws Q => meW st m w ws Q
theorem w_append : MtR X "list.append" (meR G .append) := by
  refine mtR_weak (show MtR X "list.append" rAppend from mt_append) fun x xs H Q h => ?_
  obtain ⟨ρ0, n0, Hv0, H0, Hv, st, ρ, w, ws, Qw, l, so, r0, r, q, P⟩ := h
  simp only [meW] at q
  split at q <;> first
    | exact q.elim
    | cases ‹Me.append = _›
    | skip
  rename_i i w'
  obtain ⟨v, rfl, r1⟩ := rvs1 r
  obtain ⟨_, rfl⟩ := r0
  split at q
  · rename_i us hs
    obtain ⟨hz, q⟩ := q
    obtain ⟨Hv1, l1, lv1, so1, r2, _⟩ := known1 l so (r1.r so)
    obtain ⟨o, h1, vs, rfl, h2⟩ := so1.sto i _ hs
    exact ⟨ρ i, vs, v, rfl, rfl, so1.sub _ _ h1, by rw [← h2.length]; exact hz, fin_cell l1 so1 P hs trivial (rc_lst (RVs.append (ws' := [ro w']) h2 ⟨v, [], rfl, r2, rfl⟩)) (w := .non) rfl q⟩
  · exact q.elim
theorem w_extend : MtR X "list.extend" (meR G .extend) := by
  refine mtR_weak (show MtR X "list.extend" rExtend from mt_extend) fun x xs H Q h => ?_
  obtain ⟨ρ0, n0, Hv0, H0, Hv, st, ρ, w, ws, Qw, l, so, r0, r, q, P⟩ := h
  simp only [meW] at q
  split at q <;> first
    | exact q.elim
    | cases ‹Me.extend = _›
    | skip
  rename_i i w'
  obtain ⟨v, rfl, r1⟩ := rvs1 r
  obtain ⟨_, rfl⟩ := r0
  split at q
  · rename_i us hs
    obtain ⟨ys, e, hz, q⟩ := q
    obtain ⟨o, h1, vs, rfl, h2⟩ := so.sto i _ hs
    obtain ⟨b, zs, rfl, h3, h4⟩ := seq_lst so r1 e
    exact ⟨ρ i, b, vs, zs, rfl, rfl, so.sub _ _ h1, h3, by rw [← h2.length, ← h4.length]; exact hz, fin_cell l so P hs trivial (rc_lst (RVs.append h2 h4)) (w := .non) rfl q⟩
  · exact q.elim
theorem w_pop : MtR X "list.pop" (meR G .pop) := by
  refine mtR_weak (show MtR X "list.pop" rPop from mt_pop) fun x xs H Q h => ?_
  obtain ⟨ρ0, n0, Hv0, H0, Hv, st, ρ, w, ws, Qw, l, so, r0, r, q, P⟩ := h
  simp only [meW] at q
  split at q <;> first
    | exact q.elim
    | cases ‹Me.pop = _›
    | skip
  rename_i i
  have e0 := rvs0 r
  subst e0
  obtain ⟨_, rfl⟩ := r0
  split at q
  · rename_i us hs
    obtain ⟨y, e, q⟩ := q
    obtain ⟨o, h1, vs, rfl, h2⟩ := so.sto i _ hs
    obtain ⟨z, gz, rz⟩ := h2.get e
    refine ⟨ρ i, vs, z, rfl, rfl, so.sub _ _ h1, by rw [← h2.length]; exact gz, fin_cell l so P hs trivial (rc_lst ?_) rz q⟩
    rw [List.dropLast_eq_take, List.dropLast_eq_take, ← h2.length]
    exact RVs.take _ h2
  · exact q.elim
theorem w_popi : MtR X "list.pop" (meR G .popi) := by
  refine mtR_weak (show MtR X "list.pop" rPopAt from mt_popAt) fun x xs H Q h => ?_
  obtain ⟨ρ0, n0, Hv0, H0, Hv, st, ρ, w, ws, Qw, l, so, r0, r, q, P⟩ := h
  simp only [meW] at q
  split at q <;> first
    | exact q.elim
    | cases ‹Me.popi = _›
    | skip
  rename_i i j
  obtain ⟨v, rfl, r1⟩ := rvs1 r
  obtain rfl := rvt_int r1
  obtain ⟨_, rfl⟩ := r0
  split at q
  · rename_i us hs
    obtain ⟨kk, y, b1, b2, e1, e, q⟩ := q
    obtain ⟨o, h1, vs, rfl, h2⟩ := so.sto i _ hs
    obtain ⟨z, gz, rz⟩ := h2.get e
    exact ⟨ρ i, vs, j, kk, z, rfl, rfl, so.sub _ _ h1, b1, b2, by rw [← h2.length]; exact e1, gz, fin_cell l so P hs trivial (rc_lst (RVs.eraseIdx _ h2)) rz q⟩
  · exact q.elim
theorem w_join (hK : X.K = G.K) : MtR X "str.join" (meR G .join) := by
  refine mtR_weak mt_join fun x xs H Q h => ?_
  obtain ⟨ρ0, n0, Hv0, H0, Hv, st, ρ, w, ws, Qw, l, so, r0, r, q, P⟩ := h
  simp only [meW] at q
  split at q <;> first
    | exact q.elim
    | cases ‹Me.join = _›
    | skip
  rename_i a w'
  obtain ⟨v, rfl, r1⟩ := rvs1 r
  obtain rfl := rvt_str r0
  obtain ⟨us, ys, e1, e2, hz, q⟩ := q
  obtain ⟨p, vs, rfl, h1, h2⟩ := seq_lst so r1 e1
  have e3 := allStr_rv e2 h2
  subst e3
  exact ⟨a, p, ys, rfl, rfl, .inl (by rw [hK]; exact SqL.of h1), hz, fin_at l so P (w := .str (Txt.join a ys)) rfl q⟩
end
end Ev

set_option maxRecDepth 100000
set_option maxHeartbeats 1000000
/-! Ev7: expressions, one construct after another. -/
namespace Ev
open PySem PySem.Spec PyProof.Rows L2

section
variable {G : Gam} {k : Kn} {C : CallSem} {cl : Ex} {Wx : WX} {X : Cx} {a b c : Expr} {ea eb ec : E} {pos : Pos}
theorem ok_var {i : Nat} {x : Str} (hN : X.N[i]? = some x) (hv : Vis X.env.scope x) (hd : (x == ("__debug__" : Str)) = false) (hcd : (x == ("__classdict__" : Str)) = false) : PE X (.Name x pos) (tev G k C cl Wx (.var i)) :=
  pe_weak (pe_var hN hv hd hcd) fun σ H Q ⟨Hv, env, st, ρ, Qw, Xw, S, wp, P, PX⟩ => by
    obtain ⟨w, e, hu, q⟩ := wp
    obtain ⟨v, e1, r⟩ := S.env.get e hu
    exact ⟨v, e1, fin_val S.so P r q⟩
theorem ok_const {v : V} {w : W} {e : E} (h : PE X a (tC v)) (hw : ∀ env st Q Xw, wpE C G.P cl e env st Q Xw → Q w st) (r : ∀ ρ n Hv, RV G ρ n Hv w v) : PE X a (tev G k C cl Wx e) :=
  pe_weak h fun σ H Q ⟨Hv, env, st, ρ, Qw, Xw, S, wp, P, PX⟩ => fin_val S.so P (r _ _ _) (hw _ _ _ _ wp)
theorem ok_args_nil : PA X [] (tav G k C cl Wx []) := pa_weak pa_nil fun σ H Q ⟨Hv, env, st, ρ, Qw, Xw, S, wp, P, PX⟩ => P [] st [] Hv H ρ wp Le.refl S.so rfl
theorem ok_args_cons {as : List Expr} {es : List E} (ha : PE X a (tev G k C cl Wx ea)) (hr : PA X as (tav G k C cl Wx es)) (hs : starEach (a :: as) X.env = (false, eval a X.env) :: starEach as X.env) : PA X (a :: as) (tav G k C cl Wx (ea :: es)) :=
  pa_weak (pa_cons ha hr hs) fun σ H Q ⟨Hv, env, st, ρ, Qw, Xw, S, wp, P, PX⟩ =>
    ⟨Hv, env, st, ρ, _, Xw, S, wp, fun w1 st1 x Hv1 H1 ρ1 q1 l1 so1 r1 =>
      ⟨Hv1, env, st1, ρ1, _, Xw, S.mono l1 so1, q1, fun ws st2 vs Hv2 H2 ρ2 q2 l2 so2 r2 =>
        P _ st2 _ Hv2 H2 ρ2 q2 (l1.trans l2) so2 ⟨x, vs, rfl, (r1.mono l2), r2.back l1.back⟩, PX.step l1⟩, PX⟩
/-- args of a display or of an own call, all told -/
theorem ok_tup {as : List Expr} {es : List E} {x1} (h : PA X as (tav G k C cl Wx es)) : PE X (.Tuple as x1 pos) (tev G k C cl Wx (.tup es)) :=
  pe_weak (pe_tup h) fun σ H Q ⟨Hv, env, st, ρ, Qw, Xw, S, wp, P, PX⟩ =>
    ⟨Hv, env, st, ρ, _, Xw, S, wp, fun ws st1 vs Hv1 H1 ρ1 q1 l1 so1 r1 => by
      obtain ⟨hz, q⟩ := q1
      have hlen : ws.length = vs.length := by
        obtain ⟨_, _, _, _, rr⟩ := knowns l1 so1 (r1.r so1)
        simpa using rr.length
      refine ⟨by rw [← hlen]; exact hz, fun p hp => ?_⟩
      obtain ⟨Hv2, l2, lv2, so2, r2⟩ := knowns l1 so1 (r1.r so1)
      exact fin_att l2 so2 P hp r2 q, PX⟩
theorem ok_lst {as : List Expr} {es : List E} (h : PA X as (tav G k C cl Wx es)) : PE X (.List as pos) (tev G k C cl Wx (.lst es)) :=
  pe_weak (pe_lst h) fun σ H Q ⟨Hv, env, st, ρ, Qw, Xw, S, wp, P, PX⟩ =>
    ⟨Hv, env, st, ρ, _, Xw, S, wp, fun ws st1 vs Hv1 H1 ρ1 q1 l1 so1 r1 => by
      obtain ⟨hz, q⟩ := q1
      have hlen : ws.length = vs.length := by
        obtain ⟨_, _, _, _, rr⟩ := knowns l1 so1 (r1.r so1)
        simpa using rr.length
      refine ⟨by rw [← hlen]; exact hz, fun p hp => ?_⟩
      obtain ⟨Hv2, l2, lv2, so2, r2⟩ := knowns l1 so1 (r1.r so1)
      exact fin_atl l2 so2 P hp r2 q, PX⟩

/-! ### a new list becomes a cell -/
def ext (ρ : Nat → Addr) (n : Nat) (a : Addr) : Nat → Addr := fun i => if i = n then a else ρ i
theorem ext_lt {ρ : Nat → Addr} {n i : Nat} {a : Addr} (h : i < n) : ext ρ n a i = ρ i := if_neg (by omega)
theorem ext_at {ρ : Nat → Addr} {n : Nat} {a : Addr} : ext ρ n a n = a := if_pos rfl
theorem lv_ext {ρ : Nat → Addr} {n : Nat} {Hv : Hp} {a : Addr} {o : HO} (h : Hv a = none) : Lv ρ n Hv (ext ρ n a) (n + 1) (upd Hv a o) where
  le := Nat.le_succ n
  same := fun i hi => ext_lt hi
  new := fun i h1 h2 => by
    have e : i = n := by omega
    subst e
    rw [ext_at]
    exact h
  keep := fun b u e _ => by rw [upd_ne (ne_of_none e h)]; exact e
  vis := fun b e => by
    by_cases hb : b = a
    · subst hb; rw [upd_same]; simp
    · rw [upd_ne hb]; exact e
theorem so_ext {ρ : Nat → Addr} {Hv H : Hp} {st : Store} {a : Addr} {o : HO} {c : Cell} (so : StO G ρ Hv H st) (ha : Hv a = none) (hH : H a = some o) (ho : Vk o) (r : RC G ρ st.length Hv c o) : StO G (ext ρ st.length a) (upd Hv a o) H (st ++ [c]) where
  sub := (so_known so ha hH ho).sub
  sto := fun i d e => by
    have lv : Lv ρ st.length Hv (ext ρ st.length a) (st ++ [c]).length (upd Hv a o) := by
      rw [List.length_append]
      exact lv_ext ha
    by_cases hi : i < st.length
    · rw [List.getElem?_append_left hi] at e
      obtain ⟨u, e1, e2⟩ := so.sto i d e
      exact ⟨u, by rw [ext_lt hi, upd_ne (ne_of_none e1 ha)]; exact e1, e2.mono lv⟩
    · have e' : i = st.length := by
        have := (List.getElem?_eq_some_iff.mp e).1
        rw [List.length_append, List.length_singleton] at this
        omega
      subst e'
      rw [List.getElem?_append_right (Nat.le_refl _)] at e
      simp at e
      subst e
      exact ⟨o, by rw [ext_at, upd_same], r.mono lv⟩
  inj := fun i j hi hj e => by
    rw [List.length_append, List.length_singleton] at hi hj
    by_cases h1 : i < st.length
    · by_cases h2 : j < st.length
      · rw [ext_lt h1, ext_lt h2] at e
        exact so.inj i j h1 h2 e
      · have e2 : j = st.length := by omega
        subst e2
        rw [ext_lt h1, ext_at] at e
        exact absurd e (so.cell_ne ha i h1)
    · have e1 : i = st.length := by omega
      subst e1
      by_cases h2 : j < st.length
      · rw [ext_lt h2, ext_at] at e
        exact absurd e.symm (so.cell_ne ha j h2)
      · omega
  tab := so.tab
  nt := (so_known so ha hH ho).nt
theorem le_ext {ρ0 ρ : Nat → Addr} {n0 n : Nat} {Hv0 H0 Hv H : Hp} {a : Addr} {o : HO} (l : Le ρ0 n0 Hv0 H0 ρ n Hv H) (ha : Hv a = none) (h0 : Fr H0 a) : Le ρ0 n0 Hv0 H0 (ext ρ n a) (n + 1) (upd Hv a o) H where
  lv := l.lv.trans (lv_ext ha)
  hid := (le_known l ha h0).hid
  trk := l.trk
theorem alloc_read : ∀ σ H Q, tev G k C cl Wx (.alloc ea) σ H Q → tev G k C cl Wx ea σ H Q := fun σ H Q ⟨Hv, env, st, ρ, Qw, Xw, S, wp, P, PX⟩ =>
    ⟨Hv, env, st, ρ, _, Xw, S, wp, fun w st1 v Hv1 H1 ρ1 q1 l1 so1 r1 => by
      cases w with
      | tmp ws =>
        obtain ⟨p, vs, rfl, h1, h2, h3, h4⟩ := r1
        have l2 : Le ρ st.length Hv H (ext ρ1 st1.length p) (st1 ++ [Cell.lst ws]).length (upd Hv1 p (.lst vs)) H1 := by
          rw [List.length_append]
          exact le_ext l1 h2 h3
        refine P (.loc st1.length) _ (.ref p) _ _ _ q1 l2 (so_ext so1 h2 h1 trivial (rc_lst h4)) ?_
        exact ⟨by rw [List.length_append, List.length_singleton]; omega, by rw [ext_at]⟩
      | _ => exact q1.elim, PX⟩
theorem ok_alloc (ha : PE X a (tev G k C cl Wx ea)) : PE X a (tev G k C cl Wx (.alloc ea)) := pe_weak ha alloc_read
theorem ok_dnew {w : Cell} {o : HO} {e : E} (h : PE X a (fun _ H Q => ∀ p, H p = none → Q (.ref p) (upd H p o))) (ho : Vk o) (r : ∀ ρ n Hv, RC G ρ n Hv w o) (hw : ∀ env st Q Xw, wpE C G.P cl e env st Q Xw → Q (.loc st.length) (st ++ [w])) : PE X a (tev G k C cl Wx e) :=
  pe_weak h fun σ H Q ⟨Hv, env, st, ρ, Qw, Xw, S, wp, P, PX⟩ p hp => by
    have so1 := so_hid (o := o) S.so hp
    have l1 := le_hid (o := o) (n := st.length) S.so hp
    have l2 : Le ρ st.length Hv H (ext ρ st.length p) (st ++ [w]).length (upd Hv p o) (upd H p o) := by
      rw [List.length_append]
      exact le_ext l1 (S.so.hn hp) (Fr.none hp)
    refine P (.loc st.length) _ (.ref p) _ _ _ (hw _ _ _ _ wp) l2 (so_ext so1 (S.so.hn hp) upd_same ho (r _ _ _)) ?_
    exact ⟨by rw [List.length_append, List.length_singleton]; omega, by rw [ext_at]⟩

/-! ### operators -/
/-- two parts, then an operation on their values -/
theorem two {sem : Store → W → W → (W → Prop) → Prop} {f : WpF} (hf : ∀ env st Q Xw, f env st Q Xw → wpE C G.P cl ea env st (fun x st1 => wpE C G.P cl eb env st1 (fun y st2 => sem st2 x y fun w => Q w st2) Xw) Xw) :
    ∀ σ H Q, tevW G k Wx f σ H Q → tOp (opR G sem) (tev G k C cl Wx ea) (tev G k C cl Wx eb) σ H Q := fun σ H Q ⟨Hv, env, st, ρ, Qw, Xw, S, wp, P, PX⟩ =>
    ⟨Hv, env, st, ρ, _, Xw, S, hf _ _ _ _ wp, fun w1 st1 x Hv1 H1 ρ1 q1 l1 so1 r1 =>
      ⟨Hv1, env, st1, ρ1, _, Xw, S.mono l1 so1, q1, fun w2 st2 y Hv2 H2 ρ2 q2 l2 so2 r2 =>
        ⟨Hv2, st2, ρ2, w1, w2, H, H1, _, so2, r1.mono l2, r2, q2, fun w st' v Hv3 H3 ρ3 q3 l3 so3 r3 => by
          obtain ⟨rfl, q3⟩ := q3
          exact (P.step (l1.trans l2)) w st' v Hv3 H3 ρ3 q3 l3 so3 r3⟩, PX.step l1⟩, PX⟩
theorem ok_bin {op : Operator} (hK : X.K = G.K) (ha : PE X a (tev G k C cl Wx ea)) (hb : PE X b (tev G k C cl Wx eb)) : PE X (.BinOp a op b pos) (tev G k C cl Wx (.bin op ea eb)) :=
  pe_weak (pe_op (w_bin hK op) ha hb) (two fun _ _ _ _ h => h)
theorem ok_sub (hK : X.K = G.K) (hr : Room 1 X.A) (ha : PE X a (tev G k C cl Wx ea)) (hb : PE X b (tev G k C cl Wx eb)) (hs : PlainIx b) : PE X (.Subscript a b pos) (tev G k C cl Wx (.sub ea eb)) :=
  pe_weak (pe_ix (w_ix hK hr) ha hb hs) (two fun _ _ _ _ h => h)
theorem ok_cmp {op : CmpOp} (hK : X.K = G.K) (hr : Room 1 X.A) (ha : PE X a (tev G k C cl Wx ea)) (hb : PE X b (tev G k C cl Wx eb)) (hm : behindInMarks op b = false) : PE X (.Compare a [op] [b] pos) (tev G k C cl Wx (.cmp op ea eb)) :=
  pe_weak (pe_cmpR (w_cmp hK hr op) ha hb hm) (two fun _ _ _ _ h => h)
theorem eqW_mono {st : Store} {x y : W} {Q Q' : Bool → Prop} (i : ∀ c, Q c → Q' c) (h : eqW st x y Q) : eqW st x y Q' := by
  rcases h with ⟨d, e, h1, h2, h3, h4, q⟩ | ⟨xs, ys, h1, h2, h3, q⟩
  · exact .inl ⟨d, e, h1, h2, h3, h4, i _ q⟩
  · exact .inr ⟨xs, ys, h1, h2, h3, i _ q⟩
theorem inW_mono {st : Store} {x y : W} {Q Q' : Bool → Prop} (i : ∀ c, Q c → Q' c) (h : inW st x y Q) : inW st x y Q' := by
  cases y with
  | loc n =>
    simp only [inW] at h ⊢
    split at h
    · obtain ⟨kk, e, q⟩ := h; exact ⟨kk, e, i _ q⟩
    · obtain ⟨ws, ks, e, e2, q⟩ := h; exact ⟨ws, ks, e, e2, i _ q⟩
    · obtain ⟨h1, h2, h3, h4, q⟩ := h; exact ⟨h1, h2, h3, h4, i _ q⟩
    · exact h.elim
  | tup ws => obtain ⟨h1, h2, h3, h4, q⟩ := h; exact ⟨h1, h2, h3, h4, i _ q⟩
  | ktup ws => obtain ⟨h1, h2, h3, h4, q⟩ := h; exact ⟨h1, h2, h3, h4, i _ q⟩
  | lst ws => obtain ⟨h1, h2, h3, h4, q⟩ := h; exact ⟨h1, h2, h3, h4, i _ q⟩
  | tmp ws => obtain ⟨h1, h2, h3, h4, q⟩ := h; exact ⟨h1, h2, h3, h4, i _ q⟩
  | _ => exact h.elim
theorem cmpW_mono {st : Store} {op : CmpOp} {x y : W} {Q Q' : Bool → Prop} (i : ∀ c, Q c → Q' c) (h : cmpW st op x y Q) : cmpW st op x y Q' := by
  cases op <;> simp only [cmpW] at h ⊢
  · split at h
    · exact i _ h
    · exact eqW_mono i h
  · split at h
    · exact i _ h
    · exact eqW_mono (fun c => i _) h
  · split at h
    · exact i _ h
    · exact i _ h
    · obtain ⟨ns, ms, h1, h2, q⟩ := h; exact ⟨ns, ms, h1, h2, i _ q⟩
    · exact h.elim
  · split at h
    · exact i _ h
    · exact h.elim
  · split at h
    · exact i _ h
    · exact h.elim
  · split at h
    · exact i _ h
    · exact h.elim
  · split at h
    · split at h
      · exact i _ h
      · exact h.elim
      · exact i _ h
    · split at h
      · exact i _ h
      · exact h.elim
    · exact h.elim
  · split at h
    · split at h
      · exact i _ h
      · exact h.elim
      · exact i _ h
    · split at h
      · exact i _ h
      · exact h.elim
    · exact h.elim
  · exact inW_mono i h
  · exact inW_mono (fun c => i _) h
/-- an operation whose answer is a truth, as a test -/
theorem twoT {sem : Store → W → W → (Bool → Prop) → Prop} {f : WpF} (hm : ∀ st x y Q Q', (∀ c, Q c → Q' c) → sem st x y Q → sem st x y Q') (hf : ∀ env st Q Xw, f env st Q Xw → wpE C G.P cl ea env st (fun x st1 => wpE C G.P cl eb env st1 (fun y st2 => sem st2 x y fun w => Q (.bl w) st2) Xw) Xw) :
    ∀ σ H Q, ttvW G k Wx f σ H Q → tTest (tOp (opR G fun st x y Q => sem st x y fun c => Q (.bl c)) (tev G k C cl Wx ea) (tev G k C cl Wx eb)) σ H Q := fun σ H Q ⟨Hv, env, st, ρ, Qw, Xw, S, wp, P, PX⟩ =>
    ⟨Hv, env, st, ρ, _, Xw, S, hf _ _ _ _ wp, fun w1 st1 x Hv1 H1 ρ1 q1 l1 so1 r1 =>
      ⟨Hv1, env, st1, ρ1, _, Xw, S.mono l1 so1, q1, fun w2 st2 y Hv2 H2 ρ2 q2 l2 so2 r2 =>
        ⟨Hv2, st2, ρ2, w1, w2, H, H1, (fun w => ∃ c, w = .bl c ∧ Qw (.bl c) st2), so2, r1.mono l2, r2, hm _ _ _ _ _ (fun c q => ⟨c, rfl, q⟩) q2, fun w st' v Hv3 H3 ρ3 q3 l3 so3 r3 => by
          obtain ⟨rfl, c, rfl, q3⟩ := q3
          obtain rfl := rvt_bl r3
          obtain ⟨d, e, q⟩ := P (.bl c) st' Hv3 H3 ρ3 q3 ((l1.trans l2).trans l3) so3
          cases e
          exact ⟨c, rfl, q⟩⟩, PX.step l1⟩, PX⟩
theorem ok_cmpT {op : CmpOp} (hK : X.K = G.K) (hr : Room 1 X.A) (ha : PE X a (tev G k C cl Wx ea)) (hb : PE X b (tev G k C cl Wx eb)) (hm : behindInMarks op b = false) : PT X (.Compare a [op] [b] pos) (ttv G k C cl Wx (.cmp op ea eb)) :=
  pt_weak (pt_cmpR (w_cmp hK hr op) ha hb hm) (twoT (fun _ _ _ _ _ i h => cmpW_mono i h) fun _ _ _ _ h => h)
/-- a op b op' c: the reading -/
theorem three {o1 o2 : CmpOp} {Q2 : VK} {σ : L2.St} {H : Hp} {Hv : Hp} {env : Env} {st : Store} {ρ : Nat → Addr} {Qw : Post} {Xw : XPost} (S : Sim G k σ Hv H env st ρ)
    (wp : wpE C G.P cl (.cmp2 o1 o2 ea eb ec) env st Qw Xw) (PX : PostX G ρ st.length Hv H Xw σ Wx)
    (fin : ∀ b st' Hv' H' ρ', Qw (.bl b) st' → Le ρ st.length Hv H ρ' st'.length Hv' H' → StO G ρ' Hv' H' st' → Q2 (.bl b) H') :
    tChain (opR G fun st x y Q => cmpW st o1 x y fun c => Q (.bl c)) (opR G fun st x y Q => cmpW st o2 x y fun c => Q (.bl c)) (tev G k C cl Wx ea) (tev G k C cl Wx eb) (tev G k C cl Wx ec) σ H Q2 :=
  ⟨Hv, env, st, ρ, _, Xw, S, wp, fun w1 st1 x Hv1 H1 ρ1 q1 l1 so1 r1 =>
      ⟨Hv1, env, st1, ρ1, _, Xw, S.mono l1 so1, q1, fun w2 st2 y Hv2 H2 ρ2 q2 l2 so2 r2 =>
        ⟨Hv2, st2, ρ2, w1, w2, H, H1, (fun w => ∃ c, w = .bl c ∧ if c = true then wpE C G.P cl ec env st2 (fun z st3 => cmpW st3 o2 w2 z fun k' => Qw (.bl k') st3) Xw else Qw (.bl false) st2), so2, r1.mono l2, r2, cmpW_mono (fun c q => ⟨c, rfl, q⟩) q2, fun w st' v Hv3 H3 ρ3 q3 l3 so3 r3 => by
          obtain ⟨rfl, c, rfl, q3⟩ := q3
          obtain rfl := rvt_bl r3
          refine ⟨c, rfl, ?_⟩
          have l4 := (l1.trans l2).trans l3
          cases c with
          | false =>
            rw [if_neg Bool.false_ne_true] at q3 ⊢
            exact fin false st' Hv3 H3 ρ3 q3 l4 so3
          | true =>
            rw [if_pos rfl] at q3 ⊢
            exact ⟨Hv3, env, st', ρ3, _, Xw, S.mono l4 so3, q3, fun w4 st4 z Hv4 H4 ρ4 q4 l5 so4 r4 =>
              ⟨Hv4, st4, ρ4, w2, w4, H1, H3, (fun w => ∃ c, w = .bl c ∧ Qw (.bl c) st4), so4, (r2.mono l3).mono l5, r4, cmpW_mono (fun c q => ⟨c, rfl, q⟩) q4, fun w st' v Hv5 H5 ρ5 q5 l6 so5 r5 => by
                obtain ⟨rfl, c, rfl, q5⟩ := q5
                obtain rfl := rvt_bl r5
                exact fin c st' Hv5 H5 ρ5 q5 ((l4.trans l5).trans l6) so5⟩, PX.step l4⟩⟩, PX.step l1⟩, PX⟩
theorem ok_cmp2 {o1 o2 : CmpOp} (hK : X.K = G.K) (hr : Room 1 X.A) (ha : PE X a (tev G k C cl Wx ea)) (hb : PE X b (tev G k C cl Wx eb)) (hc : PE X c (tev G k C cl Wx ec)) (hm : lastMarks [o1, o2] [b, c] = false) : PE X (.Compare a [o1, o2] [b, c] pos) (tev G k C cl Wx (.cmp2 o1 o2 ea eb ec)) :=
  pe_weak (pe_chain (w_cmp hK hr o1) (w_cmp hK hr o2) ha hb hc hm) fun σ H Q ⟨Hv, env, st, ρ, Qw, Xw, S, wp, P, PX⟩ =>
    three S wp PX fun b st' Hv' H' ρ' q l so => P (.bl b) st' (.bl b) Hv' H' ρ' q l so rfl
theorem ok_cmp2T {o1 o2 : CmpOp} (hK : X.K = G.K) (hr : Room 1 X.A) (ha : PE X a (tev G k C cl Wx ea)) (hb : PE X b (tev G k C cl Wx eb)) (hc : PE X c (tev G k C cl Wx ec)) (hm : lastMarks [o1, o2] [b, c] = false) : PT X (.Compare a [o1, o2] [b, c] pos) (ttv G k C cl Wx (.cmp2 o1 o2 ea eb ec)) :=
  pt_weak (pt_chain (w_cmp hK hr o1) (w_cmp hK hr o2) ha hb hc hm) fun σ H Q ⟨Hv, env, st, ρ, Qw, Xw, S, wp, P, PX⟩ =>
    three (Q2 := fun x H' => ∃ k, x = V.bl k ∧ Q k H') S wp PX fun b st' Hv' H' ρ' q l so => by
      obtain ⟨d, e, q⟩ := P (.bl b) st' Hv' H' ρ' q l so
      cases e
      exact ⟨b, rfl, q⟩
theorem ok_neg (ha : PE X a (tev G k C cl Wx ea)) : PE X (.UnaryOp .USub a pos) (tev G k C cl Wx (.neg ea)) :=
  pe_weak (pe_un un_neg ha) fun σ H Q ⟨Hv, env, st, ρ, Qw, Xw, S, wp, P, PX⟩ =>
    ⟨Hv, env, st, ρ, _, Xw, S, wp, fun w st1 v Hv1 H1 ρ1 q1 l1 so1 r1 => by
      cases w with
      | int i => obtain rfl := rvt_int r1; exact ⟨i, rfl, fin_at l1 so1 P (w := .int (-i)) rfl q1⟩
      | _ => exact q1.elim, PX⟩
/-! ### tests -/
/-- any expression whose test is just the truth of its value -/
theorem ok_truth (hK : X.K = G.K) (ha : PE X a (tev G k C cl Wx ea)) (he : ∀ whole, isTrue a X.env whole = (do let v ← whole; standAt a.pos; holding [v] (truthy v))) : PT X a (ttv G k C cl Wx ea) :=
  pt_weak (pt_truth ha he) fun σ H Q ⟨Hv, env, st, ρ, Qw, Xw, S, wp, P, PX⟩ =>
    ⟨Hv, env, st, ρ, Qw, Xw, S, wp, fun w st1 v Hv1 H1 ρ1 q1 l1 so1 r1 => by
      obtain ⟨b, e, q⟩ := P w st1 Hv1 H1 ρ1 q1 l1 so1
      exact ⟨b, tru_of hK so1 r1 e, q⟩, PX⟩
theorem ok_not (hK : X.K = G.K) (ha : PE X a (tev G k C cl Wx ea)) : PE X (.UnaryOp .Not a pos) (tev G k C cl Wx (.not ea)) :=
  pe_weak (pe_notT ha) fun σ H Q ⟨Hv, env, st, ρ, Qw, Xw, S, wp, P, PX⟩ =>
    ⟨Hv, env, st, ρ, _, Xw, S, wp, fun w st1 v Hv1 H1 ρ1 q1 l1 so1 r1 => by
      obtain ⟨b, e, q⟩ := q1
      exact ⟨b, tru_of hK so1 r1 e, fin_at l1 so1 P (w := .bl (!b)) rfl q⟩, PX⟩
theorem ok_notT (ha : PT X a (ttv G k C cl Wx ea)) : PT X (.UnaryOp .Not a pos) (ttv G k C cl Wx (.not ea)) :=
  pt_weak (pt_not ha) fun σ H Q ⟨Hv, env, st, ρ, Qw, Xw, S, wp, P, PX⟩ =>
    ⟨Hv, env, st, ρ, _, Xw, S, wp, fun w st1 Hv1 H1 ρ1 q1 l1 so1 => by
      obtain ⟨b, e, q⟩ := q1
      refine ⟨b, e, ?_⟩
      obtain ⟨d, e, q⟩ := P (.bl (!b)) st1 Hv1 H1 ρ1 q l1 so1
      cases e
      exact q, PX⟩
theorem ok_ife (hc : PT X c (ttv G k C cl Wx ec)) (ha : PE X a (tev G k C cl Wx ea)) (hb : PE X b (tev G k C cl Wx eb)) : PE X (.IfExp c a b pos) (tev G k C cl Wx (.ife ec ea eb)) :=
  pe_weak (pe_ifExp hc ha hb) fun σ H Q ⟨Hv, env, st, ρ, Qw, Xw, S, wp, P, PX⟩ =>
    ⟨Hv, env, st, ρ, _, Xw, S, wp, fun w st1 Hv1 H1 ρ1 q1 l1 so1 => by
      obtain ⟨d, e, q⟩ := q1
      refine ⟨d, e, ?_⟩
      cases d with
      | true =>
        rw [if_pos rfl] at q ⊢
        exact ⟨Hv1, env, st1, ρ1, Qw, Xw, S.mono l1 so1, q, P.step l1, PX.step l1⟩
      | false =>
        rw [if_neg Bool.false_ne_true] at q ⊢
        exact ⟨Hv1, env, st1, ρ1, Qw, Xw, S.mono l1 so1, q, P.step l1, PX.step l1⟩, PX⟩
/-! ### and, or -/
theorem ok_and1 (ha : PE X a (tev G k C cl Wx ea)) : PE X (.BoolOp .And [a] pos) (tevW G k Wx (wpAnd C G.P cl [ea])) := pe_weak (pe_one ha) fun σ H Q h => h
theorem ok_or1 (ha : PE X a (tev G k C cl Wx ea)) : PE X (.BoolOp .Or [a] pos) (tevW G k Wx (wpOr C G.P cl [ea])) := pe_weak (pe_one ha) fun σ H Q h => h
theorem ok_and2 {as : List Expr} {es : List E} (ha : PE X a (tev G k C cl Wx ea)) (hb : PE X (.BoolOp .And (b :: as) pos) (tevW G k Wx (wpAnd C G.P cl (eb :: es)))) : PE X (.BoolOp .And (a :: b :: as) pos) (tevW G k Wx (wpAnd C G.P cl (ea :: eb :: es))) :=
  pe_weak (pe_and ha hb) fun σ H Q ⟨Hv, env, st, ρ, Qw, Xw, S, wp, P, PX⟩ =>
    ⟨Hv, env, st, ρ, _, Xw, S, wp, fun w st1 v Hv1 H1 ρ1 q1 l1 so1 r1 => by
      obtain ⟨d, rfl, q⟩ := q1
      obtain rfl := rvt_bl r1
      refine ⟨d, rfl, ?_⟩
      cases d with
      | true =>
        rw [if_pos rfl] at q ⊢
        exact ⟨Hv1, env, st1, ρ1, Qw, Xw, S.mono l1 so1, q, P.step l1, PX.step l1⟩
      | false =>
        rw [if_neg Bool.false_ne_true] at q ⊢
        exact fin_at l1 so1 P (w := .bl false) rfl q, PX⟩
theorem ok_or2 {as : List Expr} {es : List E} (ha : PE X a (tev G k C cl Wx ea)) (hb : PE X (.BoolOp .Or (b :: as) pos) (tevW G k Wx (wpOr C G.P cl (eb :: es)))) : PE X (.BoolOp .Or (a :: b :: as) pos) (tevW G k Wx (wpOr C G.P cl (ea :: eb :: es))) :=
  pe_weak (pe_or ha hb) fun σ H Q ⟨Hv, env, st, ρ, Qw, Xw, S, wp, P, PX⟩ =>
    ⟨Hv, env, st, ρ, _, Xw, S, wp, fun w st1 v Hv1 H1 ρ1 q1 l1 so1 r1 => by
      obtain ⟨d, rfl, q⟩ := q1
      obtain rfl := rvt_bl r1
      refine ⟨d, rfl, ?_⟩
      cases d with
      | true =>
        rw [if_pos rfl] at q ⊢
        exact fin_at l1 so1 P (w := .bl true) rfl q
      | false =>
        rw [if_neg Bool.false_ne_true] at q ⊢
        exact ⟨Hv1, env, st1, ρ1, Qw, Xw, S.mono l1 so1, q, P.step l1, PX.step l1⟩, PX⟩
theorem ok_and1T (ha : PT X a (ttv G k C cl Wx ea)) : PW X (.BoolOp .And [a] pos) (ttvW G k Wx (wpAnd C G.P cl [ea])) := pw_weak (pw_and1 ha) fun σ H Q h => h
theorem ok_or1T (ha : PT X a (ttv G k C cl Wx ea)) : PW X (.BoolOp .Or [a] pos) (ttvW G k Wx (wpOr C G.P cl [ea])) := pw_weak (pw_or1 ha) fun σ H Q h => h
theorem ok_and2T {as : List Expr} {es : List E} (ha : PT X a (ttv G k C cl Wx ea)) (hb : PW X (.BoolOp .And (b :: as) pos) (ttvW G k Wx (wpAnd C G.P cl (eb :: es)))) : PW X (.BoolOp .And (a :: b :: as) pos) (ttvW G k Wx (wpAnd C G.P cl (ea :: eb :: es))) :=
  pw_weak (pw_and ha hb) fun σ H Q ⟨Hv, env, st, ρ, Qw, Xw, S, wp, P, PX⟩ =>
    ⟨Hv, env, st, ρ, _, Xw, S, wp, fun w st1 Hv1 H1 ρ1 q1 l1 so1 => by
      obtain ⟨d, rfl, q⟩ := q1
      refine ⟨d, rfl, ?_⟩
      cases d with
      | true =>
        rw [if_pos rfl] at q ⊢
        exact ⟨Hv1, env, st1, ρ1, Qw, Xw, S.mono l1 so1, q, P.step l1, PX.step l1⟩
      | false =>
        rw [if_neg Bool.false_ne_true] at q ⊢
        obtain ⟨d, e, q⟩ := P (.bl false) st1 Hv1 H1 ρ1 q l1 so1
        cases e
        exact q, PX⟩
theorem ok_or2T {as : List Expr} {es : List E} (ha : PT X a (ttv G k C cl Wx ea)) (hb : PW X (.BoolOp .Or (b :: as) pos) (ttvW G k Wx (wpOr C G.P cl (eb :: es)))) : PW X (.BoolOp .Or (a :: b :: as) pos) (ttvW G k Wx (wpOr C G.P cl (ea :: eb :: es))) :=
  pw_weak (pw_or ha hb) fun σ H Q ⟨Hv, env, st, ρ, Qw, Xw, S, wp, P, PX⟩ =>
    ⟨Hv, env, st, ρ, _, Xw, S, wp, fun w st1 Hv1 H1 ρ1 q1 l1 so1 => by
      obtain ⟨d, rfl, q⟩ := q1
      refine ⟨d, rfl, ?_⟩
      cases d with
      | true =>
        rw [if_pos rfl] at q ⊢
        obtain ⟨d, e, q⟩ := P (.bl true) st1 Hv1 H1 ρ1 q l1 so1
        cases e
        exact q
      | false =>
        rw [if_neg Bool.false_ne_true] at q ⊢
        exact ⟨Hv1, env, st1, ρ1, Qw, Xw, S.mono l1 so1, q, P.step l1, PX.step l1⟩, PX⟩
/-! ### built-ins, methods -/
theorem ok_bi {f : Bi} {as : List Expr} {es : List E} {r : List V → Hp → VK → Prop} {e : Expr} (h : PE X e (tCB (biR G f) (tav G k C cl Wx es))) : PE X e (tev G k C cl Wx (.bi f es)) :=
  pe_weak h fun σ H Q ⟨Hv, env, st, ρ, Qw, Xw, S, wp, P, PX⟩ =>
    ⟨Hv, env, st, ρ, _, Xw, S, wp, fun ws st1 vs Hv1 H1 ρ1 q1 l1 so1 r1 => ⟨ρ, st.length, Hv, H, Hv1, st1, ρ1, ws, Qw, l1, so1, r1, q1, P⟩, PX⟩
/-- the receiver of a method: its type -/
theorem ty_of (hK : X.K = G.K) {ρ : Nat → Addr} {Hv H H0 : Hp} {st : Store} (so : StO G ρ Hv H st) {w : W} {v : V} (r : RVt G ρ st.length Hv H H0 w v) {i : Nat} {ws : List W} (e : w = .loc i) (hs : st[i]? = some (.lst ws)) : tyV X.K "list" v H := by
  subst e
  obtain ⟨_, rfl⟩ := r
  obtain ⟨o, h1, vs, rfl, h2⟩ := so.sto i _ hs
  exact .inl ⟨rfl, vs, SqL.of (so.sub _ _ h1)⟩
end
end Ev

set_option maxRecDepth 100000
set_option maxHeartbeats 1000000
/-! Ev8: methods, isinstance, slices, names of the text's top. -/
namespace Ev
open PySem PySem.Spec PyProof.Rows L2

section
variable {G : Gam} {k : Kn} {C : CallSem} {cl : Ex} {Wx : WX} {X : Cx} {a b c : Expr} {ea eb ec : E} {pos : Pos}

theorem ok_bi0 {f : Bi} {es : List E} {e : Expr} (h : PE X e (tCB (biR G f) (tav G k C cl Wx es))) : PE X e (tev G k C cl Wx (.bi f es)) := ok_bi (as := []) (r := fun _ _ _ => True) h
/-- a method of a list, with arguments -/
theorem ok_meth {m : Me} {id : String} {T : String} {name : Str} {as : List Expr} {es : List E} {apos cpos : Pos} (hK : X.K = G.K) (pa : PlainAttrs T) (slot : Slot T name id) (hty : typeOf (.builtin id) = pure (.type "method_descriptor")) (hm : MtR X id (meR G m))
    (ht : ∀ {ρ : Nat → Addr} {Hv H H0 : Hp} {st : Store} {w : W} {v : V}, StO G ρ Hv H st → RVt G ρ st.length Hv H H0 w v → meTy st m w → tyV X.K T v H)
    (ho : PE X a (tev G k C cl Wx ea)) (ha : PA X (b :: as) (tav G k C cl Wx es))
    (hbase : attributeBase a name X.env (eval a X.env) = eval a X.env)
    (hfew : ((backTo cpos (starEach (b :: as) X.env)).all (fun x => !x.1) && (backToKw cpos (keywordEach [] X.env)).all (fun x => x.1.isSome)
      && decide ((b :: as).length + ([] : List Keyword).length + (if ([] : List Keyword).isEmpty then 0 else 1) < 30)) = true)
    (hline : (apos.endLine == cpos.line) = true) (hs : starEach (b :: as) X.env = (false, eval b X.env) :: starEach as X.env) (hplain : (backTo cpos (starEach as X.env)).any (·.1) = false) :
    PE X (.Call (.Attribute a name apos) (b :: as) [] cpos) (tev G k C cl Wx (.meth m ea es)) :=
  pe_weak (pe_bm pa slot hty hm ho ha hbase hfew hline hs hplain) fun σ H Q ⟨Hv, env, st, ρ, Qw, Xw, S, wp, P, PX⟩ =>
    ⟨Hv, env, st, ρ, _, Xw, S, wp, fun w st1 v Hv1 H1 ρ1 q1 l1 so1 r1 =>
      ⟨ht so1 r1 q1.1, Hv1, env, st1, ρ1, _, Xw, S.mono l1 so1, q1.2, fun ws st2 vs Hv2 H2 ρ2 q2 l2 so2 r2 =>
        ⟨ρ, st.length, Hv, H, Hv2, st2, ρ2, w, ws, Qw, l1.trans l2, so2, r1.mono l2, r2.back l1.back, q2, P⟩, PX.step l1⟩, PX⟩
theorem ok_meth0 {m : Me} {id : String} {T : String} {name : Str} {apos cpos : Pos} (hK : X.K = G.K) (pa : PlainAttrs T) (slot : Slot T name id) (hty : typeOf (.builtin id) = pure (.type "method_descriptor")) (hm : MtR X id (meR G m))
    (ht : ∀ {ρ : Nat → Addr} {Hv H H0 : Hp} {st : Store} {w : W} {v : V}, StO G ρ Hv H st → RVt G ρ st.length Hv H H0 w v → meTy st m w → tyV X.K T v H)
    (ho : PE X a (tev G k C cl Wx ea))
    (hbase : attributeBase a name X.env (eval a X.env) = eval a X.env) (hline : (apos.endLine == cpos.line) = true) :
    PE X (.Call (.Attribute a name apos) [] [] cpos) (tev G k C cl Wx (.meth m ea [])) :=
  pe_weak (pe_bm0 pa slot hty hm ho hbase hline) fun σ H Q ⟨Hv, env, st, ρ, Qw, Xw, S, wp, P, PX⟩ =>
    ⟨Hv, env, st, ρ, _, Xw, S, wp, fun w st1 v Hv1 H1 ρ1 q1 l1 so1 r1 =>
      ⟨ht so1 r1 q1.1, ρ, st.length, Hv, H, Hv1, st1, ρ1, w, [], Qw, l1, so1, r1, rfl, q1.2, P⟩, PX⟩
theorem ok_bits {apos : Pos} (ho : PE X a (tev G k C cl Wx ea)) (hbase : attributeBase a "bit_length" X.env (eval a X.env) = eval a X.env) (hline : (apos.endLine == pos.line) = true) :
    PE X (.Call (.Attribute a "bit_length" apos) [] [] pos) (tev G k C cl Wx (.meth .bitlen ea [])) :=
  pe_weak (pe_bits ho hbase hline) fun σ H Q ⟨Hv, env, st, ρ, Qw, Xw, S, wp, P, PX⟩ =>
    ⟨Hv, env, st, ρ, _, Xw, S, wp, fun w st1 v Hv1 H1 ρ1 q1 l1 so1 r1 => by
      obtain ⟨⟨i, rfl⟩, q⟩ := q1
      obtain rfl := rvt_int r1
      exact ⟨i, rfl, fin_at l1 so1 P (w := .int _) rfl q⟩, PX⟩
/-! ### isinstance -/
def tyName : Ty → String
  | .tInt => "int"
  | .tBool => "bool"
  | .tStr => "str"
  | .tTuple => "tuple"
  | .tList => "list"
theorem isi_at {K : PySem.W.Frag} {ρ : Nat → Addr} {Hv H H0 : Hp} {st : Store} (hK : K = G.K) (so : StO G ρ Hv H st) {w : W} {v : V} {t : Ty} {Q : Bool → Prop} (r : RVt G ρ st.length Hv H H0 w v) (q : isiW st w t Q) :
    ∃ (T : String) (b : Bool), TyX K H v (.type T) ∧ kitB T (tyName t) = some b ∧ Q b := by
  cases w with
  | non =>
    cases r
    cases t <;> exact ⟨"NoneType", false, .base .non, by decide +kernel, q⟩
  | bl x =>
    cases r
    cases t <;> first | exact ⟨"bool", true, .base (.bl x), by decide +kernel, q⟩ | exact ⟨"bool", false, .base (.bl x), by decide +kernel, q⟩
  | int x =>
    cases r
    cases t <;> first | exact ⟨"int", true, .base (.int x), by decide +kernel, q⟩ | exact ⟨"int", false, .base (.int x), by decide +kernel, q⟩
  | str x =>
    cases r
    cases t <;> first | exact ⟨"str", true, .base (.str x), by decide +kernel, q⟩ | exact ⟨"str", false, .base (.str x), by decide +kernel, q⟩
  | tup ws =>
    obtain ⟨a, vs, rfl, h1, h2, h3⟩ := r
    have h := so.sub _ _ h1
    cases t <;> first | exact ⟨"tuple", true, .base (.tup h), by decide +kernel, q⟩ | exact ⟨"tuple", false, .base (.tup h), by decide +kernel, q⟩
  | ktup ws =>
    obtain ⟨a, vs, rfl, h1, h2⟩ := r
    rcases h1 (fun _ => none) with h | ⟨o, its, n, h, hc, _⟩
    · rcases h with h | ⟨o, h⟩ <;> cases h
    · rw [← hK] at h
      cases t <;> first | exact ⟨"tuple", true, .kTuple h hc, by decide +kernel, q⟩ | exact ⟨"tuple", false, .kTuple h hc, by decide +kernel, q⟩
  | lst ws =>
    obtain ⟨a, vs, rfl, h1, h2, h3⟩ := r
    have h := so.sub _ _ h1
    cases t <;> first | exact ⟨"list", true, .base (.lst h), by decide +kernel, q⟩ | exact ⟨"list", false, .base (.lst h), by decide +kernel, q⟩
  | tmp ws =>
    obtain ⟨a, vs, rfl, h, h2, h3⟩ := r
    cases t <;> first | exact ⟨"list", true, .base (.lst h), by decide +kernel, q⟩ | exact ⟨"list", false, .base (.lst h), by decide +kernel, q⟩
  | loc i =>
    simp only [isiW] at q
    split at q
    · rename_i us hs
      obtain ⟨_, rfl⟩ := r
      obtain ⟨o, h1, vs, rfl, h2⟩ := so.sto i _ hs
      have h := so.sub _ _ h1
      cases t <;> first | exact ⟨"list", true, .base (.lst h), by decide +kernel, q⟩ | exact ⟨"list", false, .base (.lst h), by decide +kernel, q⟩
    · exact q.elim
  | _ => exact q.elim
def tyStr : Ty → Str
  | .tInt => "int"
  | .tBool => "bool"
  | .tStr => "str"
  | .tTuple => "tuple"
  | .tList => "list"
theorem boot_ty (t : Ty) : bootBuiltins (tyStr t) = some (.type (tyName t)) := by cases t <;> decide +kernel
theorem ok_isi {t : Ty} {x : Str} {p np tp : Pos} (hK : X.K = G.K) (hx : x = "isinstance") (hg : Gl X "isinstance") (hm : X.mg "isinstance" = none) (ht : Gl X (tyStr t)) (htm : X.mg (tyStr t) = none) (ha : PE X a (tev G k C cl Wx ea))
    (hs : starEach [a, .Name (tyStr t) tp] X.env = (false, eval a X.env) :: starEach [.Name (tyStr t) tp] X.env) :
    PE X (.Call (.Name x np) [a, .Name (tyStr t) tp] [] pos) (tev G k C cl Wx (.isi ea t)) := by
  subst hx
  have hb : PE X (.Name (tyStr t) tp) (tC (.ty (tyName t))) := pe_bltn ht htm (boot_ty t) rfl (by cases t <;> decide) (by cases t <;> decide)
  refine pe_weak (pe_callB call_isi hg hm (by decide +kernel) (pa_cons ha (pa_cons hb pa_nil rfl) hs) (he := hs) (hpl := rfl)) fun σ H Q ⟨Hv, env, st, ρ, Qw, Xw, S, wp, P, PX⟩ => ?_
  refine ⟨Hv, env, st, ρ, _, Xw, S, wp, fun w st1 v Hv1 H1 ρ1 q1 l1 so1 r1 => ?_, PX⟩
  obtain ⟨T, b, h1, h2, q⟩ := isi_at (K := X.K) hK so1 r1 q1
  exact ⟨v, .ty (tyName t), .type T, .type (tyName t), b, rfl, .ty _, h1, kit_ty h2, fin_at l1 so1 P (w := .bl b) rfl q⟩
/-! ### names of the text's top -/
theorem ok_gfn {g : Nat} {x : Str} {u : Value} (hg : Gl X x) (hm : X.mg x = some u) (r : RelV (.ref (G.fa g)) u) (hd : (x == ("__debug__" : Str)) = false) : PE X (.Name x pos) (tev G k C cl Wx (.gfn g)) :=
  ok_const (pe_glob hg hm r hd) (fun _ _ _ _ h => h) fun _ _ _ => rfl
theorem ok_gcon {i : Nat} {x : Str} {w : W} {v : V} {u : Value} (hg : Gl X x) (hm : X.mg x = some u) (r : RelV v u) (hc : G.P.cons[i]? = some (x, w)) (rv : ∀ ρ n Hv, RV G ρ n Hv w v) (hd : (x == ("__debug__" : Str)) = false) : PE X (.Name x pos) (tev G k C cl Wx (.gcon i)) :=
  ok_const (w := w) (pe_glob hg hm r hd) (fun _ _ _ _ h => by
    obtain ⟨c, e, q⟩ := h
    rw [hc] at e
    cases e
    exact q) rv
/-! ### tuple(range(..)), list(range(..)) -/
theorem rvs_range {ρ : Nat → Addr} {n : Nat} {Hv : Hp} : ∀ (l : List Nat) (i : Int), RVs G ρ n Hv (l.map fun k => W.int (i + (k : Nat))) (l.map fun k => V.int (i + (k : Nat)))
  | [], _ => rfl
  | m :: l, i => ⟨_, _, rfl, rfl, rvs_range l i⟩
theorem rvs_rg {ρ : Nat → Addr} {n : Nat} {Hv : Hp} (i j : Int) : RVs G ρ n Hv (rangeW i j) (rgV i j) := rvs_range _ i
theorem ok_trange1 {p np rp : Pos} (hcm : X.calm = true) (hg : Gl X "tuple") (hm : X.mg "tuple" = none) (hg2 : Gl X "range") (hm2 : X.mg "range" = none) (ha : PE X a (tev G k C cl Wx ea))
    (na : starEach [a] X.env = (false, eval a X.env) :: starEach [] X.env) : PE X (.Call (.Name "tuple" np) [.Call (.Name "range" rp) [a] [] p] [] pos) (tev G k C cl Wx (.bi .trange [ea])) :=
  pe_weak (pe_tupRg hcm hg hm (prg_1 hg2 hm2 ha na)) fun σ H Q ⟨Hv, env, st, ρ, Qw, Xw, S, wp, P, PX⟩ =>
    ⟨Hv, env, st, ρ, _, Xw, S, wp, fun w st1 v Hv1 H1 ρ1 q1 l1 so1 r1 => by
      cases w <;> first | exact q1.elim | skip
      · obtain rfl := rvt_int r1
        obtain ⟨b1, b2, q⟩ := q1
        rw [sizeLine_eq] at b2
        exact ⟨_, rfl, ⟨by omega, by omega, b1, by omega, by omega⟩, fun p hp => fin_att l1 so1 P hp (rvs_rg _ _) q⟩, PX⟩
theorem ok_lrange1 {p np rp : Pos} (hcm : X.calm = true) (hg : Gl X "list") (hm : X.mg "list" = none) (hg2 : Gl X "range") (hm2 : X.mg "range" = none) (ha : PE X a (tev G k C cl Wx ea))
    (na : starEach [a] X.env = (false, eval a X.env) :: starEach [] X.env) : PE X (.Call (.Name "list" np) [.Call (.Name "range" rp) [a] [] p] [] pos) (tev G k C cl Wx (.bi .lrange [ea])) :=
  pe_weak (pe_listRg hcm hg hm (prg_1 hg2 hm2 ha na)) fun σ H Q ⟨Hv, env, st, ρ, Qw, Xw, S, wp, P, PX⟩ =>
    ⟨Hv, env, st, ρ, _, Xw, S, wp, fun w st1 v Hv1 H1 ρ1 q1 l1 so1 r1 => by
      cases w <;> first | exact q1.elim | skip
      · obtain rfl := rvt_int r1
        obtain ⟨b1, b2, q⟩ := q1
        rw [sizeLine_eq] at b2
        exact ⟨_, rfl, ⟨by omega, by omega, b1, by omega, by omega⟩, fun p hp => fin_atl l1 so1 P hp (rvs_rg _ _) q⟩, PX⟩
theorem ok_trange2 {p np rp : Pos} (hcm : X.calm = true) (hg : Gl X "tuple") (hm : X.mg "tuple" = none) (hg2 : Gl X "range") (hm2 : X.mg "range" = none) (ha : PE X a (tev G k C cl Wx ea)) (hb : PE X b (tev G k C cl Wx eb))
    (na : starEach [a, b] X.env = (false, eval a X.env) :: starEach [b] X.env) (nb : starEach [b] X.env = (false, eval b X.env) :: starEach [] X.env) : PE X (.Call (.Name "tuple" np) [.Call (.Name "range" rp) [a, b] [] p] [] pos) (tev G k C cl Wx (.bi .trange [ea, eb])) :=
  pe_weak (pe_tupRg hcm hg hm (prg_2 hg2 hm2 ha hb na nb (by rw [nb]; rfl))) fun σ H Q ⟨Hv, env, st, ρ, Qw, Xw, S, wp, P, PX⟩ =>
    ⟨Hv, env, st, ρ, _, Xw, S, wp, fun w st1 v Hv1 H1 ρ1 q1 l1 so1 r1 =>
      ⟨Hv1, env, st1, ρ1, _, Xw, S.mono l1 so1, q1, fun w2 st2 v2 Hv2 H2 ρ2 q2 l2 so2 r2 => by
        have l3 := l1.trans l2
        have r1' := r1.mono l2
        cases w <;> cases w2 <;> first | exact q2.elim | skip
        · obtain rfl := rvt_int r1'
          obtain rfl := rvt_int r2
          obtain ⟨b1, b2, b3, b4, b5, q⟩ := q2
          rw [sizeLine_eq] at b2
          exact ⟨_, _, rfl, rfl, ⟨b1, b3, b4, b5, by omega⟩, fun p hp => fin_att l3 so2 P hp (rvs_rg _ _) q⟩, PX.step l1⟩, PX⟩
theorem ok_lrange2 {p np rp : Pos} (hcm : X.calm = true) (hg : Gl X "list") (hm : X.mg "list" = none) (hg2 : Gl X "range") (hm2 : X.mg "range" = none) (ha : PE X a (tev G k C cl Wx ea)) (hb : PE X b (tev G k C cl Wx eb))
    (na : starEach [a, b] X.env = (false, eval a X.env) :: starEach [b] X.env) (nb : starEach [b] X.env = (false, eval b X.env) :: starEach [] X.env) : PE X (.Call (.Name "list" np) [.Call (.Name "range" rp) [a, b] [] p] [] pos) (tev G k C cl Wx (.bi .lrange [ea, eb])) :=
  pe_weak (pe_listRg hcm hg hm (prg_2 hg2 hm2 ha hb na nb (by rw [nb]; rfl))) fun σ H Q ⟨Hv, env, st, ρ, Qw, Xw, S, wp, P, PX⟩ =>
    ⟨Hv, env, st, ρ, _, Xw, S, wp, fun w st1 v Hv1 H1 ρ1 q1 l1 so1 r1 =>
      ⟨Hv1, env, st1, ρ1, _, Xw, S.mono l1 so1, q1, fun w2 st2 v2 Hv2 H2 ρ2 q2 l2 so2 r2 => by
        have l3 := l1.trans l2
        have r1' := r1.mono l2
        cases w <;> cases w2 <;> first | exact q2.elim | skip
        · obtain rfl := rvt_int r1'
          obtain rfl := rvt_int r2
          obtain ⟨b1, b2, b3, b4, b5, q⟩ := q2
          rw [sizeLine_eq] at b2
          exact ⟨_, _, rfl, rfl, ⟨b1, b3, b4, b5, by omega⟩, fun p hp => fin_atl l3 so2 P hp (rvs_rg _ _) q⟩, PX.step l1⟩, PX⟩
/-! ### slices -/
theorem cut_rvs {ρ : Nat → Addr} {n : Nat} {Hv : Hp} {ws : List W} {vs : List V} (h : RVs G ρ n Hv ws vs) (lo hi : Option Int) : RVs G ρ n Hv (cutL ws lo hi) (cutV vs lo hi) := by
  unfold cutL cutV
  rw [h.length]
  exact RVs.take _ (RVs.drop _ h)
theorem cut_whole {α : Type} {xs : List α} {lo hi : Option Int} (h : HT.sIx xs.length 0 lo = 0 ∧ HT.sIx xs.length xs.length hi = xs.length) : cutL xs lo hi = xs := by
  unfold cutL
  rw [h.1, h.2]
  simp
theorem w_slice (hK : X.K = G.K) : SlR X (fun x lo hi H Q => ∃ ρ0 n0 Hv0 H0 Hv st ρ w Qw, Le ρ0 n0 Hv0 H0 ρ st.length Hv H ∧ StO G ρ Hv H st ∧ RVt G ρ st.length Hv H H0 w x ∧ sliceW st w lo hi Qw ∧ PostE G ρ0 n0 Hv0 H0 (fun w st' => st' = st ∧ Qw w) Q) := by
  intro pins s σ H x v vl vu lo hi sl Q I rx hs pl pu h
  refine SlR.or sl_list (SlR.or sl_tupA C8.sl_txt) pins s σ H x v vl vu lo hi sl Q I rx hs pl pu ?_
  obtain ⟨ρ0, n0, Hv0, H0, Hv, st, ρ, w, Qw, l, so, r, q, P⟩ := h
  have lst : ∀ us, lstW st w = some us → Qw (.tmp (cutL us lo hi)) → rSlL X.K x lo hi H Q := fun us e q => by
    obtain ⟨a, vs, rfl, h1, h2⟩ := seq_lst so r e
    exact ⟨a, vs, rfl, SqL.of h1, fun p hp => fin_atl l so P hp (cut_rvs h2 lo hi) ⟨rfl, q⟩⟩
  cases w with
  | str z =>
    obtain rfl := rvt_str r
    exact .inr (.inr ⟨z, rfl, q.1, fin_at l so P (w := .str _) rfl ⟨rfl, q.2⟩⟩)
  | tup ws =>
    obtain ⟨a, vs, rfl, h1, h2, h3⟩ := id r
    refine .inr (.inl ⟨a, vs, rfl, .inl (.inl (so.sub _ _ h1)), fun hw => ?_, fun _ p hp => ?_⟩)
    · have e : cutL ws lo hi = ws := cut_whole (by rw [h3.length]; exact hw)
      exact fin_at l so P r ⟨rfl, by simpa only [sliceW, e] using q⟩
    · exact fin_att l so P hp (cut_rvs h3 lo hi) ⟨rfl, q⟩
  | lst us => obtain ⟨ws, e, q⟩ := q; exact .inl (lst ws e q)
  | tmp us => obtain ⟨ws, e, q⟩ := q; exact .inl (lst ws e q)
  | loc us => obtain ⟨ws, e, q⟩ := q; exact .inl (lst ws e q)
  | _ => obtain ⟨ws, e, q⟩ := q; cases e
def tovW (G : Gam) (k : Kn) (C : CallSem) (cl : Ex) (Wx : WX) (o : Option E) : TO := fun σ H Q => ∃ Hv env st ρ Qw Xw, Sim G k σ Hv H env st ρ ∧ wpO C G.P cl o env st Qw Xw ∧
  (∀ i st' Hv' H' ρ', Qw i st' → Le ρ st.length Hv H ρ' st'.length Hv' H' → StO G ρ' Hv' H' st' → Q i H') ∧ PostX G ρ st.length Hv H Xw σ Wx
theorem po_weak {X : Cx} {o : Option Expr} {t t' : TO} (h : PO X o t) (i : ∀ σ H Q, t' σ H Q → t σ H Q) : PO X o t' := ⟨fun pins s σ H Q I q => h.run pins s σ H Q I (i σ H Q q)⟩
theorem ok_oNone : PO X none (tovW G k C cl Wx none) := po_weak po_none fun σ H Q ⟨Hv, env, st, ρ, Qw, Xw, S, wp, P, PX⟩ => P none st Hv H ρ wp Le.refl S.so
theorem ok_oSome (ha : PE X a (tev G k C cl Wx ea)) : PO X (some a) (tovW G k C cl Wx (some ea)) := po_weak (po_some ha) fun σ H Q ⟨Hv, env, st, ρ, Qw, Xw, S, wp, P, PX⟩ =>
  ⟨Hv, env, st, ρ, _, Xw, S, wp, fun w st1 v Hv1 H1 ρ1 q1 l1 so1 r1 => by
    cases w with
    | int i => obtain rfl := rvt_int r1; exact ⟨i, rfl, P (some i) st1 Hv1 H1 ρ1 q1 l1 so1⟩
    | _ => exact q1.elim, PX⟩
theorem ok_slice {lo hi : Option Expr} {el eh : Option E} {p2 : Pos} (hK : X.K = G.K) (ha : PE X a (tev G k C cl Wx ea)) (hl : PO X lo (tovW G k C cl Wx el)) (hh : PO X hi (tovW G k C cl Wx eh)) :
    PE X (.Subscript a (.Slice lo hi none p2) pos) (tev G k C cl Wx (.slice ea el eh)) :=
  pe_weak (pe_slice (w_slice hK) ha hl hh) fun σ H Q ⟨Hv, env, st, ρ, Qw, Xw, S, wp, P, PX⟩ =>
    ⟨Hv, env, st, ρ, _, Xw, S, wp, fun w st1 v Hv1 H1 ρ1 q1 l1 so1 r1 =>
      ⟨Hv1, env, st1, ρ1, _, Xw, S.mono l1 so1, q1, fun i st2 Hv2 H2 ρ2 q2 l2 so2 =>
        ⟨Hv2, env, st2, ρ2, _, Xw, S.mono (l1.trans l2) so2, q2, fun j st3 Hv3 H3 ρ3 q3 l3 so3 =>
          ⟨ρ, st.length, Hv, H, Hv3, st3, ρ3, w, _, (l1.trans l2).trans l3, so3, (r1.mono l2).mono l3, q3, fun w' st' v' Hv' H' ρ' q' l' so' r' => by
            obtain ⟨rfl, q'⟩ := q'
            exact P w' st' v' Hv' H' ρ' q' l' so' r'⟩, PX.step (l1.trans l2)⟩, PX.step l1⟩, PX⟩
theorem ok_rev {kk : Nat} {p1 p2 p3 : Pos} (hK : X.K = G.K) (ha : PE X a (tev G k C cl Wx ea)) :
    PE X (.Subscript a (.Slice none none (some (.UnaryOp .USub (.Constant (.int 1) kk p1) p2)) p3) pos) (tev G k C cl Wx (.rev ea)) :=
  pe_weak (pe_revA ha) fun σ H Q ⟨Hv, env, st, ρ, Qw, Xw, S, wp, P, PX⟩ =>
    ⟨Hv, env, st, ρ, _, Xw, S, wp, fun w st1 v Hv1 H1 ρ1 q1 l1 so1 r1 => by
      show ∃ a xs, v = .ref a ∧ ((SqL X.K H1 a xs ∧ ∀ p, H1 p = none → Q (.ref p) (upd H1 p (.lst xs.reverse))) ∨ (SqT X.K H1 a xs ∧ ∀ p, H1 p = none → Q (.ref p) (upd H1 p (.tup xs.reverse))))
      have gen : ∀ ws, lstW st1 w = some ws → Qw (.tmp ws.reverse) st1 → ∃ a xs, v = .ref a ∧ ((SqL X.K H1 a xs ∧ ∀ p, H1 p = none → Q (.ref p) (upd H1 p (.lst xs.reverse))) ∨ (SqT X.K H1 a xs ∧ ∀ p, H1 p = none → Q (.ref p) (upd H1 p (.tup xs.reverse)))) := fun ws e q => by
        obtain ⟨a, vs, rfl, h1, h2⟩ := seq_lst so1 r1 e
        exact ⟨a, vs, rfl, .inl ⟨SqL.of h1, fun p hp => fin_atl l1 so1 P hp (RVs.reverse h2) q⟩⟩
      cases w with
      | tup ws =>
        obtain ⟨a, vs, rfl, h1, h0, h2⟩ := id r1
        exact ⟨a, vs, rfl, .inr ⟨by rw [hK]; exact seq_tup so1 h1, fun p hp => fin_att l1 so1 P hp (RVs.reverse h2) q1⟩⟩
      | ktup ws =>
        obtain ⟨a, vs, rfl, h1, h2⟩ := id r1
        exact ⟨a, vs, rfl, .inr ⟨by rw [hK]; exact h1 H1, fun p hp => fin_att l1 so1 P hp (RVs.reverse h2) q1⟩⟩
      | lst us => obtain ⟨ws, e, q⟩ := q1; exact gen ws e q
      | tmp us => obtain ⟨ws, e, q⟩ := q1; exact gen ws e q
      | loc us => obtain ⟨ws, e, q⟩ := q1; exact gen ws e q
      | _ => exact (by obtain ⟨ws, e, q⟩ := q1; cases e), PX⟩
end
end Ev

set_option maxRecDepth 100000
set_option maxHeartbeats 2000000
/-! Ev9: what a loop walks: lists, tuples, ranges, enumerate (of tuples too), zip. -/
namespace Ev
open PySem PySem.Spec PyProof.Rows L2

/-- enumerate(v) begins -/
theorem enumNewB {v : Value} {o : Obj} {H : Heap → Prop} (B : Begins v o H) :
    Meets (Builtin.«enumerate.__new__» ⟨[.type "enumerate", v], []⟩) (fun _ R s => H s.heap ∧
      R (.ok (.ret (.ref (s.heap.push o).objs.size))) { s with heap := (s.heap.push o).push { cls := .type "enumerate", data := .fields #[.none, .bool false, .ref s.heap.objs.size, rawInt 0, .none, .none] } }) :=
  .of_wp fun prog w A R s h => by
    obtain ⟨hp, g, d, tk, os⟩ := s
    obtain ⟨h1, h⟩ := h
    have hsub := sub_enumerate
    have q1 : ∀ {A' : Around} {E : Value → Shared → Prop} {Q : Value → Shared → Prop}, Q (.ref hp.objs.size) ⟨hp.push o, g, d, tk, os⟩ → wpAny (model prog w) A' (pyIter v) Q E ⟨hp, g, d, tk, os⟩ :=
      fun q => B.iter prog w _ _ ⟨hp, g, d, tk, os⟩ _ h1 q
    wp_walk using q1
    refine wpAny_stack_any fun st => wpAny_pure ?_
    split
    · rename_i c _ _ _ _ _
      cases (c == Value.type "enumerate")
      · wp_walk using q1
        exact ⟨_, rfl, h⟩
      · wp_walk using q1
        exact ⟨_, rfl, h⟩
    · wp_walk using q1
      exact ⟨_, rfl, h⟩
section
variable {prog : Program} {w : World} {A : Around} {E : Value → Shared → Prop} {s : Shared}
theorem enumBegins {v : Value} {o : Obj} {H : Heap → Prop} {Q : Value → Shared → Prop} (B : Begins v o H) (h1 : H s.heap)
    (h : ∀ h', IsEnum h' (s.heap.objs.size + 1) s.heap.objs.size 0 .none → h'.get? s.heap.objs.size = some o → h'.objs.size = s.heap.objs.size + 2 →
      (∀ b o, s.heap.get? b = some o → h'.get? b = some o) → Q (.ref (s.heap.objs.size + 1)) { s with heap := h' }) :
    wpAny (model prog w) A (call (.type "enumerate") [v]) Q E s := by
  refine callType_new F.called_enumerate (by decide) (F.typeCall_enumerate_1 _) (F.newCall_enumerate_1 _) (fun obj => F.args_object_init_2 obj _) F.entry_enumerate_new
    (enumNewB B) ⟨h1, ?_⟩
  have hz : (s.heap.push o).objs.size = s.heap.objs.size + 1 := Heap.size_push ..
  show _ ∧ _
  rw [hz]
  have he : IsEnum ((s.heap.push o).push { cls := .type "enumerate", data := .fields #[.none, .bool false, .ref s.heap.objs.size, rawInt 0, .none, .none] }) (s.heap.objs.size + 1) s.heap.objs.size 0 .none := by
    have := Heap.get?_push_size (s.heap.push o) (o := { cls := .type "enumerate", data := .fields #[.none, .bool false, .ref s.heap.objs.size, rawInt 0, .none, .none] }) rfl
    rw [hz] at this; exact this
  refine ⟨⟨_, he, rfl⟩, h _ he (Heap.get?_push_of_some _ (Heap.get?_push_size _ B.free)) (by rw [Heap.size_push, hz]) fun b o x => Heap.get?_push_of_some _ (Heap.get?_push_of_some _ x)⟩
end
/-- the tuple at a, each item in a new pair -/
def IteT (K : PySem.W.Frag) (a : Addr) : L2.It :=
  ⟨fun i H => ∃ (xs : List V) (x : V), SqT K H a xs ∧ xs[i]? = some x, fun i H v H' => ∃ T x, v = .ref T ∧ H T = none ∧ H' = upd H T (.tup [.int (i : Nat), x]) ∧ ∀ xs, SqT K H a xs → xs[i]? = some x, fun i H => ∃ xs : List V, SqT K H a xs ∧ xs.length ≤ i⟩
theorem turn_enumT {P : Program} {w : World} {K : PySem.W.Frag} {elts : List Expr} {kk : Nat} {tpos : Pos} (a e it : Addr) :
    Turn P w K (.Tuple elts kk tpos) (IteT K a) [e, it] e (fun i h => (∃ old, IsEnum h e it ((i : Nat) : Int) old) ∧ h.IsTupleIter it a i ∧ e ≠ it ∧ a ≠ it ∧ e ≠ a) where
  mem := by simp
  obj := fun i h st b hb => by
    obtain ⟨⟨old, he⟩, ⟨o, ho, hc, hd⟩, _⟩ := st
    have e' : b = e ∨ b = it := by simpa using hb
    rcases e' with z | z
    · rw [z]; exact ⟨_, he, fun v q => nomatch q⟩
    · rw [z]; exact ⟨o, ho, fun v q => by rw [hd] at q; cases q⟩
  keep := fun i h h' st k => let ⟨⟨old, he⟩, hi, hne⟩ := st; ⟨⟨old, k e (by simp) _ he⟩, hi.at fun o q => k it (by simp) o q, hne⟩
  item := by
    intro X hP hw hK hc i pins s σ H E I hf st hg
    subst hP hw hK
    obtain ⟨⟨old, he⟩, hit, hne, hai, hea⟩ := st
    obtain ⟨xs, x, hq, hx⟩ := hg
    obtain ⟨its, rv, p, hz⟩ := I.tuple hq
    obtain ⟨u, hu, ru⟩ := rv.get hx
    have hel : e < s.heap.objs.size := Heap.lt_size he
    have hil : it < s.heap.objs.size := by obtain ⟨_, q, _⟩ := hit; exact Heap.lt_size q
    have hlt : i < its.toArray.size := by
      rw [List.size_toArray]
      exact (List.getElem?_eq_some_iff.mp hu).1
    have D := Draws.tuple (prog := X.prog) (w := X.w) (A := X.A.in1) (I.ok.hd hc) it a hai its.toArray
    refine wpAny_pyNext_enum_itemD (i := i) D he ⟨hit, p⟩ hlt hne (by simp [hne, hea]) fun y h' tk hy ho hit' hT hsz hk => ?_
    have ey : y = u := by
      have hy' : its.toArray[i]? = some y := hy
      rw [List.getElem?_toArray, hu] at hy'
      exact (Option.some.inj hy').symm
    subst ey
    refine ⟨_, rfl, wpAny_letOwnedTupleGo_enum (s := { s with heap := h', toks := tk + 1 }) ho fun h'' he' sb => ?_⟩
    have hT2 : h''.get? s.heap.objs.size = some { cls := .type "tuple", data := .seq #[.int i tk, y] } := (sb.2 _ (Nat.ne_of_gt hel)).trans hT
    have new : ObjOk X.prog X.w (upd H s.heap.objs.size (.tup [.int (i : Nat), x])) h'' s.heap.objs.size (.tup [.int (i : Nat), x]) :=
      ⟨by show 2 ≤ sizeLine; decide, [.int i tk, y], .cons ⟨_, rfl⟩ (.cons ru .nil), ⟨_, hT2, rfl, _, rfl⟩⟩
    have I1 : Inv X pins σ (upd H s.heap.objs.size (.tup [.int (i : Nat), x])) { s with heap := h'', toks := tk + 1 } :=
      I.turnedNew (ch := [e, it]) (fun b ob hb q => (sb.2 b (fun z => hb (by simp [z]))).trans (hk b ob (fun z => hb (by simp [z])) (fun z => hb (by simp [z])) q)) hf (Nat.le_refl _) new
    refine ⟨.ref s.heap.objs.size, _, I1, rfl, ⟨_, x, rfl, I.hok.fresh (Nat.le_refl _), rfl, fun ys hy => by rw [I.tuple_inj hy hq]; exact hx⟩, ⟨⟨y, ?_⟩, hit'.1.at fun o q => (sb.2 it (Ne.symm hne)).trans q, hne, hai, hea⟩, fun b hb => ?_⟩
    · have e1 : ((i + 1 : Nat) : Int) = (i : Int) + 1 := by omega
      rw [e1]; exact he'
    · have hb' : b < s.heap.objs.size := by
        have e' : b = e ∨ b = it := by simpa using hb
        rcases e' with z | z
        · rw [z]; exact hel
        · rw [z]; exact hil
      rw [upd_ne (Nat.ne_of_lt hb')]
      exact (hf b hb).1
  done := by
    intro X hP hw hK hc i pins s σ H E I hf st hg
    subst hP hw hK
    obtain ⟨⟨old, he⟩, hit, hne, hai, hea⟩ := st
    obtain ⟨xs, hq, hx⟩ := hg
    obtain ⟨its, rv, p, hz⟩ := I.tuple hq
    obtain ⟨f0, f1, f2, f3, f4, f5⟩ := hf it (by simp)
    have hl := rv.length
    have hn : its.toArray[i]? = none := by simp; omega
    have hT : s.TypeIs (.ref e) "enumerate" := ⟨_, he, rfl⟩
    unfold pyNext
    refine wpAny_bind (wpAny_attempt (wpAny_callSpecial?_slot (name := Str.ofString "__next__") hT F.slot_enumerate_next
      (wpAny_call_entry F.slot_enumerate_next hT F.entry_enumerate_next ?_ (F.args_enumerate_next_1 _))))
    show wpAny _ _ (field (.ref e) 2 >>= _) _ _ _
    refine wpAny_bind (wpAny_field he rfl (x := .ref it) rfl ?_)
    refine wpAny_bind (wpAny_nextOf_tuple_end (I.ok.hd hc) hit p hn fun h' y he' hx' => ?_)
    obtain ⟨o, ho, hcl⟩ := hx'
    refine wpAny_bind (wpAny_isInstance (T := "StopIteration") (b := true) ⟨o, ho, hcl⟩ isSubtype_stop ?_)
    exact wpAny_pure ⟨rfl, I.turned (t' := s.toks) (fun b o hb q => he' b o hb q) f0 f1 f3 f4 f5⟩
  self := fun A i s Q E st h => let ⟨⟨_, he⟩, _⟩ := st; wpAny_pyIter_enum he h
def iEnumA (K : PySem.W.Frag) (ta : TA) : TI := fun σ H R => ta σ H fun vs H1 => ∃ a xs, vs = [.ref a] ∧ ((SqL K H1 a xs ∧ R (Ite K a) H1) ∨ (SqT K H1 a xs ∧ R (IteT K a) H1))
theorem pi_enumA {X : Cx} {e : Expr} {ta : TA} {p pos tpos : Pos} {elts : List Expr} {kk : Nat} (hg : Gl X "enumerate") (hm : X.mg "enumerate" = none) (ha : PA X [e] ta) (hs : starEach [e] X.env = [(false, eval e X.env)]) :
    PI X (.Tuple elts kk tpos) (.Call (.Name "enumerate" p) [e] [] pos) (iEnumA X.K ta) := by
  refine ⟨fun pins s σ H R I h => ?_⟩
  refine Call_ (ld_blt I hg hm boot_enumerate (PyProof.Rows.callWith_type1 (thn (ha.run pos pins s σ H _ I h) fun us s1 ⟨vs, H1, I1, r1, q1⟩ => ?_) hs rfl))
  obtain ⟨a, xs, ex, q⟩ := q1
  subst ex
  cases r1 with
  | cons r rr =>
    cases rr
    cases r
    have fresh2 : ∀ b, b ∈ [s1.heap.objs.size + 1, s1.heap.objs.size] → FpOk X pins H1 b := fun b hb => by
      have e' : b = s1.heap.objs.size + 1 ∨ b = s1.heap.objs.size := by simpa using hb
      have hle : s1.heap.objs.size ≤ b := by
        rcases e' with z | z
        · rw [z]; exact Nat.le_add_right _ _
        · rw [z]; exact Nat.le_refl _
      exact I1.fpOk hle (I1.hok.fresh hle)
    rcases q with ⟨hq, q⟩ | ⟨hq, q⟩
    · obtain ⟨its, rv, p', hz⟩ := I1.list hq
      refine call_enumerate_list p'.isList fun h' he hit hsz hk => wpAny_pyIter_enum he ?_
      have I2 : Inv X pins σ H1 { s1 with heap := h' } := I1.kept (t' := s1.toks) hk
      exact ⟨s1.heap.objs.size + 1, [s1.heap.objs.size + 1, s1.heap.objs.size], _, _, H1, rfl, I2, turn_enum a (s1.heap.objs.size + 1) s1.heap.objs.size, ⟨⟨.none, he⟩, hit, Nat.succ_ne_self _⟩, fresh2, q⟩
    · obtain ⟨its, rv, p', hz⟩ := I1.tuple hq
      obtain ⟨o1, ho1, _⟩ := id p'
      have hal : a < s1.heap.objs.size := Heap.lt_size ho1
      refine enumBegins (begins_tuple a its.toArray) p' fun h' he hit hsz hk => wpAny_pyIter_enum he ?_
      have I2 : Inv X pins σ H1 { s1 with heap := h' } := I1.kept (t' := s1.toks) hk
      exact ⟨s1.heap.objs.size + 1, [s1.heap.objs.size + 1, s1.heap.objs.size], _, _, H1, rfl, I2, turn_enumT a (s1.heap.objs.size + 1) s1.heap.objs.size, ⟨⟨.none, he⟩, ⟨_, hit, rfl, rfl⟩, Nat.succ_ne_self _, Nat.ne_of_lt hal, Nat.ne_of_gt (Nat.lt_succ_of_lt hal)⟩, fresh2, q⟩
def iSeq (K : PySem.W.Frag) (tl : TE) : TI := fun σ H R => tl σ H fun x H1 => ∃ a, x = .ref a ∧ (((∃ xs, SqL K H1 a xs) ∧ R (Itl K a) H1) ∨ ((∃ xs, SqT K H1 a xs) ∧ R (Itt K a) H1))
theorem pi_seqA {X : Cx} {tg l : Expr} {tl : TE} (hl : PE X l tl) : PI X tg l (iSeq X.K tl) := by
  refine ⟨fun pins s σ H R I h => ?_⟩
  refine thn (hl.run pins s σ H _ I h) fun v s1 ⟨x, H1, I1, r1, q1⟩ => ?_
  obtain ⟨a, e, q⟩ := q1
  subst e
  cases r1
  have fresh1 : ∀ b, b ∈ [s1.heap.objs.size] → FpOk X pins H1 b := fun b hb => by
    have e : b = s1.heap.objs.size := by simpa using hb
    subst e
    exact I1.fpOk (Nat.le_refl _) (I1.hok.fresh (Nat.le_refl _))
  rcases q with ⟨⟨xs, hq⟩, q⟩ | ⟨⟨xs, hq⟩, q⟩
  · obtain ⟨its, rv, p, hz⟩ := I1.list hq
    refine wpAny_pyIter_list p.isList ?_
    exact ⟨s1.heap.objs.size, [s1.heap.objs.size], _, _, H1, rfl, I1.kept (t' := s1.toks) fun b o e => Heap.get?_push_of_some _ e, turn_list a _, ⟨_, Heap.get?_push_size _ rfl, rfl, rfl⟩, fresh1, q⟩
  · obtain ⟨its, rv, p, hz⟩ := I1.tuple hq
    refine wpAny_pyIter_tuple (show s1.heap.IsTuple a its.toArray from p) ?_
    exact ⟨s1.heap.objs.size, [s1.heap.objs.size], _, _, H1, rfl, I1.kept (t' := s1.toks) fun b o e => Heap.get?_push_of_some _ e, turn_tuple a _, ⟨_, Heap.get?_push_size _ rfl, rfl, rfl⟩, fresh1, q⟩
end Ev

set_option maxRecDepth 100000
set_option maxHeartbeats 1000000
/-! Ev10: targets; what a walk hands over. -/
namespace Ev
open PySem PySem.Spec PyProof.Rows L2

/-- the slot may be written: it is not the lambda's, not the error's -/
def Okw (k : Kn) (i : Nat) : Prop := (k.v0 ≠ none → i ≠ 0) ∧ ∀ p, k.vx = some p → p.1 ≠ i
section
variable {G : Gam} {k : Kn} {C : CallSem} {cl : Ex} {Wx : WX} {X : Cx} {σ : L2.St} {Hv H : Hp} {env : Env} {st : Store} {ρ : Nat → Addr}
theorem Sim.set (S : Sim G k σ Hv H env st ρ) {i : Nat} (hi : Okw k i) {w : W} {o : Option V} (r : w = .undef ∨ ∃ v, o = some v ∧ RV G ρ st.length Hv w v) : Sim G k (σ.set i o) Hv H (env.set i w) st ρ where
  le := S.le
  le1 := S.le1
  so := S.so
  env := RVo.set r i S.env
  s0 := fun v e => by
    rw [List.getElem?_set_ne (hi.1 (by rw [e]; simp))]
    exact S.s0 v e
  sx := fun p e => by
    rw [List.getElem?_set_ne (Ne.symm (hi.2 p e))]
    exact S.sx p e
theorem wipe_get (σ : L2.St) : ∀ (vs : List Nat) (i : Nat), (wipe σ vs)[i]? = if i ∈ vs then (if i < σ.length then some none else none) else σ[i]?
  | [], i => by simp [wipe]
  | v :: vs, i => by
    unfold wipe
    by_cases h : v = i
    · subst h
      rw [if_pos List.mem_cons_self]
      by_cases hl : v < σ.length
      · rw [if_pos hl, List.getElem?_set_self (by rw [wipe_length]; exact hl)]
      · rw [if_neg hl, List.getElem?_eq_none (by rw [List.length_set, wipe_length]; omega)]
    · rw [List.getElem?_set_ne h, wipe_get σ vs i]
      by_cases h2 : i ∈ vs
      · rw [if_pos h2, if_pos (List.mem_cons_of_mem _ h2)]
      · rw [if_neg h2, if_neg (by simp only [List.mem_cons, not_or]; exact ⟨fun z => h z.symm, h2⟩)]
theorem wipe_set {i : Nat} {o : Option V} {vs : List Nat} (h : i ∈ vs) : wipe (σ.set i o) vs = wipe σ vs := by
  refine List.ext_getElem? fun j => ?_
  rw [wipe_get, wipe_get, List.length_set]
  by_cases hj : j ∈ vs
  · rw [if_pos hj, if_pos hj]
  · rw [if_neg hj, if_neg hj, List.getElem?_set_ne (fun z : i = j => hj (by rw [← z]; exact h))]
theorem wipe_wipe (σ : L2.St) (vs : List Nat) : wipe (wipe σ vs) vs = wipe σ vs := by
  refine List.ext_getElem? fun j => ?_
  rw [wipe_get, wipe_get, wipe_length]
  by_cases hj : j ∈ vs
  · rw [if_pos hj, if_pos hj]
  · rw [if_neg hj, if_neg hj]
/-- the names of a block forgotten -/
theorem Sim.wipe (S : Sim G k σ Hv H env st ρ) : ∀ vs : List Nat, (∀ i ∈ vs, Okw k i) → Sim G k (L2.wipe σ vs) Hv H (wipeW env vs) st ρ
  | [], _ => S
  | v :: vs, h => by
    unfold L2.wipe wipeW
    exact (Sim.wipe S vs fun i hi => h i (List.mem_cons_of_mem _ hi)).set (h v List.mem_cons_self) (.inl rfl)

theorem pg_weak {tg : Expr} {t t' : TG} (h : PG X tg t) (i : ∀ v σ H Q, t' v σ H Q → t v σ H Q) : PG X tg t' := ⟨fun pins s σ H v u Q I r q => h.run pins s σ H v u Q I r (i v σ H Q q)⟩
theorem pgs_weak {ts : List Expr} {t t' : TGs} (h : PGs X ts t) (i : ∀ v σ H Q, t' v σ H Q → t v σ H Q) : PGs X ts t' := ⟨fun pins s σ H v u Q I r q => h.run pins s σ H v u Q I r (i v σ H Q q)⟩
theorem pg_or {tg : Expr} {t t' : TG} (h : PG X tg t) (h' : PG X tg t') : PG X tg (fun v σ H Q => t v σ H Q ∨ t' v σ H Q) :=
  ⟨fun pins s σ H v u Q I r q => q.elim (h.run pins s σ H v u Q I r) (h'.run pins s σ H v u Q I r)⟩
def gtg (G : Gam) (k : Kn) (tg : Tg) : TG := fun v σ H Q => ∃ Hv env st ρ w env', Sim G k σ Hv H env st ρ ∧ RV G ρ st.length Hv w v ∧ bindT st tg w env = some env' ∧
  ∀ σ', Sim G k σ' Hv H env' st ρ → (∀ vs : List Nat, (∀ i ∈ tgS tg, i ∈ vs) → wipe σ' vs = wipe σ vs) → Q σ' H
def gtgs (G : Gam) (k : Kn) (ts : List Tg) : TGs := fun vs σ H Q => ∃ Hv env st ρ ws env', Sim G k σ Hv H env st ρ ∧ RVs G ρ st.length Hv ws vs ∧ bindTs st ts ws env = some env' ∧
  ∀ σ', Sim G k σ' Hv H env' st ρ → (∀ vs : List Nat, (∀ i ∈ tgSs ts, i ∈ vs) → wipe σ' vs = wipe σ vs) → Q σ' H
theorem ro_rv {w : W} {v : V} (r : RV G ρ st.length Hv w v) : ro w = w := by
  cases w <;> first | rfl | exact r.elim
theorem ok_nm {i : Nat} {x : Str} {pos : Pos} (hk : Okw k i) (hN : X.N.Nodup) (hi : X.N[i]? = some x) (hx : Loc X.env.scope x) (hf : X.fn x = true ∨ X.env.scope.names.lookup x = some .local) : PG X (.Name x pos) (gtg G k (.nm i)) :=
  pg_weak (pg_name hN hi hx hf) fun v σ H Q ⟨Hv, env, st, ρ, w, env', S, r, e, q⟩ => by
    simp only [bindT] at e
    split at e
    · cases e
      rw [ro_rv r] at q
      exact q _ (S.set hk (.inr ⟨v, rfl, r⟩)) fun vs h => wipe_set (h i (by simp [tgS]))
    · cases e
theorem ok_pgnil : PGs X [] (gtgs G k []) := pgs_weak pgs_nil fun vs σ H Q ⟨Hv, env, st, ρ, ws, env', S, r, e, q⟩ => by
  cases ws with
  | nil =>
    simp only [bindTs, Option.some.injEq] at e
    subst e
    exact ⟨r, q σ S fun _ _ => rfl⟩
  | cons w ws => cases e
theorem ok_pgcons {e : Expr} {es : List Expr} {t : Tg} {ts : List Tg} (h1 : PG X e (gtg G k t)) (h2 : PGs X es (gtgs G k ts)) (hs : (assignEach (e :: es) X.env).map (·.2) = assign e X.env :: (assignEach es X.env).map (·.2)) : PGs X (e :: es) (gtgs G k (t :: ts)) :=
  pgs_weak (pgs_cons h1 h2 hs) fun vs σ H Q ⟨Hv, env, st, ρ, ws, env', S, r, e, q⟩ => by
    cases ws with
    | nil => cases e
    | cons w ws =>
      obtain ⟨v, vr, rfl, r1, r2⟩ := r
      simp only [bindTs] at e
      split at e
      · rename_i env1 e1
        refine ⟨v, vr, rfl, Hv, env, st, ρ, w, env1, S, r1, e1, fun σ1 S1 hw => ?_⟩
        refine ⟨Hv, env1, st, ρ, ws, env', S1, r2, e, fun σ2 S2 hw2 => q σ2 S2 fun vs h => ?_⟩
        rw [hw2 vs fun i hi => h i (by simp [tgSs, hi]), hw vs fun i hi => h i (by simp [tgSs, hi])]
      · cases e
theorem ok_pgtup {es : List Expr} {kk : Nat} {ts : List Tg} {pos : Pos} (hK : X.K = G.K) (hc : X.calm = true) (h : PGs X es (gtgs G k ts)) (hn : (assignEach es X.env).length = ts.length) (hst : (assignEach es X.env).findIdx? (·.1) = none) : PG X (.Tuple es kk pos) (gtg G k (.tup ts)) :=
  pg_weak (pg_or (pg_tup hc h hn hst) (pg_unl hc h hn hst)) fun v σ H Q ⟨Hv, env, st, ρ, w, env', S, r, e, q⟩ => by
    simp only [bindT] at e
    split at e
    · cases e
    · rename_i hsc
      split at e
      · rename_i ws hw
        obtain ⟨a, vs, rfl, h1, h2⟩ := seq_any (H := H) (H0 := H) S.so (RVt.of r) hw (fun ns z => hsc (by rw [z]; rfl))
        have hl : ∀ {ts : List Tg} {ws : List W} {env env' : Env}, bindTs st ts ws env = some env' → ts.length = ws.length := by
          intro ts
          induction ts with
          | nil =>
            intro ws env env' e
            cases ws with
            | nil => rfl
            | cons w ws => cases e
          | cons t ts ih =>
            intro ws env env' e
            cases ws with
            | nil => cases e
            | cons w ws =>
              simp only [bindTs] at e
              split at e
              · simp [ih e]
              · cases e
        have hlen : vs.length = ts.length := by rw [hl e, h2.length]
        have go : gtgs G k ts vs σ H Q := ⟨Hv, env, st, ρ, ws, env', S, h2, e, fun σ' S' hw => q σ' S' fun vs h => hw vs h⟩
        rcases h1 with h1 | h1
        · exact .inr ⟨a, vs, rfl, by rw [hK]; exact h1, hlen, go⟩
        · exact .inl ⟨a, vs, rfl, by rw [hK]; exact h1, hlen, go⟩
      · cases e
theorem bindT_ro (tg : Tg) (w : W) (env : Env) : bindT st tg (ro w) env = bindT st tg w env := by
  cases tg with
  | nm i => cases w <;> rfl
  | tup ts => cases w <;> rfl

/-! ### what a walk hands over -/
structure WalkOk (G : Gam) (ρ0 : Nat → Addr) (n0 : Nat) (Hv0 H0 : Hp) (J : L2.It) (items : List W) (guard : Store → Prop) : Prop where
  go : ∀ {i : Nat} {w : W} {Hv H : Hp} {st : Store} {ρ : Nat → Addr}, Le ρ0 n0 Hv0 H0 ρ st.length Hv H → StO G ρ Hv H st → guard st → items[i]? = some w →
    J.go i H ∧ ∀ x H', J.yld i H x H' → ∃ Hv', Le ρ st.length Hv H ρ st.length Hv' H' ∧ StO G ρ Hv' H' st ∧ RV G ρ st.length Hv' w x
  stop : ∀ {i : Nat} {Hv H : Hp} {st : Store} {ρ : Nat → Addr}, Le ρ0 n0 Hv0 H0 ρ st.length Hv H → StO G ρ Hv H st → guard st → items.length ≤ i → J.stop i H
/-- the items as they stand -/
theorem seq_l (so : StO G ρ Hv H st) {w : W} {a : Addr} {ws : List W} {H0 : Hp} (r : RVt G ρ st.length Hv H H0 w (.ref a)) (e : lstW st w = some ws) : ∃ vs, SqL G.K H a vs ∧ RVs G ρ st.length Hv ws vs := by
  obtain ⟨b, vs, e1, h1, h2⟩ := seq_lst so r e
  cases e1
  exact ⟨vs, SqL.of h1, h2⟩
theorem seq_t (so : StO G ρ Hv H st) {w : W} {a : Addr} {ws : List W} {H0 : Hp} (r : RVt G ρ st.length Hv H H0 w (.ref a)) (e : tupW w = some ws) : ∃ vs, SqT G.K H a vs ∧ RVs G ρ st.length Hv ws vs := by
  cases w with
  | tup us =>
    obtain ⟨b, vs, e1, h1, _, h2⟩ := r
    simp only [tupW, Option.some.injEq] at e
    cases e1
    subst e
    exact ⟨vs, .inl (.inl (so.sub _ _ h1)), h2⟩
  | ktup us =>
    obtain ⟨b, vs, e1, h1, h2⟩ := r
    simp only [tupW, Option.some.injEq] at e
    cases e1
    subst e
    exact ⟨vs, h1 H, h2⟩
  | _ => cases e
theorem seq_split {w : W} {ws : List W} (e : seqW st w = some ws) (hs : ∀ ns, w ≠ .scr ns) : lstW st w = some ws ∨ tupW w = some ws := by
  cases w <;> first | exact .inl e | exact .inr e | exact absurd rfl (hs _) | cases e
theorem lst_ref (so : StO G ρ Hv H st) {w : W} {v : V} {ws : List W} {H0 : Hp} (r : RVt G ρ st.length Hv H H0 w v) (e : lstW st w = some ws ∨ tupW w = some ws) : ∃ a, v = .ref a := by
  rcases e with e | e
  · obtain ⟨a, vs, e, _⟩ := seq_lst so r e
    exact ⟨a, e⟩
  · cases w with
    | tup us => obtain ⟨b, vs, e1, _⟩ := r; exact ⟨b, e1⟩
    | ktup us => obtain ⟨b, vs, e1, _⟩ := r; exact ⟨b, e1⟩
    | _ => cases e
theorem lstW_still {w : W} {ws : List W} (e : lstW st w = some ws) {st' : Store} (h : still w ws st') : lstW st' w = some ws := by
  cases w <;> first | exact h | cases e
variable {ρ0 : Nat → Addr} {n0 : Nat} {Hv0 H0 : Hp}
theorem walk_l {w : W} {a : Addr} {ws : List W} {HB : Hp} {st0 : Store} (r : RVt G ρ0 n0 Hv0 H0 HB w (.ref a)) (e : lstW st0 w = some ws) : WalkOk G ρ0 n0 Hv0 H0 (Itl G.K a) ws (still w ws) where
  go := fun {i u Hv H st ρ} l so g ei => by
    obtain ⟨vs, h1, h2⟩ := seq_l so (r.mono l) (lstW_still e g)
    obtain ⟨x, ex, rx⟩ := h2.get ei
    refine ⟨⟨vs, x, h1, ex⟩, fun y H' q => ?_⟩
    obtain ⟨rfl, q⟩ := q
    have := q vs h1
    rw [ex] at this
    cases this
    exact ⟨Hv, Le.refl, so, rx⟩
  stop := fun {i Hv H st ρ} l so g hi => by
    obtain ⟨vs, h1, h2⟩ := seq_l so (r.mono l) (lstW_still e g)
    exact ⟨vs, h1, by rw [← h2.length]; exact hi⟩
theorem walk_t {w : W} {a : Addr} {ws : List W} {HB : Hp} (r : RVt G ρ0 n0 Hv0 H0 HB w (.ref a)) (e : tupW w = some ws) : WalkOk G ρ0 n0 Hv0 H0 (Itt G.K a) ws (still w ws) where
  go := fun {i u Hv H st ρ} l so g ei => by
    obtain ⟨vs, h1, h2⟩ := seq_t so (r.mono l) e
    obtain ⟨x, ex, rx⟩ := h2.get ei
    refine ⟨⟨vs, x, h1, ex⟩, fun y H' q => ?_⟩
    obtain ⟨rfl, q⟩ := q
    have := q vs h1
    rw [ex] at this
    cases this
    exact ⟨Hv, Le.refl, so, rx⟩
  stop := fun {i Hv H st ρ} l so g hi => by
    obtain ⟨vs, h1, h2⟩ := seq_t so (r.mono l) e
    exact ⟨vs, h1, by rw [← h2.length]; exact hi⟩
theorem enumW_get (ws : List W) (i : Nat) : (enumW ws)[i]? = (ws[i]?).map fun w => W.tup [.int (i : Nat), w] := by
  unfold enumW
  rw [List.getElem?_map, List.getElem?_zipIdx]
  cases ws[i]? <;> simp
theorem enumW_length (ws : List W) : (enumW ws).length = ws.length := by simp [enumW]
theorem pair_new {G : Gam} {ρ : Nat → Addr} {Hv H : Hp} {st : Store} (so : StO G ρ Hv H st) {T : Addr} {w1 w2 : W} {x y : V} (hT : H T = none) (r1 : RV G ρ st.length Hv w1 x) (r2 : RV G ρ st.length Hv w2 y) :
    ∃ Hv', Le ρ st.length Hv H ρ st.length Hv' (upd H T (.tup [x, y])) ∧ StO G ρ Hv' (upd H T (.tup [x, y])) st ∧ RV G ρ st.length Hv' (.tup [w1, w2]) (.ref T) :=
  ⟨upd Hv T (.tup [x, y]), le_new so hT, so_new so hT trivial, ⟨T, [x, y], rfl, upd_same, so.cell_ne (so.hn hT), RVs.mono (lv_new (so.hn hT)) [w1, w2] [x, y] ⟨x, [y], rfl, r1, y, [], rfl, r2, rfl⟩⟩⟩
theorem walk_el {w : W} {a : Addr} {ws : List W} {HB : Hp} {st0 : Store} (r : RVt G ρ0 n0 Hv0 H0 HB w (.ref a)) (e : lstW st0 w = some ws) : WalkOk G ρ0 n0 Hv0 H0 (Ite G.K a) (enumW ws) (still w ws) where
  go := fun {i u Hv H st ρ} l so g ei => by
    rw [enumW_get] at ei
    obtain ⟨w', ew, rfl⟩ := Option.map_eq_some_iff.mp ei
    obtain ⟨vs, h1, h2⟩ := seq_l so (r.mono l) (lstW_still e g)
    obtain ⟨x, ex, rx⟩ := h2.get ew
    refine ⟨⟨vs, x, h1, ex⟩, fun y H' q => ?_⟩
    obtain ⟨T, x', rfl, hT, rfl, q⟩ := q
    have := q vs h1
    rw [ex] at this
    cases this
    exact pair_new so hT rfl rx
  stop := fun {i Hv H st ρ} l so g hi => by
    obtain ⟨vs, h1, h2⟩ := seq_l so (r.mono l) (lstW_still e g)
    exact ⟨vs, h1, by rw [← h2.length, ← enumW_length]; exact hi⟩
theorem walk_et {w : W} {a : Addr} {ws : List W} {HB : Hp} (r : RVt G ρ0 n0 Hv0 H0 HB w (.ref a)) (e : tupW w = some ws) : WalkOk G ρ0 n0 Hv0 H0 (IteT G.K a) (enumW ws) (still w ws) where
  go := fun {i u Hv H st ρ} l so g ei => by
    rw [enumW_get] at ei
    obtain ⟨w', ew, rfl⟩ := Option.map_eq_some_iff.mp ei
    obtain ⟨vs, h1, h2⟩ := seq_t so (r.mono l) e
    obtain ⟨x, ex, rx⟩ := h2.get ew
    refine ⟨⟨vs, x, h1, ex⟩, fun y H' q => ?_⟩
    obtain ⟨T, x', rfl, hT, rfl, q⟩ := q
    have := q vs h1
    rw [ex] at this
    cases this
    exact pair_new so hT rfl rx
  stop := fun {i Hv H st ρ} l so g hi => by
    obtain ⟨vs, h1, h2⟩ := seq_t so (r.mono l) e
    exact ⟨vs, h1, by rw [← h2.length, ← enumW_length]; exact hi⟩
theorem zipW_get (xs ys : List W) (i : Nat) {u : W} (h : (zipW xs ys)[i]? = some u) : ∃ x y, xs[i]? = some x ∧ ys[i]? = some y ∧ u = .tup [x, y] := by
  unfold zipW at h
  rw [List.getElem?_map] at h
  obtain ⟨p, e, rfl⟩ := Option.map_eq_some_iff.mp h
  rw [List.getElem?_zip_eq_some] at e
  exact ⟨p.1, p.2, e.1, e.2, rfl⟩
theorem zipW_length (xs ys : List W) : (zipW xs ys).length = min xs.length ys.length := by simp [zipW]
theorem walk_zl {w w2 : W} {a b : Addr} {ws us : List W} {HB : Hp} {st0 : Store} (r : RVt G ρ0 n0 Hv0 H0 HB w (.ref a)) (e : lstW st0 w = some ws) (r2 : RVt G ρ0 n0 Hv0 H0 HB w2 (.ref b)) (e2 : lstW st0 w2 = some us) :
    WalkOk G ρ0 n0 Hv0 H0 (Itz G.K a b) (zipW ws us) (fun s => still w ws s ∧ still w2 us s) where
  go := fun {i u Hv H st ρ} l so g ei => by
    obtain ⟨x, y, ex, ey, rfl⟩ := zipW_get _ _ _ ei
    obtain ⟨vs, h1, h2⟩ := seq_l so (r.mono l) (lstW_still e g.1)
    obtain ⟨vs', h3, h4⟩ := seq_l so (r2.mono l) (lstW_still e2 g.2)
    obtain ⟨vx, evx, rx⟩ := h2.get ex
    obtain ⟨vy, evy, ry⟩ := h4.get ey
    refine ⟨⟨vs, vs', vx, vy, h1, h3, evx, evy⟩, fun z H' q => ?_⟩
    obtain ⟨T, x', y', rfl, hT, rfl, q1, q2⟩ := q
    have a1 := q1 vs h1
    have a2 := q2 vs' h3
    rw [evx] at a1
    rw [evy] at a2
    cases a1
    cases a2
    exact pair_new so hT rx ry
  stop := fun {i Hv H st ρ} l so g hi => by
    obtain ⟨vs, h1, h2⟩ := seq_l so (r.mono l) (lstW_still e g.1)
    obtain ⟨vs', h3, h4⟩ := seq_l so (r2.mono l) (lstW_still e2 g.2)
    rw [zipW_length] at hi
    exact ⟨vs, vs', h1, h3, by rw [← h2.length, ← h4.length]; omega⟩
theorem walk_zt {w w2 : W} {a b : Addr} {ws us : List W} {HB : Hp} (r : RVt G ρ0 n0 Hv0 H0 HB w (.ref a)) (e : tupW w = some ws) (r2 : RVt G ρ0 n0 Hv0 H0 HB w2 (.ref b)) (e2 : tupW w2 = some us) :
    WalkOk G ρ0 n0 Hv0 H0 (RZ.ItzT G.K a b) (zipW ws us) (fun s => still w ws s ∧ still w2 us s) where
  go := fun {i u Hv H st ρ} l so g ei => by
    obtain ⟨x, y, ex, ey, rfl⟩ := zipW_get _ _ _ ei
    obtain ⟨vs, h1, h2⟩ := seq_t so (r.mono l) e
    obtain ⟨vs', h3, h4⟩ := seq_t so (r2.mono l) e2
    obtain ⟨vx, evx, rx⟩ := h2.get ex
    obtain ⟨vy, evy, ry⟩ := h4.get ey
    refine ⟨⟨vs, vs', vx, vy, h1, h3, evx, evy⟩, fun z H' q => ?_⟩
    obtain ⟨T, x', y', rfl, hT, rfl, q1, q2⟩ := q
    have a1 := q1 vs h1
    have a2 := q2 vs' h3
    rw [evx] at a1
    rw [evy] at a2
    cases a1
    cases a2
    exact pair_new so hT rx ry
  stop := fun {i Hv H st ρ} l so g hi => by
    obtain ⟨vs, h1, h2⟩ := seq_t so (r.mono l) e
    obtain ⟨vs', h3, h4⟩ := seq_t so (r2.mono l) e2
    rw [zipW_length] at hi
    exact ⟨vs, vs', h1, h3, by rw [← h2.length, ← h4.length]; omega⟩
theorem rangeW_get (i j : Int) (m : Nat) {u : W} (h : (rangeW i j)[m]? = some u) : m < (j - i).toNat ∧ u = .int (i + (m : Nat)) := by
  unfold rangeW at h
  rw [List.getElem?_map] at h
  obtain ⟨p, e, rfl⟩ := Option.map_eq_some_iff.mp h
  obtain ⟨h1, h2⟩ := List.getElem?_eq_some_iff.mp e
  simp at h1 h2
  subst h2
  exact ⟨by omega, rfl⟩
theorem rangeW_length (i j : Int) : (rangeW i j).length = (j - i).toNat := by simp [rangeW]
theorem walk_r (i j : Int) : WalkOk G ρ0 n0 Hv0 H0 (Itr i (j - i).toNat) (rangeW i j) (fun _ => True) where
  go := fun {m u Hv H st ρ} l so g ei => by
    obtain ⟨h1, rfl⟩ := rangeW_get _ _ _ ei
    refine ⟨h1, fun y H' q => ?_⟩
    obtain ⟨rfl, rfl⟩ := q
    exact ⟨Hv, Le.refl, so, rfl⟩
  stop := fun {m Hv H st ρ} l so g hi => by
    rw [rangeW_length] at hi
    exact hi
/-- the reading of a clause's source -/
def tiv (G : Gam) (k : Kn) (C : CallSem) (cl : Ex) (Wx : WX) (it : It) : TI := fun σ H R => ∃ Hv env st ρ Qw Xw, Sim G k σ Hv H env st ρ ∧ wpI C G.P cl it env st Qw Xw ∧
  (∀ items guard st' Hv' H' ρ' J, Qw items guard st' → Le ρ st.length Hv H ρ' st'.length Hv' H' → StO G ρ' Hv' H' st' → (∀ H2 : Hp, (∀ a, Fr H a → H2 a = H' a) → WalkOk G ρ' st'.length Hv' H2 J items guard) → R J H') ∧ PostX G ρ st.length Hv H Xw σ Wx
theorem RVt.to {n : Nat} {H' H2 : Hp} {w : W} {v : V} (r : RVt G ρ n Hv H' H w v) (h : ∀ a, Fr H a → H2 a = H' a) : RVt G ρ n Hv H2 H w v := by
  cases w with
  | tmp ws =>
    obtain ⟨a, vs, e, h1, h2, h3, h4⟩ := r
    exact ⟨a, vs, e, by rw [h a h3]; exact h1, h2, h3, h4⟩
  | _ => exact r
theorem pi_weak {tg e : Expr} {t t' : TI} (h : PI X tg e t) (i : ∀ σ H R, t' σ H R → t σ H R) : PI X tg e t' := ⟨fun pins s σ H R I q => h.run pins s σ H R I (i σ H R q)⟩
variable {tg a b : Expr} {ea eb : E} {p pos : Pos}
theorem ok_iseq (hK : X.K = G.K) (ha : PE X a (tev G k C cl Wx ea)) : PI X tg a (tiv G k C cl Wx (.seq ea)) :=
  pi_weak (pi_seqA ha) fun σ H R ⟨Hv, env, st, ρ, Qw, Xw, S, wp, P, PX⟩ =>
    ⟨Hv, env, st, ρ, _, Xw, S, wp, fun w st1 v Hv1 H1 ρ1 q1 l1 so1 r1 => by
      obtain ⟨ws, e, hs, q⟩ := q1
      have e' := seq_split e hs
      obtain ⟨c, rfl⟩ := lst_ref so1 r1 e'
      rw [hK]
      rcases e' with e' | e'
      · obtain ⟨vs, h1, _⟩ := seq_l so1 r1 e'
        exact ⟨c, rfl, .inl ⟨⟨vs, h1⟩, P _ _ _ _ _ _ _ q l1 so1 fun H2 h2 => walk_l (r1.to h2) e'⟩⟩
      · obtain ⟨vs, h1, _⟩ := seq_t so1 r1 e'
        exact ⟨c, rfl, .inr ⟨⟨vs, h1⟩, P _ _ _ _ _ _ _ q l1 so1 fun H2 h2 => walk_t (r1.to h2) e'⟩⟩, PX⟩
theorem ok_irng1 (hg : Gl X "range") (hm : X.mg "range" = none) (ha : PA X [a] (tav G k C cl Wx [ea])) (hs : starEach [a] X.env = [(false, eval a X.env)]) : PI X tg (.Call (.Name "range" p) [a] [] pos) (tiv G k C cl Wx (.rng1 ea)) :=
  pi_weak (pi_range1 hg hm ha hs) fun σ H R ⟨Hv, env, st, ρ, Qw, Xw, S, wp, P, PX⟩ =>
    ⟨Hv, env, st, ρ, (fun ws st1 => match ws with | [.int j] => -(2 ^ 62) ≤ j ∧ j < 2 ^ 62 ∧ Qw (rangeW 0 j) (fun _ => True) st1 | _ => False), Xw, S, by
      simp only [wpI] at wp
      simp only [wpEs]
      refine (?_ : wpE C G.P cl ea env st _ Xw)
      exact cast (congrArg (fun z => wpE C G.P cl ea env st z Xw) (by funext w st1; cases w <;> rfl)) wp, fun ws st1 vs Hv1 H1 ρ1 q1 l1 so1 r1 => by
      dsimp only at q1
      split at q1
      · obtain ⟨v, rfl, r2⟩ := rvs1 r1
        obtain rfl := rvt_int r2
        obtain ⟨b1, b2, q⟩ := q1
        refine ⟨_, rfl, b1, b2, P _ _ _ _ _ _ _ q l1 so1 fun H2 _ => ?_⟩
        have := walk_r (G := G) (ρ0 := ρ1) (n0 := st1.length) (Hv0 := Hv1) (H0 := H2) 0 ‹Int›
        simpa using this
      · exact q1.elim, PX⟩
theorem ok_irng2 (hg : Gl X "range") (hm : X.mg "range" = none) (ha : PA X [a, b] (tav G k C cl Wx [ea, eb])) (hs : starEach [a, b] X.env = [(false, eval a X.env), (false, eval b X.env)]) (hs2 : starEach [b] X.env = [(false, eval b X.env)]) :
    PI X tg (.Call (.Name "range" p) [a, b] [] pos) (tiv G k C cl Wx (.rng2 ea eb)) :=
  pi_weak (pi_range2 hg hm ha hs hs2) fun σ H R ⟨Hv, env, st, ρ, Qw, Xw, S, wp, P, PX⟩ =>
    ⟨Hv, env, st, ρ, (fun ws st1 => match ws with | [.int i, .int j] => -(2 ^ 62) ≤ i ∧ i < 2 ^ 62 ∧ -(2 ^ 62) ≤ j ∧ j < 2 ^ 62 ∧ Qw (rangeW i j) (fun _ => True) st1 | _ => False), Xw, S, by
      simp only [wpI] at wp
      simp only [wpEs]
      refine cast (congrArg (fun z => wpE C G.P cl ea env st z Xw) ?_) wp
      funext w st1
      refine congrArg (fun z => wpE C G.P cl eb env st1 z Xw) ?_
      funext w2 st2
      cases w <;> cases w2 <;> rfl, fun ws st1 vs Hv1 H1 ρ1 q1 l1 so1 r1 => by
      dsimp only at q1
      split at q1
      · obtain ⟨v, v', rfl, r2, r3⟩ := rvs2 r1
        obtain rfl := rvt_int r2
        obtain rfl := rvt_int r3
        obtain ⟨b1, b2, b3, b4, q⟩ := q1
        exact ⟨_, _, rfl, ⟨b1, b2, b3, b4⟩, P _ _ _ _ _ _ _ q l1 so1 fun H2 _ => walk_r _ _⟩
      · exact q1.elim, PX⟩
variable {elts : List Expr} {kk : Nat} {tpos : Pos}
theorem ok_ienum (hK : X.K = G.K) (hg : Gl X "enumerate") (hm : X.mg "enumerate" = none) (ha : PA X [a] (tav G k C cl Wx [ea])) (hs : starEach [a] X.env = [(false, eval a X.env)]) : PI X (.Tuple elts kk tpos) (.Call (.Name "enumerate" p) [a] [] pos) (tiv G k C cl Wx (.enum ea)) :=
  pi_weak (pi_enumA hg hm ha hs) fun σ H R ⟨Hv, env, st, ρ, Qw, Xw, S, wp, P, PX⟩ =>
    ⟨Hv, env, st, ρ, (fun ws st1 => ∃ x, ws = [x] ∧ ∃ ws, seqW st1 x = some ws ∧ (∀ ns, x ≠ .scr ns) ∧ Qw (enumW ws) (still x ws) st1), Xw, S, by
      simp only [wpI] at wp
      simp only [wpEs]
      refine cast (congrArg (fun z => wpE C G.P cl ea env st z Xw) ?_) wp
      funext w st1
      refine propext ⟨fun h => ⟨w, rfl, h⟩, fun ⟨x, e, h⟩ => by cases e; exact h⟩, fun ws st1 vs Hv1 H1 ρ1 q1 l1 so1 r1 => by
      obtain ⟨x, rfl, us, e, hs, q⟩ := q1
      obtain ⟨v, rfl, r2⟩ := rvs1 r1
      have e' := seq_split e hs
      obtain ⟨c, rfl⟩ := lst_ref so1 r2 e'
      rw [hK]
      rcases e' with e' | e'
      · obtain ⟨vs, h1, _⟩ := seq_l so1 r2 e'
        exact ⟨c, vs, rfl, .inl ⟨h1, P _ _ _ _ _ _ _ q l1 so1 fun H2 h2 => walk_el (r2.to h2) e'⟩⟩
      · obtain ⟨vs, h1, _⟩ := seq_t so1 r2 e'
        exact ⟨c, vs, rfl, .inr ⟨h1, P _ _ _ _ _ _ _ q l1 so1 fun H2 h2 => walk_et (r2.to h2) e'⟩⟩, PX⟩
theorem ok_izip (hK : X.K = G.K) (hg : Gl X "zip") (hm : X.mg "zip" = none) (ha : PA X [a, b] (tav G k C cl Wx [ea, eb])) (hs : starEach [a, b] X.env = (false, eval a X.env) :: starEach [b] X.env) (hpl : (backTo pos (starEach [b] X.env)).any (·.1) = false) :
    PI X (.Tuple elts kk tpos) (.Call (.Name "zip" p) [a, b] [] pos) (tiv G k C cl Wx (.zip ea eb)) :=
  pi_weak (RZ.pi_zipA hg hm ha hs hpl) fun σ H R ⟨Hv, env, st, ρ, Qw, Xw, S, wp, P, PX⟩ =>
    ⟨Hv, env, st, ρ, (fun ws st2 => ∃ x y, ws = [x, y] ∧ ∃ xs ys, ((lstW st2 x = some xs ∧ lstW st2 y = some ys) ∨ (tupW x = some xs ∧ tupW y = some ys)) ∧ Qw (zipW xs ys) (fun s => still x xs s ∧ still y ys s) st2), Xw, S, by
      simp only [wpI] at wp
      simp only [wpEs]
      refine cast (congrArg (fun z => wpE C G.P cl ea env st z Xw) ?_) wp
      funext w st1
      refine congrArg (fun z => wpE C G.P cl eb env st1 z Xw) ?_
      funext w2 st2
      refine propext ⟨fun h => ⟨w, w2, rfl, h⟩, fun ⟨x, y, e, h⟩ => by cases e; exact h⟩, fun ws st1 vs Hv1 H1 ρ1 q1 l1 so1 r1 => by
      obtain ⟨x, y, rfl, xs, ys, e, q⟩ := q1
      obtain ⟨v, v', rfl, r2, r3⟩ := rvs2 r1
      rcases e with ⟨e1, e2⟩ | ⟨e1, e2⟩
      · obtain ⟨c, rfl⟩ := lst_ref so1 r2 (.inl e1)
        obtain ⟨d, rfl⟩ := lst_ref so1 r3 (.inl e2)
        obtain ⟨vs, h1, _⟩ := seq_l so1 r2 e1
        obtain ⟨vs', h2, _⟩ := seq_l so1 r3 e2
        rw [hK]
        exact ⟨c, d, vs, vs', rfl, .inl ⟨h1, h2, P _ _ _ _ _ _ _ q l1 so1 fun H2 h2 => walk_zl (r2.to h2) e1 (r3.to h2) e2⟩⟩
      · obtain ⟨c, rfl⟩ := lst_ref so1 r2 (.inr e1)
        obtain ⟨d, rfl⟩ := lst_ref so1 r3 (.inr e2)
        obtain ⟨vs, h1, _⟩ := seq_t so1 r2 e1
        obtain ⟨vs', h2, _⟩ := seq_t so1 r3 e2
        rw [hK]
        exact ⟨c, d, vs, vs', rfl, .inr ⟨h1, h2, P _ _ _ _ _ _ _ q l1 so1 fun H2 h2 => walk_zt (r2.to h2) e1 (r3.to h2) e2⟩⟩, PX⟩
end
end Ev

set_option maxRecDepth 100000
set_option maxHeartbeats 1000000
/-! Ev11: list comprehensions. -/
namespace Ev
open PySem PySem.Spec PyProof.Rows L2

def Kn.blk (k : Kn) : Kn := { k with v0 := none, vx := none }
abbrev W0 : WX := fun _ _ _ _ => False
abbrev X0 : Ex := ⟨none, none⟩
section
variable {G : Gam} {k : Kn} {C : CallSem} {cl : Ex} {Wx : WX} {X : Cx} {σ : L2.St} {Hv H : Hp} {env : Env} {st : Store} {ρ : Nat → Addr} {n : Nat}
theorem Sim.blk (S : Sim G k σ Hv H env st ρ) : Sim G k.blk σ Hv H env st ρ := ⟨S.le, S.le1, S.so, S.env, fun _ e => (by cases e), fun _ e => (by cases e)⟩
theorem okw_blk (i : Nat) : Okw k.blk i := ⟨fun h => absurd rfl h, fun _ e => by cases e⟩
/-- a hidden new object is written -/
theorem le_happ {ρ0 : Nat → Addr} {n0 : Nat} {Hv0 H0 : Hp} (l : Le ρ0 n0 Hv0 H0 ρ n Hv H) {D : Addr} {o : HO} (h0 : Fr H0 D) : Le ρ0 n0 Hv0 H0 ρ n Hv (upd H D o) where
  lv := l.lv
  hid := fun a u e1 e2 e3 => by
    obtain ⟨q1, q2⟩ := l.hid a u e1 e2 e3
    exact ⟨by rw [upd_ne (h0.ne e1 e3)]; exact q1, q2⟩
  trk := fun a f => by
    by_cases ha : a = D
    · rw [ha]; exact h0
    · exact l.trk a fun u e => f u (by rw [upd_ne ha]; exact e)
theorem so_happ (so : StO G ρ Hv H st) {D : Addr} {vs vs' : List V} (hv : Hv D = none) (hD : H D = some (.lst vs)) : StO G ρ Hv (upd H D (.lst vs')) st where
  sub := fun a u e => by
    rw [upd_ne (ne_of_none e hv)]
    exact so.sub a u e
  sto := so.sto
  inj := so.inj
  nt := so.nt
  tab := fun p hp => by
    obtain ⟨ps, h1, h2, h3⟩ := so.tab p hp
    refine ⟨ps, ?_, h2, fun pos cv hcv => ?_⟩
    · rw [upd_ne (fun z => by rw [z, hD] at h1; cases h1)]
      exact h1
    · obtain ⟨c0, q1, q2⟩ := h3 pos cv hcv
      exact ⟨c0, q1, by rw [upd_ne (fun z => by rw [z, hD] at q2; cases q2)]; exact q2⟩
/-- a heap without what stands at D -/
def minus (H : Hp) (D : Addr) : Hp := fun a => if a = D then none else H a
theorem minus_at {D : Addr} : minus H D D = none := if_pos rfl
theorem minus_ne {D a : Addr} (h : a ≠ D) : minus H D a = H a := if_neg h
theorem le_minus {ρ0 : Nat → Addr} {n0 : Nat} {Hv0 H0 : Hp} (l : Le ρ0 n0 Hv0 H0 ρ n Hv H) {D : Addr} (h0 : Fr H0 D) : Le ρ0 n0 Hv0 H0 ρ n Hv (minus H D) where
  lv := l.lv
  hid := fun a o e1 e2 e3 => by
    rw [minus_ne (h0.ne e1 e3)]
    exact l.hid a o e1 e2 e3
  trk := fun a f => by
    by_cases ha : a = D
    · rw [ha]; exact h0
    · exact l.trk a fun u e => f u (by rw [minus_ne ha]; exact e)
theorem le_of_minus {D : Addr} : Le ρ n Hv (minus H D) ρ n Hv H where
  lv := Lv.refl
  hid := fun a o e1 e2 _ => by
    by_cases ha : a = D
    · rw [ha, minus_at] at e1; cases e1
    · rw [minus_ne ha] at e1; exact ⟨e1, e2⟩
  trk := fun a f u e => by
    by_cases ha : a = D
    · rw [ha, minus_at] at e; cases e
    · rw [minus_ne ha] at e; exact f u e
theorem Sim.to {Hv' H' : Hp} {ρ' : Nat → Addr} {st' : Store} (S : Sim G k σ Hv H env st ρ) (lv : Lv ρ st.length Hv ρ' st'.length Hv') (l0 : Le k.ρ0 k.n0 k.Hv0 k.H0 ρ' st'.length Hv' H') (l1 : Le k.ρ1 k.n1 k.Hv1 k.H1 ρ' st'.length Hv' H') (so : StO G ρ' Hv' H' st') : Sim G k σ Hv' H' env st' ρ' :=
  ⟨l0, l1, so, RVo.mono lv _ _ S.env, S.s0, S.sx⟩
/-- a clause's tests -/
def tsv (G : Gam) (k : Kn) (C : CallSem) (ifs : List E) : TT := fun σ H Q => ∃ Hv env st ρ Qw, Sim G k σ Hv H env st ρ ∧ wpTs C G.P X0 ifs env st Qw ∧
  ∀ b st' Hv' H' ρ', Qw b st' → Le ρ st.length Hv H ρ' st'.length Hv' H' → StO G ρ' Hv' H' st' → Q b H'
theorem pts_weak {ifs : List Expr} {t t' : TT} (h : PTs X ifs t) (i : ∀ σ H Q, t' σ H Q → t σ H Q) : PTs X ifs t' := ⟨fun pins s σ H Q I q => h.run pins s σ H Q I (i σ H Q q)⟩
theorem ok_ifs0 : PTs X [] (tsv G k C []) := pts_weak pts_nil fun σ H Q ⟨Hv, env, st, ρ, Qw, S, wp, P⟩ => P true st Hv H ρ wp Le.refl S.so
theorem ok_ifs1 {c : Expr} {ec : E} (h : PT X c (ttv G k C X0 W0 ec)) : PTs X [c] (tsv G k C [ec]) :=
  pts_weak (pts_one h) fun σ H Q ⟨Hv, env, st, ρ, Qw, S, wp, P⟩ =>
    ⟨Hv, env, st, ρ, _, noX, S, wp, fun w st1 Hv1 H1 ρ1 q1 l1 so1 => by
      obtain ⟨b, e, q⟩ := q1
      refine ⟨b, e, ?_⟩
      cases b with
      | true =>
        rw [if_pos rfl] at q
        exact P true st1 Hv1 H1 ρ1 q l1 so1
      | false =>
        rw [if_neg Bool.false_ne_true] at q
        exact P false st1 Hv1 H1 ρ1 q l1 so1, fun _ _ _ _ _ _ _ z => z.elim⟩
/-- the block's list, hidden -/
structure AccOk (G : Gam) (ρ1 : Nat → Addr) (n1 : Nat) (Hv1 H1 : Hp) (D : Addr) (H : Hp) (Hv : Hp) (st : Store) (ρ : Nat → Addr) (acc : List W) (av : List V) : Prop where
  le : Le ρ1 n1 Hv1 H1 ρ st.length Hv H
  so : StO G ρ Hv H st
  at_ : H D = some (.lst av)
  hid : Hv D = none
  rv : RVs G ρ st.length Hv acc av
theorem AccOk.go {ρ1 : Nat → Addr} {n1 : Nat} {Hv1 H1 : Hp} {D : Addr} {acc : List W} {av : List V} (A : AccOk G ρ1 n1 Hv1 H1 D H Hv st ρ acc av) {Hv' H' : Hp} {ρ' : Nat → Addr} {st' : Store} (l : Le ρ st.length Hv H ρ' st'.length Hv' H') (so : StO G ρ' Hv' H' st') :
    AccOk G ρ1 n1 Hv1 H1 D H' Hv' st' ρ' acc av := by
  obtain ⟨q1, q2⟩ := l.hid D _ A.at_ A.hid (fun ps z => by cases z)
  exact ⟨A.le.trans l, so, q1, q2, RVs.mono l.lv _ _ A.rv⟩
/-- an item comes -/
theorem AccOk.app {ρ1 : Nat → Addr} {n1 : Nat} {Hv1 H1 : Hp} {D : Addr} {acc : List W} {av : List V} (A : AccOk G ρ1 n1 Hv1 H1 D H Hv st ρ acc av) (h0 : Fr H1 D) {Hv' H' : Hp} {ρ' : Nat → Addr} {st' : Store} (l : Le ρ st.length Hv H ρ' st'.length Hv' H') (so : StO G ρ' Hv' H' st')
    {w : W} {y : V} (r : RVt G ρ' st'.length Hv' H' H w y) : ∃ Hv2, H' D = some (.lst av) ∧ AccOk G ρ1 n1 Hv1 H1 D (upd H' D (.lst (av ++ [y]))) Hv2 st' ρ' (acc ++ [ro w]) (av ++ [y]) := by
  obtain ⟨Hv2, l2, lv2, so2, r2, _⟩ := known1 l so (r.r so)
  have A2 := A.go l2 so2
  exact ⟨Hv2, A2.at_, le_happ A2.le h0, so_happ so2 A2.hid A2.at_, upd_same, A2.hid, RVs.append (ws' := [ro w]) A2.rv ⟨y, [], rfl, r2, rfl⟩⟩
/-- a block's turns -/
theorem lc_turns {J : L2.It} {items : List W} {guard : Store → Prop} {ρ1 : Nat → Addr} {n1 : Nat} {Hv1 H1 : Hp} {D : Addr} (wk : WalkOk G ρ1 n1 Hv1 H1 J items guard)
    {turn : W → List W → Store → (List W → Store → Prop) → Prop} {K : List W → Store → Prop} {Fin : Hp → Prop} {step : V → Hp → (Hp → Prop) → Prop}
    (hstep : ∀ {Hv H : Hp} {st : Store} {ρ : Nat → Addr} {acc : List W} {av : List V} {w : W} {x : V} {K' : List W → Store → Prop} {Nx : Hp → Prop}, AccOk G ρ1 n1 Hv1 H1 D H Hv st ρ acc av → RV G ρ st.length Hv w x → turn w acc st K' →
      (∀ acc' st' Hv' H' ρ' av', K' acc' st' → AccOk G ρ1 n1 Hv1 H1 D H' Hv' st' ρ' acc' av' → Nx H') → step x H Nx)
    (fin : ∀ acc st Hv H ρ av, K acc st → AccOk G ρ1 n1 Hv1 H1 D H Hv st ρ acc av → Fin H) {Hv H : Hp} {st : Store} {ρ : Nat → Addr} {acc : List W} {av : List V} (A : AccOk G ρ1 n1 Hv1 H1 D H Hv st ρ acc av) (wp : wpComp turn guard items acc st K) :
    ∃ W : Nat → Nat → Hp → Prop, (∃ m, W 0 m H) ∧ ∀ i m H, W i m H → (J.stop i H ∧ Fin H) ∨ (J.go i H ∧ ∃ Nx : Hp → Prop, (∀ H', Nx H' → ∃ m', m' < m ∧ W (i + 1) m' H') ∧ ∀ x H', J.yld i H x H' → step x H' Nx) := by
  refine ⟨fun i m H => m = items.length - i ∧ ∃ Hv st ρ acc av, AccOk G ρ1 n1 Hv1 H1 D H Hv st ρ acc av ∧ wpComp turn guard (items.drop i) acc st K, ⟨_, rfl, Hv, st, ρ, acc, av, A, wp⟩, ?_⟩
  rintro i m H ⟨rfl, Hv, st, ρ, acc, av, A, wp⟩
  by_cases hi : i < items.length
  · rw [List.drop_eq_getElem_cons hi] at wp
    obtain ⟨g, wp⟩ := wp
    obtain ⟨go, yl⟩ := wk.go A.le A.so g (List.getElem?_eq_getElem hi)
    refine .inr ⟨go, fun H' => ∃ Hv st ρ acc av, AccOk G ρ1 n1 Hv1 H1 D H' Hv st ρ acc av ∧ wpComp turn guard (items.drop (i + 1)) acc st K, fun H' h => ⟨_, by omega, rfl, h⟩, fun x H' y => ?_⟩
    obtain ⟨Hv', l', so', rx⟩ := yl x H' y
    exact hstep (A.go l' so') rx wp fun acc' st' Hv2 H2 ρ2 av' q A2 => ⟨Hv2, st', ρ2, acc', av', A2, q⟩
  · rw [List.drop_eq_nil_of_le (by omega)] at wp
    exact .inl ⟨wk.stop A.le A.so wp.1 (by omega), fin _ _ _ _ _ _ wp.2 A⟩
variable {elt tg iter tg1 iter1 : Expr} {ifs ifs1 : List Expr} {scope : Scope} {own : List (Str × Nat)} {vs1 : List Nat} {pos : Pos} {el : E} {t1 t2 : Tg} {i1 i2 : It} {c1 c2 : List E}
theorem acc_new {ρ1 : Nat → Addr} {Hv1 H1 : Hp} {st1 : Store} (so : StO G ρ1 Hv1 H1 st1) {D : Addr} (hD : H1 D = none) : AccOk G ρ1 st1.length Hv1 H1 D (upd H1 D (.lst [])) Hv1 st1 ρ1 [] [] :=
  ⟨le_happ Le.refl (Fr.none hD), so_hid so hD, upd_same, so.hn hD, rfl⟩
/-- the reading of [elt for tg in iter if ..] -/
theorem lc_read (htg : ∀ i ∈ tgS t1, i ∈ own.map (·.2)) : ∀ σ H Q, tev G k C cl Wx (.comp own el t1 i1 c1) σ H Q → tLc (tiv G k C cl Wx i1) (gtg G k.blk t1) (tsv G k.blk C c1) (tev G k.blk C X0 W0 el) (own.map (·.2)) σ H Q :=
  fun σ H Q ⟨Hv, env, st, ρ, Qw, Xw, S, wp, P, PX⟩ =>
    ⟨Hv, env, st, ρ, _, Xw, S, wp, fun items guard st1 Hv1 H1 ρ1 J q1 l1 so1 wk D hD => by
      have wk := wk H1 fun _ _ => rfl
      have S1 := S.mono l1 so1
      refine lc_turns wk (fun {Hv H st ρ acc av w x K' Nx} A rx tn nx => ?_) (fun acc st' Hv' H' ρ' av q A => ?_) (acc_new so1 hD) q1
      · obtain ⟨env2, eb, tn⟩ := tn
        refine ⟨Hv, _, st, ρ, w, env2, (S1.mono A.le A.so).blk.wipe _ (fun i _ => okw_blk i), rx, eb, fun σ2 S2 hw => ⟨by rw [hw _ htg, wipe_wipe], ?_⟩⟩
        refine ⟨Hv, env2, st, ρ, _, S2, tn, fun b st3 Hv3 H3 ρ3 q3 l3 so3 => ?_⟩
        cases b with
        | false =>
          rw [if_neg Bool.false_ne_true] at q3 ⊢
          exact nx _ _ _ _ _ _ q3 (A.go l3 so3)
        | true =>
          rw [if_pos rfl] at q3 ⊢
          refine ⟨Hv3, env2, st3, ρ3, _, noX, S2.mono l3 so3, q3, fun w4 st4 y Hv4 H4 ρ4 q4 l4 so4 r4 => ?_, fun _ _ _ _ _ _ _ z => z.elim⟩
          obtain ⟨hz, q4⟩ := q4
          obtain ⟨Hv5, e5, A5⟩ := (A.go l3 so3).app (Fr.none hD) l4 so4 r4
          exact ⟨av, e5, by rw [← A.rv.length]; exact hz, nx _ _ _ _ _ _ q4 A5⟩
      · exact P _ st' _ Hv' H' ρ' q (l1.trans A.le) A.so ⟨D, av, rfl, A.at_, A.hid, l1.trk D (Fr.none hD), A.rv⟩, PX⟩
theorem ok_lc (hc : X.calm = true) (hN : X.N.Nodup) (hi : PI X tg iter (tiv G k C cl Wx i1)) (ok : BlkOk X.N X.env.scope scope own) (htg : ∀ i ∈ tgS t1, i ∈ own.map (·.2))
    (hg : ∀ (s : Shared) (H : Hp) (C' : Addr) (cl : List (Str × Addr)) (fp : List Addr), PG (X.blk s H scope (compEnvC scope cl C' X.env) fp) tg (gtg G k.blk t1)) (ht : ∀ (s : Shared) (H : Hp) (C' : Addr) (cl : List (Str × Addr)) (fp : List Addr), PTs (X.blk s H scope (compEnvC scope cl C' X.env) fp) ifs (tsv G k.blk C c1))
    (he : ∀ (s : Shared) (H : Hp) (C' : Addr) (cl : List (Str × Addr)) (fp : List Addr), PE (X.blk s H scope (compEnvC scope cl C' X.env) fp) elt (tev G k.blk C X0 W0 el)) (hs : ∀ x, foldedSetIterable iter X.env x = pure x) :
    PE X (.ListComp elt [⟨tg, iter, ifs, 0⟩] scope pos) (tev G k C cl Wx (.comp own el t1 i1 c1)) :=
  pe_weak (pe_lc hc hN hi ok hg ht he hs) (lc_read htg)
/-- two clauses -/
theorem lc2_read (htg : ∀ i ∈ tgS t1, i ∈ own.map (·.2)) (htg1 : ∀ i ∈ tgS t2, i ∈ vs1) : ∀ σ H Q, tev G k C cl Wx (.comp2 own vs1 el t1 i1 c1 t2 i2 c2) σ H Q →
    tLc2 (tiv G k C cl Wx i1) (gtg G k.blk t1) (tsv G k.blk C c1) (tiv G k.blk C X0 W0 i2) (gtg G k.blk t2) (tsv G k.blk C c2) (tev G k.blk C X0 W0 el) (own.map (·.2)) vs1 σ H Q :=
  fun σ H Q ⟨Hv, env, st, ρ, Qw, Xw, S, wp, P, PX⟩ =>
    ⟨Hv, env, st, ρ, _, Xw, S, wp, fun items guard st1 Hv1 H1 ρ1 J q1 l1 so1 wk D hD => by
      have wk := wk H1 fun _ _ => rfl
      have S1 := S.mono l1 so1
      refine lc_turns wk (fun {Hv H st ρ acc av w x K' Nx} A rx tn nx => ?_) (fun acc st' Hv' H' ρ' av q A => ?_) (acc_new so1 hD) q1
      · obtain ⟨env2, eb, tn⟩ := tn
        refine ⟨Hv, _, st, ρ, w, env2, (S1.mono A.le A.so).blk.wipe _ (fun i _ => okw_blk i), rx, eb, fun σ2 S2 hw => ⟨by rw [hw _ htg, wipe_wipe], ?_⟩⟩
        refine ⟨Hv, env2, st, ρ, _, S2, tn, fun b st3 Hv3 H3 ρ3 q3 l3 so3 => ?_⟩
        cases b with
        | false =>
          rw [if_neg Bool.false_ne_true] at q3 ⊢
          exact nx _ _ _ _ _ _ q3 (A.go l3 so3)
        | true =>
          rw [if_pos rfl] at q3 ⊢
          refine ⟨Hv3, env2, st3, ρ3, _, noX, S2.mono l3 so3, q3, fun items1 guard1 st4 Hv4 H4 ρ4 J1 q4 l4 so4 wk1 => ?_, fun _ _ _ _ _ _ _ z => z.elim⟩
          have A3 := A.go l3 so3
          have A4 := A3.go l4 so4
          have wk2 := wk1 (minus H4 D) fun a ha => minus_ne fun z => by
            rw [z] at ha
            obtain ⟨ps, q⟩ := ha _ A3.at_
            cases q
          have lm : Le ρ1 st1.length Hv1 H1 ρ4 st4.length Hv4 (minus H4 D) := le_minus A4.le (Fr.none hD)
          have B : AccOk G ρ4 st4.length Hv4 (minus H4 D) D H4 Hv4 st4 ρ4 acc av := ⟨le_of_minus, so4, A4.at_, A4.hid, A4.rv⟩
          refine lc_turns wk2 (fun {Hv5 H5 st5 ρ5 acc5 av5 w5 x5 K5 Nx5} B5 rx5 tn5 nx5 => ?_) (fun acc' st' Hv' H' ρ' av' q B' => ?_) B q4
          · obtain ⟨env5, eb5, tn5⟩ := tn5
            have comb := lm.trans B5.le
            have S5 : Sim G k.blk σ2 Hv5 H5 env2 st5 ρ5 := S2.to ((l3.lv.trans l4.lv).trans B5.le.lv) (S1.le.trans comb) (S1.le1.trans comb) B5.so
            refine ⟨Hv5, _, st5, ρ5, w5, env5, S5.wipe _ (fun i _ => okw_blk i), rx5, eb5, fun σ6 S6 hw6 => ⟨by rw [hw6 _ htg1, wipe_wipe], ?_⟩⟩
            refine ⟨Hv5, env5, st5, ρ5, _, S6, tn5, fun b st7 Hv7 H7 ρ7 q7 l7 so7 => ?_⟩
            cases b with
            | false =>
              rw [if_neg Bool.false_ne_true] at q7 ⊢
              exact nx5 _ _ _ _ _ _ q7 (B5.go l7 so7)
            | true =>
              rw [if_pos rfl] at q7 ⊢
              refine ⟨Hv7, env5, st7, ρ7, _, noX, S6.mono l7 so7, q7, fun w8 st8 y Hv8 H8 ρ8 q8 l8 so8 r8 => ?_, fun _ _ _ _ _ _ _ z => z.elim⟩
              obtain ⟨hz, q8⟩ := q8
              obtain ⟨Hv9, e9, A9⟩ := (B5.go l7 so7).app (Fr.none minus_at) l8 so8 r8
              exact ⟨av5, e9, by rw [← B5.rv.length]; exact hz, nx5 _ _ _ _ _ _ q8 A9⟩
          · exact nx _ _ _ _ _ _ q ⟨lm.trans B'.le, B'.so, B'.at_, B'.hid, B'.rv⟩
      · exact P _ st' _ Hv' H' ρ' q (l1.trans A.le) A.so ⟨D, av, rfl, A.at_, A.hid, l1.trk D (Fr.none hD), A.rv⟩, PX⟩
theorem ok_lc2 (hc : X.calm = true) (hN : X.N.Nodup) (hi : PI X tg iter (tiv G k C cl Wx i1)) (ok : BlkOk X.N X.env.scope scope own) (hv : ∀ i ∈ vs1, i ∈ own.map (·.2)) (htg : ∀ i ∈ tgS t1, i ∈ own.map (·.2)) (htg1 : ∀ i ∈ tgS t2, i ∈ vs1)
    (hg : ∀ (s : Shared) (H : Hp) (C' : Addr) (cl : List (Str × Addr)) (fp : List Addr), PG (X.blk s H scope (compEnvC scope cl C' X.env) fp) tg (gtg G k.blk t1)) (ht : ∀ (s : Shared) (H : Hp) (C' : Addr) (cl : List (Str × Addr)) (fp : List Addr), PTs (X.blk s H scope (compEnvC scope cl C' X.env) fp) ifs (tsv G k.blk C c1))
    (hi1 : ∀ (s : Shared) (H : Hp) (C' : Addr) (cl : List (Str × Addr)) (fp : List Addr), PI (X.blk s H scope (compEnvC scope cl C' X.env) fp) tg1 iter1 (tiv G k.blk C X0 W0 i2))
    (hg1 : ∀ (s : Shared) (H : Hp) (C' : Addr) (cl : List (Str × Addr)) (fp : List Addr), PG (X.blk s H scope (compEnvC scope cl C' X.env) fp) tg1 (gtg G k.blk t2)) (ht1 : ∀ (s : Shared) (H : Hp) (C' : Addr) (cl : List (Str × Addr)) (fp : List Addr), PTs (X.blk s H scope (compEnvC scope cl C' X.env) fp) ifs1 (tsv G k.blk C c2))
    (he : ∀ (s : Shared) (H : Hp) (C' : Addr) (cl : List (Str × Addr)) (fp : List Addr), PE (X.blk s H scope (compEnvC scope cl C' X.env) fp) elt (tev G k.blk C X0 W0 el)) (hs : ∀ x, foldedSetIterable iter X.env x = pure x) (hs1 : ∀ env x, foldedSetIterable iter1 env x = pure x) :
    PE X (.ListComp elt [⟨tg, iter, ifs, 0⟩, ⟨tg1, iter1, ifs1, 0⟩] scope pos) (tev G k C cl Wx (.comp2 own vs1 el t1 i1 c1 t2 i2 c2)) :=
  pe_weak (pe_lc2 hc hN hi ok hv hg ht hi1 hg1 ht1 he hs hs1) (lc2_read htg htg1)
end
end Ev

set_option maxRecDepth 100000
set_option maxHeartbeats 1000000
/-! Ev12: plain facts of the syntax, by tests. -/
namespace Ev
open PySem PySem.Spec PyProof.Rows L2

def nStar : Expr → Bool
  | .Starred .. => false
  | _ => true
theorem star_cons {e : Expr} {es : List Expr} {env : PySem.Env} (h : nStar e = true) : starEach (e :: es) env = (false, eval e env) :: starEach es env := by
  cases e <;> first | rfl | cases h
theorem star_one {e : Expr} {env : PySem.Env} (h : nStar e = true) : starEach [e] env = [(false, eval e env)] := star_cons h
theorem star_two {e f : Expr} {env : PySem.Env} (h : nStar e = true) (h2 : nStar f = true) : starEach [e, f] env = [(false, eval e env), (false, eval f env)] := by
  rw [star_cons h, star_cons h2]
  rfl
theorem star_plain {pos : Pos} {env : PySem.Env} : ∀ {es : List Expr}, es.all nStar = true → (backTo pos (starEach es env)).any (·.1) = false
  | [], _ => rfl
  | e :: es, h => by
    simp only [List.all_cons, Bool.and_eq_true] at h
    rw [star_cons h.1]
    show (false || (backTo pos (starEach es env)).any (·.1)) = false
    rw [star_plain h.2]
    rfl
theorem star_len {pos : Pos} {env : PySem.Env} : ∀ {es : List Expr}, es.all nStar = true → (backTo pos (starEach es env)).all (fun x => !x.1) = true
  | [], _ => rfl
  | e :: es, h => by
    simp only [List.all_cons, Bool.and_eq_true] at h
    rw [star_cons h.1]
    show (true && (backTo pos (starEach es env)).all (fun x => !x.1)) = true
    rw [star_len h.2]
    rfl
theorem few_ok {cpos : Pos} {env : PySem.Env} {es : List Expr} (h : es.all nStar = true) (hl : decide (es.length < 30) = true) : ((backTo cpos (starEach es env)).all (fun x => !x.1) && (backToKw cpos (keywordEach [] env)).all (fun x => x.1.isSome)
      && decide (es.length + ([] : List Keyword).length + (if ([] : List Keyword).isEmpty then 0 else 1) < 30)) = true := by
  have e : backToKw cpos (keywordEach [] env) = [] := rfl
  rw [star_len h, e]
  simpa using hl
/-- not a call without arguments -/
def plainBase : Expr → Bool
  | .Call (.Name _ _) [] [] _ => false
  | _ => true
theorem base_ok {o : Expr} {attr : Str} {env : PySem.Env} {whole : Sem Value} (h : plainBase o = true) : attributeBase o attr env whole = whole := by
  unfold attributeBase
  split
  · cases h
  · rfl
/-- its test is the truth of its value -/
def plainTest : Expr → Bool
  | .UnaryOp .Not _ _ => false
  | .BoolOp .. => false
  | .IfExp .. => false
  | .Compare .. => false
  | _ => true
theorem test_ok {e : Expr} {env : PySem.Env} (h : plainTest e = true) : ∀ whole, isTrue e env whole = (do let v ← whole; standAt e.pos; holding [v] (truthy v)) := by
  intro whole
  unfold PySem.isTrue
  split <;> first | rfl | cases h
def nSlice : Expr → Bool
  | .Slice .. => false
  | _ => true
theorem ix_ok {b : Expr} (h : nSlice b = true) : PlainIx b := by
  intro o i
  unfold subscripted
  split <;> first | rfl | cases h | skip
  all_goals simp_all
def nSet : Expr → Bool
  | .Set .. => false
  | _ => true
theorem fold_ok {e : Expr} {env : PySem.Env} (h : nSet e = true) : ∀ x, foldedSetIterable e env x = pure x := by
  intro x
  unfold foldedSetIterable
  split <;> first | rfl | cases h
def nComp : Expr → Bool
  | .ListComp .. => false
  | .SetComp .. => false
  | .DictComp .. => false
  | _ => true
theorem sw_ok {e : Expr} {t : Option Expr} {l : Nat} {env : PySem.Env} (h : nComp e = true) : swapsWith e t l env = pure false := by
  unfold swapsWith
  cases e <;> first | rfl | cases h
def nName : Expr → Bool
  | .Name .. => false
  | _ => true
theorem sws_ok {t e : Expr} {l : Nat} {env : PySem.Env} (h : nName t = true) : swapsWithSole [t] e l env = pure false := by
  unfold swapsWithSole swapsWith
  cases e <;> first | rfl | (cases t <;> first | rfl | cases h)
theorem asg_cons {e : Expr} {es : List Expr} {env : PySem.Env} (h : nStar e = true) : assignEach (e :: es) env = (false, assign e env) :: assignEach es env := by
  cases e <;> first | rfl | cases h
theorem asg_cons2 {e : Expr} {es : List Expr} {env : PySem.Env} (h : nStar e = true) : (assignEach (e :: es) env).map (·.2) = assign e env :: (assignEach es env).map (·.2) := by
  rw [asg_cons h]
  rfl
theorem asg_len {env : PySem.Env} : ∀ {es : List Expr}, es.all nStar = true → (assignEach es env).length = es.length
  | [], _ => rfl
  | e :: es, h => by
    simp only [List.all_cons, Bool.and_eq_true] at h
    rw [asg_cons h.1]
    simp [asg_len h.2]
theorem asg_find {env : PySem.Env} : ∀ {es : List Expr}, es.all nStar = true → (assignEach es env).findIdx? (·.1) = none
  | [], _ => rfl
  | e :: es, h => by
    simp only [List.all_cons, Bool.and_eq_true] at h
    rw [asg_cons h.1, List.findIdx?_cons, asg_find h.2]
    rfl
/-- a, b = x, y: does the compiler store from the right -/
def swOf (kf : Str → Option NameKind) (ts vs : List Expr) : Option (Option (List Str)) :=
  if (!(ts.length == 2 || ts.length == 3) || vs.length != ts.length || false) = true then some none else
  if (vs.any fun | .Starred .. => true | _ => false) = true then some none else
  let line := (ts.head?.map (·.pos.line)).getD 0
  let names := ts.filterMap fun
    | .Name id pos => if kf id == some .local && pos.line == line then some id else none
    | _ => none
  if (names.length != ts.length || names.eraseDups.length != names.length) = true then some none else
  if vs.all (foldedForSure 8) = true then some none else
  if vs.all (constantsAlone 8) = true then none else some (some names)
theorem swOf_ok {env : PySem.Env} {ts vs : List Expr} {kt k2 : Nat} {pt p2 : Pos} (hk : env.scope.kind = .function) {r : Option (List Str)} (h : swOf env.kindOf ts vs = some r) : swappedStores [.Tuple ts kt pt] (.Tuple vs k2 p2) env = pure r := by
  have hb : (env.blockKind != .function) = false := by unfold Env.blockKind; rw [hk]; rfl
  unfold swappedStores
  simp only [hb]
  unfold swOf at h
  split at h
  · rename_i c
    cases h
    exact if_pos c
  rename_i c
  refine (if_neg c).trans ?_
  split at h
  · rename_i c2
    cases h
    exact if_pos c2
  rename_i c2
  refine (if_neg c2).trans ?_
  dsimp only at h
  split at h
  · rename_i c3
    cases h
    exact if_pos c3
  rename_i c3
  refine (if_neg c3).trans ?_
  split at h
  · rename_i c4
    cases h
    exact if_pos c4
  rename_i c4
  refine (if_neg c4).trans ?_
  split at h
  · cases h
  rename_i c5
  refine (if_neg c5).trans ?_
  cases h
  rfl
def nTup : Expr → Bool
  | .Tuple .. => false
  | _ => true
theorem sw_none {t e : Expr} {env : PySem.Env} (h : nTup e = true) : swappedStores [t] e env = pure none := by
  unfold swappedStores
  cases e <;> first | (cases t <;> rfl) | cases h
def nTupT : Expr → Bool
  | .Tuple .. => false
  | .List .. => false
  | _ => true
theorem sw_noneT {t e : Expr} {env : PySem.Env} (h : nTupT t = true) : swappedStores [t] e env = pure none := by
  unfold swappedStores
  cases t <;> first | rfl | cases h
end Ev

set_option maxRecDepth 100000
set_option maxHeartbeats 1000000
/-! Ev13: statements. -/
namespace Ev
open PySem PySem.Spec PyProof.Rows L2

structure EndsOk (G : Gam) (k : Kn) (Wx : WX) (ρ : Nat → Addr) (n : Nat) (Hv H : Hp) (Dw : Ends) (D : L2.Ends) : Prop where
  nx : ∀ env' st' Hv' H' ρ' σ', Dw.nx env' st' → Le ρ n Hv H ρ' st'.length Hv' H' → Sim G k σ' Hv' H' env' st' ρ' → D.nx σ' H'
  rt : PostE G ρ n Hv H Dw.rt D.rt
  bk : ∀ env' st' Hv' H' ρ' σ', Dw.bk env' st' → Le ρ n Hv H ρ' st'.length Hv' H' → Sim G k σ' Hv' H' env' st' ρ' → D.bk σ' H'
  ct : ∀ env' st' Hv' H' ρ' σ', Dw.ct env' st' → Le ρ n Hv H ρ' st'.length Hv' H' → Sim G k σ' Hv' H' env' st' ρ' → D.ct σ' H'
  ex : ∀ c w env' st' Hv' H' ρ' σ' d, Dw.ex c w env' st' → Le ρ n Hv H ρ' st'.length Hv' H' → Sim G k σ' Hv' H' env' st' ρ' → RX G ρ' st'.length Hv' w d → Wx (.ref (G.ca c)) (some d) σ' H'
abbrev WpS := Env → Store → Ends → Prop
def tsW (G : Gam) (k : Kn) (Wx : WX) (f : WpS) : TS := fun D σ H => ∃ Hv env st ρ Dw, Sim G k σ Hv H env st ρ ∧ f env st Dw ∧ EndsOk G k Wx ρ st.length Hv H Dw D
abbrev tss (G : Gam) (k : Kn) (C : CallSem) (cl : Ex) (Wx : WX) (s : S) : TS := tsW G k Wx (wpS C G.P cl s)
abbrev tsss (G : Gam) (k : Kn) (C : CallSem) (cl : Ex) (Wx : WX) (s : List S) : TS := tsW G k Wx (wpSs C G.P cl s)
section
variable {G : Gam} {k : Kn} {C : CallSem} {cl : Ex} {Wx : WX} {X : Cx} {σ : L2.St} {Hv H Hv' H' : Hp} {env : Env} {st : Store} {ρ ρ' : Nat → Addr} {n n' : Nat} {Dw : Ends} {D : L2.Ends}
theorem EndsOk.step (e : EndsOk G k Wx ρ n Hv H Dw D) (l : Le ρ n Hv H ρ' n' Hv' H') : EndsOk G k Wx ρ' n' Hv' H' Dw D where
  nx := fun env' st' Hv' H' ρ' σ' q l2 S => e.nx env' st' Hv' H' ρ' σ' q (l.trans l2) S
  rt := e.rt.step l
  bk := fun env' st' Hv' H' ρ' σ' q l2 S => e.bk env' st' Hv' H' ρ' σ' q (l.trans l2) S
  ct := fun env' st' Hv' H' ρ' σ' q l2 S => e.ct env' st' Hv' H' ρ' σ' q (l.trans l2) S
  ex := fun c w env' st' Hv' H' ρ' σ' d q l2 S r => e.ex c w env' st' Hv' H' ρ' σ' d q (l.trans l2) S r
theorem EndsOk.px (e : EndsOk G k Wx ρ st.length Hv H Dw D) (S : Sim G k σ Hv H env st ρ) : PostX G ρ st.length Hv H (fun c w st1 => Dw.ex c w env st1) σ Wx :=
  fun c w st' Hv' H' ρ' d q l so r => e.ex c w env st' Hv' H' ρ' σ d q l (S.mono l so) r
variable {pos : Pos} {e : Expr} {ee : E}
theorem ok_pass : PS X (.Pass pos) (tss G k C cl Wx .pass) := ps_weak ps_pass fun D σ H ⟨Hv, env, st, ρ, Dw, S, wp, N⟩ => N.nx _ _ _ _ _ _ wp Le.refl S
theorem ok_brk : PS X (.Break pos) (tss G k C cl Wx .brk) := ps_weak ps_break fun D σ H ⟨Hv, env, st, ρ, Dw, S, wp, N⟩ => N.bk _ _ _ _ _ _ wp Le.refl S
theorem ok_cont : PS X (.Continue pos) (tss G k C cl Wx .cont) := ps_weak ps_continue fun D σ H ⟨Hv, env, st, ρ, Dw, S, wp, N⟩ => N.ct _ _ _ _ _ _ wp Le.refl S
theorem ok_nil : PSs X [] (tsss G k C cl Wx []) := pss_weak pss_nil fun D σ H ⟨Hv, env, st, ρ, Dw, S, wp, N⟩ => N.nx _ _ _ _ _ _ wp Le.refl S
theorem ok_cons {s : Stmt} {ss : List Stmt} {es : S} {ess : List S} (h1 : PS X s (tss G k C cl Wx es)) (h2 : PSs X ss (tsss G k C cl Wx ess)) : PSs X (s :: ss) (tsss G k C cl Wx (es :: ess)) :=
  pss_weak (pss_cons h1 h2) fun D σ H ⟨Hv, env, st, ρ, Dw, S, wp, N⟩ =>
    ⟨Hv, env, st, ρ, { Dw with nx := fun env' st' => wpSs C G.P cl ess env' st' Dw }, S, wp, ⟨fun env' st' Hv' H' ρ' σ' q l S' => ⟨Hv', env', st', ρ', Dw, S', q, N.step l⟩, N.rt, N.bk, N.ct, N.ex⟩⟩
theorem ok_ret (he : PE X e (tev G k C cl Wx ee)) : PS X (.Return (some e) pos) (tss G k C cl Wx (.ret ee)) :=
  ps_weak (ps_ret he) fun D σ H ⟨Hv, env, st, ρ, Dw, S, wp, N⟩ => ⟨Hv, env, st, ρ, _, _, S, wp, N.rt, N.px S⟩
theorem ok_retN : PS X (.Return none pos) (tss G k C cl Wx .retN) :=
  ps_weak ps_retN fun D σ H ⟨Hv, env, st, ρ, Dw, S, wp, N⟩ => N.rt _ _ _ _ _ _ wp Le.refl S.so (show RVt G ρ st.length Hv H H .non .non from rfl)
theorem ok_ex (he : PE X e (tev G k C cl Wx ee)) (hs : swapsWith e none pos.line X.env = pure false) : PS X (.Expr e pos) (tss G k C cl Wx (.ex ee)) :=
  ps_weak (ps_expr he hs) fun D σ H ⟨Hv, env, st, ρ, Dw, S, wp, N⟩ => ⟨Hv, env, st, ρ, _, _, S, wp, fun w st1 v Hv1 H1 ρ1 q1 l1 so1 r1 => N.nx _ _ _ _ _ _ q1 l1 (S.mono l1 so1), N.px S⟩
theorem ok_ite {c : Expr} {ec : E} {a b : List Stmt} {ea eb : List S} (hc : PT X c (ttv G k C cl Wx ec)) (ha : PSs X a (tsss G k C cl Wx ea)) (hb : PSs X b (tsss G k C cl Wx eb)) : PS X (.If c a b pos) (tss G k C cl Wx (.ite ec ea eb)) :=
  ps_weak (ps_if hc ha hb) fun D σ H ⟨Hv, env, st, ρ, Dw, S, wp, N⟩ => ⟨Hv, env, st, ρ, _, _, S, wp, fun w st1 Hv1 H1 ρ1 q1 l1 so1 => by
    obtain ⟨d, e, q⟩ := q1
    refine ⟨d, e, ?_⟩
    cases d with
    | true =>
      rw [if_pos rfl] at q ⊢
      exact ⟨Hv1, env, st1, ρ1, Dw, S.mono l1 so1, q, N.step l1⟩
    | false =>
      rw [if_neg Bool.false_ne_true] at q ⊢
      exact ⟨Hv1, env, st1, ρ1, Dw, S.mono l1 so1, q, N.step l1⟩, N.px S⟩
/-! ### assignments -/
/-- a value is stored in a name -/
theorem asg_read {te : TE} {i : Nat} (hk : Okw k i) (h : ∀ σ H Q, tev G k C cl Wx ee σ H Q → te σ H Q) : ∀ D σ H, tss G k C cl Wx (.asg i ee) D σ H → tAsg te (gName i) D σ H :=
  fun D σ H ⟨Hv, env, st, ρ, Dw, S, wp, N⟩ => h _ _ _ ⟨Hv, env, st, ρ, _, _, S, wp, fun w st1 v Hv1 H1 ρ1 q1 l1 so1 r1 => by
    obtain ⟨_, q⟩ := q1
    obtain ⟨Hv2, l2, lv2, so2, r2, _⟩ := known1 l1 so1 (r1.r so1)
    exact N.nx _ _ _ _ _ _ q l2 ((S.mono l2 so2).set hk (.inr ⟨v, rfl, r2⟩)), N.px S⟩
theorem ok_asg {i : Nat} {x : Str} {p' : Pos} (hk : Okw k i) (hN : X.N.Nodup) (hi : X.N[i]? = some x) (hx : Loc X.env.scope x) (hf : X.fn x = true ∨ X.env.scope.names.lookup x = some .local) (he : PE X e (tev G k C cl Wx ee)) (hs : swapsWith e (some (.Name x p')) pos.line X.env = pure false) :
    PS X (.Assign [.Name x p'] e pos) (tss G k C cl Wx (.asg i ee)) := ps_weak (ps_set hN hi hx he hs hf) (asg_read hk fun _ _ _ h => h)
theorem asgT_read {tg : Tg} : ∀ D σ H, tss G k C cl Wx (.asgT tg ee) D σ H → tAsg (tev G k C cl Wx ee) (gtg G k tg) D σ H :=
  fun D σ H ⟨Hv, env, st, ρ, Dw, S, wp, N⟩ => ⟨Hv, env, st, ρ, _, _, S, wp, fun w st1 v Hv1 H1 ρ1 q1 l1 so1 r1 => by
    obtain ⟨env1, eb, q⟩ := q1
    obtain ⟨Hv2, l2, lv2, so2, r2, _⟩ := known1 l1 so1 (r1.r so1)
    exact ⟨Hv2, env, st1, ρ1, ro w, env1, S.mono l2 so2, r2, by rw [bindT_ro]; exact eb, fun σ' S' _ => N.nx _ _ _ _ _ _ q l2 S'⟩, N.px S⟩
theorem ok_asgT {tg : Expr} {t : Tg} (he : PE X e (tev G k C cl Wx ee)) (hg : PG X tg (gtg G k t)) (hs : swapsWithSole [tg] e pos.line X.env = pure false) (hw : swappedStores [tg] e X.env = pure none) (h1 : (assignEach [tg] X.env).map (·.2) = [assign tg X.env]) :
    PS X (.Assign [tg] e pos) (tss G k C cl Wx (.asgT t ee)) := ps_weak (ps_asg he hg hs hw h1) asgT_read
theorem ok_par {i j : Nat} {x y : Str} {a b : Expr} {es : List E} {px py pt pos : Pos} {kt k2 pt2} (hki : Okw k i) (hkj : Okw k j) (hc : X.calm = true) (hN : X.N.Nodup) (hi : X.N[i]? = some x) (hj : X.N[j]? = some y) (hij : i ≠ j)
    (hx : X.env.scope.names.lookup x = some .local) (hy : X.env.scope.names.lookup y = some .local) (ha : PA X [a, b] (tav G k C cl Wx es))
    (hw : swappedStores [.Tuple [.Name x px, .Name y py] kt pt] (.Tuple [a, b] k2 pt2) X.env = pure (some [x, y])) :
    PS X (.Assign [.Tuple [.Name x px, .Name y py] kt pt] (.Tuple [a, b] k2 pt2) pos) (tss G k C cl Wx (.par [i, j] es)) :=
  ps_weak (ps_par hc hN hi hj hij hx hy ha hw (sws_ok rfl)) fun D σ H ⟨Hv, env, st, ρ, Dw, S, wp, N⟩ => by
    refine ⟨Hv, env, st, ρ, _, _, S, wp, fun ws st1 vs Hv1 H1 ρ1 q1 l1 so1 r1 => ?_, N.px S⟩
    obtain ⟨env1, eb, q⟩ := q1
    obtain ⟨Hv2, l2, lv2, so2, r2⟩ := knowns l1 so1 (r1.r so1)
    match ws, eb with
    | [w1, w2], eb =>
      obtain ⟨v1, _, rfl, f1, v2, _, rfl, f2, rfl⟩ := r2
      simp only [List.map_cons, List.map_nil, bindTs, bindT] at eb
      split at eb
      · rename_i e1 h1
        split at h1
        · cases h1
          split at eb
          · rename_i e2 h2
            split at h2
            · cases h2
              cases eb
              exact ⟨v1, v2, rfl, N.nx _ _ _ _ _ _ q l2 (((S.mono l2 so2).set hki (.inr ⟨v1, rfl, f1⟩)).set hkj (.inr ⟨v2, rfl, f2⟩))⟩
            · cases h2
          · cases eb
        · cases h1
      · cases eb
    | [], eb => cases eb
    | [w1], eb =>
      simp only [List.map_cons, List.map_nil, bindTs, bindT] at eb
      split at eb <;> cases eb
    | _ :: _ :: _ :: _, eb =>
      simp only [List.map_cons, List.map_nil, bindTs, bindT] at eb
      split at eb
      · split at eb <;> cases eb
      · cases eb
theorem ok_par3 {i j l : Nat} {x y z : Str} {a b c : Expr} {es : List E} {px py pz pt pos : Pos} {kt k2 pt2} (hki : Okw k i) (hkj : Okw k j) (hkl : Okw k l) (hc : X.calm = true) (hN : X.N.Nodup) (hi : X.N[i]? = some x) (hj : X.N[j]? = some y) (hl : X.N[l]? = some z) (hij : i ≠ j) (hil : i ≠ l) (hjl : j ≠ l)
    (hx : X.env.scope.names.lookup x = some .local) (hy : X.env.scope.names.lookup y = some .local) (hz : X.env.scope.names.lookup z = some .local) (ha : PA X [a, b, c] (tav G k C cl Wx es))
    (hw : swappedStores [.Tuple [.Name x px, .Name y py, .Name z pz] kt pt] (.Tuple [a, b, c] k2 pt2) X.env = pure (some [x, y, z])) :
    PS X (.Assign [.Tuple [.Name x px, .Name y py, .Name z pz] kt pt] (.Tuple [a, b, c] k2 pt2) pos) (tss G k C cl Wx (.par [i, j, l] es)) :=
  ps_weak (ps_par3 hc hN hi hj hl hij hil hjl hx hy hz ha hw (sws_ok rfl)) fun D σ H ⟨Hv, env, st, ρ, Dw, S, wp, N⟩ => by
    refine ⟨Hv, env, st, ρ, _, _, S, wp, fun ws st1 vs Hv1 H1 ρ1 q1 l1 so1 r1 => ?_, N.px S⟩
    obtain ⟨env1, eb, q⟩ := q1
    obtain ⟨Hv2, l2, lv2, so2, r2⟩ := knowns l1 so1 (r1.r so1)
    match ws, eb with
    | [w1, w2, w3], eb =>
      obtain ⟨v1, _, rfl, f1, v2, _, rfl, f2, v3, _, rfl, f3, rfl⟩ := r2
      simp only [List.map_cons, List.map_nil, bindTs, bindT] at eb
      split at eb
      · rename_i e1 h1
        split at h1
        · cases h1
          split at eb
          · rename_i e2 h2
            split at h2
            · cases h2
              split at eb
              · rename_i e3 h3
                split at h3
                · cases h3
                  cases eb
                  exact ⟨v1, v2, v3, rfl, N.nx _ _ _ _ _ _ q l2 ((((S.mono l2 so2).set hki (.inr ⟨v1, rfl, f1⟩)).set hkj (.inr ⟨v2, rfl, f2⟩)).set hkl (.inr ⟨v3, rfl, f3⟩))⟩
                · cases h3
              · cases eb
            · cases h2
          · cases eb
        · cases h1
      · cases eb
    | [], eb => cases eb
    | [w1], eb =>
      simp only [List.map_cons, List.map_nil, bindTs, bindT] at eb
      split at eb <;> cases eb
    | [w1, w2], eb =>
      simp only [List.map_cons, List.map_nil, bindTs, bindT] at eb
      split at eb
      · split at eb <;> cases eb
      · cases eb
    | _ :: _ :: _ :: _ :: _, eb =>
      simp only [List.map_cons, List.map_nil, bindTs, bindT] at eb
      split at eb
      · split at eb
        · split at eb <;> cases eb
        · cases eb
      · cases eb
theorem ok_asgS {o ix : Expr} {eo ei : E} {sp : Pos} (hr : Room 1 X.A) (he : PE X e (tev G k C cl Wx ee)) (ho : PE X o (tev G k C cl Wx eo)) (hi : PE X ix (tev G k C cl Wx ei)) (hs : swapsWithSole [.Subscript o ix sp] e pos.line X.env = pure false) (hsl : nSlice ix = true) :
    PS X (.Assign [.Subscript o ix sp] e pos) (tss G k C cl Wx (.asgS eo ei ee)) :=
  ps_weak (ps_asg he (pg_sub ho hi (w_set (G := G) hr) (by intro v; cases ix <;> first | rfl | cases hsl)) hs (sw_noneT rfl) rfl) fun D σ H ⟨Hv, env, st, ρ, Dw, S, wp, N⟩ =>
    ⟨Hv, env, st, ρ, _, _, S, wp, fun w st1 v Hv1 H1 ρ1 q1 l1 so1 r1 =>
      ⟨Hv1, env, st1, ρ1, _, _, S.mono l1 so1, q1, fun w2 st2 v2 Hv2 H2 ρ2 q2 l2 so2 r2 =>
        ⟨Hv2, env, st2, ρ2, _, _, S.mono (l1.trans l2) so2, q2, fun w3 st3 v3 Hv3 H3 ρ3 q3 l3 so3 r3 =>
          ⟨ρ, st.length, Hv, H, Hv3, st3, ρ3, w2, w3, w, _, (l1.trans l2).trans l3, so3, (r2.back l1.back).mono l3, (r3.back l2.back).back l1.back, (r1.mono l2).mono l3, q3, fun st' Hv' H' ρ' q' l' so' => N.nx _ _ _ _ _ _ q' l' (S.mono l' so')⟩,
          (N.step (l1.trans l2)).px (S.mono (l1.trans l2) so2)⟩, (N.step l1).px (S.mono l1 so1)⟩, N.px S⟩
/-! ### targets of any sort -/
def gtgX (G : Gam) (k : Kn) (C : CallSem) (cl : Ex) (Wx : WX) (ts : List Tx) : TGs := fun vs σ H Q => ∃ Hv env st ρ ws Kw Xw, Sim G k σ Hv H env st ρ ∧ RVs G ρ st.length Hv ws vs ∧ wpX C G.P cl ts ws env st Kw Xw ∧
  (∀ env' st' Hv' H' ρ' σ', Kw env' st' → Le ρ st.length Hv H ρ' st'.length Hv' H' → Sim G k σ' Hv' H' env' st' ρ' → Q σ' H') ∧
  (∀ c w env' st' Hv' H' ρ' σ' d, Xw c w env' st' → Le ρ st.length Hv H ρ' st'.length Hv' H' → Sim G k σ' Hv' H' env' st' ρ' → RX G ρ' st'.length Hv' w d → Wx (.ref (G.ca c)) (some d) σ' H')
theorem okx_nil : PGs X [] (gtgX G k C cl Wx []) := pgs_weak pgs_nil fun vs σ H Q ⟨Hv, env, st, ρ, ws, Kw, Xw, S, r, wp, q, qx⟩ => by
  cases ws with
  | nil => exact ⟨r, q _ _ _ _ _ _ wp Le.refl S⟩
  | cons w ws => exact wp.elim
theorem okx_nm {i : Nat} {x : Str} {p : Pos} {es : List Expr} {ts : List Tx} (hk : Okw k i) (hN : X.N.Nodup) (hi : X.N[i]? = some x) (hx : Loc X.env.scope x) (hf : X.fn x = true ∨ X.env.scope.names.lookup x = some .local) (h2 : PGs X es (gtgX G k C cl Wx ts))
    (hs : (assignEach (.Name x p :: es) X.env).map (·.2) = assign (.Name x p) X.env :: (assignEach es X.env).map (·.2)) : PGs X (.Name x p :: es) (gtgX G k C cl Wx (.nm i :: ts)) :=
  pgs_weak (pgs_cons (pg_name hN hi hx hf) h2 hs) fun vs σ H Q ⟨Hv, env, st, ρ, ws, Kw, Xw, S, r, wp, q, qx⟩ => by
    cases ws with
    | nil => exact wp.elim
    | cons w ws =>
      obtain ⟨v, vr, rfl, r1, r2⟩ := r
      obtain ⟨_, wp⟩ := wp
      exact ⟨v, vr, rfl, Hv, env.set i w, st, ρ, ws, Kw, Xw, S.set hk (.inr ⟨v, rfl, r1⟩), r2, wp, q, qx⟩
theorem okx_sub {o ix : Expr} {eo ei : E} {sp : Pos} {es : List Expr} {ts : List Tx} (hr : Room 1 X.A) (ho : PE X o (tev G k C cl Wx eo)) (hi : PE X ix (tev G k C cl Wx ei)) (hsl : nSlice ix = true) (h2 : PGs X es (gtgX G k C cl Wx ts))
    (hs : (assignEach (.Subscript o ix sp :: es) X.env).map (·.2) = assign (.Subscript o ix sp) X.env :: (assignEach es X.env).map (·.2)) : PGs X (.Subscript o ix sp :: es) (gtgX G k C cl Wx (.sub eo ei :: ts)) :=
  pgs_weak (pgs_cons (pg_sub ho hi (w_set (G := G) hr) (by intro v; cases ix <;> first | rfl | cases hsl)) h2 hs) fun vs σ H Q ⟨Hv, env, st, ρ, ws, Kw, Xw, S, r, wp, q, qx⟩ => by
    cases ws with
    | nil => exact wp.elim
    | cons w ws =>
      obtain ⟨v, vr, rfl, r1, r2⟩ := r
      refine ⟨v, vr, rfl, Hv, env, st, ρ, _, _, S, wp, fun w2 st2 v2 Hv2 H2 ρ2 q2 l2 so2 r2' => ⟨Hv2, env, st2, ρ2, _, _, S.mono l2 so2, q2, fun w3 st3 v3 Hv3 H3 ρ3 q3 l3 so3 r3 =>
        ⟨ρ, st.length, Hv, H, Hv3, st3, ρ3, w2, w3, w, _, l2.trans l3, so3, r2'.mono l3, r3.back l2.back, RVt.of (RV.mono (l2.trans l3).lv _ _ r1), q3, fun st' Hv' H' ρ' q' l' so' => ?_⟩, ?_⟩, ?_⟩
      · exact ⟨Hv', env, st', ρ', ws, Kw, Xw, S.mono l' so', RVs.mono l'.lv _ _ r2, q', fun env2 st4 Hv4 H4 ρ4 σ4 kq l4 S4 => q _ _ _ _ _ _ kq (l'.trans l4) S4, fun c w env2 st4 Hv4 H4 ρ4 σ4 d kq l4 S4 rx => qx _ _ _ _ _ _ _ _ _ kq (l'.trans l4) S4 rx⟩
      · exact fun c w st' Hv' H' ρ' d kq l so rx => qx c w env st' Hv' H' ρ' σ d kq (l2.trans l) (S.mono (l2.trans l) so) rx
      · exact fun c w st' Hv' H' ρ' d kq l so rx => qx c w env st' Hv' H' ρ' σ d kq l (S.mono l so) rx
theorem seqW_ro (w : W) : seqW st (ro w) = seqW st w := by cases w <;> rfl
theorem ok_asgX {es : List Expr} {kk : Nat} {ts : List Tx} {pt : Pos} (hK : X.K = G.K) (hc : X.calm = true) (he : PE X e (tev G k C cl Wx ee)) (h : PGs X es (gtgX G k C cl Wx ts)) (hn : (assignEach es X.env).length = ts.length) (hst : (assignEach es X.env).findIdx? (·.1) = none)
    (hs : swapsWithSole [.Tuple es kk pt] e pos.line X.env = pure false) (hw : swappedStores [.Tuple es kk pt] e X.env = pure none) (h1 : (assignEach [.Tuple es kk pt] X.env).map (·.2) = [assign (.Tuple es kk pt) X.env]) :
    PS X (.Assign [.Tuple es kk pt] e pos) (tss G k C cl Wx (.asgX ts ee)) :=
  ps_weak (ps_asg he (pg_or (pg_tup hc h hn hst) (pg_unl hc h hn hst)) hs hw h1) fun D σ H ⟨Hv, env, st, ρ, Dw, S, wp, N⟩ =>
    ⟨Hv, env, st, ρ, _, _, S, wp, fun w st1 v Hv1 H1 ρ1 q1 l1 so1 r1 => by
      obtain ⟨hsc, ws, hws, hlen, wpx⟩ := q1
      obtain ⟨Hv2, l2, lv2, so2, r2, _⟩ := known1 l1 so1 (r1.r so1)
      have hsc2 : ∀ ns, ro w ≠ .scr ns := fun ns z => by cases w <;> first | (cases z; done) | (simp [isScr] at hsc; done)
      obtain ⟨a, vs, rfl, h1, h2⟩ := seq_any (H := H1) (H0 := H1) so2 (RVt.of r2) (by rw [seqW_ro]; exact hws) hsc2
      have hl : vs.length = ts.length := by rw [← h2.length]; exact hlen
      have go : gtgX G k C cl Wx ts vs σ H1 D.nx := ⟨Hv2, env, st1, ρ1, ws, Dw.nx, Dw.ex, S.mono l2 so2, h2, wpx, fun env' st' Hv' H' ρ' σ' kq l' S' => N.nx _ _ _ _ _ _ kq (l2.trans l') S', fun c w env' st' Hv' H' ρ' σ' d kq l' S' rx => N.ex _ _ _ _ _ _ _ _ _ kq (l2.trans l') S' rx⟩
      rcases h1 with h1 | h1
      · exact .inr ⟨a, vs, rfl, by rw [hK]; exact h1, hl, go⟩
      · exact .inl ⟨a, vs, rfl, by rw [hK]; exact h1, hl, go⟩, N.px S⟩
/-! ### loops -/
theorem ok_for {tg iter : Expr} {t : Tg} {it : It} {body : List Stmt} {eb : List S} (hp : PassesOwn (model X.prog X.w) X.A X.env X.xe) (hc : X.calm = true) (hi : PI X tg iter (tiv G k C cl Wx it)) (hg : PG X tg (gtg G k t)) (hb : PSs X body (tsss G k C cl Wx eb)) (hs : ∀ x, foldedSetIterable iter X.env x = pure x) :
    PS X (.For tg iter body [] pos) (tss G k C cl Wx (.for_ t it eb)) :=
  ps_weak (ps_for hp hc hi hg hb hs) fun D σ H ⟨Hv, env, st, ρ, Dw, S, wp, N⟩ => ⟨Hv, env, st, ρ, _, _, S, wp, fun items guard st1 Hv1 H1 ρ1 J q1 l1 so1 wk => by
    have wk := wk H1 fun _ _ => rfl
    refine ⟨fun i m σ H => m = items.length - i ∧ ∃ Hv env st ρ, Le ρ1 st1.length Hv1 H1 ρ st.length Hv H ∧ Sim G k σ Hv H env st ρ ∧ wpFor _ guard (items.drop i) env st Dw, ⟨_, rfl, Hv1, env, st1, ρ1, Le.refl, S.mono l1 so1, q1⟩, ?_⟩
    rintro i m σ H ⟨rfl, Hv, env, st, ρ, l, S, wp⟩
    by_cases hi : i < items.length
    · rw [List.drop_eq_getElem_cons hi] at wp
      obtain ⟨g, wp⟩ := wp
      obtain ⟨go, yl⟩ := wk.go l S.so g (List.getElem?_eq_getElem hi)
      refine .inr ⟨go, fun σ' H' => ∃ Hv env st ρ, Le ρ1 st1.length Hv1 H1 ρ st.length Hv H' ∧ Sim G k σ' Hv H' env st ρ ∧ wpFor _ guard (items.drop (i + 1)) env st Dw, fun σ' H' h => ⟨_, by omega, rfl, h⟩, fun x H' y => ?_⟩
      obtain ⟨Hv', l', so', rx⟩ := yl x H' y
      obtain ⟨env3, ebd, wp⟩ := wp
      have S' := S.mono l' so'
      refine ⟨Hv', env, st, ρ, _, env3, S', rx, ebd, fun σ2 S2 _ => ⟨Hv', env3, st, ρ, _, S2, wp, ?_⟩⟩
      have N' := (N.step l1).step (l.trans l')
      exact ⟨fun env' st' Hv2 H2 ρ2 σ' q l2 S3 => ⟨Hv2, env', st', ρ2, (l.trans l').trans l2, S3, q⟩, N'.rt, N'.nx, fun env' st' Hv2 H2 ρ2 σ' q l2 S3 => ⟨Hv2, env', st', ρ2, (l.trans l').trans l2, S3, q⟩, N'.ex⟩
    · rw [List.drop_eq_nil_of_le (by omega)] at wp
      exact .inl ⟨wk.stop l S.so wp.1 (by omega), ((N.step l1).step l).nx _ _ _ _ _ _ wp.2 Le.refl S⟩, N.px S⟩
theorem ok_while {c : Expr} {ec : E} {body : List Stmt} {eb : List S} (hp : PassesOwn (model X.prog X.w) X.A X.env X.xe) (hc : PT X c (ttv G k C cl Wx ec)) (hb : PSs X body (tsss G k C cl Wx eb)) : PS X (.While c body [] pos) (tss G k C cl Wx (.while_ ec eb)) :=
  ps_weak (ps_while hp hc hb) fun D σ H ⟨Hv, env, st, ρ, Dw, S, wp, N⟩ => by
    obtain ⟨I, ⟨m0, w0⟩, turn⟩ := wp
    refine ⟨fun m σ' H' => ∃ Hv' env' st' ρ', Le ρ st.length Hv H ρ' st'.length Hv' H' ∧ Sim G k σ' Hv' H' env' st' ρ' ∧ I m env' st', ⟨m0, Hv, env, st, ρ, Le.refl, S, w0⟩, ?_⟩
    rintro m σ' H' ⟨Hv', env', st', ρ', l, S', hI⟩
    refine ⟨Hv', env', st', ρ', _, _, S', turn m env' st' hI, fun w st1 Hv1 H1 ρ1 q1 l1 so1 => ?_, (N.step l).px S'⟩
    obtain ⟨d, e, q⟩ := q1
    refine ⟨d, e, ?_⟩
    cases d with
    | true =>
      rw [if_pos rfl] at q ⊢
      refine ⟨fun σ2 H2 => ∃ m', m' < m ∧ ∃ Hv2 env2 st2 ρ2, Le ρ st.length Hv H ρ2 st2.length Hv2 H2 ∧ Sim G k σ2 Hv2 H2 env2 st2 ρ2 ∧ I m' env2 st2, fun σ2 H2 ⟨m', h1, h2⟩ => ⟨m', h1, h2⟩, Hv1, env', st1, ρ1, _, S'.mono l1 so1, q, ?_⟩
      have N' := (N.step l).step l1
      exact ⟨fun env2 st2 Hv2 H2 ρ2 σ2 ⟨m', h1, h2⟩ l2 S2 => ⟨m', h1, Hv2, env2, st2, ρ2, (l.trans l1).trans l2, S2, h2⟩, N'.rt, N'.nx, fun env2 st2 Hv2 H2 ρ2 σ2 ⟨m', h1, h2⟩ l2 S2 => ⟨m', h1, Hv2, env2, st2, ρ2, (l.trans l1).trans l2, S2, h2⟩, N'.ex⟩
    | false =>
      rw [if_neg Bool.false_ne_true] at q ⊢
      exact (N.step l).nx _ _ _ _ _ _ q l1 (S'.mono l1 so1)
end
end Ev

set_option maxRecDepth 100000
set_option maxHeartbeats 2000000
/-! EvH0: the end of a list, of a tuple, a tuple taken apart, while an exception is handled. -/
namespace Ev
open PySem PySem.Spec PyProof.Rows L2 HotX L2H
section
variable {prog : Program} {w : World} {A : Around} {E : Value → Shared → Prop} {s : Shared}
theorem hot_off {it x1 : Addr} {o : Obj} {vs : Array Value} (ho : s.heap.get? it = some o) (hd : o.data = .fields vs) (hz : vs.size = 2) {o1 : Obj} {vs1 : Array Value} (h1 : s.heap.get? x1 = some o1) (d1 : o1.data = .fields vs1) (c1 : vs1[2]? = some .none) : it ≠ x1 := by
  intro e
  subst e
  rw [h1] at ho
  cases ho
  rw [d1] at hd
  cases hd
  rw [Array.getElem?_eq_none (by omega)] at c1
  cases c1
theorem list_end_hot {it l x1 : Addr} {i : Nat} {items : Array Value} {Q : Option Value → Shared → Prop} (hot : HotAt A x1 s.heap)
    (hit : s.heap.IsListIter it l i) (hl : s.heap.IsList l items) (hx : items[i]? = none)
    (hQ : ∀ h', (∀ b o, b ≠ it → s.heap.get? b = some o → h'.get? b = some o) → Q none { s with heap := h' }) : wpAny (model prog w) A (pyNext (.ref it)) Q E s := by
  obtain ⟨o, ho, hc, hd⟩ := id hit
  obtain ⟨ol, hol, _, nl, hdl⟩ := hl
  obtain ⟨hh, o1, vs1, h1, d1, c1⟩ := hot
  have ne := hot_off ho hd rfl h1 d1 c1
  unfold pyNext
  refine wpAny_bind (wpAny_attempt (wpAny_callSpecial?_slot (name := Str.ofString "__next__") hit.typeIs slot_listiter_next
    (wpAny_call_entry slot_listiter_next hit.typeIs entry_listiter_next ?_ (args_listiter_next _))))
  show wpAny _ _ (field (.ref it) 0 >>= _) _ _ s
  refine wpAny_bind (wpAny_field ho hd (x := .ref l) rfl ?_)
  show wpAny _ _ (if (Value.ref l == Value.none) = true then _ else _) _ _ s
  rw [if_neg (show ¬ ((Value.ref l == Value.none) = true) from Bool.false_ne_true)]
  show wpAny _ _ (field (.ref it) 1 >>= _) _ _ s
  refine wpAny_bind (wpAny_field ho hd (x := .int i 0) rfl ?_)
  show wpAny _ _ (seqItems? (.ref l) >>= _) _ _ s
  refine wpAny_bind (wpAny_seqItems hol hdl ?_)
  simp only [Int.toNat_natCast, hx]
  refine wpAny_bind (wpAny_rule (wpAny_bind (wpAny_setField ho hd (by simp) ?_)))
  have h1' := (Heap.get?_update_other s.heap (Obj.mapFields (·.setIfInBounds 0 .none)) ne).trans h1
  show wpAny _ _ (newExc (.type "StopIteration") [] >>= _) _ _ _
  refine wpAny_bind ?_
  simp only [newExc, newTuple]
  refine wpAny_bind (wpAny_newObj_type ?_ (by size_fits))
  refine wpAny_bind (m := firstArgMember _ _) (wpAny_of_eq (a := Value.none) (by first | rfl | (simp only [firstArgMember]; rfl)) ?_)
  refine wpAny_newObj_type ?_ (by size_fits)
  refine raiseNew_hot ⟨hh, o1, vs1, Heap.get?_push_of_some _ (Heap.get?_push_of_some _ h1'), d1, c1⟩ (Nat.ne_of_lt (Heap.lt_size (Heap.get?_push_of_some _ h1'))) (Heap.get?_push_size _ rfl) rfl (by first | (simp; done) | (simp; omega) | (simp only [Array.size_append]; simp; omega)) ?_
  refine wpAny_bind (wpAny_isInstance (T := "StopIteration") (b := true) ⟨_, Heap.get?_update_self _ (Heap.get?_push_size _ rfl) rfl, rfl⟩ isSubtype_stop ?_)
  refine wpAny_pure (hQ _ fun b o hb e => ?_)
  have e' := (Heap.get?_update_other s.heap (Obj.mapFields (·.setIfInBounds 0 .none)) (Ne.symm hb)).trans e
  rw [Heap.get?_update_other _ _ (Nat.ne_of_gt (Heap.lt_size (Heap.get?_push_of_some _ e')))]
  exact Heap.get?_push_of_some _ (Heap.get?_push_of_some _ e')
theorem tuple_end_hot {it l x1 : Addr} {i : Nat} {items : Array Value} {Q : Option Value → Shared → Prop} (hot : HotAt A x1 s.heap)
    (hit : IsTupIter s.heap it l i) (hl : IsTup s.heap l items) (hx : items[i]? = none)
    (hQ : ∀ h', (∀ b o, b ≠ it → s.heap.get? b = some o → h'.get? b = some o) → Q none { s with heap := h' }) : wpAny (model prog w) A (pyNext (.ref it)) Q E s := by
  obtain ⟨o, ho, hc, hd⟩ := id hit
  obtain ⟨ol, hol, _, nl, hdl⟩ := hl
  obtain ⟨hh, o1, vs1, h1, d1, c1⟩ := hot
  have ne := hot_off ho hd rfl h1 d1 c1
  unfold pyNext
  refine wpAny_bind (wpAny_attempt (wpAny_callSpecial?_slot (name := Str.ofString "__next__") hit.typeIs slot_tupleiter_next
    (wpAny_call_entry slot_tupleiter_next hit.typeIs entry_tupleiter_next ?_ (args_tupleiter_next _))))
  show wpAny _ _ (field (.ref it) 0 >>= _) _ _ s
  refine wpAny_bind (wpAny_field ho hd (x := .ref l) rfl ?_)
  show wpAny _ _ (if (Value.ref l == Value.none) = true then _ else _) _ _ s
  rw [if_neg (show ¬ ((Value.ref l == Value.none) = true) from Bool.false_ne_true)]
  show wpAny _ _ (field (.ref it) 1 >>= _) _ _ s
  refine wpAny_bind (wpAny_field ho hd (x := .int i 0) rfl ?_)
  show wpAny _ _ (seqItems? (.ref l) >>= _) _ _ s
  refine wpAny_bind (wpAny_seqItems hol hdl ?_)
  simp only [Int.toNat_natCast, hx]
  refine wpAny_bind (wpAny_rule (wpAny_bind (wpAny_setField ho hd (by simp) ?_)))
  have h1' := (Heap.get?_update_other s.heap (Obj.mapFields (·.setIfInBounds 0 .none)) ne).trans h1
  show wpAny _ _ (newExc (.type "StopIteration") [] >>= _) _ _ _
  refine wpAny_bind ?_
  simp only [newExc, newTuple]
  refine wpAny_bind (wpAny_newObj_type ?_ (by size_fits))
  refine wpAny_bind (m := firstArgMember _ _) (wpAny_of_eq (a := Value.none) (by first | rfl | (simp only [firstArgMember]; rfl)) ?_)
  refine wpAny_newObj_type ?_ (by size_fits)
  refine raiseNew_hot ⟨hh, o1, vs1, Heap.get?_push_of_some _ (Heap.get?_push_of_some _ h1'), d1, c1⟩ (Nat.ne_of_lt (Heap.lt_size (Heap.get?_push_of_some _ h1'))) (Heap.get?_push_size _ rfl) rfl (by first | (simp; done) | (simp; omega) | (simp only [Array.size_append]; simp; omega)) ?_
  refine wpAny_bind (wpAny_isInstance (T := "StopIteration") (b := true) ⟨_, Heap.get?_update_self _ (Heap.get?_push_size _ rfl) rfl, rfl⟩ isSubtype_stop ?_)
  refine wpAny_pure (hQ _ fun b o hb e => ?_)
  have e' := (Heap.get?_update_other s.heap (Obj.mapFields (·.setIfInBounds 0 .none)) (Ne.symm hb)).trans e
  rw [Heap.get?_update_other _ _ (Nat.ne_of_gt (Heap.lt_size (Heap.get?_push_of_some _ e')))]
  exact Heap.get?_push_of_some _ (Heap.get?_push_of_some _ e')
theorem HotAt.keep {x1 : Addr} {h h' : Heap} (hot : HotAt A x1 h) (k : ∀ o, h.get? x1 = some o → h'.get? x1 = some o) : HotAt A x1 h' := by
  obtain ⟨hh, o, vs, h1, d, c⟩ := hot
  exact ⟨hh, o, vs, k o h1, d, c⟩
theorem HotAt.lt {x1 : Addr} {h : Heap} (hot : HotAt A x1 h) : x1 < h.objs.size := by
  obtain ⟨hh, o, vs, h1, d, c⟩ := hot
  exact Heap.lt_size h1
/-- a tuple taken apart -/
theorem unpack_hot {t x1 : Addr} {items : Array Value} {Q : List Value → Shared → Prop} (hot : HotAt A x1 s.heap) (ht : IsTup s.heap t items)
    (hQ : ∀ h', Heap.ExtBut s.heap.objs.size s.heap h' → Q items.toList { s with heap := h' }) : wpAny (model prog w) A (unpackItems (.ref t) items.size none) Q E s := by
  have hlt : t ≠ s.heap.objs.size := by obtain ⟨o, ho, _⟩ := ht; exact Nat.ne_of_lt (Heap.lt_size ho)
  have hl := HotAt.lt hot
  unfold unpackItems
  refine wpAny_bind ?_
  unfold notIterableAtAll
  refine wpAny_bind (wpAny_specialOf ht.typeIs slot_tuple_iter.lookup (wpAny_pure ?_))
  simp only [Bool.false_eq_true, if_false]
  refine wpAny_bind (wpAny_holding (iter_tuple ht (wpAny_bind (wpAny_holding (draw_tuple hlt items.size 0 _ _ ⟨_, Heap.get?_push_size _ rfl, rfl, rfl⟩ (ht.push _) (by omega) fun h₁ hit₁ hs₁ => ?_)))))
  have hall : List.take items.size (List.drop 0 items.toList) = items.toList := by
    rw [List.drop_zero]; exact List.take_of_length_le (by simp)
  rw [hall, if_neg (by simp)]
  have hot1 : HotAt A x1 h₁ := HotAt.keep hot fun o e => hs₁.extBut x1 o (Nat.ne_of_lt hl) (Heap.get?_push_of_some _ e)
  refine wpAny_bind (wpAny_holding (tuple_end_hot hot1 hit₁ ((ht.push _).extBut hs₁.extBut hlt) (by simp) fun h₂ he₂ => ?_))
  simp only [Option.isSome_none, Bool.false_eq_true, if_false]
  exact wpAny_pure (hQ h₂ fun b o hb e => he₂ b o hb (hs₁.extBut b o hb (Heap.get?_push_of_some _ e)))
theorem assign_tuple_hot {env : PySem.Env} {elts : List Expr} {x1 : Addr} {k} {pos : Pos} {t : Addr} {items : Array Value} {Q : Unit → Shared → Prop} (hot : HotAt A x1 s.heap) (ht : IsTup s.heap t items)
    (hn : (assignEach elts env).length = items.size) (hstar : (assignEach elts env).findIdx? (·.1) = none)
    (h : ∀ h', Heap.ExtBut s.heap.objs.size s.heap h' → wpAny (model prog w) A (assignInOrder ((assignEach elts env).map (·.2)) items.toList) Q E { s with heap := h' }) :
    wpAny (model prog w) A (assign (.Tuple elts k pos) env (.ref t)) Q E s := by
  rw [assign_Tuple]
  refine wpAny_bind (wpAny_standAt ?_)
  unfold unpack
  rw [hn, hstar]
  exact wpAny_bind (wpAny_holding (unpack_hot hot ht h))
end
section
variable {X : Cx} {pos : Pos} {tg : Expr}
theorem pg_tupH {es : List Expr} {k : Nat} {t : TGs} {n : Nat} (hc : HotC X) (h : PGs X es t)
    (hn : (assignEach es X.env).length = n) (hst : (assignEach es X.env).findIdx? (·.1) = none) : PG X (.Tuple es k pos) (gTup X.K n t) := by
  refine ⟨fun pins s σ H v u Q I r hw => ?_⟩
  obtain ⟨a, xs, e1, hq, hl, hw⟩ := hw
  subst e1
  cases r
  obtain ⟨its, rv, ht, hz⟩ := I.tuple hq
  obtain ⟨x1, hot⟩ := hc.at I
  refine assign_tuple_hot hot ht (by simp [hn, ← hl, rv.length]) hst fun h' hx => ?_
  exact h.run pins _ σ H xs _ Q (I.kept (t' := s.toks) fun b o e => hx b o (Nat.ne_of_lt (Heap.lt_size e)) e) (by simpa using rv) hw
theorem turn_listH {P : Program} {w : World} {K : PySem.W.Frag} {tg : Expr} (a it : Addr) : TurnH P w K tg (Itl K a) [it] it (fun i h => h.IsListIter it a i) where
  mem := (turn_list (P := P) (w := w) (K := K) (tg := tg) a it).mem
  obj := (turn_list (P := P) (w := w) (K := K) (tg := tg) a it).obj
  keep := (turn_list (P := P) (w := w) (K := K) (tg := tg) a it).keep
  item := by
    intro X hP hw hK hc i pins s σ H E I hf st hg
    subst hP hw hK
    obtain ⟨xs, x, hq, hx⟩ := hg
    obtain ⟨its, rv, p, hz⟩ := I.list hq
    obtain ⟨u, hu, ru⟩ := rv.get hx
    obtain ⟨f0, f1, f2, f3, f4, f5⟩ := hf it (by simp)
    refine wpAny_pyNext_list_item st p.isList (x := u) (by simpa using hu) fun h' st' sb => ?_
    have I1 : Inv X pins σ H { s with heap := h' } := I.turned (t' := s.toks) (fun b o hb e => (sb.2 b hb).trans e) f0 f1 f3 f4 f5
    obtain ⟨o, e, c, d⟩ := id st'
    exact ⟨u, rfl, go_of (s := { s with heap := h' }) e c d (by decide) ⟨x, H, I1, ru, ⟨rfl, fun ys hy => by rw [I.list_inj hy hq]; exact hx⟩, st', fun b hb => (hf b hb).1⟩⟩
  done := by
    intro X hP hw hK hc i pins s σ H E I hf st hg
    subst hP hw hK
    obtain ⟨xs, hq, hx⟩ := hg
    obtain ⟨its, rv, p, hz⟩ := I.list hq
    obtain ⟨f0, f1, f2, f3, f4, f5⟩ := hf it (by simp)
    obtain ⟨x1, hot⟩ := hc.at I
    have hl := rv.length
    exact list_end_hot hot st p.isList (by simp; omega) fun h' eb => ⟨rfl, I.turned (t' := s.toks) (fun b o hb e => eb b o hb e) f0 f1 f3 f4 f5⟩
  self := (turn_list (P := P) (w := w) (K := K) (tg := tg) a it).self
theorem turn_tupleH {P : Program} {w : World} {K : PySem.W.Frag} {tg : Expr} (a it : Addr) : TurnH P w K tg (Itt K a) [it] it (fun i h => h.IsTupleIter it a i) where
  mem := (turn_tuple (P := P) (w := w) (K := K) (tg := tg) a it).mem
  obj := (turn_tuple (P := P) (w := w) (K := K) (tg := tg) a it).obj
  keep := (turn_tuple (P := P) (w := w) (K := K) (tg := tg) a it).keep
  item := by
    intro X hP hw hK hc i pins s σ H E I hf st hg
    subst hP hw hK
    obtain ⟨xs, x, hq, hx⟩ := hg
    obtain ⟨its, rv, p, hz⟩ := I.tuple hq
    obtain ⟨u, hu, ru⟩ := rv.get hx
    obtain ⟨f0, f1, f2, f3, f4, f5⟩ := hf it (by simp)
    refine wpAny_pyNext_tuple_item st (show s.heap.IsTuple a its.toArray from p) (x := u) (by simpa using hu) fun h' st' sb => ?_
    have I1 : Inv X pins σ H { s with heap := h' } := I.turned (t' := s.toks) (fun b o hb e => (sb.2 b hb).trans e) f0 f1 f3 f4 f5
    obtain ⟨o, e, c, d⟩ := id st'
    exact ⟨u, rfl, go_of (s := { s with heap := h' }) e c d (by decide) ⟨x, H, I1, ru, ⟨rfl, fun ys hy => by rw [I.tuple_inj hy hq]; exact hx⟩, st', fun b hb => (hf b hb).1⟩⟩
  done := by
    intro X hP hw hK hc i pins s σ H E I hf st hg
    subst hP hw hK
    obtain ⟨xs, hq, hx⟩ := hg
    obtain ⟨its, rv, p, hz⟩ := I.tuple hq
    obtain ⟨f0, f1, f2, f3, f4, f5⟩ := hf it (by simp)
    obtain ⟨x1, hot⟩ := hc.at I
    have hl := rv.length
    exact tuple_end_hot hot st p (by simp; omega) fun h' eb => ⟨rfl, I.turned (t' := s.toks) (fun b o hb e => eb b o hb e) f0 f1 f3 f4 f5⟩
  self := (turn_tuple (P := P) (w := w) (K := K) (tg := tg) a it).self
theorem pi_seqH {l : Expr} {tl : TE} (hl : PE X l tl) : PIH X tg l (iSeq X.K tl) := by
  refine ⟨fun pins s σ H R I h => ?_⟩
  refine thn (hl.run pins s σ H _ I h) fun v s1 ⟨x, H1, I1, r1, q1⟩ => ?_
  obtain ⟨a, e, q⟩ := q1
  subst e
  cases r1
  have fresh1 : ∀ b, b ∈ [s1.heap.objs.size] → FpOk X pins H1 b := fun b hb => by
    have e : b = s1.heap.objs.size := by simpa using hb
    subst e
    exact I1.fpOk (Nat.le_refl _) (I1.hok.fresh (Nat.le_refl _))
  rcases q with ⟨⟨xs, hq⟩, q⟩ | ⟨⟨xs, hq⟩, q⟩
  · obtain ⟨its, rv, p, hz⟩ := I1.list hq
    refine wpAny_pyIter_list p.isList ?_
    exact ⟨s1.heap.objs.size, [s1.heap.objs.size], _, _, H1, rfl, I1.kept (t' := s1.toks) fun b o e => Heap.get?_push_of_some _ e, turn_listH a _, ⟨_, Heap.get?_push_size _ rfl, rfl, rfl⟩, fresh1, q⟩
  · obtain ⟨its, rv, p, hz⟩ := I1.tuple hq
    refine wpAny_pyIter_tuple (show s1.heap.IsTuple a its.toArray from p) ?_
    exact ⟨s1.heap.objs.size, [s1.heap.objs.size], _, _, H1, rfl, I1.kept (t' := s1.toks) fun b o e => Heap.get?_push_of_some _ e, turn_tupleH a _, ⟨_, Heap.get?_push_size _ rfl, rfl, rfl⟩, fresh1, q⟩
end
end Ev

set_option maxRecDepth 100000
set_option maxHeartbeats 1000000
/-! Ev14: calls of defs and of lambdas, by depth; what a call leaves behind is let go. -/
namespace Ev
open PySem PySem.Spec PyProof.Rows L2

/-! ### what is let go -/
mutual
/-- it names no cell from n on -/
def okV (n : Nat) : W → Bool
  | .undef => false
  | .tup ws => okVs n ws
  | .ktup ws => okVs n ws
  | .lst ws => okVs n ws
  | .tmp ws => okVs n ws
  | .loc i => decide (i < n)
  | _ => true
def okVs (n : Nat) : List W → Bool
  | [] => true
  | w :: ws => okV n w && okVs n ws
end
def okC (n : Nat) : Cell → Bool
  | .lst ws => okVs n ws
  | .dK kvs => okVs n (kvs.map (·.2))
  | .dT kvs => okVs n (kvs.map (·.2))
/-- the cells ahead of n name none from n on -/
def okS (n : Nat) (st : Store) : Prop := ∀ c ∈ st.take n, okC n c = true
/-- a call's end: all cells are kept, or the new ones are let go; a new list that is told comes as one that nobody holds, or as a cell -/
def retW (n : Nat) (st : Store) (w : W) (k : W → Store → Prop) : Prop :=
  k w st ∨ (okV n w = true ∧ okS n st ∧ k w (st.take n)) ∨
  (∃ j ws, w = .loc j ∧ n ≤ j ∧ st[j]? = some (.lst ws) ∧ okVs n ws = true ∧ okS n st ∧ k (.tmp ws) (st.take n)) ∨
  (∃ j c, w = .loc j ∧ n ≤ j ∧ st[j]? = some c ∧ okC n c = true ∧ okS n st ∧ k (.loc n) (st.take n ++ [c]))
def excW (n : Nat) (st : Store) (w : W) (k : W → Store → Prop) : Prop := k w st ∨ (okV n w = true ∧ okS n st ∧ k w (st.take n))
def initW (f : Fn) (ws : List W) : Env := (if f.nc = true then [.undef] else []) ++ ws ++ List.replicate (f.n - (ws.length + if f.nc = true then 1 else 0)) .undef
def callW (P : Prog) : Nat → CallSem
  | 0 => ⟨fun _ _ _ _ _ _ => False, fun _ _ _ _ => False⟩
  | d + 1 => ⟨fun g co ws st Q X => ∃ f, P.fns[g]? = some f ∧ f.nc = co.isSome ∧ f.np = ws.length ∧ wpSs (callW P d) P ⟨co, none⟩ f.body (initW f ws) st
      { nx := fun _ st' => retW st.length st' .non Q, rt := fun w st' => retW st.length st' w Q, bk := fun _ _ => False, ct := fun _ _ => False, ex := fun c w _ st' => excW st.length st' w (X c) },
    fun c st Q X => ∃ l, P.lams[c.l]? = some l ∧ wpE (callW P d) P X0 l.body c.env st Q X⟩

section
variable {G : Gam} {k : Kn} {C : CallSem} {cl : Ex} {Wx : WX} {X : Cx} {σ : L2.St} {Hv H Hv' H' : Hp} {env : Env} {st st' : Store} {ρ ρ' ρ2 : Nat → Addr} {n n' n2 : Nat}
/-! ### told of fewer cells -/
structure Re (n : Nat) (ρ : Nat → Addr) (n' : Nat) (Hv : Hp) (ρ2 : Nat → Addr) (n2 : Nat) (Hv2 : Hp) : Prop where
  lo : ∀ i, i < n → i < n2 ∧ ρ2 i = ρ i
  in_ : ∀ i, i < n2 → ∃ j, j < n' ∧ ρ2 i = ρ j
  keep : ∀ a o, Hv a = some o → (∀ i, i < n' → ρ i ≠ a) → Hv2 a = some o
theorem Re.off {Hv2 : Hp} (r : Re n ρ n' Hv ρ2 n2 Hv2) {a : Addr} (h : ∀ i, i < n' → ρ i ≠ a) : ∀ i, i < n2 → ρ2 i ≠ a := fun i hi z => by
  obtain ⟨j, hj, e⟩ := r.in_ i hi
  exact h j hj (by rw [← e]; exact z)
mutual
theorem Re.rv {Hv2 : Hp} (r : Re n ρ n' Hv ρ2 n2 Hv2) : ∀ (w : W) (v : V), okV n w = true → RV G ρ n' Hv w v → RV G ρ2 n2 Hv2 w v
  | .undef, _, _, h => h.elim
  | .non, _, _, h => h
  | .bl _, _, _, h => h
  | .int _, _, _, h => h
  | .str _, _, _, h => h
  | .tup ws, v, ok, h => by
    obtain ⟨a, vs, e, hs, hn, hr⟩ := h
    exact ⟨a, vs, e, r.keep a _ hs hn, r.off hn, Re.rvs r ws vs ok hr⟩
  | .ktup ws, v, ok, h => by
    obtain ⟨a, vs, e, hs, hr⟩ := h
    exact ⟨a, vs, e, hs, Re.rvs r ws vs ok hr⟩
  | .lst ws, v, ok, h => by
    obtain ⟨a, vs, e, hs, hn, hr⟩ := h
    exact ⟨a, vs, e, r.keep a _ hs hn, r.off hn, Re.rvs r ws vs ok hr⟩
  | .tmp _, _, _, h => h.elim
  | .scr ns, v, _, h => by
    obtain ⟨a, e, h⟩ := h
    refine ⟨a, e, ?_⟩
    rcases h with ⟨h | ⟨o, h⟩, hn⟩ | h
    · exact .inl ⟨.inl (r.keep a _ h hn), r.off hn⟩
    · exact .inl ⟨.inr ⟨o, r.keep a _ h hn⟩, r.off hn⟩
    · exact .inr h
  | .loc i, v, ok, h => by
    obtain ⟨h1, h2⟩ := h
    obtain ⟨q1, q2⟩ := r.lo i (of_decide_eq_true ok)
    exact ⟨q1, by rw [q2]; exact h2⟩
  | .fn _, _, _, h => h
theorem Re.rvs {Hv2 : Hp} (r : Re n ρ n' Hv ρ2 n2 Hv2) : ∀ (ws : List W) (vs : List V), okVs n ws = true → RVs G ρ n' Hv ws vs → RVs G ρ2 n2 Hv2 ws vs
  | [], _, _, h => h
  | w :: ws, vs, ok, h => by
    obtain ⟨v, q, e, h1, h2⟩ := h
    have ok' : (okV n w && okVs n ws) = true := ok
    simp only [Bool.and_eq_true] at ok'
    exact ⟨v, q, e, Re.rv r w v ok'.1 h1, Re.rvs r ws q ok'.2 h2⟩
end
theorem Re.rks {Hv2 : Hp} {κ : Type} (r : Re n ρ n' Hv ρ2 n2 Hv2) : ∀ (ws : List (κ × W)) (vs : List (κ × V)), okVs n (ws.map (·.2)) = true → RKs G ρ n' Hv ws vs → RKs G ρ2 n2 Hv2 ws vs
  | [], _, _, h => h
  | w :: ws, vs, ok, h => by
    obtain ⟨v, q, e, h1, h2⟩ := h
    have ok' : (okV n w.2 && okVs n (ws.map (·.2))) = true := ok
    simp only [Bool.and_eq_true] at ok'
    exact ⟨v, q, e, Re.rv r w.2 v ok'.1 h1, Re.rks r ws q ok'.2 h2⟩
theorem Re.rc {Hv2 : Hp} (r : Re n ρ n' Hv ρ2 n2 Hv2) {c : Cell} {o : HO} (ok : okC n c = true) (h : RC G ρ n' Hv c o) : RC G ρ2 n2 Hv2 c o := by
  cases c with
  | lst ws => obtain ⟨vs, e, h⟩ := h; exact ⟨vs, e, r.rvs ws vs ok h⟩
  | dK ws => obtain ⟨vs, e, h⟩ := h; exact ⟨vs, e, r.rks ws vs ok h⟩
  | dT ws => obtain ⟨vs, e, h⟩ := h; exact ⟨vs, e, r.rks ws vs ok h⟩
theorem Re.rvt {Hv2 H0 : Hp} (r : Re n ρ n' Hv ρ2 n2 Hv2) (hn : ∀ a, Hv a = none → Hv2 a = none) {w : W} {v : V} (ok : okV n w = true) (h : RVt G ρ n' Hv H H0 w v) : RVt G ρ2 n2 Hv2 H H0 w v := by
  cases w with
  | tmp ws =>
    obtain ⟨a, vs, e, h1, h2, h3, h4⟩ := h
    exact ⟨a, vs, e, h1, hn a h2, h3, r.rvs ws vs ok h4⟩
  | _ => exact r.rv _ _ ok h
theorem take_get {i : Nat} {c : Cell} (hl : n ≤ st'.length) (e : (st'.take n)[i]? = some c) : i < n ∧ st'[i]? = some c := by
  have hi := (List.getElem?_eq_some_iff.mp e).1
  rw [List.length_take] at hi
  have hi' : i < n := by omega
  rw [List.getElem?_take, if_pos hi'] at e
  exact ⟨hi', e⟩
theorem okS_get {i : Nat} {c : Cell} (h : okS n st') (hi : i < n) (e : st'[i]? = some c) : okC n c = true :=
  h c (List.mem_of_getElem? (i := i) (by rw [List.getElem?_take, if_pos hi]; exact e))
/-- the new cells are let go -/
theorem re_drop (hn : n ≤ n') : Re n ρ n' Hv ρ n Hv := ⟨fun i hi => ⟨hi, rfl⟩, fun i hi => ⟨i, by omega, rfl⟩, fun _ _ h _ => h⟩
theorem le_drop (l : Le ρ n Hv H ρ' n' Hv' H') : Le ρ n Hv H ρ' n Hv' H' := ⟨⟨Nat.le_refl _, l.lv.same, fun i h1 h2 => by omega, l.lv.keep, l.lv.vis⟩, l.hid, l.trk⟩
theorem so_drop (so : StO G ρ' Hv' H' st') (hn : n ≤ st'.length) (ok : okS n st') : StO G ρ' Hv' H' (st'.take n) where
  sub := so.sub
  sto := fun i c e => by
    obtain ⟨hi, e'⟩ := take_get hn e
    obtain ⟨o, h1, h2⟩ := so.sto i c e'
    have hl : (st'.take n).length = n := by rw [List.length_take]; omega
    exact ⟨o, h1, by rw [hl]; exact (re_drop hn).rc (okS_get ok hi e') h2⟩
  inj := fun i j hi hj => by
    rw [List.length_take] at hi hj
    exact so.inj i j (by omega) (by omega)
  tab := so.tab
  nt := so.nt
/-- a new list cell is told -/
theorem re_hide {j : Nat} (hn : n ≤ j) (hj : j < n') : Re n ρ n' Hv ρ n (minus Hv (ρ j)) := ⟨fun i hi => ⟨hi, rfl⟩, fun i hi => ⟨i, by omega, rfl⟩, fun a o e h => by rw [minus_ne fun z => h j hj z.symm]; exact e⟩
theorem le_hide (l : Le ρ n Hv H ρ' n' Hv' H') {j : Nat} (hn : n ≤ j) (hj : j < n') : Le ρ n Hv H ρ' n (minus Hv' (ρ' j)) H' where
  lv := ⟨Nat.le_refl _, l.lv.same, fun i h1 h2 => by omega, fun a o e h => by
    rw [minus_ne fun z => by have := l.lv.new j hn hj; rw [← z, e] at this; cases this]
    exact l.lv.keep a o e h, fun a e => by
    rw [minus_ne fun z => e (by rw [z]; exact l.lv.new j hn hj)]
    exact l.lv.vis a e⟩
  hid := fun a o e1 e2 e3 => by
    obtain ⟨q1, q2⟩ := l.hid a o e1 e2 e3
    refine ⟨q1, ?_⟩
    by_cases ha : a = ρ' j
    · rw [ha, minus_at]
    · rw [minus_ne ha]; exact q2
  trk := l.trk
theorem so_hide (so : StO G ρ' Hv' H' st') {j : Nat} (hn : n ≤ j) (hj : j < st'.length) (ok : okS n st') : StO G ρ' (minus Hv' (ρ' j)) H' (st'.take n) where
  sub := fun a o e => by
    by_cases ha : a = ρ' j
    · rw [ha, minus_at] at e; cases e
    · rw [minus_ne ha] at e; exact so.sub a o e
  sto := fun i c e => by
    obtain ⟨hi, e'⟩ := take_get (by omega) e
    obtain ⟨o, h1, h2⟩ := so.sto i c e'
    have hl : (st'.take n).length = n := by rw [List.length_take]; omega
    refine ⟨o, by rw [minus_ne fun z => by have := so.inj i j (by omega) hj z; omega]; exact h1, by rw [hl]; exact (re_hide hn hj).rc (okS_get ok hi e') h2⟩
  inj := fun i j hi hj => by
    rw [List.length_take] at hi hj
    exact so.inj i j (by omega) (by omega)
  tab := so.tab
  nt := fun a o e => by
    by_cases ha : a = ρ' j
    · rw [ha, minus_at] at e; cases e
    · rw [minus_ne ha] at e; exact so.nt a o e
/-- .. as a cell -/
theorem re_move {j : Nat} (hn : n ≤ j) (hj : j < n') : Re n ρ n' Hv (ext ρ n (ρ j)) (n + 1) Hv := ⟨fun i hi => ⟨by omega, ext_lt hi⟩, fun i hi => by
  by_cases h : i < n
  · exact ⟨i, by omega, ext_lt h⟩
  · have e : i = n := by omega
    subst e
    exact ⟨j, hj, ext_at⟩, fun _ _ h _ => h⟩
theorem le_move (l : Le ρ n Hv H ρ' n' Hv' H') {j : Nat} (hn : n ≤ j) (hj : j < n') : Le ρ n Hv H (ext ρ' n (ρ' j)) (n + 1) Hv' H' := ⟨⟨Nat.le_succ _, fun i hi => by rw [ext_lt hi]; exact l.lv.same i hi, fun i h1 h2 => by
  have e : i = n := by omega
  subst e
  rw [ext_at]
  exact l.lv.new j hn hj, l.lv.keep, l.lv.vis⟩, l.hid, l.trk⟩
theorem so_move (so : StO G ρ' Hv' H' st') {j : Nat} {c : Cell} (hn : n ≤ j) (hj : st'[j]? = some c) (ok : okS n st') (okc : okC n c = true) : StO G (ext ρ' n (ρ' j)) Hv' H' (st'.take n ++ [c]) where
  sub := so.sub
  sto := fun i d e => by
    have hjl := (List.getElem?_eq_some_iff.mp hj).1
    have hl : (st'.take n).length = n := by rw [List.length_take]; omega
    have hl2 : (st'.take n ++ [c]).length = n + 1 := by rw [List.length_append, hl]; rfl
    rw [hl2]
    by_cases hi : i < n
    · rw [List.getElem?_append_left (by omega)] at e
      obtain ⟨_, e'⟩ := take_get (by omega) e
      obtain ⟨o, h1, h2⟩ := so.sto i d e'
      exact ⟨o, by rw [ext_lt hi]; exact h1, (re_move hn hjl).rc (okS_get ok hi e') h2⟩
    · have hi2 : i = n := by
        have := (List.getElem?_eq_some_iff.mp e).1
        omega
      rw [List.getElem?_append_right (by omega), hl, hi2] at e
      simp at e
      subst e
      obtain ⟨o, h1, h2⟩ := so.sto j _ hj
      exact ⟨o, by rw [hi2, ext_at]; exact h1, (re_move hn hjl).rc okc h2⟩
  inj := fun i i' hi hi' e => by
    have hjl := (List.getElem?_eq_some_iff.mp hj).1
    rw [List.length_append, List.length_take, List.length_singleton] at hi hi'
    by_cases h1 : i < n
    · by_cases h2 : i' < n
      · rw [ext_lt h1, ext_lt h2] at e
        exact so.inj i i' (by omega) (by omega) e
      · have e2 : i' = n := by omega
        rw [e2, ext_lt h1, ext_at] at e
        have := so.inj i j (by omega) hjl e
        omega
    · by_cases h2 : i' < n
      · have e1 : i = n := by omega
        rw [e1, ext_lt h2, ext_at] at e
        have := so.inj j i' hjl (by omega) e
        omega
      · omega
  tab := so.tab
  nt := so.nt
/-- a call's end -/
theorem ret_ok {Qw : Post} {Q : VK} {w : W} {v : V} (P : PostE G ρ st.length Hv H Qw Q) (l : Le ρ st.length Hv H ρ' st'.length Hv' H') (so : StO G ρ' Hv' H' st') (r : RVt G ρ' st'.length Hv' H' H w v) (q : retW st.length st' w Qw) (hH : StO G ρ Hv H st) : Q v H' := by
  have hn : st.length ≤ st'.length := l.lv.le
  have hl : (st'.take st.length).length = st.length := by rw [List.length_take]; omega
  rcases q with q | ⟨ok, os, q⟩ | ⟨j, ws, rfl, hj, hs, okw, os, q⟩ | ⟨j, c, rfl, hj, hs, okc, os, q⟩
  · exact P _ _ _ _ _ _ q l so r
  · refine P _ _ v Hv' H' ρ' q (by rw [hl]; exact le_drop l) (so_drop so hn os) ?_
    rw [hl]
    exact (re_drop hn).rvt (fun _ h => h) ok r
  · have hjl := (List.getElem?_eq_some_iff.mp hs).1
    obtain ⟨_, rfl⟩ := r
    obtain ⟨o, h1, vs, rfl, h2⟩ := so.sto j _ hs
    refine P _ _ _ (minus Hv' (ρ' j)) H' ρ' q (by rw [hl]; exact le_hide l hj hjl) (so_hide so hj hjl os) ?_
    rw [hl]
    refine ⟨ρ' j, vs, rfl, so.sub _ _ h1, minus_at, ?_, (re_hide hj hjl).rvs ws vs okw h2⟩
    intro o e
    refine Classical.byContradiction fun ht => ?_
    have := (l.hid _ o e (l.lv.new j hj hjl) (fun ps z => ht ⟨ps, z⟩)).2
    rw [h1] at this
    cases this
  · have hjl := (List.getElem?_eq_some_iff.mp hs).1
    obtain ⟨_, rfl⟩ := r
    have hl2 : (st'.take st.length ++ [c]).length = st.length + 1 := by rw [List.length_append, hl]; rfl
    refine P _ _ _ Hv' H' (ext ρ' st.length (ρ' j)) q (by rw [hl2]; exact le_move l hj hjl) (so_move so hj hs os okc) ?_
    rw [hl2]
    exact ⟨by omega, by rw [ext_at]⟩
/-- what is wanted of an error that leaves a call -/
def PostXE (G : Gam) (ρ : Nat → Addr) (n : Nat) (Hv H : Hp) (Xw : XPost) (E : XK) : Prop :=
  ∀ c w st' Hv' H' ρ' d, Xw c w st' → Le ρ n Hv H ρ' st'.length Hv' H' → StO G ρ' Hv' H' st' → RX G ρ' st'.length Hv' w d → E (.ref (G.ca c)) (some d) H'
theorem exc_ok {Xw : XPost} {E : XK} {w : W} {c : Nat} {d : Addr} (P : PostXE G ρ st.length Hv H Xw E) (l : Le ρ st.length Hv H ρ' st'.length Hv' H') (so : StO G ρ' Hv' H' st') (r : RX G ρ' st'.length Hv' w d) (q : excW st.length st' w (Xw c)) : E (.ref (G.ca c)) (some d) H' := by
  have hn : st.length ≤ st'.length := l.lv.le
  have hl : (st'.take st.length).length = st.length := by rw [List.length_take]; omega
  rcases q with q | ⟨ok, os, q⟩
  · exact P _ _ _ _ _ _ _ q l so r
  · refine P _ _ _ Hv' H' ρ' d q (by rw [hl]; exact le_drop l) (so_drop so hn os) ?_
    rw [hl]
    obtain ⟨y, e, ho, rv⟩ := r
    exact ⟨y, e, (re_drop (Hv := Hv') hn).off ho, (re_drop hn).rv _ _ ok rv⟩
end
end Ev

set_option maxRecDepth 100000
set_option maxHeartbeats 1000000
/-! Ev15: calls of defs and of lambdas: the judgements. -/
namespace Ev
open PySem PySem.Spec PyProof.Rows L2

def Rd (d : Nat) : Nat := d + 2
/-- the lambda at fl keeps its promise, whenever it is called behind (sC, HC) -/
def CloAt (G : Gam) (d : Nat) (c : Clo) (fl : Addr) (fs : List Addr) (sC : Shared) (HC HvC : Hp) (ρC : Nat → Addr) (nC : Nat) : Prop :=
  ∀ (A : Around) (outer : List PySem.Env) (s1 : Shared) (HZ HvZ : Hp) (stZ : Store) (ρZ : Nat → Addr) (Q : VK) (E : XK) (Qw : Post) (Xw : XPost), Room (Rd d) A → Env0 G.prog G.w G.K G.mg G.base A outer s1 HZ → Un fs [] HC HZ sC.heap s1.heap → Le ρC nC HvC HC ρZ stZ.length HvZ HZ → StO G ρZ HvZ HZ stZ →
    (callW G.P d).clo c stZ Qw Xw → PostE G ρZ stZ.length HvZ HZ Qw Q → PostXE G ρZ stZ.length HvZ HZ Xw E →
    PySem.W.FnAt fl s1.heap ∧ codeAny (model G.prog G.w) A (.call (.ref fl) ⟨[], []⟩) (CR (L2N.CX G.prog G.w) outer G.prog G.w HZ s1 Q E) s1
/-- .. at a def's entry -/
def CloK (G : Gam) (d : Nat) (c : Clo) (fl : Addr) (outer : List PySem.Env) (s0 : Shared) (H0 Hv0 : Hp) (ρ0 : Nat → Addr) (n0 : Nat) : Prop :=
  ∃ (fs : List Addr) (sC : Shared) (ρC : Nat → Addr) (nC : Nat) (HvC HC : Hp), (∀ d', d' < d → CloAt G d' c fl fs sC HC HvC ρC nC) ∧ Un fs [] HC H0 sC.heap s0.heap ∧ Le ρC nC HvC HC ρ0 n0 Hv0 H0 ∧ ∀ b ∈ frs outer, b ∈ fs ∨ sC.heap.get? b = none
/-- what a def is called with ahead of its values -/
def CloArg (G : Gam) (d : Nat) (co : Option Clo) (cus : List Value) (outer : List PySem.Env) (s0 : Shared) (H0 Hv0 : Hp) (ρ0 : Nat → Addr) (n0 : Nat) : Prop :=
  match co with
  | none => cus = []
  | some c => ∃ fl, cus = [.ref fl] ∧ CloK G d c fl outer s0 H0 Hv0 ρ0 n0
def FOK (G : Gam) (d : Nat) : Prop := ∀ (g : Nat) (A : Around) (outer : List PySem.Env) (s : Shared) (H Hv : Hp) (st : Store) (ρ : Nat → Addr) (co : Option Clo) (cus us : List Value) (ws : List W) (vs : List V) (Qw : Post) (Xw : XPost) (Q : VK) (E : XK),
  Room (Rd d) A → Env0 G.prog G.w G.K G.mg G.base A outer s H → StO G ρ Hv H st → RVs G ρ st.length Hv ws vs → Vals vs us → CloArg G d co cus outer s H Hv ρ st.length → (callW G.P d).fn g co ws st Qw Xw → PostE G ρ st.length Hv H Qw Q → PostXE G ρ st.length Hv H Xw E →
  codeAny (model G.prog G.w) A (.call (.ref (G.fa g)) ⟨cus ++ us, []⟩) (CR (L2N.CX G.prog G.w) outer G.prog G.w H s Q E) s
/-- Un behind Un, the second with frames that the first has not seen -/
theorem un_trans {fs fs2 : List Addr} {H H1 H2 : Hp} {h h1 h2 : Heap} (a : Un fs [] H H1 h h1) (b : Un fs2 [] H1 H2 h1 h2) (hf : ∀ b ∈ fs2, b ∈ fs ∨ h.get? b = none) : Un fs [] H H2 h h2 where
  keep := fun c ob q n hc hx => b.keep c ob (a.keep c ob q n hc hx) (a.free c ob q n hx) (fun z => by
    rcases hf c z with e | e
    · exact hc e
    · rw [q] at e; cases e) hx
  slot := fun c ob q n hc hx => by
    obtain ⟨sl, e1⟩ := a.slot c ob q n hc hx
    obtain ⟨sl', e2⟩ := b.any e1 (a.free c ob q n hx) hx
    exact ⟨sl', e2⟩
  free := fun c ob q n hx => by
    obtain ⟨o', e1⟩ := a.there c ob q hx
    exact b.free c o' e1 (a.free c ob q n hx) hx
  there := fun c ob q hx => by
    obtain ⟨o', e1⟩ := a.there c ob q hx
    exact b.there c o' e1 hx
  tups := fun c xs q => b.tups c xs (a.tups c xs q)
  frzs := fun c ob xs q => b.frzs c ob xs (a.frzs c ob xs q)
  tbls := fun c ps q => by
    obtain ⟨m1, e1⟩ := a.tbls c ps q
    obtain ⟨m2, e2⟩ := b.tbls c _ e1
    exact ⟨m1 ++ m2, by rw [e2, Array.append_assoc]⟩
/-- a context's lambda -/
structure XClo (G : Gam) (d : Nat) (cl : Ex) (k : Kn) (X : Cx) : Prop where
  ex : ∀ c, cl.cl = some c → ∃ fl, k.v0 = some (.ref fl) ∧ X.ex = [] ∧ X.H_0 = k.H0 ∧ CloK G (d + 1) c fl X.outer X.s_0 k.H0 k.Hv0 k.ρ0 k.n0
structure XG (G : Gam) (d : Nat) (X : Cx) : Prop where
  prog : X.prog = G.prog
  w : X.w = G.w
  K : X.K = G.K
  mg : X.mg = G.mg
  base : X.base = G.base
  room : Room (Rd d) X.A
section
variable {G : Gam} {d : Nat} {k : Kn} {cl : Ex} {Wx : WX} {X : Cx}
theorem XG.env0 (g : XG G d X) {pins : List (Addr × Obj)} {σ : L2.St} {H : Hp} {s : Shared} (I : Inv X pins σ H s) : Env0 G.prog G.w G.K G.mg G.base X.A X.stack s H := by
  have e := I.env0
  rw [g.prog, g.w, g.K, g.mg, g.base] at e
  exact e
/-- behind a call's end -/
theorem back {pins : List (Addr × Obj)} {σ : L2.St} {H : Hp} {s : Shared} {Q : VK} {E : XK} (g : XG G d X) (tk : L2N.Takes X Wx) (I : Inv X pins σ H s) (hE : ∀ cls dd H', E cls dd H' → Wx cls dd σ H')
    {f : Value} {us : List Value} (h : codeAny (model G.prog G.w) X.A (.call f ⟨us, []⟩) (CR (L2N.CX G.prog G.w) X.stack G.prog G.w H s Q E) s) : wpAny (model X.prog X.w) X.A (call f us) (EP X pins σ Q) X.xe s := by
  rw [g.prog, g.w]
  refine wpAny_call (codeAny_mono h fun r s' hq => ?_)
  cases r with
  | error e =>
    have hq : L2N.CX G.prog G.w X.stack H s E e s' := hq
    rw [← g.prog, ← g.w] at hq
    exact tk e s' (L2N.XE.of_call I (fun cls dd H' q => hE cls dd H' q) hq)
  | ok fl =>
    cases fl with
    | ret u =>
      have hq : CE X.stack G.prog G.w H s Q u s' := hq
      rw [← g.prog, ← g.w] at hq
      exact I.after hq
    | next => exact False.elim hq
    | brk => exact False.elim hq
    | cont => exact False.elim hq
variable {as : List Expr} {es : List E} {x : Str} {p pos : Pos}
/-- errors of a call, as the context wants them -/
def EXK (G : Gam) (σ : L2.St) (Wx : WX) : XK := fun cls dd H' => Wx cls dd σ H'
theorem PostX.xe {ρ : Nat → Addr} {n : Nat} {Hv H : Hp} {Xw : XPost} {σ : L2.St} (P : PostX G ρ n Hv H Xw σ Wx) : PostXE G ρ n Hv H Xw (EXK G σ Wx) := P
/-- g(..) -/
theorem ok_call {g : Nat} {a : Expr} (F : FOK G d) (gx : XG G d X) (tk : L2N.Takes X Wx) (hg : Gl X x) (hm : G.mg x = some (.ref (G.fa g))) (hk : PySem.W.keepIn G.K (.ref (G.fa g)) = true) (ha : PA X (a :: as) (tav G k (callW G.P d) cl Wx es))
    (hdb : (x == ("__debug__" : Str)) = false) (he : starEach (a :: as) X.env = (false, eval a X.env) :: starEach as X.env) (hpl : (backTo pos (starEach as X.env)).any (·.1) = false) :
    PE X (.Call (.Name x p) (a :: as) [] pos) (tev G k (callW G.P d) cl Wx (.call g es)) := by
  refine ⟨fun pins s σ H Q I ⟨Hv, env, st, ρ, Qw, Xw, S, wp, P, PX⟩ => ?_⟩
  refine wpAny_Call_Name_kw (ld_glob I hg (by rw [gx.mg]; exact hm) ?_ hdb)
  refine PySem.W.callWith_K (h₀ := X.base) I.ok.mod.kin (by rw [gx.K]; exact hk) (thn (ha.run pos pins s σ H (fun vs H1 => ∃ ws st1 Hv1 ρ1, (callW G.P d).fn g none (ws.map ro) st1 Qw Xw ∧ Le ρ st.length Hv H ρ1 st1.length Hv1 H1 ∧ StO G ρ1 Hv1 H1 st1 ∧ RVts G ρ1 st1.length Hv1 H1 H ws vs) I
    ⟨Hv, env, st, ρ, _, Xw, S, wp, fun ws st1 vs Hv1 H1 ρ1 q1 l1 so1 r1 => ⟨ws, st1, Hv1, ρ1, q1, l1, so1, r1⟩, PX⟩) fun us s1 ⟨vs, H1, I1, r, q⟩ => ⟨I1.kIn, ?_⟩) he hpl
  obtain ⟨ws, st1, Hv1, ρ1, q1, l1, so1, r1⟩ := q
  obtain ⟨Hv2, l2, lv2, so2, r2⟩ := knowns l1 so1 (r1.r so1)
  exact back gx tk I1 (fun cls dd H' q => q) (F g X.A X.stack s1 H1 Hv2 st1 ρ1 none [] us _ vs Qw Xw Q (EXK G σ Wx) gx.room (gx.env0 I1) so2 r2 r rfl q1 (P.step l2) (PX.step l2).xe)
theorem ok_call0 {g : Nat} (F : FOK G d) (gx : XG G d X) (tk : L2N.Takes X Wx) (hg : Gl X x) (hm : G.mg x = some (.ref (G.fa g))) (hk : PySem.W.keepIn G.K (.ref (G.fa g)) = true) (hdb : (x == ("__debug__" : Str)) = false) :
    PE X (.Call (.Name x p) [] [] pos) (tev G k (callW G.P d) cl Wx (.call g [])) := by
  refine ⟨fun pins s σ H Q I ⟨Hv, env, st, ρ, Qw, Xw, S, wp, P, PX⟩ => ?_⟩
  refine wpAny_Call_Name_kw (ld_glob I hg (by rw [gx.mg]; exact hm) ?_ hdb)
  refine PySem.W.callWith_K0 I.kIn (by rw [gx.K]; exact hk) ?_
  exact back gx tk I (fun cls dd H' q => q) (F g X.A X.stack s H Hv st ρ none [] [] [] [] Qw Xw Q (EXK G σ Wx) gx.room (gx.env0 I) S.so rfl .nil rfl wp P PX.xe)
/-- v(..), v a local that holds a def -/
theorem ok_callv {i : Nat} {a : Expr} (F : FOK G d) (gx : XG G d X) (tk : L2N.Takes X Wx) (hN : X.N[i]? = some x) (hv : Vis X.env.scope x) (hk : ∀ g, g < G.P.fns.length → PySem.W.keepIn G.K (.ref (G.fa g)) = true) (ha : PA X (a :: as) (tav G k (callW G.P d) cl Wx es))
    (hdb : (x == ("__debug__" : Str)) = false) (hcd : (x == ("__classdict__" : Str)) = false) (he : starEach (a :: as) X.env = (false, eval a X.env) :: starEach as X.env) (hpl : (backTo pos (starEach as X.env)).any (·.1) = false) :
    PE X (.Call (.Name x p) (a :: as) [] pos) (tev G k (callW G.P d) cl Wx (.callv i es)) := by
  refine ⟨fun pins s σ H Q I ⟨Hv, env, st, ρ, Qw, Xw, S, wp, P, PX⟩ => ?_⟩
  obtain ⟨g, hw, hgl, wp⟩ := wp
  obtain ⟨v, hs, rv⟩ := S.env.get hw (fun z => by cases z)
  obtain rfl : v = .ref (G.fa g) := rv
  refine wpAny_Call_Name_kw (thn ((pe_var (pos := p) hN hv hdb hcd).run pins s σ H (fun v H1 => v = .ref (G.fa g) ∧ H1 = H) I ⟨.ref (G.fa g), hs, rfl, rfl⟩) fun u s1 ⟨v, H1, I1, r1, q1⟩ => ?_)
  obtain ⟨rfl, rfl⟩ := q1
  cases r1
  refine PySem.W.callWith_K (h₀ := X.base) I.ok.mod.kin (by rw [gx.K]; exact hk g hgl) (thn (ha.run pos pins s1 σ _ (fun vs H2 => ∃ ws st1 Hv1 ρ1, (callW G.P d).fn g none (ws.map ro) st1 Qw Xw ∧ Le ρ st.length Hv H1 ρ1 st1.length Hv1 H2 ∧ StO G ρ1 Hv1 H2 st1 ∧ RVts G ρ1 st1.length Hv1 H2 H1 ws vs) I1
    ⟨Hv, env, st, ρ, _, Xw, S, wp, fun ws st1 vs Hv1 H1 ρ1 q1 l1 so1 r1 => ⟨ws, st1, Hv1, ρ1, q1, l1, so1, r1⟩, PX⟩) fun us s1 ⟨vs, H1, I1, r, q⟩ => ⟨I1.kIn, ?_⟩) he hpl
  obtain ⟨ws, st1, Hv1, ρ1, q1, l1, so1, r1⟩ := q
  obtain ⟨Hv2, l2, lv2, so2, r2⟩ := knowns l1 so1 (r1.r so1)
  exact back gx tk I1 (fun cls dd H' q => q) (F g X.A X.stack _ _ Hv2 st1 ρ1 none [] us _ vs Qw Xw Q (EXK G σ Wx) gx.room (gx.env0 I1) so2 r2 r rfl q1 (P.step l2) (PX.step l2).xe)
/-- a(), a the lambda that was got -/
theorem ok_callc (gx : XG G d X) (tk : L2N.Takes X Wx) (xc : XClo G d cl k X) (hN : X.N[0]? = some x) (hv : Vis X.env.scope x) (hdb : (x == ("__debug__" : Str)) = false) (hcd : (x == ("__classdict__" : Str)) = false) :
    PE X (.Call (.Name x p) [] [] pos) (tev G k (callW G.P d) cl Wx (.callc 0)) := by
  refine ⟨fun pins s σ H Q I ⟨Hv, env, st, ρ, Qw, Xw, S, wp, P, PX⟩ => ?_⟩
  obtain ⟨c, hc, wp⟩ := wp
  obtain ⟨fl, hv0, hex, hH, fs, sC, ρC, nC, HvC, HC, hat, un, le, hfr⟩ := xc.ex c hc
  refine wpAny_Call_Name_kw (thn ((pe_var (pos := p) (i := 0) hN hv hdb hcd).run pins s σ H (fun v H1 => v = .ref fl ∧ H1 = H) I ⟨.ref fl, S.s0 _ hv0, rfl, rfl⟩) fun u s1 ⟨v, H1, I1, r1, q1⟩ => ?_)
  obtain ⟨rfl, rfl⟩ := q1
  obtain rfl : u = Value.ref fl := r1
  have b := I1.base
  rw [hex, hH] at b
  obtain ⟨h1, h2⟩ := hat d (Nat.lt_succ_self d) X.A X.stack s1 H1 Hv st ρ Q (EXK G σ Wx) Qw Xw gx.room (gx.env0 I1) (un_trans un b hfr) (le.trans S.le) S.so wp P PX.xe
  exact PySem.W.callWith_F0 h1 (back gx tk I1 (fun cls dd H' q => q) h2)
end
end Ev

set_option maxRecDepth 100000
set_option maxHeartbeats 1000000
/-! Ev16: lambdas handed to defs; a def's promise by its body. -/
namespace Ev
open PySem PySem.Spec PyProof.Rows L2

/-- a lambda's context: what is raised in it has no context of its own -/
def lamCxN (X : Cx) (A : Around) (outer : List PySem.Env) (s : Shared) (H : Hp) (E : XK) (scope : Scope) (f c' : Addr) : Cx :=
  (LamX.lamCx X A outer s H E scope f c').tr [] fun e s' => wpAny (model X.prog X.w) (A.deeper (LamX.lamEnv X scope s.heap.objs.size f c')) (leaving (LamX.lamEnv X scope s.heap.objs.size f c') e) (fun _ s'' => L2N.CX X.prog X.w outer H s E e s'') (fun e' s'' => L2N.CX X.prog X.w outer H s E e' s'') s'
theorem vk_tbl {o : HO} (h : Vk o) : ∀ ps, o ≠ .tbl ps := fun ps z => by subst z; exact h
section
variable {G : Gam} {d : Nat} {k : Kn} {cl : Ex} {Wx : WX} {X : Cx} {ρ : Nat → Addr} {n : Nat} {Hv H H1 : Hp} {st : Store}
theorem le_extN (e : LamX.ExtN H H1) : Le ρ n Hv H ρ n Hv H1 where
  lv := Lv.refl
  hid := fun a o e1 e2 e3 => ⟨e a o e1 e3, e2⟩
  trk := fun a f o eo => Classical.byContradiction fun ht => ht (f o (e a o eo fun ps z => ht ⟨ps, z⟩))
theorem so_extN (so : StO G ρ Hv H st) (e : LamX.ExtN H H1) (t : LamX.Tabs G.T H1) : StO G ρ Hv H1 st where
  sub := fun a o eo => e a o (so.sub a o eo) (vk_tbl (so.nt a o eo))
  sto := so.sto
  inj := so.inj
  tab := t
  nt := so.nt
/-- what a context that may make lambdas knows of its code's table -/
def XLam (G : Gam) (X : Cx) : Prop := ∃ cc P, LamX.TabB X.base X.mg cc P ∧ X.env.code = .ref cc ∧ (P, X.env.qual ++ "<lambda>") ∈ G.T ∧ ∀ p ∈ G.T, p.1 = P → p.2 = X.env.qual ++ "<lambda>"
theorem fs_sub {pins : List (Addr × Obj)} {σ : L2.St} {s : Shared} (I : Inv X pins σ H s) : ∀ b ∈ X.fs, b ∈ frs X.stack := fun b hb => by
  rcases I.ok.stk with e | ⟨e, hf⟩
  · rw [e]; exact hb
  · rw [e]
    unfold frs
    rw [List.filterMap_cons, hf]
    exact List.mem_cons_of_mem _ hb
variable {as : List Expr} {es : List E} {x : Str} {p pos lpos : Pos} {params : Arguments} {body : Expr} {scope : Scope} {lam : Lam} {l : Nat}
/-- the promise of a lambda that was just made -/
theorem clo_made {pins : List (Addr × Obj)} {σ : L2.St} {s : Shared} {env : Env} {f c' : Addr} {pm ctv : Value} (gx : XG G d X) (I : Inv X pins σ H s) (S : Sim G k σ Hv H env st ρ) (L : LamX.LamS X.env.scope scope) (hl : G.P.lams[l]? = some lam)
    (hf : s.heap.get? f = some (PySem.W.kla_obj "<lambda>" (X.env.qual ++ "<lambda>") params body scope (cloFrom X.env.cells scope.names []) pm c' ctv)) (hfn : H f = none) (hfr : f ∉ frs X.stack) (hco : H c' = some (LamX.CodeO c' (X.env.qual ++ "<lambda>")))
    (hbind : bindArgs (PySem.W.kla_fn "<lambda>" (X.env.qual ++ "<lambda>") params body scope (cloFrom X.env.cells scope.names []) pm (.ref c') ctv) ⟨[], []⟩ = pure [])
    (hbody : ∀ e, e + 1 < d → ∀ (A : Around) (outer : List PySem.Env) (s : Shared) (H : Hp) (E : XK) (f c' : Addr) (kL : Kn), kL.v0 = none → kL.vx = none → Room (Rd e) (A.deeper (LamX.lamEnv X scope s.heap.objs.size f c')) → PE (lamCxN X A outer s H E scope f c') body (tev G kL (callW G.P e) X0 (fun cls dd _ H' => E cls dd H') lam.body)) :
    ∀ d', d' < d → CloAt G d' ⟨env, l⟩ f (frs X.stack) s H Hv ρ st.length := by
  intro d' hd'
  intro A outer s1 HZ HvZ stZ ρZ Q E Qw Xw hr e0 un le so wp P PX
  cases d' with
  | zero => exact wp.elim
  | succ e =>
    obtain ⟨lam', hl', wp⟩ := wp
    have el : lam' = lam := by
      have h2 : G.P.lams[l]? = some lam' := hl'
      rw [hl] at h2
      exact (Option.some.inj h2).symm
    subst el
    have of1 : s1.heap.get? f = some (PySem.W.kla_obj "<lambda>" (X.env.qual ++ "<lambda>") params body scope (cloFrom X.env.cells scope.names []) pm c' ctv) := un.keep f _ hf hfn hfr (fun z => nomatch (show f ∈ ([] : List Addr) from z))
    refine ⟨⟨_, _, _, _, of1⟩, ?_⟩
    have hv : Hv c' = none := by
      cases q : Hv c' with
      | none => rfl
      | some o =>
        have z := S.so.sub _ _ q
        rw [hco] at z
        cases z
        exact (S.so.nt _ _ q).elim
    have hc := (le.hid c' _ hco hv (fun ps z => LamX.codeO_ne ps z)).1
    obtain ⟨⟨oc, vs, t, hoc, hdc, hvc⟩, _, _⟩ := e0.hok c' _ hc
    refine PySem.W.kla_callFunE hr.depth of1 rfl L.co L.gen rfl ⟨c', oc, vs, t, rfl, hoc, hdc, hvc⟩ ?_
    rw [hbind]
    refine wpAny_pure (wpAny_newFunctionEnv (fun y hy => (L.own y hy).2) (fun y hy => absurd hy (by simp)) (fun h₁ hns hsb => ⟨(e0.mod.nolimit.keeps fun b o e => (e0.bs b o e).1).fresh _ hsb, ?_⟩) L.kind)
    show codeAny _ _ (.expr body (LamX.lamEnv X scope s1.heap.objs.size f c')) _ _
    have kp : ∀ b o, s1.heap.get? b = some o → h₁.get? b = some o := fun b o e => hsb.extBut b o (Nat.ne_of_lt (Heap.lt_size e)) (Heap.get?_push_of_some _ e)
    have e1 : Env0 X.prog X.w X.K X.mg X.base A outer s1 HZ := by rw [gx.prog, gx.w, gx.K, gx.mg, gx.base]; exact e0
    have J : Inv (lamCxN X A outer s1 HZ E scope f c') [] σ HZ { s1 with heap := h₁, toks := s1.toks + ([] : List (Str × Value)).length } :=
      (LamX.lam_start2 (E := E) I L e1 hr.hd un hns kp).toTry _
    have tk : L2N.Takes (lamCxN X A outer s1 HZ E scope f c') (fun cls dd _ H' => E cls dd H') := L2N.takes_of (E := E) rfl rfl rfl rfl
    have hb := hbody e hd' A outer s1 HZ E f c' ⟨ρZ, stZ.length, HvZ, HZ, ρZ, stZ.length, HvZ, HZ, none, none⟩ rfl rfl (Room.deeper (k := Rd e) hr _)
    have SZ : Sim G ⟨ρZ, stZ.length, HvZ, HZ, ρZ, stZ.length, HvZ, HZ, none, none⟩ σ HvZ HZ env stZ ρZ := ⟨Le.refl, Le.refl, so, RVo.mono le.lv _ _ S.env, fun _ e => (by cases e), fun _ e => (by cases e)⟩
    have run := hb.run [] _ _ HZ Q J ⟨HvZ, env, stZ, ρZ, Qw, Xw, SZ, wp, P, PX⟩
    have run2 : wpAny (model G.prog G.w) (A.deeper (LamX.lamEnv X scope s1.heap.objs.size f c')) (eval body (LamX.lamEnv X scope s1.heap.objs.size f c')) (EP (lamCxN X A outer s1 HZ E scope f c') [] σ Q) (lamCxN X A outer s1 HZ E scope f c').xe { s1 with heap := h₁, toks := s1.toks + ([] : List (Str × Value)).length } := by
      rw [← gx.prog, ← gx.w]
      exact run
    refine PySem.W.kla_codeExpr (wpAny_mono run2 (fun v s' hq => ?_) fun e s' hq => ?_)
    · obtain ⟨w', H', J', rv, q⟩ := hq
      have hok := J'.hok
      have hok2 : HOk G.prog G.w H' s'.heap := by rw [← gx.prog, ← gx.w]; exact hok
      exact ⟨w', H', J'.os, J'.bare, J'.base, hok2, rv, q⟩
    · have hq2 : wpAny (model X.prog X.w) (A.deeper (LamX.lamEnv X scope s1.heap.objs.size f c')) (leaving (LamX.lamEnv X scope s1.heap.objs.size f c') e) (fun _ s'' => L2N.CX X.prog X.w outer HZ s1 E e s'') (fun e' s'' => L2N.CX X.prog X.w outer HZ s1 E e' s'') s' := hq
      rw [gx.prog, gx.w] at hq2
      exact hq2
/-- g(lambda: .., ..) -/
theorem ok_callC {g : Nat} (F : FOK G d) (gx : XG G d X) (tk : L2N.Takes X Wx) (hg : Gl X x) (hm : G.mg x = some (.ref (G.fa g))) (hk : PySem.W.keepIn G.K (.ref (G.fa g)) = true) (ha : PA X as (tav G k (callW G.P d) cl Wx es)) (hdb : (x == ("__debug__" : Str)) = false)
    (hpl : (backTo pos (starEach as X.env)).any (·.1) = false) (xl : XLam G X) (L : LamX.LamS X.env.scope scope) (hl : G.P.lams[l]? = some lam) (hdef : defaultsOf params X.env = ([], []))
    (hbind : ∀ (q : Str) (cl : List (Str × Addr)) (pm cv ctv : Value), bindArgs (PySem.W.kla_fn "<lambda>" q params body scope cl pm cv ctv) ⟨[], []⟩ = pure [])
    (hbody : ∀ e, e + 1 < d → ∀ (A : Around) (outer : List PySem.Env) (s : Shared) (H : Hp) (E : XK) (f c' : Addr) (kL : Kn), kL.v0 = none → kL.vx = none → Room (Rd e) (A.deeper (LamX.lamEnv X scope s.heap.objs.size f c')) → PE (lamCxN X A outer s H E scope f c') body (tev G kL (callW G.P e) X0 (fun cls dd _ H' => E cls dd H') lam.body)) :
    PE X (.Call (.Name x p) (.Lambda params body scope lpos :: as) [] pos) (tev G k (callW G.P d) cl Wx (.callC g (.lam l) es)) := by
  refine ⟨fun pins s σ H Q I ⟨Hv, env, st, ρ, Qw, Xw, S, wp, P, PX⟩ => ?_⟩
  obtain ⟨cc, PT, TB, hcode, hmT, hu⟩ := xl
  obtain ⟨clo, hclo, wp⟩ := wp
  have hclo : clo = ⟨env, l⟩ := hclo
  subst hclo
  refine wpAny_Call_Name_kw (ld_glob I hg (by rw [gx.mg]; exact hm) ?_ hdb)
  refine PySem.W.callWith_K (h₀ := X.base) I.ok.mod.kin (by rw [gx.K]; exact hk) ?_ rfl hpl
  show wpAny _ _ (spliced ((false, eval (.Lambda params body scope lpos) X.env) :: backTo pos (starEach as X.env))) _ _ s
  refine Calls.spliced_cons (LamX.lam_make2 I TB hcode hmT hu S.so.tab hdef (L.has I.ok) fun f c' pm' ctv H1 s' I1 eN T1 hf hfn hfr hco => ?_)
  have l1 : Le ρ st.length Hv H ρ st.length Hv H1 := le_extN eN
  have so1 : StO G ρ Hv H1 st := so_extN S.so eN T1
  have S1 := S.mono l1 so1
  -- the lambda's object is kept while the other arguments are made
  have I2 : Inv X (pins ++ [(f, PySem.W.kla_obj "<lambda>" (X.env.qual ++ "<lambda>") params body scope (cloFrom X.env.cells scope.names []) pm' c' ctv)]) σ H1 s' := I1.pins_of fun q hq => by
    rcases List.mem_append.mp hq with z | z
    · exact I1.pin q (List.mem_append_right _ z)
    · have e : q = _ := List.mem_singleton.mp z
      subst e
      refine ⟨hf, hfn, fun z => ?_, fun z => hfr (fs_sub I1 _ z), fun v z => nomatch z⟩
      obtain ⟨m, ⟨o, es, ep, ho, hd, _⟩, _⟩ := I1.loc
      have z : f = X.env.locals := z
      rw [← z, hf] at ho
      cases ho
      cases hd
  refine thn (ha.run pos _ s' σ H1 (fun vs H2 => ∃ ws st2 Hv2 ρ2, (callW G.P d).fn g (some ⟨env, l⟩) (ws.map ro) st2 Qw Xw ∧ Le ρ st.length Hv H1 ρ2 st2.length Hv2 H2 ∧ StO G ρ2 Hv2 H2 st2 ∧ RVts G ρ2 st2.length Hv2 H2 H1 ws vs) I2
    ⟨Hv, env, st, ρ, _, Xw, S1, wp, fun ws st2 vs Hv2 H2 ρ2 q2 l2 so2 r2 => ⟨ws, st2, Hv2, ρ2, q2, l2, so2, r2⟩, PX.step l1⟩) fun us s2 ⟨vs, H2, I3, r, q⟩ => ⟨I3.kIn, ?_⟩
  obtain ⟨ws, st2, Hv2, ρ2, q2, l2, so2, r2⟩ := q
  obtain ⟨Hv3, l3, lv3, so3, r3⟩ := knowns l2 so2 (r2.r so2)
  have pf := I3.pin (f, _) (List.mem_append_right _ (List.mem_append_right _ List.mem_cons_self))
  have I4 : Inv X pins σ H2 s2 := I3.unpinned
  have l13 := l1.trans l3
  have S3 := S.mono l13 so3
  have hco2 : H2 c' = some (LamX.CodeO c' (X.env.qual ++ "<lambda>")) := by
    have hv : Hv c' = none := by
      cases q : Hv c' with
      | none => rfl
      | some o =>
        have z := so1.sub _ _ q
        rw [hco] at z
        cases z
        exact (so1.nt _ _ q).elim
    exact (l3.hid c' _ hco hv (fun ps z => LamX.codeO_ne ps z)).1
  have at_ := clo_made (l := l) gx I4 S3 L hl pf.1 pf.2.1 hfr hco2 (hbind _ _ _ _ _) hbody
  have ck : CloK G d ⟨env, l⟩ f X.stack s2 H2 Hv3 ρ2 st2.length := ⟨frs X.stack, s2, ρ2, st2.length, Hv3, H2, at_, Un.refl, Le.refl, fun b hb => .inl hb⟩
  exact back gx tk I4 (fun cls dd H' q => q) (F g X.A X.stack s2 H2 Hv3 st2 ρ2 (some ⟨env, l⟩) [.ref f] us _ vs Qw Xw Q (EXK G σ Wx) gx.room (gx.env0 I4) so3 r3 r ⟨f, rfl, ck⟩ q2 (P.step l13) (PX.step l13).xe)
/-- g(a, ..), a the lambda that was got -/
theorem ok_passC {g : Nat} {y : Str} {py : Pos} (F : FOK G d) (gx : XG G d X) (tk : L2N.Takes X Wx) (xc : XClo G d cl k X) (hg : Gl X x) (hm : G.mg x = some (.ref (G.fa g))) (hk : PySem.W.keepIn G.K (.ref (G.fa g)) = true) (ha : PA X as (tav G k (callW G.P d) cl Wx es)) (hdb : (x == ("__debug__" : Str)) = false)
    (hpl : (backTo pos (starEach as X.env)).any (·.1) = false) (hN : X.N[0]? = some y) (hv : Vis X.env.scope y) (hdy : (y == ("__debug__" : Str)) = false) (hcy : (y == ("__classdict__" : Str)) = false) :
    PE X (.Call (.Name x p) (.Name y py :: as) [] pos) (tev G k (callW G.P d) cl Wx (.callC g (.pass 0) es)) := by
  refine ⟨fun pins s σ H Q I ⟨Hv, env, st, ρ, Qw, Xw, S, wp, P, PX⟩ => ?_⟩
  obtain ⟨c, hc, wp⟩ := wp
  obtain ⟨fl, hv0, hex, hH, fs, sC, ρC, nC, HvC, HC, hat, un, le, hfr⟩ := xc.ex c hc
  refine wpAny_Call_Name_kw (ld_glob I hg (by rw [gx.mg]; exact hm) ?_ hdb)
  refine PySem.W.callWith_K (h₀ := X.base) I.ok.mod.kin (by rw [gx.K]; exact hk) ?_ rfl hpl
  show wpAny _ _ (spliced ((false, eval (.Name y py) X.env) :: backTo pos (starEach as X.env))) _ _ s
  refine Calls.spliced_cons (thn ((pe_var (pos := py) (i := 0) hN hv hdy hcy).run pins s σ H (fun v H1 => v = .ref fl ∧ H1 = H) I ⟨.ref fl, S.s0 _ hv0, rfl, rfl⟩) fun u s1 ⟨v, H1, I1, r1, q1⟩ => ?_)
  obtain ⟨rfl, rfl⟩ := q1
  obtain rfl : u = Value.ref fl := r1
  refine thn (ha.run pos pins s1 σ H1 (fun vs H2 => ∃ ws st2 Hv2 ρ2, (callW G.P d).fn g (some c) (ws.map ro) st2 Qw Xw ∧ Le ρ st.length Hv H1 ρ2 st2.length Hv2 H2 ∧ StO G ρ2 Hv2 H2 st2 ∧ RVts G ρ2 st2.length Hv2 H2 H1 ws vs) I1
    ⟨Hv, env, st, ρ, _, Xw, S, wp, fun ws st2 vs Hv2 H2 ρ2 q2 l2 so2 r2 => ⟨ws, st2, Hv2, ρ2, q2, l2, so2, r2⟩, PX⟩) fun us s2 ⟨vs, H2, I3, r, q⟩ => ⟨I3.kIn, ?_⟩
  obtain ⟨ws, st2, Hv2, ρ2, q2, l2, so2, r2⟩ := q
  obtain ⟨Hv3, l3, lv3, so3, r3⟩ := knowns l2 so2 (r2.r so2)
  have b := I3.base
  rw [hex, hH] at b
  have ck : CloK G d c fl X.stack s2 H2 Hv3 ρ2 st2.length := ⟨fs, sC, ρC, nC, HvC, HC, fun d' hd' => hat d' (Nat.lt_succ_of_lt hd'), un_trans un b hfr, le.trans (S.le.trans l3), fun b hb => by
    rcases List.mem_cons.mp (I3.stkSub b hb) with e | e
    · refine .inr ?_
      cases q : sC.heap.get? b with
      | none => rfl
      | some o =>
        obtain ⟨o', e'⟩ := un.there b o q (fun z => nomatch z)
        have h1 := Heap.lt_size e'
        have h2 := I3.ok.above
        rw [e] at h1
        exact absurd (Nat.lt_of_lt_of_le h1 h2) (Nat.lt_irrefl _)
    · exact hfr b e⟩
  exact back gx tk I3 (fun cls dd H' q => q) (F g X.A X.stack s2 H2 Hv3 st2 ρ2 (some c) [.ref fl] us _ vs Qw Xw Q (EXK G σ Wx) gx.room (gx.env0 I3) so3 r3 r ⟨fl, rfl, ck⟩ q2 (P.step l3) (PX.step l3).xe)
end
/-! ### a def's promise by its body -/
/-- what is known of a def -/
structure FnTab (G : Gam) (g : Nat) (f : Fn) (params : Arguments) (body : List Stmt) (scope : Scope) (cdv : Value) (N ps : List Str) : Prop where
  lk : ∃ (dV kV doc pm : Value) (an od : Option Addr) (ct oc : Value) (osl : Array (Option Value)), G.K.lookup (G.fa g) = some ⟨oc, od, .func (PySem.W.fnOf f.name f.name params body scope dV kV doc pm an cdv ct), osl⟩ ∧
    ∀ (s : Shared) (us : List Value), us.length = ps.length → BindsTo s (PySem.W.fnOf f.name f.name params body scope dV kV doc pm an cdv ct) ⟨us, []⟩ (ps.zip us)
  code : PySem.W.codeIn G.K cdv f.name = true
  sc : FnScope N ps scope
  len : ps.length = (if f.nc = true then 1 else 0) + f.np
  n : f.n = N.length
abbrev defCx (G : Gam) (N : List Str) (f : Fn) (scope : Scope) (a : Addr) (cdv : Value) (A : Around) (outer : List PySem.Env) (s : Shared) (H : Hp) (E : XK) : Cx := cxOf (L2N.CX G.prog G.w) G.prog G.w G.K G.mg G.base N f.name scope a cdv A outer s H E
theorem rvo_undef {G : Gam} {ρ : Nat → Addr} {n : Nat} {Hv : Hp} : ∀ m : Nat, RVo G ρ n Hv (List.replicate m W.undef) (List.replicate m none)
  | 0 => rfl
  | m + 1 => ⟨none, _, rfl, .inl rfl, rvo_undef m⟩
theorem rvo_vals {G : Gam} {ρ : Nat → Addr} {n : Nat} {Hv : Hp} {tl : List W} {tσ : L2.St} (ht : RVo G ρ n Hv tl tσ) : ∀ {ws : List W} {vs : List V}, RVs G ρ n Hv ws vs → RVo G ρ n Hv (ws ++ tl) (vs.map some ++ tσ)
  | [], _, h => by
    have e : _ = [] := h
    subst e
    exact ht
  | w :: ws, vs, h => by
    obtain ⟨v, r, rfl, h1, h2⟩ := h
    exact ⟨some v, _, rfl, .inr ⟨v, rfl, h1⟩, rvo_vals ht h2⟩
/-- a def runs, its arguments bound -/
theorem run_def {G : Gam} {e g : Nat} {f : Fn} {params : Arguments} {body : List Stmt} {scope : Scope} {cdv : Value} {N ps : List Str} (hcode : PySem.W.codeIn G.K cdv f.name = true) (hsc : FnScope N ps scope) (hlen : ps.length = (if f.nc = true then 1 else 0) + f.np) (hn : f.n = N.length)
    {dV kV doc pm : Value} {an od : Option Addr} {ct oc : Value} {osl : Array (Option Value)} (lk : G.K.lookup (G.fa g) = some ⟨oc, od, .func (PySem.W.fnOf f.name f.name params body scope dV kV doc pm an cdv ct), osl⟩)
    (hb : ∀ (A : Around) (outer : List PySem.Env) (s : Shared) (H : Hp) (E : XK) (co : Option Clo) (k : Kn), (f.nc = false → k.v0 = none) → k.vx = none →
      XG G e (defCx G N f scope (G.fa g) cdv A outer s H E) → XClo G e ⟨co, none⟩ k (defCx G N f scope (G.fa g) cdv A outer s H E) →
      PSs (defCx G N f scope (G.fa g) cdv A outer s H E) body (tsss G k (callW G.P e) ⟨co, none⟩ (fun cls dd _ H' => E cls dd H') f.body))
    {A : Around} {outer : List PySem.Env} {s : Shared} {H Hv : Hp} {st : Store} {ρ : Nat → Addr} {co : Option Clo} {cus us : List Value} {args : Args} {ws : List W} {vs : List V} {Qw : Post} {Xw : XPost} {Q : VK} {E : XK}
    (hr : Room (Rd (e + 1)) A) (e0 : Env0 G.prog G.w G.K G.mg G.base A outer s H) (so : StO G ρ Hv H st) (rv : RVs G ρ st.length Hv ws vs) (rr : Vals vs us) (ca : CloArg G (e + 1) co cus outer s H Hv ρ st.length)
    (bind : (cus ++ us).length = ps.length → BindsTo s (PySem.W.fnOf f.name f.name params body scope dV kV doc pm an cdv ct) args (ps.zip (cus ++ us)))
    (hf : G.P.fns[g]? = some f) (wp : (callW G.P (e + 1)).fn g co ws st Qw Xw) (P : PostE G ρ st.length Hv H Qw Q) (PX : PostXE G ρ st.length Hv H Xw E) :
    codeAny (model G.prog G.w) A (.call (.ref (G.fa g)) args) (CR (L2N.CX G.prog G.w) outer G.prog G.w H s Q E) s := by
  obtain ⟨f', hf', hnc, hnp, wp⟩ := wp
  have ef : f' = f := by
    have h2 : G.P.fns[g]? = some f' := hf'
    rw [hf] at h2
    exact (Option.some.inj h2).symm
  subst ef
  have hpl : ps.length ≤ N.length := by have := congrArg List.length hsc.pre; rw [List.length_take] at this; omega
  -- the values with the lambda ahead
  have main : ∀ (cvs : List V) (k : Kn), Vals cvs cus → cvs.length = (if f'.nc = true then 1 else 0) → k.ρ0 = ρ → k.n0 = st.length → k.Hv0 = Hv → k.H0 = H → k.ρ1 = ρ → k.n1 = st.length → k.Hv1 = Hv → k.H1 = H → k.vx = none → (f'.nc = false → k.v0 = none) → (∀ v, k.v0 = some v → cvs = [v]) →
      (∀ c, co = some c → ∃ fl, k.v0 = some (.ref fl) ∧ CloK G (e + 1) c fl outer s H Hv ρ st.length) →
      codeAny (model G.prog G.w) A (.call (.ref (G.fa g)) args) (CR (L2N.CX G.prog G.w) outer G.prog G.w H s Q E) s := by
    intro cvs k rc hcl k1 k2 k3 k4 k5 k6 k7 k8 k9 k10 k11 k12
    have hlen2 : (cvs ++ vs).length = ps.length := by
      rw [List.length_append, hcl, ← rv.length, ← hnp, hlen]
    have rall : Vals (cvs ++ vs) (cus ++ us) := rc.append rr
    have hul : (cus ++ us).length = ps.length := by rw [← rall.length]; exact hlen2
    refine LamX.run_ofS (k := Rd e) lk hcode hsc hr e0 (bind hul) rall hlen2 fun hr' => ?_
    refine ⟨_, hb A outer s H E co k k10 k9 ⟨rfl, rfl, rfl, rfl, rfl, hr'⟩ ⟨fun c hc => ?_⟩, ?_⟩
    · obtain ⟨fl, q1, q2⟩ := k12 c hc
      exact ⟨fl, q1, rfl, k4.symm, by rw [k1, k2, k3, k4]; exact q2⟩
    · have hσ : L2.start N (cvs ++ vs) = cvs.map some ++ (vs.map some ++ List.replicate (f'.n - (ws.length + if f'.nc = true then 1 else 0)) none) := by
        unfold L2.start
        rw [List.map_append, List.append_assoc, List.length_append, hcl, ← rv.length, hn, Nat.add_comm ws.length]
      have envR : RVo G ρ st.length Hv (initW f' ws) (L2.start N (cvs ++ vs)) := by
        rw [hσ]
        unfold initW
        rw [List.append_assoc]
        have tail := rvo_vals (rvo_undef (G := G) (ρ := ρ) (n := st.length) (Hv := Hv) (f'.n - (ws.length + if f'.nc = true then 1 else 0))) rv
        by_cases hn : f'.nc = true
        · simp only [hn, if_true] at hcl tail ⊢
          match cvs, hcl with
          | [v], _ => exact ⟨some v, _, rfl, .inl rfl, tail⟩
        · simp only [hn, if_false] at hcl tail ⊢
          match cvs, hcl with
          | [], _ => exact tail
      refine ⟨Hv, initW f' ws, st, ρ, _, ⟨by rw [k1, k2, k3, k4]; exact Le.refl, by rw [k5, k6, k7, k8]; exact Le.refl, so, envR, fun v hv => ?_, fun q hq => by rw [k9] at hq; cases hq⟩, wp, ⟨?_, ?_, ?_, ?_, ?_⟩⟩
      · have e2 := k11 v hv
        rw [hσ, e2]
        rfl
      · exact fun env' st' Hv' H' ρ' σ' q l S => ret_ok P l S.so (show RVt G ρ' st'.length Hv' H' H .non .non from rfl) q so
      · exact fun w st' v Hv' H' ρ' q l so' r => ret_ok P l so' r q so
      · exact fun _ _ _ _ _ _ z => z.elim
      · exact fun _ _ _ _ _ _ z => z.elim
      · exact fun c w env' st' Hv' H' ρ' σ' dd q l S r => exc_ok PX l S.so r q
  cases co with
  | none =>
    have e1 : cus = [] := ca
    subst e1
    have hn : f'.nc = false := hnc
    exact main [] ⟨ρ, st.length, Hv, H, ρ, st.length, Hv, H, none, none⟩ .nil (by rw [hn]; rfl) rfl rfl rfl rfl rfl rfl rfl rfl rfl (fun _ => rfl) (fun v h => by cases h) (fun c h => by cases h)
  | some c =>
    obtain ⟨fl, e1, ck⟩ := ca
    subst e1
    have hn : f'.nc = true := hnc
    exact main [.ref fl] ⟨ρ, st.length, Hv, H, ρ, st.length, Hv, H, some (.ref fl), none⟩ (.cons rfl .nil) (by rw [hn]; rfl) rfl rfl rfl rfl rfl rfl rfl rfl rfl (fun h => by rw [hn] at h; cases h) (fun v h => by cases h; rfl) (fun c' h => by cases h; exact ⟨fl, rfl, ck⟩)
/-- a def's body, whatever the depth -/
def BodyOk (G : Gam) (g : Nat) (f : Fn) (body : List Stmt) (scope : Scope) (cdv : Value) (N : List Str) : Prop :=
  ∀ (d : Nat), (∀ d', d' ≤ d → FOK G d') → ∀ (A : Around) (outer : List PySem.Env) (s : Shared) (H : Hp) (E : XK) (co : Option Clo) (k : Kn), (f.nc = false → k.v0 = none) → k.vx = none →
      XG G d (defCx G N f scope (G.fa g) cdv A outer s H E) → XClo G d ⟨co, none⟩ k (defCx G N f scope (G.fa g) cdv A outer s H E) →
      PSs (defCx G N f scope (G.fa g) cdv A outer s H E) body (tsss G k (callW G.P d) ⟨co, none⟩ (fun cls dd _ H' => E cls dd H') f.body)
theorem fok {G : Gam} (hT : ∀ g f, G.P.fns[g]? = some f → ∃ params body scope cdv N ps, FnTab G g f params body scope cdv N ps ∧ BodyOk G g f body scope cdv N) : ∀ d, FOK G d := by
  intro d
  induction d using Nat.strongRecOn with
  | ind d ih =>
    intro g A outer s H Hv st ρ co cus us ws vs Qw Xw Q E hr e0 so rv rr ca wp P PX
    cases d with
    | zero => exact wp.elim
    | succ e =>
      have hf : ∃ f, G.P.fns[g]? = some f := let ⟨f, h, _⟩ := wp; ⟨f, h⟩
      obtain ⟨f, hf⟩ := hf
      obtain ⟨params, body, scope, cdv, N, ps, T, hb⟩ := hT g f hf
      obtain ⟨dV, kV, doc, pm, an, od, ct, oc, osl, lk, bind⟩ := T.lk
      exact run_def T.code T.sc T.len T.n lk (hb e fun d' hd' => ih d' (Nat.lt_succ_of_le hd')) hr e0 so rv rr ca (fun hl => bind s _ hl) hf wp P PX
end Ev

set_option maxRecDepth 100000
set_option maxHeartbeats 4000000
/-! EvH1: a list comprehension while an exception is handled. -/
namespace Ev
open PySem PySem.Spec PyProof.Rows L2 HotX L2H
/-- the block's context, the handled exception's object held -/
abbrev blkH (X : Cx) (p : Addr × Obj) (s : Shared) (H : Hp) (scope : Scope) (cenv : PySem.Env) (fp : List Addr) : Cx := (X.blk s H scope cenv fp).tr [p] fun _ _ => False
section
variable {X : Cx} {p : Addr × Obj}
/-- the block begins -/
theorem block_hot {scope : Scope} {own : List (Str × Nat)} {fp : List Addr} {pins : List (Addr × Obj)} {σ : L2.St} {H : Hp} {s : Shared} (I : Inv X pins σ H s) (ok : BlkOk X.N X.env.scope scope own) (hN : X.N.Nodup) (hfp : ∀ b ∈ fp, FpOk X pins H b ∧ b < s.heap.objs.size) (hp : p ∈ X.pn) :
    Inv (blkH X p s H scope (compEnvC scope (cellsFrom (s.heap.objs.size + 1) scope.names (cloFrom X.env.cells scope.names [])) s.heap.objs.size X.env) fp) [] (wipe σ (own.map (·.2))) H { s with heap := pushCells (s.heap.push { cls := .type "dict", data := .dict #[] }) scope.names } := by
  obtain ⟨g, n, nL, nF, nc⟩ := I.pin p (List.mem_append_left _ hp)
  refine ((block_start I ok hN hfp).pins_of (pins' := [p]) fun q hq => ?_).toTry _
  obtain rfl : q = p := List.mem_singleton.mp hq
  refine ⟨pushCells_keeps _ _ _ _ (Heap.get?_push_of_some _ g), n, Nat.ne_of_lt (Heap.lt_size g), fun z => ?_, nc⟩
  exact (List.mem_cons.mp (I.stkSub _ z)).elim nL nF
variable {elt tg iter : Expr} {ifs : List Expr} {scope : Scope} {own : List (Str × Nat)} {pos : Pos} {wi : TI} {g : TG} {tt : TT} {te : TE}
theorem pe_lcH (hh : Hot1 X.A p) (hp : p ∈ X.pn) (hN : X.N.Nodup) (hi : PIH X tg iter wi) (ok : BlkOk X.N X.env.scope scope own)
    (hg : ∀ (s : Shared) (H : Hp) (C : Addr) (cl : List (Str × Addr)) (fp : List Addr), PG (blkH X p s H scope (compEnvC scope cl C X.env) fp) tg g) (ht : ∀ (s : Shared) (H : Hp) (C : Addr) (cl : List (Str × Addr)) (fp : List Addr), PTs (blkH X p s H scope (compEnvC scope cl C X.env) fp) ifs tt)
    (he : ∀ (s : Shared) (H : Hp) (C : Addr) (cl : List (Str × Addr)) (fp : List Addr), PE (blkH X p s H scope (compEnvC scope cl C X.env) fp) elt te) (hs : ∀ x, foldedSetIterable iter X.env x = pure x) :
    PE X (.ListComp elt [⟨tg, iter, ifs, 0⟩] scope pos) (tLc wi g tt te (own.map (·.2))) := by
  refine ⟨fun pins s σ H Q I h => ?_⟩
  rw [eval_ListComp]
  refine wpAny_comprehension_free rfl hs (closure_ok fun y hy e => (ok.free y hy e).elim (fun k => I.ok.has _ (.inl k)) fun k => I.ok.has _ (.inr k)) ok.kind (fun y hy e => by rw [ok.uniq y hy, e])
    (thn (hi.run pins s σ H _ I h) fun xv s1 hx => thn hx fun itv s2 ⟨it, fp, tn, J, H2, e, I2, T, st2, f2, q⟩ => ?_)
  subst e
  refine wpAny_newObj_type (newEnv_comp ?_) (by show 0 ≤ sizeLine; decide)
  generalize hD : s2.heap.objs.size = D
  obtain ⟨W, ⟨m0, w0⟩, turn⟩ := q D (I2.hok.fresh (Nat.le_of_eq hD))
  generalize hs3 : ({ s2 with heap := s2.heap.push { cls := .type "list", data := .seq ([] : List Value).toArray } } : Shared) = s3
  have h3 : s3.heap = s2.heap.push { cls := .type "list", data := .seq ([] : List Value).toArray } := by rw [← hs3]
  have I3 : Inv X pins σ (upd H2 D (.lst [])) s3 := by
    rw [← hs3]
    refine I2.laid (t' := s2.toks) (fun b o e => Heap.get?_push_of_some _ e) (Nat.le_of_eq hD) ⟨Nat.zero_le _, [], 0, .nil, ?_⟩
    rw [← hD]
    exact Heap.get?_push_size _ rfl
  have f3 : ∀ b ∈ fp, FpOk X pins (upd H2 D (.lst [])) b ∧ b < s3.heap.objs.size := fun b hb => by
    obtain ⟨o, e, _⟩ := T.obj _ _ st2 b hb
    have hlt := Heap.lt_size e
    refine ⟨⟨?_, (f2 b hb).2⟩, by rw [h3, Heap.size_push]; exact Nat.lt_succ_of_lt hlt⟩
    rw [upd_ne (by rw [← hD]; exact Nat.ne_of_lt hlt)]
    exact (f2 b hb).1
  have st3 : tn 0 s3.heap := T.keep _ _ _ st2 fun b _ o e => by rw [h3]; exact Heap.get?_push_of_some _ e
  have I4 := block_hot I3 ok hN f3 hp
  have pg := hg s3 (upd H2 D (.lst [])) s3.heap.objs.size (cellsFrom (s3.heap.objs.size + 1) scope.names (cloFrom X.env.cells scope.names [])) fp
  have pt := ht s3 (upd H2 D (.lst [])) s3.heap.objs.size (cellsFrom (s3.heap.objs.size + 1) scope.names (cloFrom X.env.cells scope.names [])) fp
  have pe := he s3 (upd H2 D (.lst [])) s3.heap.objs.size (cellsFrom (s3.heap.objs.size + 1) scope.names (cloFrom X.env.cells scope.names [])) fp
  show codeAny _ _ (.compStart (.ListComp elt [⟨tg, iter, ifs, 0⟩] scope pos) 0 (.ref it) (.ref D) (compEnvC scope (cellsFrom (s3.heap.objs.size + 1) scope.names (cloFrom X.env.cells scope.names [])) s3.heap.objs.size X.env)) (compPost (model X.prog X.w) X.A X.xe none (EP X pins σ Q) (.ref D) s3.heap.objs.size) { s3 with heap := pushCells (s3.heap.push { cls := .type "dict", data := .dict #[] }) scope.names }
  generalize hce : compEnvC scope (cellsFrom (s3.heap.objs.size + 1) scope.names (cloFrom X.env.cells scope.names [])) s3.heap.objs.size X.env = ce at I4 pg pt pe ⊢
  have cL : ce.locals = s3.heap.objs.size := by subst hce; rfl
  generalize hH3 : upd H2 D (.lst []) = H3 at I3 I4 pg pt pe w0 f3
  generalize hs4 : ({ s3 with heap := pushCells (s3.heap.push { cls := .type "dict", data := .dict #[] }) scope.names } : Shared) = s4 at I4 ⊢
  have st4 : tn 0 s4.heap := T.keep _ _ _ st3 fun b _ o e => by rw [← hs4]; exact pushCells_keeps _ _ _ _ (Heap.get?_push_of_some _ e)
  have hpl : ∀ b ∈ fp, p.1 ≠ b := fun b hb => (f3 b hb).1.2.2.2.2.2 p (List.mem_append_left _ hp)
  have stat : ∀ {σ' : L2.St} {H' : Hp} {s' : Shared}, Inv (blkH X p s3 H3 scope ce fp) [] σ' H' s' → (∀ b ∈ fp, H' b = none) → ∀ b ∈ fp, FpOk (blkH X p s3 H3 scope ce fp) [] H' b := fun {σ' H' s'} I' hn b hb =>
    ⟨hn b hb, (I'.ok.exf b hb).1, I'.ok.exfs b hb, .inl hb, fun x c e => (I'.ok.exf b hb).2 x c e, fun q hq => by
      rw [List.append_nil] at hq
      obtain rfl : q = p := List.mem_singleton.mp hq
      exact hpl b hb⟩
  have hot : HotC (blkH X p s3 H3 scope ce fp) := ⟨p, hh, List.mem_singleton.mpr rfl⟩
  refine codeAny_compStart_list ?_ (T.self X.A 0 _ _ _ st4 ?_) <;> refine compLoop_any (fun n s' => ∃ i H', Inv (blkH X p s3 H3 scope ce fp) [] (wipe σ (own.map (·.2))) H' s' ∧ tn i s'.heap ∧ (∀ b ∈ fp, H' b = none) ∧ W i n H') ?_ m0 ⟨0, H3, I4, st4, fun b hb => (f3 b hb).1.1, w0⟩ <;> (
    rintro n s5 ⟨i, H5, I5, st5, n5, w5⟩
    rcases turn i n H5 w5 with ⟨stop, qq⟩ | ⟨go, Nx, hNx, step⟩
    · refine thnF (T.done (blkH X p s3 H3 scope ce fp) rfl rfl rfl hot i [] s5 _ H5 (fun _ _ => False) I5 (stat I5 n5) st5 stop) fun r s6 ⟨hr, I6⟩ => ?_
      subst hr
      have I7 : Inv X pins σ H5 s6 := I3.call' (ch := fp) I6.os I6.base I6.hok I6.bare fun b hb => ⟨(f3 b hb).1.2.2.2.1, (f3 b hb).1.2.1, (f3 b hb).1.2.2.2.2.1, (f3 b hb).1.2.2.2.2.2⟩
      have nC : H5 s3.heap.objs.size = none := by rw [← cL]; exact I6.free
      obtain ⟨m, hn, _⟩ := I6.loc
      have hn : s6.heap.Ns ce.locals m := hn
      rw [cL] at hn
      obtain ⟨f0, f1, f2', f3', f4, f5⟩ := I3.fpOk (Nat.le_refl _) nC
      exact ⟨m, hn, fun h'' sb => ⟨.ref D, H5, I7.turned (t' := s6.toks) (fun b o hb e => (sb.2 b hb).trans e) f0 f1 f3' f4 f5, rfl, qq⟩⟩
    · refine thnF (T.item (blkH X p s3 H3 scope ce fp) rfl rfl rfl hot i [] s5 _ H5 (fun _ _ => False) I5 (stat I5 n5) st5 go) fun r s6 ⟨u, hr, h6⟩ => ?_
      subst hr
      refine thnF h6 fun _ s7 ⟨x, H7, I7, r7, y7, st7, n7⟩ => ?_
      refine thnF (pg.run _ s7 _ H7 x u _ (I7.pinned (stat I7 n7) (T.obj _ _ st7)) r7 (step x H7 y7)) fun _ s8 ⟨σ8, H8, I8, hw8, q8⟩ => ?_
      refine thnF (pt.run _ s8 σ8 H8 _ I8 q8) fun b s9 ⟨H9, I9, q9⟩ => ?_
      have fin : ∀ {s' : Shared} {H' : Hp}, Inv (blkH X p s3 H3 scope ce fp) ([] ++ pinsAt fp s7.heap) σ8 H' s' → Nx H' → ∃ m, m < n ∧ ∃ i H', Inv (blkH X p s3 H3 scope ce fp) [] (wipe σ (own.map (·.2))) H' s' ∧ tn i s'.heap ∧ (∀ b ∈ fp, H' b = none) ∧ W i m H' := fun {s' H'} I' nx => by
        obtain ⟨m', hm, w'⟩ := hNx H' nx
        have pin' : ∀ b ∈ fp, ∀ o, s7.heap.get? b = some o → s'.heap.get? b = some o ∧ H' b = none := fun b hb o e =>
          let z := I'.pin (b, o) (List.mem_append_right _ (List.mem_append_right _ (mem_pinsAt hb e)))
          ⟨z.1, z.2.1⟩
        have hl : (wipe σ (own.map (·.2))).length = σ8.length := by rw [← hw8, wipe_length]
        refine ⟨m', hm, i + 1, H', (I'.unpinned (pins := [])).weak hl (fun j v e => ?_), T.keep _ _ _ st7 fun b hb o e => (pin' b hb o e).1, fun b hb => ?_, w'⟩
        · rw [← hw8] at e
          exact (wipe_some e).1
        · obtain ⟨o, e, _⟩ := T.obj _ _ st7 b hb
          exact (pin' b hb o e).2
      cases b with
      | false =>
        simp only [Bool.false_eq_true, if_false] at q9 ⊢
        exact fin I9 q9
      | true =>
        simp only [if_true] at q9 ⊢
        refine thnF (pe.run _ s9 σ8 H9 _ I9 q9) fun z s10 ⟨yv, H10, I10, r10, acc, hD10, hz10, nx⟩ => ?_
        exact app_ok (X := blkH X p s3 H3 scope ce fp) I10 hD10 hz10 r10 fun s11 I11 => fin I11 nx)
end
end Ev

set_option maxRecDepth 100000
set_option maxHeartbeats 4000000
/-! EvH2: targets, walks, comprehensions of the small language while an error is handled. -/
namespace Ev
open PySem PySem.Spec PyProof.Rows L2 HotX L2H
section
variable {prog : Program} {w : World} {A : Around} {E : Value → Shared → Prop} {s : Shared}
/-- a list taken apart -/
theorem unlist_hot {l x1 : Addr} {items : Array Value} {Q : List Value → Shared → Prop} (hot : HotAt A x1 s.heap) (hl : s.heap.IsList l items)
    (hQ : ∀ h', Heap.ExtBut s.heap.objs.size s.heap h' → Q items.toList { s with heap := h' }) : wpAny (model prog w) A (unpackItems (.ref l) items.size none) Q E s := by
  have hlt : l ≠ s.heap.objs.size := by obtain ⟨o, ho, _⟩ := hl; exact Nat.ne_of_lt (Heap.lt_size ho)
  have hx := HotAt.lt hot
  unfold unpackItems
  refine wpAny_bind ?_
  unfold notIterableAtAll
  refine wpAny_bind (wpAny_specialOf hl.typeIs slot_list_iter.lookup (wpAny_pure ?_))
  simp only [Bool.false_eq_true, if_false]
  refine wpAny_bind (wpAny_holding (wpAny_pyIter_list hl (wpAny_bind (wpAny_holding (PySem.W.kun_draw hlt items.size 0 _ _ ⟨_, Heap.get?_push_size _ rfl, rfl, rfl⟩ (hl.push _) (by omega) fun h₁ hit₁ hs₁ => ?_)))))
  have hall : List.take items.size (List.drop 0 items.toList) = items.toList := by
    rw [List.drop_zero]; exact List.take_of_length_le (by simp)
  rw [hall, if_neg (by simp)]
  have hot1 : HotAt A x1 h₁ := HotAt.keep hot fun o e => hs₁.extBut x1 o (Nat.ne_of_lt hx) (Heap.get?_push_of_some _ e)
  refine wpAny_bind (wpAny_holding (list_end_hot hot1 hit₁ ((hl.push _).extBut hs₁.extBut hlt) (by simp) fun h₂ he₂ => ?_))
  simp only [Option.isSome_none, Bool.false_eq_true, if_false]
  exact wpAny_pure (hQ h₂ fun b o hb e => he₂ b o hb (hs₁.extBut b o hb (Heap.get?_push_of_some _ e)))
end
section
variable {X : Cx} {pos : Pos}
theorem pg_unlH {es : List Expr} {k : Nat} {t : TGs} {n : Nat} (hc : HotC X) (h : PGs X es t)
    (hn : (assignEach es X.env).length = n) (hst : (assignEach es X.env).findIdx? (·.1) = none) : PG X (.Tuple es k pos) (gUnl X.K n t) := by
  refine ⟨fun pins s σ H v u Q I r hw => ?_⟩
  obtain ⟨a, xs, e1, hq, hl, hw⟩ := hw
  subst e1
  cases r
  obtain ⟨its, rv, pl, hz⟩ := I.list hq
  obtain ⟨x1, hot⟩ := hc.at I
  have hl' : s.heap.IsList a its.toArray := by
    obtain ⟨o, m, e, c, d, q⟩ := pl
    exact ⟨o, e, c, m, q⟩
  have hn' : (assignEach es X.env).length = its.toArray.size := hn.trans (hl.symm.trans (rv.length.trans (by simp)))
  rw [PyProof.Rows.assign_Tuple]
  refine wpAny_bind (wpAny_standAt ?_)
  unfold unpack
  rw [hn', hst]
  refine wpAny_bind (wpAny_holding (unlist_hot hot hl' fun h' hx => ?_))
  exact h.run pins _ σ H xs _ Q (I.kept (t' := s.toks) fun b o e => hx b o (Nat.ne_of_lt (Heap.lt_size e)) e) (by simpa using rv) hw
variable {G : Gam} {k : Kn} {C : CallSem} {cl : Ex} {Wx : WX} {a : Expr} {ea : E} {tg : Expr}
theorem ok_pgtupH {es : List Expr} {kk : Nat} {ts : List Tg} {pos : Pos} (hK : X.K = G.K) (hc : HotC X) (h : PGs X es (gtgs G k ts)) (hn : (assignEach es X.env).length = ts.length) (hst : (assignEach es X.env).findIdx? (·.1) = none) : PG X (.Tuple es kk pos) (gtg G k (.tup ts)) :=
  pg_weak (pg_or (pg_tupH hc h hn hst) (pg_unlH hc h hn hst)) fun v σ H Q ⟨Hv, env, st, ρ, w, env', S, r, e, q⟩ => by
    simp only [bindT] at e
    split at e
    · cases e
    · rename_i hsc
      split at e
      · rename_i ws hw
        obtain ⟨a, vs, rfl, h1, h2⟩ := seq_any (H := H) (H0 := H) S.so (RVt.of r) hw (fun ns z => hsc (by rw [z]; rfl))
        have hl : ∀ {ts : List Tg} {ws : List W} {env env' : Env}, bindTs st ts ws env = some env' → ts.length = ws.length := by
          intro ts
          induction ts with
          | nil =>
            intro ws env env' e
            cases ws with
            | nil => rfl
            | cons w ws => cases e
          | cons t ts ih =>
            intro ws env env' e
            cases ws with
            | nil => cases e
            | cons w ws =>
              simp only [bindTs] at e
              split at e
              · simp [ih e]
              · cases e
        have hlen : vs.length = ts.length := by rw [hl e, h2.length]
        have go : gtgs G k ts vs σ H Q := ⟨Hv, env, st, ρ, ws, env', S, h2, e, fun σ' S' hw => q σ' S' fun vs h => hw vs h⟩
        rcases h1 with h1 | h1
        · exact .inr ⟨a, vs, rfl, by rw [hK]; exact h1, hlen, go⟩
        · exact .inl ⟨a, vs, rfl, by rw [hK]; exact h1, hlen, go⟩
      · cases e
theorem pih_weak {tg e : Expr} {t t' : TI} (h : PIH X tg e t) (i : ∀ σ H R, t' σ H R → t σ H R) : PIH X tg e t' := ⟨fun pins s σ H R I q => h.run pins s σ H R I (i σ H R q)⟩
theorem ok_iseqH (hK : X.K = G.K) (ha : PE X a (tev G k C cl Wx ea)) : PIH X tg a (tiv G k C cl Wx (.seq ea)) :=
  pih_weak (pi_seqH ha) fun σ H R ⟨Hv, env, st, ρ, Qw, Xw, S, wp, P, PX⟩ =>
    ⟨Hv, env, st, ρ, _, Xw, S, wp, fun w st1 v Hv1 H1 ρ1 q1 l1 so1 r1 => by
      obtain ⟨ws, e, hs, q⟩ := q1
      have e' := seq_split e hs
      obtain ⟨c, rfl⟩ := lst_ref so1 r1 e'
      rw [hK]
      rcases e' with e' | e'
      · obtain ⟨vs, h1, _⟩ := seq_l so1 r1 e'
        exact ⟨c, rfl, .inl ⟨⟨vs, h1⟩, P _ _ _ _ _ _ _ q l1 so1 fun H2 h2 => walk_l (r1.to h2) e'⟩⟩
      · obtain ⟨vs, h1, _⟩ := seq_t so1 r1 e'
        exact ⟨c, rfl, .inr ⟨⟨vs, h1⟩, P _ _ _ _ _ _ _ q l1 so1 fun H2 h2 => walk_t (r1.to h2) e'⟩⟩, PX⟩
variable {p : Addr × Obj} {elt iter : Expr} {ifs : List Expr} {scope : Scope} {own : List (Str × Nat)} {el : E} {t1 : Tg} {i1 : It} {c1 : List E}
theorem ok_lcH (hh : Hot1 X.A p) (hp : p ∈ X.pn) (hN : X.N.Nodup) (hi : PIH X tg iter (tiv G k C cl Wx i1)) (ok : BlkOk X.N X.env.scope scope own) (htg : ∀ i ∈ tgS t1, i ∈ own.map (·.2))
    (hg : ∀ (s : Shared) (H : Hp) (C' : Addr) (cl : List (Str × Addr)) (fp : List Addr), PG (blkH X p s H scope (compEnvC scope cl C' X.env) fp) tg (gtg G k.blk t1)) (ht : ∀ (s : Shared) (H : Hp) (C' : Addr) (cl : List (Str × Addr)) (fp : List Addr), PTs (blkH X p s H scope (compEnvC scope cl C' X.env) fp) ifs (tsv G k.blk C c1))
    (he : ∀ (s : Shared) (H : Hp) (C' : Addr) (cl : List (Str × Addr)) (fp : List Addr), PE (blkH X p s H scope (compEnvC scope cl C' X.env) fp) elt (tev G k.blk C X0 W0 el)) (hs : ∀ x, foldedSetIterable iter X.env x = pure x) :
    PE X (.ListComp elt [⟨tg, iter, ifs, 0⟩] scope pos) (tev G k C cl Wx (.comp own el t1 i1 c1)) :=
  pe_weak (pe_lcH hh hp hN hi ok hg ht he hs) (lc_read htg)
end
end Ev

set_option maxRecDepth 100000
set_option maxHeartbeats 4000000
/-! EvX: own errors: made, raised, caught, asked. -/
namespace Ev
open PySem PySem.Spec PyProof.Rows L2 L2H
/-! ### an error is made: its context is None -/
section
variable {X : Cx} {CX : CXT} {x : Str} {e : Expr} {es : List Expr} {ta : TA} {p pos : Pos} {C fI : Addr} {k : Nat} {fd : FuncData} {ps : List Str} {sp : Sp} {ds : List Value} {dvs : List V}
theorem pmk_errN (T : OexC X.K C) (iC : PySem.W.findIn X.K (.ref C) "__init__" = some (some (.ref fI))) (tI : PySem.W.typeIn X.K (.ref fI) = some (.type "function"))
    (F1 : FnOk X.prog X.w X.K X.mg X.base CX k fI fd ps sp) (hr : Room (k + 1) X.A) (hb : Binds X.K fd ps ds) (hd : Vals dvs ds) (hx : Passes CX X (fun _ _ _ => False)) (hg : Gl X x) (hm : X.mg x = some (.ref C)) (ha : PA X (e :: es) ta)
    (hdb : (x == ("__debug__" : Str)) = false) (he : starEach (e :: es) X.env = (false, eval e X.env) :: starEach es X.env) (hpl : (backTo pos (starEach es X.env)).any (·.1) = false) :
    L2N.PMk X (.Call (.Name x p) (e :: es) [] pos) (tMkO C sp dvs ta) := by
  intro pins s σ H Q I h
  obtain ⟨nm, q, N, bs, bm, sn, sub, ab, col, dd, k0, k1, k2, k3, k5, hC, hbm⟩ := T.cls
  refine wpAny_Call_Name_kw (ld_glob I hg hm (PySem.W.callWith_K (h₀ := X.base) I.ok.mod.kin T.kC (thn (ha.run pos pins s σ H _ I h) fun us s1 ⟨vs, H1, I1, r1, hz, q1⟩ => ⟨I1.kIn, ?_⟩) he hpl) hdb)
  show wpAny _ _ (call (.ref C) us) _ _ _
  obtain ⟨hp, g, dr, tk, os⟩ := s1
  have hsz : hp.objs.size ≤ hp.objs.size + 1 := Nat.le_succ _
  have hq := q1 (hp.objs.size + 1) (I1.hok.fresh hsz)
  have kk : ∀ b o, hp.get? b = some o → ((hp.push (PySem.W.kdv_tup us)).push (PySem.HandSPX.excO C hp.objs.size)).get? b = some o := fun b o e => Heap.get?_push_of_some _ (Heap.get?_push_of_some _ e)
  have I2 : Inv X pins σ (upd H1 (hp.objs.size + 1) (exo (hp.objs.size + 1) C none)) ⟨(hp.push (PySem.W.kdv_tup us)).push (PySem.HandSPX.excO C hp.objs.size), g, dr, tk, os⟩ :=
    I1.laid (t' := tk) (a := hp.objs.size + 1) (o := exo (hp.objs.size + 1) C none) (h' := (hp.push (PySem.W.kdv_tup us)).push (PySem.HandSPX.excO C hp.objs.size)) kk hsz (exo_ok (by heap_get))
  have r2 : Vals (V.ref (hp.objs.size + 1) :: (vs ++ dvs)) (Value.ref (hp.objs.size + 1) :: (us ++ ds)) := .cons rfl (r1.append hd)
  have hl : (Value.ref (hp.objs.size + 1) :: us ++ ds).length = ps.length := by
    have e := r2.length
    rw [F1.len _ _ _ _ hq] at e
    exact e.symm
  have hus : us.length ≤ sizeLine := by
    rw [← Paired.length r1, sizeLine_eq]
    omega
  refine wpAny_call (PySem.HandSPX.call_own F.excBase_ValueError (fun Y => PySem.HandSPX.refsVE_contains Y bm hbm) (I1.kIn _ _ hC) (PySem.W.looks_findIn I1.kIn iC) (fun self => PySem.W.bind_fn I1.kIn self tI) hus
    (codeAny_mono (F1.run _ X.stack _ _ ⟨Value.ref (hp.objs.size + 1) :: us, []⟩ (Value.ref (hp.objs.size + 1) :: (us ++ ds)) _ _ (fun _ _ _ => False) (hr.make C us []) (I2.env0.make C us []) (hb _ (Value.ref (hp.objs.size + 1) :: us) I2.kIn hl) r2 hq) fun r s' hq' => ?_))
  cases r with
  | error er => exact hx pins σ _ _ er s' I2 hq'
  | ok fl =>
    cases fl with
    | ret u =>
      obtain ⟨v, H2, os2, bare2, un2, hok2, rv, ev, d, fs, ea, ed, hd1, q2⟩ := hq'
      subst ev
      obtain ⟨h2, g2, d2, t2, os'⟩ := s'
      obtain ⟨t0, G, J, kG, ge, hoe, na⟩ := mk_end0 (d2 := d2) (t2 := t2) I1 hsz kk un2 hok2 os2 bare2 ea ed hd1
      exact ⟨rv, ⟨hp.objs.size + 1, _, _, ⟨G, g2, d2, t2, os'⟩, _, .ref C, some d, rfl, J, kG, ge, hoe, ⟨rfl, rfl, fun vs hv => by cases hv; rfl⟩, rfl, rfl, na, rfl, bare2, raises_own T.exC T.tyC, q2⟩⟩
    | next => exact False.elim hq'
    | brk => exact False.elim hq'
    | cont => exact False.elim hq'
end
/-- what the own __init__ does -/
def spInit (K : PySem.W.Frag) : Sp := fun vs H Q _ => ∃ (a C : Addr) (y : V), vs = [.ref a, y] ∧ OexC K C ∧ PySem.W.findIn K (.ref C) "what" = some none ∧ H a = some (exo a C none) ∧
  ∀ dx, H dx = none → dx ≠ a → Q .non (upd (upd H dx (exd dx [("what", y)])) a (exo a C (some dx)))
structure ClsOk (G : Gam) (fI : Addr) (c : Nat) : Prop where
  oex : OexC G.K (G.ca c)
  xf : XfC G.K (G.ca c)
  exc : ExcC G.K (G.ca c)
  what : PySem.W.findIn G.K (.ref (G.ca c)) "what" = some none
  init : PySem.W.findIn G.K (.ref (G.ca c)) "__init__" = some (some (.ref fI))
structure ExOk (G : Gam) : Prop where
  init : ∃ fI fd ps, PySem.W.typeIn G.K (.ref fI) = some (.type "function") ∧ FnOk G.prog G.w G.K G.mg G.base (L2N.CX G.prog G.w) 1 fI fd ps (spInit G.K) ∧ Binds G.K fd ps [] ∧ ∀ c, ClsOk G fI c
  mg : ∀ (c : Nat) x, G.P.cls[c]? = some x → G.mg x = some (.ref (G.ca c))
  sub : ∀ c d, PySem.W.exmOne G.K (.ref (G.ca c)) (.ref (G.ca d)) = some (G.P.sub c d) ∧ PySem.W.kitOne G.K (.ref (G.ca c)) (.ref (G.ca d)) = some (G.P.sub c d)
section
variable {G : Gam} {d : Nat} {k : Kn} {C : CallSem} {cl : Ex} {Wx : WX} {X : Cx} {e : Expr} {ee : E} {c : Nat} {x : Str} {p pos pos2 : Pos}
/-- raise C(e) -/
theorem ok_raise (ex : ExOk G) (gx : XG G d X) (hc : X.calm = true) (tk : L2N.Takes X Wx) (hcl : G.P.cls[c]? = some x) (hg : Gl X x) (hdb : (x == ("__debug__" : Str)) = false) (hns : nStar e = true) (he : PE X e (tev G k C cl Wx ee)) :
    PS X (.Raise (some (.Call (.Name x p) [e] [] pos)) none pos2) (tss G k C cl Wx (.raise_ c ee)) := by
  obtain ⟨fI, fd, ps, tI, F1, hb, hcls⟩ := ex.init
  have co := hcls c
  have room : Room (1 + 1) X.A := gx.room.mono (by unfold Rd; omega)
  have F2 : FnOk X.prog X.w X.K X.mg X.base (L2N.CX X.prog X.w) 1 fI fd ps (spInit G.K) := by rw [gx.prog, gx.w, gx.K, gx.mg, gx.base]; exact F1
  have mk := pmk_errN (X := X) (C := G.ca c) (fI := fI) (dvs := []) (ds := []) (pos := pos) (p := p) (by rw [gx.K]; exact co.oex) (by rw [gx.K]; exact co.init) (by rw [gx.K]; exact tI) F2 room (by rw [gx.K]; exact hb) .nil
    (L2N.passes_call tk fun _ _ _ _ z => z.elim) hg (by rw [gx.mg]; exact ex.mg c x hcl) (ok_args_cons he ok_args_nil (star_cons hns)) hdb (star_cons hns) rfl
  refine ps_weak (L2N.ps_raise hc tk mk) fun D σ H ⟨Hv, env, st, ρ, Dw, S, wp, N⟩ => ?_
  refine ⟨Hv, env, st, ρ, (fun ws st1 => ∃ w, ws = [w] ∧ Dw.ex c (ro w) env st1), _, S, ?_, fun ws st1 vs Hv1 H1 ρ1 q1 l1 so1 r1 => ?_, N.px S⟩
  · have e2 : wpEs C G.P cl [ee] env st (fun ws st1 => ∃ w, ws = [w] ∧ Dw.ex c (ro w) env st1) (fun c w st1 => Dw.ex c w env st1) = wpE C G.P cl ee env st (fun w st1 => ∃ w', [w] = [w'] ∧ Dw.ex c (ro w') env st1) (fun c w st1 => Dw.ex c w env st1) := by simp only [wpEs]
    rw [e2]
    have wp : wpE C G.P cl ee env st (fun w st1 => Dw.ex c (ro w) env st1) (fun c w st1 => Dw.ex c w env st1) := by simpa only [wpS] using wp
    have e3 : (fun (w : W) (st1 : Store) => ∃ w', [w] = [w'] ∧ Dw.ex c (ro w') env st1) = fun w st1 => Dw.ex c (ro w) env st1 := by
      funext w st1
      simp
    rw [e3]
    exact wp
  · obtain ⟨w, rfl, q1⟩ := q1
    obtain ⟨v, r, rfl, rw1, rfl⟩ := r1
    obtain ⟨Hv2, l2, lv2, so2, r2, _⟩ := known1 l1 so1 (rw1.r so1)
    refine ⟨by show 1 ≤ 1000; decide, fun a ha => ⟨a, G.ca c, v, rfl, co.oex, co.what, upd_same, fun dx hdx hne => ⟨rfl, dx, [("what", v)], upd_same, ?_, ?_, ?_⟩⟩⟩
    · rw [upd_ne hne, upd_same]
    · rwa [upd_ne hne] at hdx
    · have hdx1 : H1 dx = none := by rwa [upd_ne hne] at hdx
      have eH : upd (del (upd (upd (upd H1 a (exo a (G.ca c) none)) dx (exd dx [("what", v)])) a (exo a (G.ca c) (some dx))) a) dx (.xd [("what", v)]) = upd H1 dx (.xd [("what", v)]) := by
        funext b
        by_cases h : b = dx
        · subst h; rw [upd_same, upd_same]
        · rw [upd_ne h, upd_ne h]
          by_cases h2 : b = a
          · subst h2; rw [del_same, ha]
          · rw [del_ne h2, upd_ne h2, upd_ne h, upd_ne h2]
      rw [eH]
      have l3 := le_new (n := st1.length) so2 (o := .xd [("what", v)]) hdx1
      have so3 := so_new so2 (o := .xd [("what", v)]) hdx1 trivial
      refine N.ex c (ro w) env st1 _ _ ρ1 σ dx q1 (l2.trans l3) ((S.mono l2 so2).mono l3 so3) ⟨v, upd_same, fun i hi z => ?_, RV.mono l3.lv _ _ r2⟩
      obtain ⟨o, h1, _⟩ := so2.sto i st1[i] (List.getElem?_eq_getElem hi)
      have := so2.sub _ _ h1
      rw [z, hdx1] at this
      cases this
end
end Ev

set_option maxRecDepth 100000
set_option maxHeartbeats 4000000
/-! EvX2: the own __init__. -/
namespace Ev
open PySem PySem.Spec PyProof.Rows L2 L2H
def initPat : List Stmt → Bool
  | [.Expr (.Call (.Attribute (.Name n1 _) a1 _) [.Name n2 _, .Name n3 _] [] _) _, .Assign [.Attribute (.Name n4 _) a2 _] (.Name n5 _) _] =>
    decide (n1 = "ValueError") && decide (a1 = "__init__") && decide (n2 = "self") && decide (n3 = "what") && decide (n4 = "self") && decide (a2 = "what") && decide (n5 = "what")
  | _ => false
/-- how its first call is run -/
def initEv (env : PySem.Env) : List Stmt → Prop
  | .Expr (.Call (.Attribute (.Name n1 p1) a1 p2) es [] pos) _ :: _ => ∃ pl : Sem Bool, eval (.Call (.Attribute (.Name n1 p1) a1 p2) es [] pos) env = (do
      let ov ← eval (.Name n1 p1) env
      standAt p2.atName
      let (f, first) ← holding [ov] (getMethod ov a1 pl)
      callWith pos f first (backTo pos (starEach es env)) (backToKw pos (keywordEach [] env)))
  | _ => False
theorem init_fn {P : Program} {w : World} {K : PySem.W.Frag} {mg : Str → Option Value} {base : Heap} {CX : CXT} {f : Addr} {params : Arguments} {body : List Stmt} {scope : Scope} {dV kV doc pm cdv ct oc : Value} {an od : Option Addr} {osl : Array (Option Value)}
    (lk : K.lookup f = some ⟨oc, od, .func (PySem.W.fnOf "__init__" "Refused.__init__" params body scope dV kV doc pm an cdv ct), osl⟩) (hcd : PySem.W.codeIn K cdv "Refused.__init__" = true) (S : FnScope ["self", "what"] ["self", "what"] scope)
    (hp : initPat body = true) (hE : ∀ env, initEv env body) (hve : scope.names.lookup ("ValueError" : Str) = some .globalImplicit) (hm : mg "ValueError" = none) (vV : PySem.W.findCls K (.type "ValueError") (.type "type") "__init__" = some (.val (.builtin "ValueError.__init__"))) :
    FnOk P w K mg base CX 1 f (PySem.W.fnOf "__init__" "Refused.__init__" params body scope dV kV doc pm an cdv ct) ["self", "what"] (spInit K) := by
  refine fn_of lk hcd S (fun vs H Q E h => ?_) fun A outer s H vs Q E hr h => ?_
  · obtain ⟨a, C, y, rfl, _⟩ := h
    rfl
  · obtain ⟨a, C, y, rfl, T, hw, ha, hq⟩ := h
    unfold initPat at hp
    split at hp
    · rename_i n1 p1 a1 p2 n2 p3 n3 p4 p5 p6 n4 p7 a2 p8 n5 p9 p10
      simp only [Bool.and_eq_true, decide_eq_true_eq] at hp
      obtain ⟨⟨⟨⟨⟨⟨rfl, rfl⟩, rfl⟩, rfl⟩, rfl⟩, rfl⟩, rfl⟩ := hp
      have vis : ∀ x ∈ (["self", "what"] : List Str), Vis scope x := fun x hx => by
        rcases S.par x hx with h | h
        · exact .inl h
        · exact .inr (.inl h)
      have v0 : Vis scope "self" := vis _ (List.mem_cons_self ..)
      have v1 : Vis scope "what" := vis _ (List.mem_cons_of_mem _ (List.mem_cons_self ..))
      obtain ⟨pl, hc⟩ := hE (cxOf CX P w K mg base ["self", "what"] "Refused.__init__" scope f cdv A outer s H E).env
      refine ⟨_, pss_cons (ps_expr (pe_veinit (pl := pl) (hc := hc) (show Gl _ "ValueError" from hve) hm vV (pa_cons (pe_var (i := 0) rfl v0) (pa_cons (pe_var (i := 1) rfl v1) pa_nil)))) (pss_one (ps_ost (pe_var (i := 0) rfl v0) (pe_var (i := 1) rfl v1))), ?_⟩
      refine ⟨.ref a, rfl, y, rfl, a, C, [y], rfl, by show 1 ≤ 1000; decide, T, ha, ?_⟩
      refine ⟨y, rfl, .ref a, rfl, a, C, rfl, T, hw, .inl ⟨ha, fun dx n ne => hq dx n ne⟩⟩
    · cases hp
end Ev
namespace Ev
open PySem PySem.Spec PyProof.Rows L2 L2H
theorem vV_any (K : PySem.W.Frag) : PySem.W.findCls K (.type "ValueError") (.type "type") "__init__" = some (.val (.builtin "ValueError.__init__")) := by
  kernel_rfl
end Ev

set_option maxRecDepth 100000
set_option maxHeartbeats 4000000
/-! EvX3: e.what, isinstance(e, C), try: .. except C as e: .. -/
namespace Ev
open PySem PySem.Spec PyProof.Rows L2 L2H
section
variable {G : Gam} {d : Nat} {k : Kn} {C : CallSem} {cl : Ex} {Wx : WX} {X : Cx} {c i : Nat} {x y f : Str} {p1 p2 p3 pos : Pos} {a dd : Addr} {oe : Obj} {w : W} {pn : List (Addr × Obj)}
/-- what is told of the caught error, later on -/
theorem rx_later {ρ ρ' : Nat → Addr} {n n' : Nat} {Hv H Hv' H' : Hp} (r : RX G ρ n Hv w dd) (l : Le ρ n Hv H ρ' n' Hv' H') : RX G ρ' n' Hv' w dd := by
  obtain ⟨v, e, off, rv⟩ := r
  exact ⟨v, l.lv.keep dd _ e off, l.lv.off e off, RV.mono l.lv _ _ rv⟩
theorem ok_what (hK : X.K = G.K) (co : ClsOk G fI c) (hz : L2N.Zn (.ref (G.ca c)) (some dd) oe) (hf : ∃ vs, oe.data = .fields vs) (hN : X.N[i]? = some x) (hv : Vis X.env.scope x) (hd1 : (x == ("__debug__" : Str)) = false) (hd2 : (x == ("__classdict__" : Str)) = false)
    (hvx : k.vx = some (i, .ref a)) (hcl : cl.xc = some (c, w)) (rx : RX G k.ρ1 k.n1 k.Hv1 w dd) : PE (X.suite a ((a, oe) :: pn)) (.Attribute (.Name x p1) "what" pos) (tev G k C cl Wx (.what i)) := by
  refine pe_weak (pe_xf (C := G.ca c) (by rw [hK]; exact co.xf) (by rw [hK]; exact co.what) hz.zc hf (pe_var (X := X.suite a ((a, oe) :: pn)) (i := i) hN hv hd1 hd2) rfl) fun σ H Q ⟨Hv, env, st, ρ, Qw, Xw, S, wp, P, PX⟩ => ?_
  obtain ⟨c', w', e1, q⟩ := wp
  rw [hcl] at e1
  cases e1
  obtain ⟨v, e, off, rv⟩ := rx_later rx S.le1
  exact ⟨.ref a, S.sx _ hvx, rfl, rfl, dd, _, v, rfl, S.so.sub _ _ e, by simp [List.lookup], P w st v Hv H ρ q Le.refl S.so (RVt.of rv)⟩
/-- isinstance, the error with its dict -/
theorem call_isD {D : Addr} (E : ExcC X.K D) (hcl : (PySem.W.clsIn X.K D).isSome = true) (hz : Zc (.ref D) (some dd) oe) (hf : ∃ vs, oe.data = .fields vs) : CallR (X.suite a ((a, oe) :: pn)) (.builtin "isinstance") fun xs H Q => ∃ (u : V) (cv : Value) (b : Bool) (fs : List (Str × V)), xs = [.ref a, u] ∧ (∀ z, RelV u z → z = cv) ∧ PySem.W.kitOne X.K (.ref D) cv = some b ∧ H dd = some (.xd fs) ∧ Q (.bl b) H := by
  intro pins s σ H xs us Q I r h
  obtain ⟨u, cv, b, fs, rfl, hcv, e, hd, q⟩ := h
  cases r with
  | cons rx rr =>
    cases rr with
    | cons rt rr =>
      cases rr
      cases rx
      have ec := hcv _ rt
      subst ec
      obtain ⟨hget, _⟩ := I.pin (a, oe) (List.mem_append.mpr (.inl List.mem_cons_self))
      obtain ⟨vs, hv⟩ := hf
      have hx : ObjOk X.prog X.w H s.heap dd (.xd fs) := I.hok dd _ hd
      obtain ⟨mA, hns, hr⟩ := hx
      obtain ⟨od, ho, hl⟩ := lookIn_ns hns
      have J : PySem.W.InstAt s.heap a oe D (some od) := ⟨hget, hz.1, by unfold PySem.W.notCls; rw [hv] <;> rfl, by rw [hz.2]; exact ho⟩
      exact PySem.W.kia_one (PySem.W.kitx_exc hcl E.hg E.hk E.hs E.ha E.hn E.ht E.hm) I.kIn J e (fun z => nomatch z) fun tk => ⟨.bl b, H, I.kept (t' := tk) fun _ _ z => z, rfl, q⟩
theorem ok_isx (hK : X.K = G.K) (hmg : X.mg = G.mg) (ex : ExOk G) {dc : Nat} (hdc : G.P.cls[dc]? = some y) (hz : L2N.Zn (.ref (G.ca c)) (some dd) oe) (hf : ∃ vs, oe.data = .fields vs) (hN : X.N[i]? = some x) (hv : Vis X.env.scope x) (hd1 : (x == ("__debug__" : Str)) = false) (hd2 : (x == ("__classdict__" : Str)) = false)
    (hg : Gl X "isinstance") (hm : X.mg "isinstance" = none) (hy : Gl X y) (hdy : (y == ("__debug__" : Str)) = false)
    (hvx : k.vx = some (i, .ref a)) (hcl : cl.xc = some (c, w)) (rx : RX G k.ρ1 k.n1 k.Hv1 w dd) : PE (X.suite a ((a, oe) :: pn)) (.Call (.Name "isinstance" p1) [.Name x p2, .Name y p3] [] pos) (tev G k C cl Wx (.isx i dc)) := by
  obtain ⟨fI, fd, ps, tI, F1, hb, hcls⟩ := ex.init
  have co := hcls c
  have hci : (PySem.W.clsIn X.K (G.ca c)).isSome = true := by
    rw [hK]
    obtain ⟨nm, q, N, bs, bm, sn, sub, ab, col, dd, k0, k1, k2, k3, k5, hC, hbm⟩ := co.oex.cls
    unfold PySem.W.clsIn
    rw [hC]
    rfl
  refine pe_weak (pe_callB (X := X.suite a ((a, oe) :: pn)) (call_isD (by rw [hK]; exact co.exc) hci hz.zc hf) hg hm (by decide +kernel) (pa_cons (pe_var (X := X.suite a ((a, oe) :: pn)) (i := i) hN hv hd1 hd2) (pa_cons (pe_glob (v := .ref (G.ca dc)) (X := X.suite a ((a, oe) :: pn)) hy (show X.mg y = some (.ref (G.ca dc)) by rw [hmg]; exact ex.mg dc y hdc) rfl hdy) pa_nil)) (by decide +kernel) (by decide +kernel) rfl rfl) fun σ H Q ⟨Hv, env, st, ρ, Qw, Xw, S, wp, P, PX⟩ => ?_
  obtain ⟨c', w', e1, q⟩ := wp
  rw [hcl] at e1
  cases e1
  obtain ⟨v, e, off, rv⟩ := rx_later rx S.le1
  refine ⟨.ref a, S.sx _ hvx, .ref (G.ca dc), .ref (G.ca dc), G.P.sub c dc, _, rfl, fun _ h => h, by rw [hK]; exact (ex.sub c dc).2, S.so.sub _ _ e, ?_⟩
  exact P (.bl (G.P.sub c dc)) st (.bl (G.P.sub c dc)) Hv H ρ q Le.refl S.so (show RVt G ρ st.length Hv H H (.bl _) (.bl _) from rfl)
/-- try: body, except y as x: suite -/
theorem ok_try {body suite : List Stmt} {b0 : Stmt} {eb es : List S} {np pos' : Pos} (hstk : X.stack = X.env :: X.outer) (hfrm : X.env.frame = some X.env.locals) (hnd : X.N.Nodup) (hi : X.N[i]? = some x) (hln : X.env.kindOf x = some .local) (ex : ExOk G) (hK : X.K = G.K) (hmg : X.mg = G.mg)
    (hc : G.P.cls[c]? = some y) (hy : Gl X y) (hdy : (y == ("__debug__" : Str)) = false) (tk : L2N.Takes X Wx) (hvx : k.vx = none) (hi0 : k.v0 ≠ none → i ≠ 0)
    (hb : ∀ (W' : WX) (pn : List (Addr × Obj)) (xe : Value → Shared → Prop), L2N.Takes (X.tr pn xe) W' → PassesOwn (model X.prog X.w) X.A X.env xe → PSs (X.tr pn xe) body (tsss G k C cl W' eb))
    (hs : ∀ (kS : Kn) (c' : Nat) (w : W) (a : Addr) (oe : Obj) (dd : Addr) (pn : List (Addr × Obj)), L2N.Zn (.ref (G.ca c')) (some dd) oe → (∃ vs, oe.data = .fields vs) → kS.vx = some (i, .ref a) → kS.v0 = k.v0 → RX G kS.ρ1 kS.n1 kS.Hv1 w dd →
      PSs (X.suite a ((a, oe) :: pn)) (b0 :: suite) (tsss G kS C ⟨none, some (c', w)⟩ W0 es)) :
    PS X (.Try body [.ExceptHandler (some (.Name y np)) (some x) (b0 :: suite) pos'] [] [] pos) (tss G k C cl Wx (.try_ eb c i es)) := by
  refine ps_weak (L2N.ps_try_as (c := .ref (G.ca c)) (i := i) (tb := fun W' => tsss G k C cl W' eb)
    (ts := fun a cls d D σ H => ∃ kS c' w dd, cls = .ref (G.ca c') ∧ d = some dd ∧ kS.vx = some (i, .ref a) ∧ kS.v0 = k.v0 ∧ RX G kS.ρ1 kS.n1 kS.Hv1 w dd ∧ tsss G kS C ⟨none, some (c', w)⟩ W0 es D σ H)
    hstk hfrm hnd hi hln ⟨hy, hdy, .inl (by rw [hmg]; exact ex.mg c y hc)⟩ tk hb fun a oe cls d pn hz hf => ?_) fun D σ H ⟨Hv, env, st, ρ, Dw, S, wp, N⟩ => ?_
  · refine ⟨fun pins s σ H D I ⟨kS, c', w, dd, e1, e2, e3, e4, e5, q⟩ => ?_⟩
    subst e1 e2
    exact (hs kS c' w a oe dd pn hz hf e3 e4 e5).run pins s σ H D I q
  · refine ⟨Hv, env, st, ρ, _, S, wp, ⟨N.nx, N.rt, N.bk, N.ct, fun c' w env' st' Hv' H' ρ' σ' dd q l S' r => ?_⟩⟩
    refine ⟨G.P.sub c' c, by rw [hK]; exact (ex.sub c' c).1, fun hb' a na => ?_, fun hb' => ?_⟩
    · have q : if G.P.sub c' c = true then i < env'.length ∧ wpSs C G.P ⟨none, some (c', w)⟩ es (env'.set i .undef) st' { Dw with nx := fun env2 st2 => Dw.nx (env2.set i .undef) st2, bk := fun _ _ => False, ct := fun _ _ => False, ex := fun _ _ _ _ => False } else Dw.ex c' w env' st' := q
      rw [if_pos hb'] at q
      obtain ⟨hil, q⟩ := q
      have hlen : i < σ'.length := by rw [← RVo.length S'.env]; exact hil
      refine ⟨⟨k.ρ0, k.n0, k.Hv0, k.H0, ρ', st'.length, Hv', H', k.v0, some (i, .ref a)⟩, c', w, dd, rfl, rfl, rfl, rfl, r, Hv', env'.set i .undef, st', ρ', _, ⟨S'.le, Le.refl, S'.so, RVo.set (.inl rfl) i S'.env, fun v e => ?_, fun p e => ?_⟩, q, ⟨fun env2 st2 Hv2 H2 ρ2 σ2 q2 l2 S2 => ?_, N.rt.step l, fun _ _ _ _ _ _ z => z.elim, fun _ _ _ _ _ _ z => z.elim, fun _ _ _ _ _ _ _ _ _ z => z.elim⟩⟩
      · have e : k.v0 = some v := e
        rw [List.getElem?_set_ne (hi0 (by rw [e]; simp))]
        exact S'.s0 v e
      · have e : some (i, V.ref a) = some p := e
        cases e
        rw [List.getElem?_set_self hlen]
      · refine N.nx (env2.set i .undef) st2 Hv2 H2 ρ2 (σ2.set i none) q2 (l.trans l2) ⟨S2.le, S'.le1.trans l2, S2.so, RVo.set (.inl rfl) i S2.env, fun v e => ?_, fun p e => by rw [hvx] at e; cases e⟩
        rw [List.getElem?_set_ne (hi0 (by rw [e]; simp))]
        exact S2.s0 v e
    · have q : if G.P.sub c' c = true then i < env'.length ∧ wpSs C G.P ⟨none, some (c', w)⟩ es (env'.set i .undef) st' { Dw with nx := fun env2 st2 => Dw.nx (env2.set i .undef) st2, bk := fun _ _ => False, ct := fun _ _ => False, ex := fun _ _ _ _ => False } else Dw.ex c' w env' st' := q
      rw [if_neg (by rw [hb']; simp)] at q
      exact N.ex c' w env' st' Hv' H' ρ' σ' dd q l S' r
end
end Ev

set_option maxRecDepth 100000
set_option maxHeartbeats 1000000
/-! Ev17: is this text that code? a test, piece by piece. -/
namespace Ev
open PySem PySem.Spec PyProof.Rows L2

/-! ### built-ins and methods by their names -/
def biName : Bi → Str
  | .len => "len"
  | .int => "int"
  | .bool => "bool"
  | .max => "max"
  | .min => "min"
  | .all => "all"
  | .any => "any"
  | .tuple => "tuple"
  | .list => "list"
  | .sum => "sum"
  | .sorted => "sorted"
  | .str => "str"
  | .trange => "tuple"
  | .lrange => "list"
  | _ => "?"
def biOk : Bi → Bool
  | .len => true
  | .int => true
  | .bool => true
  | .max => true
  | .min => true
  | .all => true
  | .any => true
  | .tuple => true
  | .list => true
  | .sum => true
  | .sorted => true
  | .str => true
  | _ => false
section
variable {G : Gam} {k : Kn} {C : CallSem} {cl : Ex} {Wx : WX} {X : Cx} {a : Expr} {as : List Expr} {es : List E} {p pos : Pos}
theorem ok_biN {f : Bi} (h : biOk f = true) (hK : X.K = G.K) (hc : X.calm = true) (hg : Gl X (biName f)) (hm : X.mg (biName f) = none) (ha : PA X (a :: as) (tav G k C cl Wx es))
    (he : starEach (a :: as) X.env = (false, eval a X.env) :: starEach as X.env) (hpl : (backTo pos (starEach as X.env)).any (·.1) = false) : PE X (.Call (.Name (biName f) p) (a :: as) [] pos) (tev G k C cl Wx (.bi f es)) := by
  cases f <;> first
    | exact absurd h Bool.false_ne_true
    | exact ok_bi0 (pe_callB (w_len hK) hg hm (by decide +kernel) ha (by decide +kernel) (by decide +kernel) he hpl)
    | exact ok_bi0 (pe_callTy w_intc hg hm (by decide +kernel) ha (by decide +kernel) (by decide +kernel) he hpl)
    | exact ok_bi0 (pe_callTy w_boolc hg hm (by decide +kernel) ha (by decide +kernel) (by decide +kernel) he hpl)
    | exact ok_bi0 (pe_callTy w_strc hg hm (by decide +kernel) ha (by decide +kernel) (by decide +kernel) he hpl)
    | exact ok_bi0 (pe_callB (w_max hc hK) hg hm (by decide +kernel) ha (by decide +kernel) (by decide +kernel) he hpl)
    | exact ok_bi0 (pe_callB (w_min hc hK) hg hm (by decide +kernel) ha (by decide +kernel) (by decide +kernel) he hpl)
    | exact ok_bi0 (pe_callB (w_all hc hK) hg hm (by decide +kernel) ha (by decide +kernel) (by decide +kernel) he hpl)
    | exact ok_bi0 (pe_callB (w_any hc hK) hg hm (by decide +kernel) ha (by decide +kernel) (by decide +kernel) he hpl)
    | exact ok_bi0 (pe_callB (w_sum hc hK) hg hm (by decide +kernel) ha (by decide +kernel) (by decide +kernel) he hpl)
    | exact ok_bi0 (pe_callB (w_sorted hK) hg hm (by decide +kernel) ha (by decide +kernel) (by decide +kernel) he hpl)
    | exact ok_bi0 (pe_callTy (w_tuple hK) hg hm (by decide +kernel) ha (by decide +kernel) (by decide +kernel) he hpl)
    | exact ok_bi0 (pe_callTy (w_list hK) hg hm (by decide +kernel) ha (by decide +kernel) (by decide +kernel) he hpl)
end
def meName : Me → Str
  | .append => "append"
  | .extend => "extend"
  | .pop => "pop"
  | .popi => "pop"
  | .bitlen => "bit_length"
  | .join => "join"
  | _ => "?"
def meArgs : Me → Bool
  | .append => true
  | .extend => true
  | .popi => true
  | .join => true
  | _ => false
section
variable {G : Gam} {k : Kn} {C : CallSem} {cl : Ex} {Wx : WX} {X : Cx} {a b : Expr} {ea : E} {as : List Expr} {es : List E} {apos cpos : Pos}
theorem ty_list (hK : X.K = G.K) {ρ : Nat → Addr} {Hv H H0 : Hp} {st : Store} {w : W} {v : V} (so : StO G ρ Hv H st) (r : RVt G ρ st.length Hv H H0 w v) (h : ∃ n ws, w = .loc n ∧ st[n]? = some (.lst ws)) : tyV X.K "list" v H := by
  obtain ⟨n, ws, e, hs⟩ := h
  exact ty_of hK so r e hs
theorem ty_str {K : PySem.W.Frag} {ρ : Nat → Addr} {Hv H H0 : Hp} {n : Nat} {w : W} {v : V} (r : RVt G ρ n Hv H H0 w v) (h : ∃ a, w = .str a) : tyV K "str" v H := by
  obtain ⟨a, rfl⟩ := h
  obtain rfl := rvt_str r
  exact rfl
theorem ok_meN {m : Me} (h : meArgs m = true) (hK : X.K = G.K) (ho : PE X a (tev G k C cl Wx ea)) (ha : PA X (b :: as) (tav G k C cl Wx es)) (hb : plainBase a = true) (hst : (b :: as).all nStar = true) (hl : decide ((b :: as).length < 30) = true) (hline : (apos.endLine == cpos.line) = true) :
    PE X (.Call (.Attribute a (meName m) apos) (b :: as) [] cpos) (tev G k C cl Wx (.meth m ea es)) := by
  have hst2 := hst
  simp only [List.all_cons, Bool.and_eq_true] at hst2
  cases m <;> first
    | exact absurd h Bool.false_ne_true
    | exact ok_meth (m := .append) hK PySem.F.plainAttrs_list PySem.F.slot_list_append PySem.F.type_list_append w_append (fun so r h => ty_list hK so r h) ho ha (base_ok hb) (few_ok hst hl) hline (star_cons hst2.1) (star_plain hst2.2)
    | exact ok_meth (m := .extend) hK PySem.F.plainAttrs_list PySem.F.slot_list_extend PySem.F.type_list_extend w_extend (fun so r h => ty_list hK so r h) ho ha (base_ok hb) (few_ok hst hl) hline (star_cons hst2.1) (star_plain hst2.2)
    | exact ok_meth (m := .popi) hK PySem.F.plainAttrs_list PySem.F.slot_list_pop PySem.F.type_list_pop w_popi (fun so r h => ty_list hK so r h) ho ha (base_ok hb) (few_ok hst hl) hline (star_cons hst2.1) (star_plain hst2.2)
    | exact ok_meth (m := .join) hK PySem.F.plainAttrs_str PySem.F.slot_str_join PySem.F.type_str_join (w_join hK) (fun so r h => ty_str r h) ho ha (base_ok hb) (few_ok hst hl) hline (star_cons hst2.1) (star_plain hst2.2)
theorem ok_mePop (hK : X.K = G.K) (ho : PE X a (tev G k C cl Wx ea)) (hb : plainBase a = true) (hline : (apos.endLine == cpos.line) = true) : PE X (.Call (.Attribute a "pop" apos) [] [] cpos) (tev G k C cl Wx (.meth .pop ea [])) :=
  ok_meth0 (m := .pop) hK PySem.F.plainAttrs_list PySem.F.slot_list_pop PySem.F.type_list_pop w_pop (fun so r h => ty_list hK so r h) ho (base_ok hb) hline
end

/-! ### what is known of the place -/
structure Sc where
  N : List Str
  sc : Scope
  fnS : Option Scope
  calm : Bool
  nc : Bool
  xs : Option Nat
  lam : Bool
  loops : Bool
  hot : Bool
/-- what may stand where an exception is handled -/
def okHot : E → Bool
  | .call .. => false
  | .callv .. => false
  | .callc .. => false
  | .callC .. => false
  | .cmp .. => false
  | .cmp2 .. => false
  | .sub .. => false
  | _ => true
def fnT : Option Scope → Str → Bool
  | none, _ => true
  | some s, x => s.names.lookup x == some .cell
def nmB (x : Str) : Bool := !(x == ("__debug__" : Str)) && !(x == ("__classdict__" : Str))
def glB (c : Sc) (x : Str) : Bool := decide (c.sc.names.lookup x = some .globalImplicit) && nmB x
def visB (c : Sc) (x : Str) : Bool := (decide (c.sc.names.lookup x = some .local) || decide (c.sc.names.lookup x = some .cell) || decide (c.sc.names.lookup x = some .free)) && nmB x
def okwB (c : Sc) (i : Nat) : Bool := (!c.nc || decide (i ≠ 0)) && decide (c.xs ≠ some i)
def storB (c : Sc) (i : Nat) (x : Str) : Bool := okwB c i && decide (c.N[i]? = some x) && (decide (c.sc.names.lookup x = some .local) || decide (c.sc.names.lookup x = some .cell)) && (fnT c.fnS x || decide (c.sc.names.lookup x = some .local))
def fnB (P : Prog) (g : Nat) (x : Str) : Bool := match P.fns[g]? with
  | some f => decide (f.name = x)
  | none => false
def conB (P : Prog) (i : Nat) (x : Str) : Bool := match P.cons[i]? with
  | some q => decide (q.1 = x)
  | none => false
def Sc.blk (c : Sc) (scope : Scope) : Sc := { c with sc := relS scope c.sc, fnS := some scope, nc := false, xs := none, loops := false }
def Sc.lamb (c : Sc) (scope : Scope) : Sc := ⟨c.N, scope, some ⟨.function, [], false, false, []⟩, true, false, none, false, false, false⟩
/-- an except suite -/
def Sc.suite (c : Sc) (i : Nat) : Sc := { c with calm := false, hot := true, xs := some i, lam := false, loops := false }
def clsB (P : Prog) (i : Nat) (x : Str) : Bool := decide (P.cls[i]? = some x)
def isTup : Expr → Bool
  | .Tuple .. => true
  | _ => false
/-- [..] stored in a name on its line: does the store go ahead of the block's end -/
def swB (c : Sc) (y : Str) (py pos : Pos) (scope : Scope) : Bool := (c.sc.names.lookup y == some .local) && (py.line == pos.line) && !(scope.names.any fun (n, k) => n == y && (k == .local || k == .cell))

def tupSw (c : Sc) (es : List Expr) : Expr → Bool
  | .Tuple vs _ _ => decide (swOf (fun x => c.sc.names.lookup x) es vs = some none)
  | _ => false
mutual
def chkE (P : Prog) : Nat → Sc → E → Expr → Bool
  | 0, _, _, _ => false
  | n + 1, c, ee, e => (c.calm || okHot ee) && match ee, e with
    | .var i, .Name x _ => decide (c.N[i]? = some x) && visB c x
    | .int i, .Constant (.int j) _ _ => decide (i = j)
    | .bl b, .Constant (.bool b') _ _ => b == b'
    | .non, .Constant .none _ _ => true
    | .str x, .Constant (.str y) _ _ => decide (x = y)
    | .gfn g, .Name x _ => fnB P g x && glB c x
    | .gcon i, .Name x _ => conB P i x && glB c x
    | .tup es, .Tuple as _ _ => chkEs P n c es as && as.all nStar
    | .lst es, .List as _ => chkEs P n c es as && as.all nStar
    | .alloc ee, e => chkE P n c ee e
    | .bin op a b, .BinOp ea op' eb _ => decide (op = op') && chkE P n c a ea && chkE P n c b eb
    | .neg a, .UnaryOp .USub ea _ => chkE P n c a ea
    | .not a, .UnaryOp .Not ea _ => chkE P n c a ea
    | .band es, .BoolOp .And as _ => chkB P n c es as
    | .bor es, .BoolOp .Or as _ => chkB P n c es as
    | .cmp op a b, .Compare ea [op'] [eb] _ => decide (op = op') && chkE P n c a ea && chkE P n c b eb && !behindInMarks op eb
    | .cmp2 o1 o2 a b b2, .Compare ea [p1, p2] [eb, eb2] _ => decide (o1 = p1) && decide (o2 = p2) && chkE P n c a ea && chkE P n c b eb && chkE P n c b2 eb2 && !lastMarks [o1, o2] [eb, eb2]
    | .ife t a b, .IfExp et ea eb _ => chkT P n c t et && chkE P n c a ea && chkE P n c b eb
    | .call g es, .Call (.Name x _) as [] _ => fnB P g x && glB c x && chkEs P n c es as && as.all nStar
    | .callv i es, .Call (.Name x _) (a :: as) [] _ => decide (c.N[i]? = some x) && visB c x && chkEs P n c es (a :: as) && (a :: as).all nStar
    | .callc i, .Call (.Name x _) [] [] _ => decide (i = 0) && decide (c.N[0]? = some x) && visB c x
    | .callC g (.lam l) es, .Call (.Name x _) (.Lambda ⟨[], [], none, [], [], none, []⟩ body scope _ :: as) [] _ => fnB P g x && glB c x && chkEs P n c es as && as.all nStar && c.lam && LamX.lamSB c.sc scope &&
        (match P.lams[l]? with
        | some lam => chkE P n (c.lamb scope) lam.body body
        | none => false)
    | .callC g (.pass i) es, .Call (.Name x _) (.Name y _ :: as) [] _ => fnB P g x && glB c x && chkEs P n c es as && as.all nStar && decide (i = 0) && decide (c.N[0]? = some y) && visB c y
    | .bi .trange [e1], .Call (.Name x _) [.Call (.Name y _) [a1] [] _] [] _ => c.calm && decide (x = "tuple") && decide (y = "range") && glB c x && glB c y && chkE P n c e1 a1 && nStar a1
    | .bi .trange [e1, e2], .Call (.Name x _) [.Call (.Name y _) [a1, a2] [] _] [] _ => c.calm && decide (x = "tuple") && decide (y = "range") && glB c x && glB c y && chkE P n c e1 a1 && nStar a1 && chkE P n c e2 a2 && nStar a2
    | .bi .lrange [e1], .Call (.Name x _) [.Call (.Name y _) [a1] [] _] [] _ => c.calm && decide (x = "list") && decide (y = "range") && glB c x && glB c y && chkE P n c e1 a1 && nStar a1
    | .bi .lrange [e1, e2], .Call (.Name x _) [.Call (.Name y _) [a1, a2] [] _] [] _ => c.calm && decide (x = "list") && decide (y = "range") && glB c x && glB c y && chkE P n c e1 a1 && nStar a1 && chkE P n c e2 a2 && nStar a2
    | .bi f es, .Call (.Name x _) (a :: as) [] _ => biOk f && c.calm && decide (x = biName f) && glB c x && chkEs P n c es (a :: as) && (a :: as).all nStar
    | .isi a t, .Call (.Name x _) [ea, .Name y _] [] _ => decide (x = "isinstance") && decide (y = tyStr t) && glB c x && glB c y && chkE P n c a ea && nStar ea
    | .meth .bitlen o [], .Call (.Attribute eo nm apos) [] [] cpos => decide (nm = "bit_length") && chkE P n c o eo && plainBase eo && (apos.endLine == cpos.line)
    | .meth .pop o [], .Call (.Attribute eo nm apos) [] [] cpos => decide (nm = "pop") && chkE P n c o eo && plainBase eo && (apos.endLine == cpos.line)
    | .meth m o es, .Call (.Attribute eo nm apos) (a :: as) [] cpos => meArgs m && decide (nm = meName m) && chkE P n c o eo && plainBase eo && (apos.endLine == cpos.line) && chkEs P n c es (a :: as) && (a :: as).all nStar && decide ((a :: as).length < 30)
    | .slice a lo hi, .Subscript ea (.Slice l h none _) _ => chkE P n c a ea && chkO P n c lo l && chkO P n c hi h
    | .rev a, .Subscript ea (.Slice none none (some (.UnaryOp .USub (.Constant (.int i) _ _) _)) _) _ => decide (i = 1) && chkE P n c a ea
    | .sub a b, .Subscript ea eb _ => chkE P n c a ea && chkE P n c b eb && nSlice eb
    | .comp own el t it ifs, .ListComp elt gs scope _ => chkL P n c own el t it ifs elt gs scope || (c.hot && chkLH P n c own el t it ifs elt gs scope)
    | .comp2 own vs1 el t it ifs t2 it2 ifs2, .ListComp elt gs scope _ => chkL2 P n c own vs1 el t it ifs t2 it2 ifs2 elt gs scope
    | .what i, .Attribute (.Name x _) nm _ => decide (nm = "what") && decide (c.xs = some i) && decide (c.N[i]? = some x) && visB c x && (P.cls.length != 0)
    | .isx i dc, .Call (.Name f _) [.Name x _, .Name y _] [] _ => decide (f = "isinstance") && decide (c.xs = some i) && decide (c.N[i]? = some x) && visB c x && glB c f && glB c y && clsB P dc y
    | .dnewK, .Dict [] [] _ => true
    | .dnewT, .Dict [] [] _ => true
    | _, _ => false
def chkL (P : Prog) : Nat → Sc → List (Str × Nat) → E → Tg → It → List E → Expr → List Comprehension → Scope → Bool
  | 0, _, _, _, _, _, _, _, _, _ => false
  | n + 1, c, own, el, t, it, ifs, elt, gs, scope => match gs with
    | [⟨tg, iter, cs, ia⟩] => decide (ia = 0) && c.calm && chkI P n c tg it iter && nSet iter && blkC c.N c.sc scope own && (tgS t).all (fun i => decide (i ∈ own.map (·.2))) &&
        chkG P n (c.blk scope) t tg && chkIfs P n (c.blk scope) ifs cs && chkE P n (c.blk scope) el elt
    | _ => false
/-- .. where an exception is handled -/
def chkLH (P : Prog) : Nat → Sc → List (Str × Nat) → E → Tg → It → List E → Expr → List Comprehension → Scope → Bool
  | 0, _, _, _, _, _, _, _, _, _ => false
  | n + 1, c, own, el, t, it, ifs, elt, gs, scope => match it, gs with
    | .seq ei, [⟨tg, iter, cs, ia⟩] => decide (ia = 0) && c.hot && chkE P n c ei iter && nSet iter && blkC c.N c.sc scope own && (tgS t).all (fun i => decide (i ∈ own.map (·.2))) &&
        chkG P n (c.blk scope) t tg && chkIfs P n (c.blk scope) ifs cs && chkE P n (c.blk scope) el elt
    | _, _ => false
def chkL2 (P : Prog) : Nat → Sc → List (Str × Nat) → List Nat → E → Tg → It → List E → Tg → It → List E → Expr → List Comprehension → Scope → Bool
  | 0, _, _, _, _, _, _, _, _, _, _, _, _, _ => false
  | n + 1, c, own, vs1, el, t, it, ifs, t2, it2, ifs2, elt, gs, scope => match gs with
    | [⟨tg, iter, cs, ia⟩, ⟨tg2, iter2, cs2, ia2⟩] => decide (ia = 0) && decide (ia2 = 0) && c.calm && chkI P n c tg it iter && nSet iter && nSet iter2 && blkC c.N c.sc scope own && (tgS t).all (fun i => decide (i ∈ own.map (·.2))) &&
        vs1.all (fun i => decide (i ∈ own.map (·.2))) && (tgS t2).all (fun i => decide (i ∈ vs1)) && chkG P n (c.blk scope) t tg && chkIfs P n (c.blk scope) ifs cs && chkI P n (c.blk scope) tg2 it2 iter2 && chkG P n (c.blk scope) t2 tg2 && chkIfs P n (c.blk scope) ifs2 cs2 && chkE P n (c.blk scope) el elt
    | _ => false
/-- .. as a test -/
def chkT (P : Prog) : Nat → Sc → E → Expr → Bool
  | 0, _, _, _ => false
  | n + 1, c, ee, e => match ee, e with
    | .not a, .UnaryOp .Not ea _ => chkT P n c a ea
    | .band es, .BoolOp .And as _ => chkBT P n c es as
    | .bor es, .BoolOp .Or as _ => chkBT P n c es as
    | .cmp op a b, .Compare ea [op'] [eb] _ => c.calm && decide (op = op') && chkE P n c a ea && chkE P n c b eb && !behindInMarks op eb
    | .cmp2 o1 o2 a b b2, .Compare ea [p1, p2] [eb, eb2] _ => c.calm && decide (o1 = p1) && decide (o2 = p2) && chkE P n c a ea && chkE P n c b eb && chkE P n c b2 eb2 && !lastMarks [o1, o2] [eb, eb2]
    | ee, e => plainTest e && chkE P n c ee e
def chkEs (P : Prog) : Nat → Sc → List E → List Expr → Bool
  | 0, _, _, _ => false
  | n + 1, c, es, as => match es, as with
    | [], [] => true
    | ee :: es, a :: as => chkE P n c ee a && nStar a && chkEs P n c es as
    | _, _ => false
/-- and, or: a value -/
def chkB (P : Prog) : Nat → Sc → List E → List Expr → Bool
  | 0, _, _, _ => false
  | n + 1, c, es, as => match es, as with
    | [ee], [a] => chkE P n c ee a
    | ee :: e2 :: es, a :: a2 :: as => chkE P n c ee a && chkB P n c (e2 :: es) (a2 :: as)
    | _, _ => false
def chkBT (P : Prog) : Nat → Sc → List E → List Expr → Bool
  | 0, _, _, _ => false
  | n + 1, c, es, as => match es, as with
    | [ee], [a] => chkT P n c ee a
    | ee :: e2 :: es, a :: a2 :: as => chkT P n c ee a && chkBT P n c (e2 :: es) (a2 :: as)
    | _, _ => false
def chkO (P : Prog) : Nat → Sc → Option E → Option Expr → Bool
  | 0, _, _, _ => false
  | n + 1, c, es, as => match es, as with
    | none, none => true
    | some ee, some a => chkE P n c ee a
    | _, _ => false
def chkI (P : Prog) : Nat → Sc → Expr → It → Expr → Bool
  | 0, _, _, _, _ => false
  | n + 1, c, tg, it, e => match it, e with
    | .seq ee, e => chkE P n c ee e
    | .rng1 a, .Call (.Name x _) [ea] [] _ => decide (x = "range") && glB c x && chkEs P n c [a] [ea] && nStar ea
    | .rng2 a b, .Call (.Name x _) [ea, eb] [] _ => decide (x = "range") && glB c x && chkEs P n c [a, b] [ea, eb] && nStar ea && nStar eb
    | .enum a, .Call (.Name x _) [ea] [] _ => decide (x = "enumerate") && glB c x && chkEs P n c [a] [ea] && nStar ea && isTup tg
    | .zip a b, .Call (.Name x _) [ea, eb] [] _ => decide (x = "zip") && glB c x && chkEs P n c [a, b] [ea, eb] && nStar ea && nStar eb && isTup tg
    | _, _ => false
def chkG (P : Prog) : Nat → Sc → Tg → Expr → Bool
  | 0, _, _, _ => false
  | n + 1, c, t, e => match t, e with
    | .nm i, .Name x _ => storB c i x
    | .tup ts, .Tuple es _ _ => (c.calm || c.hot) && chkGs P n c ts es && es.all nStar && decide (es.length = ts.length)
    | _, _ => false
def chkGs (P : Prog) : Nat → Sc → List Tg → List Expr → Bool
  | 0, _, _, _ => false
  | n + 1, c, ts, es => match ts, es with
    | [], [] => true
    | t :: ts, e :: es => chkG P n c t e && nStar e && chkGs P n c ts es
    | _, _ => false
def chkIfs (P : Prog) : Nat → Sc → List E → List Expr → Bool
  | 0, _, _, _ => false
  | n + 1, c, es, as => match es, as with
    | [], [] => true
    | [ee], [a] => chkT P n c ee a
    | _, _ => false
end
def chkXs (P : Prog) : Nat → Sc → List Tx → List Expr → Bool
  | 0, _, _, _ => false
  | n + 1, c, ts, es => match ts, es with
    | [], [] => true
    | .nm i :: ts, .Name x _ :: es => storB c i x && chkXs P n c ts es
    | .sub o ix :: ts, .Subscript eo ei _ :: es => chkE P n c o eo && chkE P n c ix ei && nSlice ei && chkXs P n c ts es
    | _, _ => false
mutual
def chkS (P : Prog) : Nat → Sc → S → Stmt → Bool
  | 0, _, _, _ => false
  | n + 1, c, s, st => match s, st with
    | .asg i (.comp own el t it ifs), .Assign [.Name x py] (.ListComp elt gs scope pos) p => storB c i x && chkL P n c own el t it ifs elt gs scope
    | .asg i (.comp2 own vs1 el t it ifs t2 it2 ifs2), .Assign [.Name x py] (.ListComp elt gs scope pos) p => storB c i x && chkL2 P n c own vs1 el t it ifs t2 it2 ifs2 elt gs scope
    | .asg i (.alloc (.comp own el t it ifs)), .Assign [.Name x py] (.ListComp elt gs scope pos) p => storB c i x && chkL P n c own el t it ifs elt gs scope
    | .asg i (.alloc (.comp2 own vs1 el t it ifs t2 it2 ifs2)), .Assign [.Name x py] (.ListComp elt gs scope pos) p => storB c i x && chkL2 P n c own vs1 el t it ifs t2 it2 ifs2 elt gs scope
    | .asg i ee, .Assign [.Name x _] e _ => storB c i x && chkE P n c ee e && nComp e
    | .asgT (.tup ts) ee, .Assign [.Tuple es kt pt] e _ => chkG P n c (.tup ts) (.Tuple es kt pt) && chkE P n c ee e && (nTup e || tupSw c es e)
    | .par [i, j] es, .Assign [.Tuple [.Name x px, .Name y py] kt pt] (.Tuple [a, b] k2 p2) _ => c.calm && okwB c i && okwB c j && decide (c.N[i]? = some x) && decide (c.N[j]? = some y) && decide (i ≠ j) && decide (c.sc.names.lookup x = some .local) && decide (c.sc.names.lookup y = some .local) && chkEs P n c es [a, b] &&
        decide (swOf (fun x => c.sc.names.lookup x) [.Name x px, .Name y py] [a, b] = some (some [x, y]))
    | .par [i, j, l] es, .Assign [.Tuple [.Name x px, .Name y py, .Name z pz] kt pt] (.Tuple [a, b, d] k2 p2) _ => c.calm && okwB c i && okwB c j && okwB c l && decide (c.N[i]? = some x) && decide (c.N[j]? = some y) && decide (c.N[l]? = some z) && decide (i ≠ j) && decide (i ≠ l) && decide (j ≠ l) && decide (c.sc.names.lookup x = some .local) && decide (c.sc.names.lookup y = some .local) && decide (c.sc.names.lookup z = some .local) && chkEs P n c es [a, b, d] &&
        decide (swOf (fun x => c.sc.names.lookup x) [.Name x px, .Name y py, .Name z pz] [a, b, d] = some (some [x, y, z]))
    | .asgS o ix ee, .Assign [.Subscript eo ei _] e _ => c.calm && chkE P n c ee e && chkE P n c o eo && chkE P n c ix ei && nSlice ei
    | .asgX ts ee, .Assign [.Tuple es kt pt] e _ => c.calm && chkXs P n c ts es && es.all nStar && decide (es.length = ts.length) && chkE P n c ee e && (nTup e || tupSw c es e)
    | .ex ee, .Expr e _ => chkE P n c ee e && nComp e
    | .ite t a b, .If et ea eb _ => chkT P n c t et && chkSs P n c a ea && chkSs P n c b eb
    | .for_ t it b, .For tg iter eb [] _ => c.loops && c.calm && chkI P n c tg it iter && chkG P n c t tg && chkSs P n c b eb && nSet iter
    | .while_ t b, .While et eb [] _ => c.loops && chkT P n c t et && chkSs P n c b eb
    | .ret ee, .Return (some e) _ => chkE P n c ee e
    | .retN, .Return none _ => true
    | .brk, .Break _ => true
    | .cont, .Continue _ => true
    | .pass, .Pass _ => true
    | .tryN b, .Try eb (_ :: _) [] [] _ => c.xs.isNone && chkSs P n c b eb
    | .raise_ cc ee, .Raise (some (.Call (.Name x _) [e] [] _)) none _ => c.calm && clsB P cc x && glB c x && nStar e && chkE P n c ee e
    | .try_ b cc i es, .Try eb [.ExceptHandler (some (.Name y _)) (some x) (b0 :: sts) _] [] [] _ => c.calm && c.loops && !c.hot && c.xs.isNone && clsB P cc y && glB c y && okwB c i && decide (c.N[i]? = some x) && decide (c.sc.names.lookup x = some .local) && chkSs P n c b eb && chkSs P n (c.suite i) es (b0 :: sts)
    | _, _ => false
def chkSs (P : Prog) : Nat → Sc → List S → List Stmt → Bool
  | 0, _, _, _ => false
  | n + 1, c, ss, sts => match ss, sts with
    | [], [] => true
    | s :: ss, st :: sts => chkS P n c s st && chkSs P n c ss sts
    | _, _ => false
end
end Ev

set_option maxRecDepth 100000
set_option maxHeartbeats 4000000
/-! Ev18: where the test says so, the text is that code. -/
namespace Ev
open PySem PySem.Spec PyProof.Rows L2 L2H

def bltNames : List Str := ["len", "int", "bool", "max", "min", "all", "any", "tuple", "list", "sum", "sorted", "str", "range", "enumerate", "zip", "isinstance", "ValueError"]
structure GOk (G : Gam) : Prop where
  fns : ∀ (g : Nat) (f : Fn), G.P.fns[g]? = some f → G.mg f.name = some (.ref (G.fa g)) ∧ PySem.W.keepIn G.K (.ref (G.fa g)) = true
  cons : ∀ (i : Nat) (q : Str × W), G.P.cons[i]? = some q → ∃ v u, G.mg q.1 = some u ∧ RelV v u ∧ ∀ ρ n Hv, RV G ρ n Hv q.2 v
  blt : ∀ x ∈ bltNames, G.mg x = none
  ex : ∀ (c : Nat) (x : Str), G.P.cls[c]? = some x → ExOk G
structure XG0 (G : Gam) (X : Cx) : Prop where
  prog : X.prog = G.prog
  w : X.w = G.w
  K : X.K = G.K
  mg : X.mg = G.mg
  base : X.base = G.base
theorem takes0N {X : Cx} : L2N.Takes X W0 := fun _ _ ⟨_, _, _, _, _, _, _, _, _, _, _, _, _, _, _, _, w⟩ => w.elim
structure XOk (G : Gam) (c : Sc) (d : Nat) (k : Kn) (cl : Ex) (Wx : WX) (X : Cx) : Prop where
  g : XG0 G X
  room : c.calm = true → Room (Rd d) X.A
  N : X.N = c.N
  nd : X.N.Nodup
  sc : X.env.scope = c.sc
  kind : X.env.scope.kind = .function
  fn : ∀ x, X.fn x = fnT c.fnS x
  calm : c.calm = true → X.calm = true
  v0 : c.nc = false → k.v0 = none
  vx : ∀ p, k.vx = some p → c.xs = some p.1
  lam : c.lam = true → XLam G X
  pass : c.loops = true → PassesOwn (model X.prog X.w) X.A X.env X.xe
  tk : L2N.Takes X Wx
  clo : XClo G d cl k X
  ch : c.calm = true → c.hot = false
  hot : c.hot = true → ∃ p, Hot1 X.A p ∧ p ∈ X.pn
  frm : c.loops = true → X.stack = X.env :: X.outer ∧ X.env.frame = some X.env.locals
  xc : ∀ i, c.xs = some i → ∃ (Y : Cx) (a : Addr) (oe : Obj) (pn : List (Addr × Obj)) (dd : Addr) (cc : Nat) (w : W), X = Y.suite a ((a, oe) :: pn) ∧ ExOk G ∧ L2N.Zn (.ref (G.ca cc)) (some dd) oe ∧ (∃ vs, oe.data = .fields vs) ∧ k.vx = some (i, .ref a) ∧ cl.xc = some (cc, w) ∧ RX G k.ρ1 k.n1 k.Hv1 w dd
theorem and2 {a b : Bool} (h : (a && b) = true) : a = true ∧ b = true := by simpa using h
section
variable {G : Gam} {c : Sc} {d : Nat} {k : Kn} {cl : Ex} {Wx : WX} {X : Cx} {x : Str} {i : Nat}
theorem nm_ok (h : nmB x = true) : (x == ("__debug__" : Str)) = false ∧ (x == ("__classdict__" : Str)) = false := by
  unfold nmB at h
  simpa using h
theorem XOk.get (o : XOk G c d k cl Wx X) (h : decide (c.N[i]? = some x) = true) : X.N[i]? = some x := by rw [o.N]; exact of_decide_eq_true h
theorem XOk.vis (o : XOk G c d k cl Wx X) (h : visB c x = true) : Vis X.env.scope x ∧ (x == ("__debug__" : Str)) = false ∧ (x == ("__classdict__" : Str)) = false := by
  unfold visB at h
  obtain ⟨h1, h2⟩ := and2 h
  refine ⟨?_, nm_ok h2⟩
  unfold Vis
  rw [o.sc]
  simpa [or_assoc] using h1
theorem XOk.gl (o : XOk G c d k cl Wx X) (h : glB c x = true) : Gl X x ∧ (x == ("__debug__" : Str)) = false := by
  unfold glB at h
  obtain ⟨h1, h2⟩ := and2 h
  refine ⟨?_, (nm_ok h2).1⟩
  show X.env.scope.names.lookup x = _
  rw [o.sc]
  exact of_decide_eq_true h1
theorem GOk.fn (g : GOk G) (h : fnB G.P i x = true) : G.mg x = some (.ref (G.fa i)) ∧ PySem.W.keepIn G.K (.ref (G.fa i)) = true := by
  unfold fnB at h
  split at h
  · rename_i f e
    have := of_decide_eq_true h
    rw [← this]
    exact g.fns i f e
  · cases h
theorem XOk.nog (o : XOk G c d k cl Wx X) (g : GOk G) (h : x ∈ bltNames) : X.mg x = none := by rw [o.g.mg]; exact g.blt x h
theorem XOk.okw (o : XOk G c d k cl Wx X) (h : okwB c i = true) : Okw k i := by
  unfold okwB at h
  obtain ⟨h1, h2⟩ := and2 h
  refine ⟨fun hv => ?_, fun p hp z => ?_⟩
  · cases hn : c.nc with
    | false => exact absurd (o.v0 hn) hv
    | true => rw [hn] at h1; simpa using h1
  · have := o.vx p hp
    rw [z] at this
    exact of_decide_eq_true h2 this
theorem XOk.stor (o : XOk G c d k cl Wx X) (h : storB c i x = true) : Okw k i ∧ X.N[i]? = some x ∧ Loc X.env.scope x ∧ (X.fn x = true ∨ X.env.scope.names.lookup x = some .local) := by
  unfold storB at h
  obtain ⟨h, h4⟩ := and2 h
  obtain ⟨h, h3⟩ := and2 h
  obtain ⟨h1, h2⟩ := and2 h
  refine ⟨o.okw h1, o.get h2, ?_, ?_⟩
  · unfold L2.Loc
    rw [o.sc]
    simpa using h3
  · rw [o.fn, o.sc]
    simpa using h4
theorem XOk.gx (o : XOk G c d k cl Wx X) (h : c.calm = true) : XG G d X := ⟨o.g.prog, o.g.w, o.g.K, o.g.mg, o.g.base, o.room h⟩
theorem XOk.room1 (o : XOk G c d k cl Wx X) (h : c.calm = true) : Room 1 X.A := (o.room h).mono (by unfold Rd; omega)
theorem XOk.blk (hc : c.calm = true) (o : XOk G c d k cl Wx X) {scope : Scope} {own : List (Str × Nat)} (ok : BlkOk X.N X.env.scope scope own) (s : Shared) (H : Hp) (C : Addr) (cl' : List (Str × Addr)) (fp : List Addr) :
    XOk G (c.blk scope) d k.blk X0 W0 (X.blk s H scope (compEnvC scope cl' C X.env) fp) where
  g := ⟨o.g.prog, o.g.w, o.g.K, o.g.mg, o.g.base⟩
  room := o.room
  N := o.N
  nd := o.nd
  sc := by
    show relS scope X.env.scope = relS scope c.sc
    rw [o.sc]
  kind := ok.kind
  fn := fun x => rfl
  calm := o.calm
  v0 := fun _ => rfl
  vx := fun p h => by cases h
  lam := o.lam
  pass := fun h => by cases h
  tk := takes0N
  clo := ⟨fun c h => by cases h⟩
  ch := o.ch
  hot := fun h => by
    have h : c.hot = true := h
    rw [o.ch hc] at h
    cases h
  frm := fun h => by cases h
  xc := fun i h => by cases h
theorem XOk.blkH (o : XOk G c d k cl Wx X) {p : Addr × Obj} (hh : Hot1 X.A p) {scope : Scope} {own : List (Str × Nat)} (ok : BlkOk X.N X.env.scope scope own) (s : Shared) (H : Hp) (C : Addr) (cl' : List (Str × Addr)) (fp : List Addr) :
    XOk G (c.blk scope) d k.blk X0 W0 (Ev.blkH X p s H scope (compEnvC scope cl' C X.env) fp) where
  g := ⟨o.g.prog, o.g.w, o.g.K, o.g.mg, o.g.base⟩
  room := o.room
  N := o.N
  nd := o.nd
  sc := by
    show relS scope X.env.scope = relS scope c.sc
    rw [o.sc]
  kind := ok.kind
  fn := fun x => rfl
  calm := o.calm
  v0 := fun _ => rfl
  vx := fun p h => by cases h
  lam := o.lam
  pass := fun h => by cases h
  tk := takes0N
  clo := ⟨fun c h => by cases h⟩
  ch := o.ch
  hot := fun _ => ⟨p, hh, List.mem_singleton.mpr rfl⟩
  frm := fun h => by cases h
  xc := fun i h => by cases h
theorem XOk.lamb {scope : Scope} (o : XOk G c d k cl Wx X) (L : LamX.LamS X.env.scope scope) {e : Nat} {A : Around} {outer : List PySem.Env} {s : Shared} {H : Hp} {E : XK} {f c' : Addr} {kL : Kn} (h0 : kL.v0 = none) (hx : kL.vx = none) (hr : Room (Rd e) (A.deeper (LamX.lamEnv X scope s.heap.objs.size f c'))) :
    XOk G (c.lamb scope) e kL X0 (fun cls dd _ H' => E cls dd H') (lamCxN X A outer s H E scope f c') where
  g := ⟨o.g.prog, o.g.w, o.g.K, o.g.mg, o.g.base⟩
  room := fun _ => hr
  N := o.N
  nd := o.nd
  sc := rfl
  kind := L.kind
  fn := fun x => rfl
  calm := fun _ => rfl
  v0 := fun _ => h0
  vx := fun p h => by rw [hx] at h; cases h
  lam := fun h => by cases h
  pass := fun h => by cases h
  tk := L2N.takes_of (E := E) rfl rfl rfl rfl
  clo := ⟨fun c h => by cases h⟩
  ch := fun _ => rfl
  hot := fun h => by cases h
  frm := fun h => by cases h
  xc := fun i h => by cases h
end

/-! ### the whole -/
structure Snd (G : Gam) (n : Nat) : Prop where
  E : ∀ c ee e, chkE G.P n c ee e = true → ∀ d, (∀ d', d' ≤ d → FOK G d') → ∀ k cl Wx X, XOk G c d k cl Wx X → PE X e (tev G k (callW G.P d) cl Wx ee)
  T : ∀ c ee e, chkT G.P n c ee e = true → ∀ d, (∀ d', d' ≤ d → FOK G d') → ∀ k cl Wx X, XOk G c d k cl Wx X → PT X e (ttv G k (callW G.P d) cl Wx ee)
  Es : ∀ c es as, chkEs G.P n c es as = true → ∀ d, (∀ d', d' ≤ d → FOK G d') → ∀ k cl Wx X, XOk G c d k cl Wx X → PA X as (tav G k (callW G.P d) cl Wx es)
  BA : ∀ c es as, chkB G.P n c es as = true → ∀ d, (∀ d', d' ≤ d → FOK G d') → ∀ k cl Wx X pos, XOk G c d k cl Wx X → PE X (.BoolOp .And as pos) (tevW G k Wx (wpAnd (callW G.P d) G.P cl es))
  BO : ∀ c es as, chkB G.P n c es as = true → ∀ d, (∀ d', d' ≤ d → FOK G d') → ∀ k cl Wx X pos, XOk G c d k cl Wx X → PE X (.BoolOp .Or as pos) (tevW G k Wx (wpOr (callW G.P d) G.P cl es))
  BAT : ∀ c es as, chkBT G.P n c es as = true → ∀ d, (∀ d', d' ≤ d → FOK G d') → ∀ k cl Wx X pos, XOk G c d k cl Wx X → PW X (.BoolOp .And as pos) (ttvW G k Wx (wpAnd (callW G.P d) G.P cl es))
  BOT : ∀ c es as, chkBT G.P n c es as = true → ∀ d, (∀ d', d' ≤ d → FOK G d') → ∀ k cl Wx X pos, XOk G c d k cl Wx X → PW X (.BoolOp .Or as pos) (ttvW G k Wx (wpOr (callW G.P d) G.P cl es))
  O : ∀ c es as, chkO G.P n c es as = true → ∀ d, (∀ d', d' ≤ d → FOK G d') → ∀ k cl Wx X, XOk G c d k cl Wx X → PO X as (tovW G k (callW G.P d) cl Wx es)
  I : ∀ c tg it e, chkI G.P n c tg it e = true → ∀ d, (∀ d', d' ≤ d → FOK G d') → ∀ k cl Wx X, XOk G c d k cl Wx X → PI X tg e (tiv G k (callW G.P d) cl Wx it)
  Gt : ∀ c t e, chkG G.P n c t e = true → ∀ d k cl Wx X, XOk G c d k cl Wx X → PG X e (gtg G k t)
  Gs : ∀ c ts es, chkGs G.P n c ts es = true → ∀ d k cl Wx X, XOk G c d k cl Wx X → PGs X es (gtgs G k ts)
  L : ∀ c own el t it ifs elt gs scope, chkL G.P n c own el t it ifs elt gs scope = true → ∀ d, (∀ d', d' ≤ d → FOK G d') → ∀ k cl Wx X, XOk G c d k cl Wx X → ∀ pos, PE X (.ListComp elt gs scope pos) (tev G k (callW G.P d) cl Wx (.comp own el t it ifs)) ∧
    ∀ i x py p ee, storB c i x = true → (∀ σ H Q, tev G k (callW G.P d) cl Wx ee σ H Q → tev G k (callW G.P d) cl Wx (.comp own el t it ifs) σ H Q) → PS X (.Assign [.Name x py] (.ListComp elt gs scope pos) p) (tss G k (callW G.P d) cl Wx (.asg i ee))
  LH : ∀ c own el t it ifs elt gs scope, chkLH G.P n c own el t it ifs elt gs scope = true → ∀ d, (∀ d', d' ≤ d → FOK G d') → ∀ k cl Wx X, XOk G c d k cl Wx X → ∀ pos, PE X (.ListComp elt gs scope pos) (tev G k (callW G.P d) cl Wx (.comp own el t it ifs))
  L2 : ∀ c own vs1 el t it ifs t2 it2 ifs2 elt gs scope, chkL2 G.P n c own vs1 el t it ifs t2 it2 ifs2 elt gs scope = true → ∀ d, (∀ d', d' ≤ d → FOK G d') → ∀ k cl Wx X, XOk G c d k cl Wx X → ∀ pos, PE X (.ListComp elt gs scope pos) (tev G k (callW G.P d) cl Wx (.comp2 own vs1 el t it ifs t2 it2 ifs2)) ∧
    ∀ i x py p ee, storB c i x = true → (∀ σ H Q, tev G k (callW G.P d) cl Wx ee σ H Q → tev G k (callW G.P d) cl Wx (.comp2 own vs1 el t it ifs t2 it2 ifs2) σ H Q) → PS X (.Assign [.Name x py] (.ListComp elt gs scope pos) p) (tss G k (callW G.P d) cl Wx (.asg i ee))
  Ifs : ∀ c es as, chkIfs G.P n c es as = true → ∀ d, (∀ d', d' ≤ d → FOK G d') → ∀ k X, XOk G c d k X0 W0 X → PTs X as (tsv G k (callW G.P d) es)
theorem snd0 (G : Gam) : Snd G 0 := ⟨fun _ _ _ h => by simp [chkE] at h, fun _ _ _ h => by simp [chkT] at h, fun _ _ _ h => by simp [chkEs] at h, fun _ _ _ h => by simp [chkB] at h, fun _ _ _ h => by simp [chkB] at h, fun _ _ _ h => by simp [chkBT] at h, fun _ _ _ h => by simp [chkBT] at h,
  fun _ _ _ h => by simp [chkO] at h, fun _ _ _ _ h => by simp [chkI] at h, fun _ _ _ h => by simp [chkG] at h, fun _ _ _ h => by simp [chkGs] at h, fun _ _ _ _ _ _ _ _ _ h => by simp [chkL] at h, fun _ _ _ _ _ _ _ _ _ h => by simp [chkLH] at h, fun _ _ _ _ _ _ _ _ _ _ _ _ _ h => by simp [chkL2] at h, fun _ _ _ h => by simp [chkIfs] at h⟩
section
variable {G : Gam} {n : Nat}
theorem snd_Es (s : Snd G n) : ∀ c es as, chkEs G.P (n + 1) c es as = true → ∀ d, (∀ d', d' ≤ d → FOK G d') → ∀ k cl Wx X, XOk G c d k cl Wx X → PA X as (tav G k (callW G.P d) cl Wx es) := by
  intro c es as h d hF k cl Wx X o
  simp only [chkEs] at h
  split at h
  · exact ok_args_nil
  · obtain ⟨h, h3⟩ := and2 h
    obtain ⟨h1, h2⟩ := and2 h
    exact ok_args_cons (s.E _ _ _ h1 d hF k cl Wx X o) (s.Es _ _ _ h3 d hF k cl Wx X o) (star_cons h2)
  · cases h
theorem snd_BA (s : Snd G n) : ∀ c es as, chkB G.P (n + 1) c es as = true → ∀ d, (∀ d', d' ≤ d → FOK G d') → ∀ k cl Wx X pos, XOk G c d k cl Wx X → PE X (.BoolOp .And as pos) (tevW G k Wx (wpAnd (callW G.P d) G.P cl es)) := by
  intro c es as h d hF k cl Wx X pos o
  simp only [chkB] at h
  split at h
  · exact ok_and1 (s.E _ _ _ h d hF k cl Wx X o)
  · obtain ⟨h1, h2⟩ := and2 h
    exact ok_and2 (s.E _ _ _ h1 d hF k cl Wx X o) (s.BA _ _ _ h2 d hF k cl Wx X pos o)
  · cases h
theorem snd_BO (s : Snd G n) : ∀ c es as, chkB G.P (n + 1) c es as = true → ∀ d, (∀ d', d' ≤ d → FOK G d') → ∀ k cl Wx X pos, XOk G c d k cl Wx X → PE X (.BoolOp .Or as pos) (tevW G k Wx (wpOr (callW G.P d) G.P cl es)) := by
  intro c es as h d hF k cl Wx X pos o
  simp only [chkB] at h
  split at h
  · exact ok_or1 (s.E _ _ _ h d hF k cl Wx X o)
  · obtain ⟨h1, h2⟩ := and2 h
    exact ok_or2 (s.E _ _ _ h1 d hF k cl Wx X o) (s.BO _ _ _ h2 d hF k cl Wx X pos o)
  · cases h
theorem snd_BAT (s : Snd G n) : ∀ c es as, chkBT G.P (n + 1) c es as = true → ∀ d, (∀ d', d' ≤ d → FOK G d') → ∀ k cl Wx X pos, XOk G c d k cl Wx X → PW X (.BoolOp .And as pos) (ttvW G k Wx (wpAnd (callW G.P d) G.P cl es)) := by
  intro c es as h d hF k cl Wx X pos o
  simp only [chkBT] at h
  split at h
  · exact ok_and1T (s.T _ _ _ h d hF k cl Wx X o)
  · obtain ⟨h1, h2⟩ := and2 h
    exact ok_and2T (s.T _ _ _ h1 d hF k cl Wx X o) (s.BAT _ _ _ h2 d hF k cl Wx X pos o)
  · cases h
theorem snd_BOT (s : Snd G n) : ∀ c es as, chkBT G.P (n + 1) c es as = true → ∀ d, (∀ d', d' ≤ d → FOK G d') → ∀ k cl Wx X pos, XOk G c d k cl Wx X → PW X (.BoolOp .Or as pos) (ttvW G k Wx (wpOr (callW G.P d) G.P cl es)) := by
  intro c es as h d hF k cl Wx X pos o
  simp only [chkBT] at h
  split at h
  · exact ok_or1T (s.T _ _ _ h d hF k cl Wx X o)
  · obtain ⟨h1, h2⟩ := and2 h
    exact ok_or2T (s.T _ _ _ h1 d hF k cl Wx X o) (s.BOT _ _ _ h2 d hF k cl Wx X pos o)
  · cases h
theorem snd_O (s : Snd G n) : ∀ c es as, chkO G.P (n + 1) c es as = true → ∀ d, (∀ d', d' ≤ d → FOK G d') → ∀ k cl Wx X, XOk G c d k cl Wx X → PO X as (tovW G k (callW G.P d) cl Wx es) := by
  intro c es as h d hF k cl Wx X o
  simp only [chkO] at h
  split at h
  · exact ok_oNone
  · exact ok_oSome (s.E _ _ _ h d hF k cl Wx X o)
  · cases h
theorem snd_Ifs (s : Snd G n) : ∀ c es as, chkIfs G.P (n + 1) c es as = true → ∀ d, (∀ d', d' ≤ d → FOK G d') → ∀ k X, XOk G c d k X0 W0 X → PTs X as (tsv G k (callW G.P d) es) := by
  intro c es as h d hF k X o
  simp only [chkIfs] at h
  split at h
  · exact ok_ifs0
  · exact ok_ifs1 (s.T _ _ _ h d hF k X0 W0 X o)
  · cases h
theorem snd_G (s : Snd G n) : ∀ c t e, chkG G.P (n + 1) c t e = true → ∀ d k cl Wx X, XOk G c d k cl Wx X → PG X e (gtg G k t) := by
  intro c t e h d k cl Wx X o
  simp only [chkG] at h
  split at h
  · obtain ⟨h1, h2, h3, h4⟩ := o.stor h
    exact ok_nm h1 o.nd h2 h3 h4
  · obtain ⟨h, h4⟩ := and2 h
    obtain ⟨h, h3⟩ := and2 h
    obtain ⟨h1, h2⟩ := and2 h
    simp only [Bool.or_eq_true] at h1
    rcases h1 with h1 | h1
    · exact ok_pgtup o.g.K (o.calm h1) (s.Gs _ _ _ h2 d k cl Wx X o) ((asg_len h3).trans (of_decide_eq_true h4)) (asg_find h3)
    · exact ok_pgtupH o.g.K (o.hot h1) (s.Gs _ _ _ h2 d k cl Wx X o) ((asg_len h3).trans (of_decide_eq_true h4)) (asg_find h3)
  · cases h
theorem snd_Gs (s : Snd G n) : ∀ c ts es, chkGs G.P (n + 1) c ts es = true → ∀ d k cl Wx X, XOk G c d k cl Wx X → PGs X es (gtgs G k ts) := by
  intro c ts es h d k cl Wx X o
  simp only [chkGs] at h
  split at h
  · exact ok_pgnil
  · obtain ⟨h, h3⟩ := and2 h
    obtain ⟨h1, h2⟩ := and2 h
    exact ok_pgcons (s.Gt _ _ _ h1 d k cl Wx X o) (s.Gs _ _ _ h3 d k cl Wx X o) (asg_cons2 h2)
  · cases h
theorem tup_of {e : Expr} (h : isTup e = true) : ∃ es k p, e = .Tuple es k p := by
  cases e <;> first | exact ⟨_, _, _, rfl⟩ | exact absurd h Bool.false_ne_true
theorem snd_I (gk : GOk G) (s : Snd G n) : ∀ c tg it e, chkI G.P (n + 1) c tg it e = true → ∀ d, (∀ d', d' ≤ d → FOK G d') → ∀ k cl Wx X, XOk G c d k cl Wx X → PI X tg e (tiv G k (callW G.P d) cl Wx it) := by
  intro c tg it e h d hF k cl Wx X o
  simp only [chkI] at h
  split at h
  · exact ok_iseq o.g.K (s.E _ _ _ h d hF k cl Wx X o)
  · obtain ⟨h, h4⟩ := and2 h
    obtain ⟨h, h3⟩ := and2 h
    obtain ⟨h1, h2⟩ := and2 h
    have e := of_decide_eq_true h1
    subst e
    exact ok_irng1 (o.gl h2).1 (o.nog gk (by decide)) (s.Es _ _ _ h3 d hF k cl Wx X o) (star_one h4)
  · obtain ⟨h, h5⟩ := and2 h
    obtain ⟨h, h4⟩ := and2 h
    obtain ⟨h, h3⟩ := and2 h
    obtain ⟨h1, h2⟩ := and2 h
    have e := of_decide_eq_true h1
    subst e
    exact ok_irng2 (o.gl h2).1 (o.nog gk (by decide)) (s.Es _ _ _ h3 d hF k cl Wx X o) (star_two h4 h5) (star_one h5)
  · obtain ⟨h, h5⟩ := and2 h
    obtain ⟨h, h4⟩ := and2 h
    obtain ⟨h, h3⟩ := and2 h
    obtain ⟨h1, h2⟩ := and2 h
    have e := of_decide_eq_true h1
    subst e
    obtain ⟨_, _, _, e⟩ := tup_of h5
    subst e
    exact ok_ienum o.g.K (o.gl h2).1 (o.nog gk (by decide)) (s.Es _ _ _ h3 d hF k cl Wx X o) (star_one h4)
  · obtain ⟨h, h6⟩ := and2 h
    obtain ⟨h, h5⟩ := and2 h
    obtain ⟨h, h4⟩ := and2 h
    obtain ⟨h, h3⟩ := and2 h
    obtain ⟨h1, h2⟩ := and2 h
    have e := of_decide_eq_true h1
    subst e
    obtain ⟨_, _, _, e⟩ := tup_of h6
    subst e
    exact ok_izip o.g.K (o.gl h2).1 (o.nog gk (by decide)) (s.Es _ _ _ h3 d hF k cl Wx X o) (star_cons h4) (star_plain (by simp [h5]))
  · cases h
theorem snd_T (s : Snd G n) : ∀ c ee e, chkT G.P (n + 1) c ee e = true → ∀ d, (∀ d', d' ≤ d → FOK G d') → ∀ k cl Wx X, XOk G c d k cl Wx X → PT X e (ttv G k (callW G.P d) cl Wx ee) := by
  intro c ee e h d hF k cl Wx X o
  simp only [chkT] at h
  split at h
  · exact ok_notT (s.T _ _ _ h d hF k cl Wx X o)
  · exact (s.BAT _ _ _ h d hF k cl Wx X _ o).pt
  · exact (s.BOT _ _ _ h d hF k cl Wx X _ o).pt
  · obtain ⟨h, h4⟩ := and2 h
    obtain ⟨h, h3⟩ := and2 h
    obtain ⟨h, h2⟩ := and2 h
    obtain ⟨h0, h1⟩ := and2 h
    have e := of_decide_eq_true h1
    subst e
    exact ok_cmpT o.g.K (o.room1 h0) (s.E _ _ _ h2 d hF k cl Wx X o) (s.E _ _ _ h3 d hF k cl Wx X o) (by simpa using h4)
  · obtain ⟨h, h6⟩ := and2 h
    obtain ⟨h, h5⟩ := and2 h
    obtain ⟨h, h4⟩ := and2 h
    obtain ⟨h, h3⟩ := and2 h
    obtain ⟨h, h2⟩ := and2 h
    obtain ⟨h0, h1⟩ := and2 h
    have e := of_decide_eq_true h1
    subst e
    have e := of_decide_eq_true h2
    subst e
    exact ok_cmp2T o.g.K (o.room1 h0) (s.E _ _ _ h3 d hF k cl Wx X o) (s.E _ _ _ h4 d hF k cl Wx X o) (s.E _ _ _ h5 d hF k cl Wx X o) (by simpa using h6)
  · obtain ⟨h1, h2⟩ := and2 h
    exact ok_truth o.g.K (s.E _ _ _ h2 d hF k cl Wx X o) (test_ok h1)
theorem mem_all {α : Type} [DecidableEq α] {l m : List α} (h : l.all (fun i => decide (i ∈ m)) = true) : ∀ i ∈ l, i ∈ m := fun i hi => of_decide_eq_true (List.all_eq_true.mp h i hi)
theorem sw_comp {elt : Expr} {gs : List Comprehension} {scope : Scope} {pos py : Pos} {y : Str} {l : Nat} {env : PySem.Env} (hk : env.scope.kind = .function) :
    swapsWith (.ListComp elt gs scope pos) (some (.Name y py)) l env = pure ((env.kindOf y == some .local) && (py.line == pos.line) && !(scope.names.any fun (n, k) => n == y && (k == .local || k == .cell))) := by
  have hb : (env.blockKind == .function) = true := by unfold Env.blockKind; rw [hk]; rfl
  unfold swapsWith
  simp only [hb, Expr.pos, Bool.true_and]
theorem snd_L (s : Snd G n) : ∀ c own el t it ifs elt gs scope, chkL G.P (n + 1) c own el t it ifs elt gs scope = true → ∀ d, (∀ d', d' ≤ d → FOK G d') → ∀ k cl Wx X, XOk G c d k cl Wx X → ∀ pos, PE X (.ListComp elt gs scope pos) (tev G k (callW G.P d) cl Wx (.comp own el t it ifs)) ∧
    ∀ i x py p ee, storB c i x = true → (∀ σ H Q, tev G k (callW G.P d) cl Wx ee σ H Q → tev G k (callW G.P d) cl Wx (.comp own el t it ifs) σ H Q) → PS X (.Assign [.Name x py] (.ListComp elt gs scope pos) p) (tss G k (callW G.P d) cl Wx (.asg i ee)) := by
  intro c own el t it ifs elt gs scope h d hF k cl Wx X o pos
  simp only [chkL] at h
  split at h
  · obtain ⟨h, h9⟩ := and2 h
    obtain ⟨h, h8⟩ := and2 h
    obtain ⟨h, h7⟩ := and2 h
    obtain ⟨h, h6⟩ := and2 h
    obtain ⟨h, h5⟩ := and2 h
    obtain ⟨h, h4⟩ := and2 h
    obtain ⟨h, h3⟩ := and2 h
    obtain ⟨h1, h2⟩ := and2 h
    have e := of_decide_eq_true h1
    subst e
    have ok : BlkOk X.N X.env.scope scope own := blkOk_by (by rw [o.N, o.sc]; exact h5)
    have main := ok_lc (pos := pos) (Wx := Wx) (cl := cl) (o.calm h2) o.nd (s.I _ _ _ _ h3 d hF k cl Wx X o) ok (mem_all h6) (fun s' H C cl' fp => s.Gt _ _ _ h7 d _ _ _ _ (XOk.blk h2 o ok s' H C cl' fp)) (fun s' H C cl' fp => s.Ifs _ _ _ h8 d hF _ _ (XOk.blk h2 o ok s' H C cl' fp)) (fun s' H C cl' fp => s.E _ _ _ h9 d hF _ _ _ _ (XOk.blk h2 o ok s' H C cl' fp)) (fold_ok h4)
    refine ⟨main, fun i x py p ee hs hr => ?_⟩
    obtain ⟨k1, k2, k3, k4⟩ := o.stor hs
    cases hb : ((X.env.kindOf x == some .local) && (py.line == pos.line) && !(scope.names.any fun (n, k) => n == x && (k == .local || k == .cell))) with
    | true =>
      have hyl : X.env.scope.names.lookup x = some .local := by
        simp only [Bool.and_eq_true] at hb
        exact eq_of_beq hb.1.1
      exact ps_weak (ps_setLc (o.calm h2) o.nd k2 hyl (by rw [sw_comp o.kind, hb]) (s.I _ _ _ _ h3 d hF k cl Wx X o) ok (fun s' H C cl' fp => s.Gt _ _ _ h7 d _ _ _ _ (XOk.blk h2 o ok s' H C cl' fp)) (fun s' H C cl' fp => s.Ifs _ _ _ h8 d hF _ _ (XOk.blk h2 o ok s' H C cl' fp)) (fun s' H C cl' fp => s.E _ _ _ h9 d hF _ _ _ _ (XOk.blk h2 o ok s' H C cl' fp)) (fold_ok h4))
        (asg_read k1 fun σ H Q q => lc_read (mem_all h6) σ H Q (hr σ H Q q))
    | false => exact ps_weak (ps_set o.nd k2 k3 main (by rw [sw_comp o.kind, hb]) k4) (asg_read k1 hr)
  · cases h
theorem snd_LH (s : Snd G n) : ∀ c own el t it ifs elt gs scope, chkLH G.P (n + 1) c own el t it ifs elt gs scope = true → ∀ d, (∀ d', d' ≤ d → FOK G d') → ∀ k cl Wx X, XOk G c d k cl Wx X → ∀ pos, PE X (.ListComp elt gs scope pos) (tev G k (callW G.P d) cl Wx (.comp own el t it ifs)) := by
  intro c own el t it ifs elt gs scope h d hF k cl Wx X o pos
  simp only [chkLH] at h
  split at h
  · obtain ⟨h, h9⟩ := and2 h
    obtain ⟨h, h8⟩ := and2 h
    obtain ⟨h, h7⟩ := and2 h
    obtain ⟨h, h6⟩ := and2 h
    obtain ⟨h, h5⟩ := and2 h
    obtain ⟨h, h4⟩ := and2 h
    obtain ⟨h, h3⟩ := and2 h
    obtain ⟨h1, h2⟩ := and2 h
    have e := of_decide_eq_true h1
    subst e
    have ok : BlkOk X.N X.env.scope scope own := blkOk_by (by rw [o.N, o.sc]; exact h5)
    obtain ⟨p, hh, hp⟩ := o.hot h2
    exact ok_lcH (pos := pos) (Wx := Wx) (cl := cl) hh hp o.nd (ok_iseqH o.g.K (s.E _ _ _ h3 d hF k cl Wx X o)) ok (mem_all h6) (fun s' H C cl' fp => s.Gt _ _ _ h7 d _ _ _ _ (XOk.blkH o hh ok s' H C cl' fp)) (fun s' H C cl' fp => s.Ifs _ _ _ h8 d hF _ _ (XOk.blkH o hh ok s' H C cl' fp)) (fun s' H C cl' fp => s.E _ _ _ h9 d hF _ _ _ _ (XOk.blkH o hh ok s' H C cl' fp)) (fold_ok h4)
  · cases h
theorem snd_L2 (s : Snd G n) : ∀ c own vs1 el t it ifs t2 it2 ifs2 elt gs scope, chkL2 G.P (n + 1) c own vs1 el t it ifs t2 it2 ifs2 elt gs scope = true → ∀ d, (∀ d', d' ≤ d → FOK G d') → ∀ k cl Wx X, XOk G c d k cl Wx X → ∀ pos, PE X (.ListComp elt gs scope pos) (tev G k (callW G.P d) cl Wx (.comp2 own vs1 el t it ifs t2 it2 ifs2)) ∧
    ∀ i x py p ee, storB c i x = true → (∀ σ H Q, tev G k (callW G.P d) cl Wx ee σ H Q → tev G k (callW G.P d) cl Wx (.comp2 own vs1 el t it ifs t2 it2 ifs2) σ H Q) → PS X (.Assign [.Name x py] (.ListComp elt gs scope pos) p) (tss G k (callW G.P d) cl Wx (.asg i ee)) := by
  intro c own vs1 el t it ifs t2 it2 ifs2 elt gs scope h d hF k cl Wx X o pos
  simp only [chkL2] at h
  split at h
  · obtain ⟨h, h16⟩ := and2 h
    obtain ⟨h, h15⟩ := and2 h
    obtain ⟨h, h14⟩ := and2 h
    obtain ⟨h, h13⟩ := and2 h
    obtain ⟨h, h12⟩ := and2 h
    obtain ⟨h, h11⟩ := and2 h
    obtain ⟨h, h10⟩ := and2 h
    obtain ⟨h, h9⟩ := and2 h
    obtain ⟨h, h8⟩ := and2 h
    obtain ⟨h, h7⟩ := and2 h
    obtain ⟨h, h6⟩ := and2 h
    obtain ⟨h, h5⟩ := and2 h
    obtain ⟨h, h4⟩ := and2 h
    obtain ⟨h, h3⟩ := and2 h
    obtain ⟨h1, h2⟩ := and2 h
    have e := of_decide_eq_true h1
    subst e
    have e := of_decide_eq_true h2
    subst e
    have ok : BlkOk X.N X.env.scope scope own := blkOk_by (by rw [o.N, o.sc]; exact h7)
    have main := ok_lc2 (pos := pos) (Wx := Wx) (cl := cl) (o.calm h3) o.nd (s.I _ _ _ _ h4 d hF k cl Wx X o) ok (mem_all h9) (mem_all h8) (mem_all h10) (fun s' H C cl' fp => s.Gt _ _ _ h11 d _ _ _ _ (XOk.blk h3 o ok s' H C cl' fp)) (fun s' H C cl' fp => s.Ifs _ _ _ h12 d hF _ _ (XOk.blk h3 o ok s' H C cl' fp)) (fun s' H C cl' fp => s.I _ _ _ _ h13 d hF _ _ _ _ (XOk.blk h3 o ok s' H C cl' fp))
      (fun s' H C cl' fp => s.Gt _ _ _ h14 d _ _ _ _ (XOk.blk h3 o ok s' H C cl' fp)) (fun s' H C cl' fp => s.Ifs _ _ _ h15 d hF _ _ (XOk.blk h3 o ok s' H C cl' fp)) (fun s' H C cl' fp => s.E _ _ _ h16 d hF _ _ _ _ (XOk.blk h3 o ok s' H C cl' fp)) (fold_ok h5) (fun env x => fold_ok h6 x)
    refine ⟨main, fun i x py p ee hs hr => ?_⟩
    obtain ⟨k1, k2, k3, k4⟩ := o.stor hs
    cases hb : ((X.env.kindOf x == some .local) && (py.line == pos.line) && !(scope.names.any fun (n, k) => n == x && (k == .local || k == .cell))) with
    | true =>
      have hyl : X.env.scope.names.lookup x = some .local := by
        simp only [Bool.and_eq_true] at hb
        exact eq_of_beq hb.1.1
      exact ps_weak (ps_setLc2 (o.calm h3) o.nd k2 hyl (by rw [sw_comp o.kind, hb]) (s.I _ _ _ _ h4 d hF k cl Wx X o) ok (mem_all h9) (fun s' H C cl' fp => s.Gt _ _ _ h11 d _ _ _ _ (XOk.blk h3 o ok s' H C cl' fp)) (fun s' H C cl' fp => s.Ifs _ _ _ h12 d hF _ _ (XOk.blk h3 o ok s' H C cl' fp)) (fun s' H C cl' fp => s.I _ _ _ _ h13 d hF _ _ _ _ (XOk.blk h3 o ok s' H C cl' fp))
        (fun s' H C cl' fp => s.Gt _ _ _ h14 d _ _ _ _ (XOk.blk h3 o ok s' H C cl' fp)) (fun s' H C cl' fp => s.Ifs _ _ _ h15 d hF _ _ (XOk.blk h3 o ok s' H C cl' fp)) (fun s' H C cl' fp => s.E _ _ _ h16 d hF _ _ _ _ (XOk.blk h3 o ok s' H C cl' fp)) (fold_ok h5) (fun env x => fold_ok h6 x))
        (asg_read k1 fun σ H Q q => lc2_read (mem_all h8) (mem_all h10) σ H Q (hr σ H Q q))
    | false => exact ps_weak (ps_set o.nd k2 k3 main (by rw [sw_comp o.kind, hb]) k4) (asg_read k1 hr)
  · cases h
end
end Ev

set_option maxRecDepth 100000
set_option maxHeartbeats 8000000
/-! Ev19: .. expressions. -/
namespace Ev
open PySem PySem.Spec PyProof.Rows L2 L2H
section
variable {G : Gam} {n : Nat}
theorem bi_mem {f : Bi} : biOk f = true → biName f ∈ bltNames := by cases f <;> decide
theorem ty_mem {t : Ty} : tyStr t ∈ bltNames := by cases t <;> decide
theorem chk_nil {P : Prog} {n : Nat} {c : Sc} {es : List E} (h : chkEs P n c es [] = true) : es = [] := by
  cases n with
  | zero => simp [chkEs] at h
  | succ n =>
    simp only [chkEs] at h
    split at h
    · rfl
    · rename_i e1; cases e1
    · cases h
theorem ok_callA {d : Nat} {k : Kn} {cl : Ex} {Wx : WX} {X : Cx} {x : Str} {p pos : Pos} {g : Nat} {es : List E} (F : FOK G d) (gx : XG G d X) (tk : L2N.Takes X Wx) (hg : Gl X x) (hm : G.mg x = some (.ref (G.fa g))) (hk : PySem.W.keepIn G.K (.ref (G.fa g)) = true) :
    ∀ {as : List Expr}, PA X as (tav G k (callW G.P d) cl Wx es) → (as = [] → es = []) → (x == ("__debug__" : Str)) = false → as.all nStar = true → PE X (.Call (.Name x p) as [] pos) (tev G k (callW G.P d) cl Wx (.call g es))
  | [], ha, hn, hdb, _ => by
    have e := hn rfl
    subst e
    exact ok_call0 F gx tk hg hm hk hdb
  | a :: as, ha, hn, hdb, hs => by
    simp only [List.all_cons, Bool.and_eq_true] at hs
    exact ok_call F gx tk hg hm hk ha hdb (star_cons hs.1) (star_plain hs.2)
theorem cal {c : Sc} {ee : E} (h : (c.calm || okHot ee) = true) (n : okHot ee = false) : c.calm = true := by
  rw [n, Bool.or_false] at h
  exact h
theorem snd_E (gk : GOk G) (s : Snd G n) : ∀ c ee e, chkE G.P (n + 1) c ee e = true → ∀ d, (∀ d', d' ≤ d → FOK G d') → ∀ k cl Wx X, XOk G c d k cl Wx X → PE X e (tev G k (callW G.P d) cl Wx ee) := by
  intro c ee e h d hF k cl Wx X o
  simp only [chkE] at h
  obtain ⟨h0, h⟩ := and2 h
  split at h
  · -- var
    obtain ⟨h1, h2⟩ := and2 h
    obtain ⟨h2, h3, h4⟩ := o.vis h2
    exact ok_var (o.get h1) h2 h3 h4
  · have e := of_decide_eq_true h
    subst e
    exact ok_const pe_int (fun _ _ _ _ h => h) fun _ _ _ => rfl
  · have e := eq_of_beq h
    subst e
    exact ok_const pe_bl (fun _ _ _ _ h => h) fun _ _ _ => rfl
  · exact ok_const pe_non (fun _ _ _ _ h => h) fun _ _ _ => rfl
  · have e := of_decide_eq_true h
    subst e
    exact ok_const pe_str (fun _ _ _ _ h => h) fun _ _ _ => rfl
  · -- gfn
    obtain ⟨h1, h2⟩ := and2 h
    obtain ⟨h3, h4⟩ := gk.fn h1
    exact ok_gfn (o.gl h2).1 (by rw [o.g.mg]; exact h3) rfl (o.gl h2).2
  · -- gcon
    obtain ⟨h1, h2⟩ := and2 h
    unfold conB at h1
    split at h1
    · rename_i q hq
      have e := of_decide_eq_true h1
      subst e
      obtain ⟨v, u, hm, r, rv⟩ := gk.cons _ _ hq
      exact ok_gcon (w := q.2) (o.gl h2).1 (by rw [o.g.mg]; exact hm) r hq rv (o.gl h2).2
    · cases h1
  · obtain ⟨h1, h2⟩ := and2 h
    exact ok_tup (s.Es _ _ _ h1 d hF k cl Wx X o)
  · obtain ⟨h1, h2⟩ := and2 h
    exact ok_lst (s.Es _ _ _ h1 d hF k cl Wx X o)
  · exact ok_alloc (s.E _ _ _ h d hF k cl Wx X o)
  · obtain ⟨h, h3⟩ := and2 h
    obtain ⟨h1, h2⟩ := and2 h
    have e := of_decide_eq_true h1
    subst e
    exact ok_bin o.g.K (s.E _ _ _ h2 d hF k cl Wx X o) (s.E _ _ _ h3 d hF k cl Wx X o)
  · exact ok_neg (s.E _ _ _ h d hF k cl Wx X o)
  · exact ok_not o.g.K (s.E _ _ _ h d hF k cl Wx X o)
  · exact s.BA _ _ _ h d hF k cl Wx X _ o
  · exact s.BO _ _ _ h d hF k cl Wx X _ o
  · obtain ⟨h, h4⟩ := and2 h
    obtain ⟨h, h3⟩ := and2 h
    obtain ⟨h1, h2⟩ := and2 h
    have e := of_decide_eq_true h1
    subst e
    exact ok_cmp o.g.K (o.room1 (cal h0 rfl)) (s.E _ _ _ h2 d hF k cl Wx X o) (s.E _ _ _ h3 d hF k cl Wx X o) (by simpa using h4)
  · obtain ⟨h, h6⟩ := and2 h
    obtain ⟨h, h5⟩ := and2 h
    obtain ⟨h, h4⟩ := and2 h
    obtain ⟨h, h3⟩ := and2 h
    obtain ⟨h1, h2⟩ := and2 h
    have e := of_decide_eq_true h1
    subst e
    have e := of_decide_eq_true h2
    subst e
    exact ok_cmp2 o.g.K (o.room1 (cal h0 rfl)) (s.E _ _ _ h3 d hF k cl Wx X o) (s.E _ _ _ h4 d hF k cl Wx X o) (s.E _ _ _ h5 d hF k cl Wx X o) (by simpa using h6)
  · obtain ⟨h, h3⟩ := and2 h
    obtain ⟨h1, h2⟩ := and2 h
    exact ok_ife (s.T _ _ _ h1 d hF k cl Wx X o) (s.E _ _ _ h2 d hF k cl Wx X o) (s.E _ _ _ h3 d hF k cl Wx X o)
  · -- call
    obtain ⟨h, h4⟩ := and2 h
    obtain ⟨h, h3⟩ := and2 h
    obtain ⟨h1, h2⟩ := and2 h
    obtain ⟨h5, h6⟩ := gk.fn h1
    exact ok_callA (hF d (Nat.le_refl _)) (o.gx (cal h0 rfl)) o.tk (o.gl h2).1 h5 h6 (s.Es _ _ _ h3 d hF k cl Wx X o) (fun e => by subst e; exact chk_nil h3) (o.gl h2).2 h4
  · -- callv
    obtain ⟨h, h4⟩ := and2 h
    obtain ⟨h, h3⟩ := and2 h
    obtain ⟨h1, h2⟩ := and2 h
    simp only [List.all_cons, Bool.and_eq_true] at h4
    obtain ⟨v1, v2, v3⟩ := o.vis h2
    exact ok_callv (hF d (Nat.le_refl _)) (o.gx (cal h0 rfl)) o.tk (o.get h1) v1 (fun g hg => by
      have hf : G.P.fns[g]? = some G.P.fns[g] := List.getElem?_eq_getElem hg
      exact (gk.fns g _ hf).2) (s.Es _ _ _ h3 d hF k cl Wx X o) v2 v3 (star_cons h4.1) (star_plain h4.2)
  · -- callc
    obtain ⟨h, h3⟩ := and2 h
    obtain ⟨h1, h2⟩ := and2 h
    have e := of_decide_eq_true h1
    subst e
    obtain ⟨v1, v2, v3⟩ := o.vis h3
    exact ok_callc (o.gx (cal h0 rfl)) o.tk o.clo (o.get h2) v1 v2 v3
  · -- callC, a lambda
    obtain ⟨h, h7⟩ := and2 h
    obtain ⟨h, h6⟩ := and2 h
    obtain ⟨h, h5⟩ := and2 h
    obtain ⟨h, h4⟩ := and2 h
    obtain ⟨h, h3⟩ := and2 h
    obtain ⟨h1, h2⟩ := and2 h
    split at h7
    · rename_i lam hl
      obtain ⟨h8, h9⟩ := gk.fn h1
      have L : LamX.LamS X.env.scope _ := LamX.lamS_by (by rw [o.sc]; exact h6)
      refine ok_callC (hF d (Nat.le_refl _)) (o.gx (cal h0 rfl)) o.tk (o.gl h2).1 h8 h9 (s.Es _ _ _ h3 d hF k cl Wx X o) (o.gl h2).2 (star_plain h4) (o.lam h5) L hl rfl (fun q cl pm cv ctv => rfl) fun e he A outer s' H E f c' kL k0 kx hr => ?_
      exact s.E _ _ _ h7 e (fun d' hd' => hF d' (by omega)) kL X0 _ _ (o.lamb L k0 kx hr)
    · cases h7
  · -- callC, handed on
    obtain ⟨h, h7⟩ := and2 h
    obtain ⟨h, h6⟩ := and2 h
    obtain ⟨h, h5⟩ := and2 h
    obtain ⟨h, h4⟩ := and2 h
    obtain ⟨h, h3⟩ := and2 h
    obtain ⟨h1, h2⟩ := and2 h
    have e := of_decide_eq_true h5
    subst e
    obtain ⟨h8, h9⟩ := gk.fn h1
    obtain ⟨v1, v2, v3⟩ := o.vis h7
    exact ok_passC (hF d (Nat.le_refl _)) (o.gx (cal h0 rfl)) o.tk o.clo (o.gl h2).1 h8 h9 (s.Es _ _ _ h3 d hF k cl Wx X o) (o.gl h2).2 (star_plain h4) (o.get h6) v1 v2 v3
  · obtain ⟨h, h7⟩ := and2 h
    obtain ⟨h, h6⟩ := and2 h
    obtain ⟨h, h5⟩ := and2 h
    obtain ⟨h, h4⟩ := and2 h
    obtain ⟨h, h3⟩ := and2 h
    obtain ⟨h1, h2⟩ := and2 h
    have e := of_decide_eq_true h2
    subst e
    have e := of_decide_eq_true h3
    subst e
    exact ok_trange1 (o.calm h1) (o.gl h4).1 (o.nog gk (by decide)) (o.gl h5).1 (o.nog gk (by decide)) (s.E _ _ _ h6 d hF k cl Wx X o) (star_cons h7)
  · obtain ⟨h, h9⟩ := and2 h
    obtain ⟨h, h8⟩ := and2 h
    obtain ⟨h, h7⟩ := and2 h
    obtain ⟨h, h6⟩ := and2 h
    obtain ⟨h, h5⟩ := and2 h
    obtain ⟨h, h4⟩ := and2 h
    obtain ⟨h, h3⟩ := and2 h
    obtain ⟨h1, h2⟩ := and2 h
    have e := of_decide_eq_true h2
    subst e
    have e := of_decide_eq_true h3
    subst e
    exact ok_trange2 (o.calm h1) (o.gl h4).1 (o.nog gk (by decide)) (o.gl h5).1 (o.nog gk (by decide)) (s.E _ _ _ h6 d hF k cl Wx X o) (s.E _ _ _ h8 d hF k cl Wx X o) (star_cons h7) (star_cons h9)
  · obtain ⟨h, h7⟩ := and2 h
    obtain ⟨h, h6⟩ := and2 h
    obtain ⟨h, h5⟩ := and2 h
    obtain ⟨h, h4⟩ := and2 h
    obtain ⟨h, h3⟩ := and2 h
    obtain ⟨h1, h2⟩ := and2 h
    have e := of_decide_eq_true h2
    subst e
    have e := of_decide_eq_true h3
    subst e
    exact ok_lrange1 (o.calm h1) (o.gl h4).1 (o.nog gk (by decide)) (o.gl h5).1 (o.nog gk (by decide)) (s.E _ _ _ h6 d hF k cl Wx X o) (star_cons h7)
  · obtain ⟨h, h9⟩ := and2 h
    obtain ⟨h, h8⟩ := and2 h
    obtain ⟨h, h7⟩ := and2 h
    obtain ⟨h, h6⟩ := and2 h
    obtain ⟨h, h5⟩ := and2 h
    obtain ⟨h, h4⟩ := and2 h
    obtain ⟨h, h3⟩ := and2 h
    obtain ⟨h1, h2⟩ := and2 h
    have e := of_decide_eq_true h2
    subst e
    have e := of_decide_eq_true h3
    subst e
    exact ok_lrange2 (o.calm h1) (o.gl h4).1 (o.nog gk (by decide)) (o.gl h5).1 (o.nog gk (by decide)) (s.E _ _ _ h6 d hF k cl Wx X o) (s.E _ _ _ h8 d hF k cl Wx X o) (star_cons h7) (star_cons h9)
  · -- a built-in
    obtain ⟨h, h6⟩ := and2 h
    obtain ⟨h, h5⟩ := and2 h
    obtain ⟨h, h4⟩ := and2 h
    obtain ⟨h, h3⟩ := and2 h
    obtain ⟨h1, h2⟩ := and2 h
    have e := of_decide_eq_true h3
    subst e
    simp only [List.all_cons, Bool.and_eq_true] at h6
    exact ok_biN h1 o.g.K (o.calm h2) (o.gl h4).1 (o.nog gk (bi_mem h1)) (s.Es _ _ _ h5 d hF k cl Wx X o) (star_cons h6.1) (star_plain h6.2)
  · -- isinstance
    obtain ⟨h, h6⟩ := and2 h
    obtain ⟨h, h5⟩ := and2 h
    obtain ⟨h, h4⟩ := and2 h
    obtain ⟨h, h3⟩ := and2 h
    obtain ⟨h1, h2⟩ := and2 h
    have e := of_decide_eq_true h1
    subst e
    have e := of_decide_eq_true h2
    subst e
    exact ok_isi (p := ⟨0, 0, 0, 0⟩) o.g.K rfl (o.gl h3).1 (o.nog gk (by decide)) (o.gl h4).1 (o.nog gk ty_mem) (s.E _ _ _ h5 d hF k cl Wx X o) (star_cons h6)
  · -- bit_length
    obtain ⟨h, h4⟩ := and2 h
    obtain ⟨h, h3⟩ := and2 h
    obtain ⟨h1, h2⟩ := and2 h
    have e := of_decide_eq_true h1
    subst e
    exact ok_bits (s.E _ _ _ h2 d hF k cl Wx X o) (base_ok h3) h4
  · -- pop
    obtain ⟨h, h4⟩ := and2 h
    obtain ⟨h, h3⟩ := and2 h
    obtain ⟨h1, h2⟩ := and2 h
    have e := of_decide_eq_true h1
    subst e
    exact ok_mePop o.g.K (s.E _ _ _ h2 d hF k cl Wx X o) h3 h4
  · -- a method
    obtain ⟨h, h8⟩ := and2 h
    obtain ⟨h, h7⟩ := and2 h
    obtain ⟨h, h6⟩ := and2 h
    obtain ⟨h, h5⟩ := and2 h
    obtain ⟨h, h4⟩ := and2 h
    obtain ⟨h, h3⟩ := and2 h
    obtain ⟨h1, h2⟩ := and2 h
    have e := of_decide_eq_true h2
    subst e
    exact ok_meN h1 o.g.K (s.E _ _ _ h3 d hF k cl Wx X o) (s.Es _ _ _ h6 d hF k cl Wx X o) h4 h7 h8 h5
  · -- slice
    obtain ⟨h, h3⟩ := and2 h
    obtain ⟨h1, h2⟩ := and2 h
    exact ok_slice o.g.K (s.E _ _ _ h1 d hF k cl Wx X o) (s.O _ _ _ h2 d hF k cl Wx X o) (s.O _ _ _ h3 d hF k cl Wx X o)
  · -- rev
    obtain ⟨h1, h2⟩ := and2 h
    have e := of_decide_eq_true h1
    subst e
    exact ok_rev o.g.K (s.E _ _ _ h2 d hF k cl Wx X o)
  · -- sub
    obtain ⟨h, h3⟩ := and2 h
    obtain ⟨h1, h2⟩ := and2 h
    exact ok_sub o.g.K (o.room1 (cal h0 rfl)) (s.E _ _ _ h1 d hF k cl Wx X o) (s.E _ _ _ h2 d hF k cl Wx X o) (ix_ok h3)
  · simp only [Bool.or_eq_true] at h
    rcases h with h | h
    · exact (s.L _ _ _ _ _ _ _ _ _ h d hF k cl Wx X o _).1
    · exact s.LH _ _ _ _ _ _ _ _ _ (and2 h).2 d hF k cl Wx X o _
  · exact (s.L2 _ _ _ _ _ _ _ _ _ _ _ _ _ h d hF k cl Wx X o _).1
  · -- e.what
    obtain ⟨h, h5⟩ := and2 h
    obtain ⟨h, h4⟩ := and2 h
    obtain ⟨h, h3⟩ := and2 h
    obtain ⟨h1, h2⟩ := and2 h
    have e := of_decide_eq_true h1
    subst e
    have e2 := of_decide_eq_true h2
    obtain ⟨v1, v2, v3⟩ := o.vis h4
    have gN := o.get h3
    have gK := o.g.K
    obtain ⟨Y, a, oe, pn, dd, cc, w, rfl, ex, hz, hf, hvx, hcl, rx⟩ := o.xc _ e2
    obtain ⟨fI, fd, ps, tI, F1, hb, hcls⟩ := ex.init
    exact ok_what (X := Y) gK (hcls cc) hz hf gN v1 v2 v3 hvx hcl rx
  · -- isinstance(e, C)
    obtain ⟨h, h7⟩ := and2 h
    obtain ⟨h, h6⟩ := and2 h
    obtain ⟨h, h5⟩ := and2 h
    obtain ⟨h, h4⟩ := and2 h
    obtain ⟨h, h3⟩ := and2 h
    obtain ⟨h1, h2⟩ := and2 h
    have e := of_decide_eq_true h1
    subst e
    have e2 := of_decide_eq_true h2
    obtain ⟨v1, v2, v3⟩ := o.vis h4
    have gN := o.get h3
    have gK := o.g.K
    have gM := o.g.mg
    have g5 := o.gl h5
    have g6 := o.gl h6
    have gn := o.nog gk (x := "isinstance") (by decide)
    obtain ⟨Y, a, oe, pn, dd, cc, w, rfl, ex, hz, hf, hvx, hcl, rx⟩ := o.xc _ e2
    exact ok_isx (X := Y) gK gM ex (of_decide_eq_true h7) hz hf gN v1 v2 v3 g5.1 gn g6.1 g6.2 hvx hcl rx
  · exact ok_dnew (w := .dK []) pe_dnewK trivial (fun _ _ _ => ⟨[], rfl, rfl⟩) (fun _ _ _ _ h => h)
  · exact ok_dnew (w := .dT []) pe_dnewT trivial (fun _ _ _ => ⟨[], rfl, rfl⟩) (fun _ _ _ _ h => h)
  · cases h
end
end Ev

set_option maxRecDepth 100000
set_option maxHeartbeats 8000000
/-! Ev20: .. statements; a whole text. -/
namespace Ev
open PySem PySem.Spec PyProof.Rows L2 L2H
section
variable {G : Gam} {n : Nat}
theorem snd {G : Gam} (gk : GOk G) : ∀ n, Snd G n
  | 0 => snd0 G
  | n + 1 =>
    let s := snd gk n
    ⟨snd_E gk s, snd_T s, snd_Es s, snd_BA s, snd_BO s, snd_BAT s, snd_BOT s, snd_O s, snd_I gk s, snd_G s, snd_Gs s, snd_L s, snd_LH s, snd_L2 s, snd_Ifs s⟩
structure SndS (G : Gam) (n : Nat) : Prop where
  S : ∀ c s st, chkS G.P n c s st = true → ∀ d, (∀ d', d' ≤ d → FOK G d') → ∀ k cl Wx X, XOk G c d k cl Wx X → PS X st (tss G k (callW G.P d) cl Wx s)
  Ss : ∀ c s st, chkSs G.P n c s st = true → ∀ d, (∀ d', d' ≤ d → FOK G d') → ∀ k cl Wx X, XOk G c d k cl Wx X → PSs X st (tsss G k (callW G.P d) cl Wx s)
theorem snd_Xs (gk : GOk G) : ∀ n c ts es, chkXs G.P n c ts es = true → c.calm = true → ∀ d, (∀ d', d' ≤ d → FOK G d') → ∀ k cl Wx X, XOk G c d k cl Wx X → PGs X es (gtgX G k (callW G.P d) cl Wx ts)
  | 0, _, _, _, h, _, _, _, _, _, _, _, _ => by simp [chkXs] at h
  | n + 1, c, ts, es, h, hc, d, hF, k, cl, Wx, X, o => by
    have s' := snd gk n
    simp only [chkXs] at h
    split at h
    · exact okx_nil
    · obtain ⟨h1, h2⟩ := and2 h
      obtain ⟨k1, k2, k3, k4⟩ := o.stor h1
      exact okx_nm k1 o.nd k2 k3 k4 (snd_Xs gk n _ _ _ h2 hc d hF k cl Wx X o) rfl
    · obtain ⟨h, h4⟩ := and2 h
      obtain ⟨h, h3⟩ := and2 h
      obtain ⟨h1, h2⟩ := and2 h
      exact okx_sub (o.room1 hc) (s'.E _ _ _ h1 d hF k cl Wx X o) (s'.E _ _ _ h2 d hF k cl Wx X o) h3 (snd_Xs gk n _ _ _ h4 hc d hF k cl Wx X o) rfl
    · cases h
theorem snd_S (gk : GOk G) (r : SndS G n) : ∀ c s st, chkS G.P (n + 1) c s st = true → ∀ d, (∀ d', d' ≤ d → FOK G d') → ∀ k cl Wx X, XOk G c d k cl Wx X → PS X st (tss G k (callW G.P d) cl Wx s) := by
  intro c s st h d hF k cl Wx X o
  have s' := snd gk n
  simp only [chkS] at h
  split at h
  · obtain ⟨h1, h2⟩ := and2 h
    exact (s'.L _ _ _ _ _ _ _ _ _ h2 d hF k cl Wx X o _).2 _ _ _ _ _ h1 fun _ _ _ q => q
  · obtain ⟨h1, h2⟩ := and2 h
    exact (s'.L2 _ _ _ _ _ _ _ _ _ _ _ _ _ h2 d hF k cl Wx X o _).2 _ _ _ _ _ h1 fun _ _ _ q => q
  · obtain ⟨h1, h2⟩ := and2 h
    exact (s'.L _ _ _ _ _ _ _ _ _ h2 d hF k cl Wx X o _).2 _ _ _ _ _ h1 fun _ _ _ q => alloc_read _ _ _ q
  · obtain ⟨h1, h2⟩ := and2 h
    exact (s'.L2 _ _ _ _ _ _ _ _ _ _ _ _ _ h2 d hF k cl Wx X o _).2 _ _ _ _ _ h1 fun _ _ _ q => alloc_read _ _ _ q
  · obtain ⟨h, h3⟩ := and2 h
    obtain ⟨h1, h2⟩ := and2 h
    obtain ⟨k1, k2, k3, k4⟩ := o.stor h1
    exact ok_asg k1 o.nd k2 k3 k4 (s'.E _ _ _ h2 d hF k cl Wx X o) (sw_ok h3)
  · -- a, b = ..
    obtain ⟨h, h3⟩ := and2 h
    obtain ⟨h1, h2⟩ := and2 h
    refine ok_asgT (s'.E _ _ _ h2 d hF k cl Wx X o) (s'.Gt _ _ _ h1 d k cl Wx X o) (sws_ok rfl) ?_ rfl
    simp only [Bool.or_eq_true] at h3
    rcases h3 with h3 | h3
    · exact sw_none h3
    · unfold tupSw at h3
      split at h3
      · refine swOf_ok o.kind ?_
        have e := of_decide_eq_true h3
        rw [← o.sc] at e
        exact e
      · cases h3
  · obtain ⟨h, h10⟩ := and2 h
    obtain ⟨h, h9⟩ := and2 h
    obtain ⟨h, h8⟩ := and2 h
    obtain ⟨h, h7⟩ := and2 h
    obtain ⟨h, h6⟩ := and2 h
    obtain ⟨h, h5⟩ := and2 h
    obtain ⟨h, h4⟩ := and2 h
    obtain ⟨h, h3⟩ := and2 h
    obtain ⟨h1, h2⟩ := and2 h
    have e := of_decide_eq_true h10
    have e7 := of_decide_eq_true h7
    have e8 := of_decide_eq_true h8
    rw [← o.sc] at e e7 e8
    exact ok_par (o.okw h2) (o.okw h3) (o.calm h1) o.nd (o.get h4) (o.get h5) (of_decide_eq_true h6) e7 e8 (s'.Es _ _ _ h9 d hF k cl Wx X o) (swOf_ok o.kind e)
  · obtain ⟨h, h15⟩ := and2 h
    obtain ⟨h, h14⟩ := and2 h
    obtain ⟨h, h13⟩ := and2 h
    obtain ⟨h, h12⟩ := and2 h
    obtain ⟨h, h11⟩ := and2 h
    obtain ⟨h, h10⟩ := and2 h
    obtain ⟨h, h9⟩ := and2 h
    obtain ⟨h, h8⟩ := and2 h
    obtain ⟨h, h7⟩ := and2 h
    obtain ⟨h, h6⟩ := and2 h
    obtain ⟨h, h5⟩ := and2 h
    obtain ⟨h, h4⟩ := and2 h
    obtain ⟨h, h3⟩ := and2 h
    obtain ⟨h1, h2⟩ := and2 h
    have e := of_decide_eq_true h15
    have e1 := of_decide_eq_true h11
    have e2 := of_decide_eq_true h12
    have e3 := of_decide_eq_true h13
    rw [← o.sc] at e e1 e2 e3
    exact ok_par3 (o.okw h2) (o.okw h3) (o.okw h4) (o.calm h1) o.nd (o.get h5) (o.get h6) (o.get h7) (of_decide_eq_true h8) (of_decide_eq_true h9) (of_decide_eq_true h10) e1 e2 e3 (s'.Es _ _ _ h14 d hF k cl Wx X o) (swOf_ok o.kind e)
  · obtain ⟨h, h4⟩ := and2 h
    obtain ⟨h, h3⟩ := and2 h
    obtain ⟨h, h2⟩ := and2 h
    obtain ⟨h0, h1⟩ := and2 h
    exact ok_asgS (o.room1 h0) (s'.E _ _ _ h1 d hF k cl Wx X o) (s'.E _ _ _ h2 d hF k cl Wx X o) (s'.E _ _ _ h3 d hF k cl Wx X o) (sws_ok rfl) h4
  · -- targets of any sort
    obtain ⟨h, h6⟩ := and2 h
    obtain ⟨h, h5⟩ := and2 h
    obtain ⟨h, h4⟩ := and2 h
    obtain ⟨h, h3⟩ := and2 h
    obtain ⟨h0, h1⟩ := and2 h
    have e4 := of_decide_eq_true h4
    refine ok_asgX o.g.K (o.calm h0) (s'.E _ _ _ h5 d hF k cl Wx X o) (snd_Xs gk n _ _ _ h1 h0 d hF k cl Wx X o) (by rw [asg_len h3, e4]) (asg_find h3) (sws_ok rfl) ?_ rfl
    simp only [Bool.or_eq_true] at h6
    rcases h6 with h6 | h6
    · exact sw_none h6
    · unfold tupSw at h6
      split at h6
      · refine swOf_ok o.kind ?_
        have e := of_decide_eq_true h6
        rw [← o.sc] at e
        exact e
      · cases h6
  · obtain ⟨h1, h2⟩ := and2 h
    exact ok_ex (s'.E _ _ _ h1 d hF k cl Wx X o) (sw_ok h2)
  · obtain ⟨h, h3⟩ := and2 h
    obtain ⟨h1, h2⟩ := and2 h
    exact ok_ite (s'.T _ _ _ h1 d hF k cl Wx X o) (r.Ss _ _ _ h2 d hF k cl Wx X o) (r.Ss _ _ _ h3 d hF k cl Wx X o)
  · obtain ⟨h, h6⟩ := and2 h
    obtain ⟨h, h5⟩ := and2 h
    obtain ⟨h, h4⟩ := and2 h
    obtain ⟨h, h3⟩ := and2 h
    obtain ⟨h1, h2⟩ := and2 h
    exact ok_for (o.pass h1) (o.calm h2) (s'.I _ _ _ _ h3 d hF k cl Wx X o) (s'.Gt _ _ _ h4 d k cl Wx X o) (r.Ss _ _ _ h5 d hF k cl Wx X o) (fold_ok h6)
  · obtain ⟨h, h3⟩ := and2 h
    obtain ⟨h1, h2⟩ := and2 h
    exact ok_while (o.pass h1) (s'.T _ _ _ h2 d hF k cl Wx X o) (r.Ss _ _ _ h3 d hF k cl Wx X o)
  · exact ok_ret (s'.E _ _ _ h d hF k cl Wx X o)
  · exact ok_retN
  · exact ok_brk
  · exact ok_cont
  · exact ok_pass
  · -- try, nothing is raised
    obtain ⟨hx, h⟩ := and2 h
    have hxs : c.xs = none := by simpa using hx
    have on : XOk G c d k cl W0 X.nox := ⟨⟨o.g.prog, o.g.w, o.g.K, o.g.mg, o.g.base⟩, o.room, o.N, o.nd, o.sc, o.kind, o.fn, o.calm, o.v0, o.vx, o.lam, fun _ => PassesOwn.never, takes0N, ⟨o.clo.ex⟩, o.ch, o.hot, o.frm, fun i z => by rw [hxs] at z; cases z⟩
    refine ps_weak (ps_try_thru0 (r.Ss _ _ _ h d hF k cl W0 X.nox on)) fun D σ H ⟨Hv, env, st, ρ, Dw, S, wp, N⟩ => ?_
    exact ⟨Hv, env, st, ρ, { Dw with ex := fun _ _ _ _ => False }, S, wp, ⟨N.nx, N.rt, N.bk, N.ct, fun _ _ _ _ _ _ _ _ _ z => z.elim⟩⟩
  · -- raise C(e)
    obtain ⟨h, h5⟩ := and2 h
    obtain ⟨h, h4⟩ := and2 h
    obtain ⟨h, h3⟩ := and2 h
    obtain ⟨h1, h2⟩ := and2 h
    have e2 := of_decide_eq_true h2
    exact ok_raise (gk.ex _ _ e2) (o.gx h1) (o.calm h1) o.tk e2 (o.gl h3).1 (o.gl h3).2 h4 (s'.E _ _ _ h5 d hF k cl Wx X o)
  · -- try, except C as e
    obtain ⟨h, h11⟩ := and2 h
    obtain ⟨h, h10⟩ := and2 h
    obtain ⟨h, h9⟩ := and2 h
    obtain ⟨h, h8⟩ := and2 h
    obtain ⟨h, h7⟩ := and2 h
    obtain ⟨h, h6⟩ := and2 h
    obtain ⟨h, h5⟩ := and2 h
    obtain ⟨h, h4⟩ := and2 h
    obtain ⟨h, h3⟩ := and2 h
    obtain ⟨h1, h2⟩ := and2 h
    have e5 := of_decide_eq_true h5
    have e9 := of_decide_eq_true h9
    have hxs : c.xs = none := by simpa using h4
    have hvx : k.vx = none := by
      cases hv : k.vx with
      | none => rfl
      | some p =>
        have := o.vx p hv
        rw [hxs] at this
        cases this
    have ow := o.okw h7
    obtain ⟨f1, f2⟩ := o.frm h2
    have ex := gk.ex _ _ e5
    refine ok_try f1 f2 o.nd (o.get h8) (by show X.env.scope.names.lookup _ = _; rw [o.sc]; exact e9) ex o.g.K o.g.mg e5 (o.gl h6).1 (o.gl h6).2 o.tk hvx (fun z => ow.1 z) (fun W' pn xe tk pa => ?_) fun kS c' w a oe dd pn hz hf hx h0 rx => ?_
    · refine r.Ss _ _ _ h10 d hF k cl W' (X.tr pn xe) ⟨⟨o.g.prog, o.g.w, o.g.K, o.g.mg, o.g.base⟩, o.room, o.N, o.nd, o.sc, o.kind, o.fn, o.calm, o.v0, o.vx, o.lam, fun _ => pa, tk, ⟨o.clo.ex⟩, o.ch, fun z => ?_, o.frm, fun i z => ?_⟩
      · rw [o.ch h1] at z
        cases z
      · rw [hxs] at z
        cases z
    · have hz2 := hz
      obtain ⟨vs, hvs⟩ := hf
      exact r.Ss _ _ _ h11 d hF kS ⟨none, some (c', w)⟩ W0 (X.suite a ((a, oe) :: pn)) ⟨⟨o.g.prog, o.g.w, o.g.K, o.g.mg, o.g.base⟩, fun z => absurd z Bool.false_ne_true, o.N, o.nd, o.sc, o.kind, o.fn, fun z => absurd z Bool.false_ne_true, fun z => by rw [h0]; exact o.v0 z, fun p hp => by rw [hx] at hp; cases hp; rfl, fun z => absurd z Bool.false_ne_true, fun z => absurd z Bool.false_ne_true, takes0N, ⟨fun c h => by cases h⟩, fun z => absurd z Bool.false_ne_true,
        fun _ => ⟨(a, oe), ⟨rfl, vs, hvs, hz.2.2 vs hvs⟩, List.mem_cons_self ..⟩, fun z => absurd z Bool.false_ne_true, fun i' z => by
          have z := Option.some.inj z
          subst z
          exact ⟨X, a, oe, pn, dd, c', w, rfl, ex, hz, ⟨vs, hvs⟩, hx, rfl, rx⟩⟩
  · cases h
theorem sndS (gk : GOk G) : ∀ n, SndS G n
  | 0 => ⟨fun _ _ _ h => by simp [chkS] at h, fun _ _ _ h => by simp [chkSs] at h⟩
  | n + 1 => by
    have r := sndS gk n
    refine ⟨snd_S gk r, fun c s st h d hF k cl Wx X o => ?_⟩
    simp only [chkSs] at h
    split at h
    · exact ok_nil
    · obtain ⟨h1, h2⟩ := and2 h
      exact ok_cons (r.S _ _ _ h1 d hF k cl Wx X o) (r.Ss _ _ _ h2 d hF k cl Wx X o)
    · cases h
end
end Ev

set_option maxRecDepth 100000
set_option maxHeartbeats 2000000
/-! EvTop: a text's defs; what the head tells of them; a law by its plain promise. -/
namespace Ev
open PySem PySem.Spec PyProof.Rows L2 L2H
def scO : Stmt → Scope
  | .FunctionDef _ _ _ _ _ _ s _ _ _ => s
  | _ => ⟨.function, [], false, false, []⟩
def bodyO : Stmt → List Stmt
  | .FunctionDef _ _ b _ _ _ _ _ _ _ => b
  | _ => []
def argsO : Stmt → Arguments
  | .FunctionDef _ a _ _ _ _ _ _ _ _ => a
  | _ => ⟨[], [], none, [], [], none, []⟩
/-- the first def within a class -/
def iniL : List Stmt → Stmt
  | [] => .Pass ⟨0, 0, 0, 0⟩
  | .FunctionDef n a b d r t s ts bi p :: _ => .FunctionDef n a b d r t s ts bi p
  | _ :: l => iniL l
def iniS : Stmt → Stmt
  | .ClassDef _ _ _ body _ _ _ _ _ _ _ => iniL body
  | _ => .Pass ⟨0, 0, 0, 0⟩
/-- a def of the text: its statement, its names -/
structure DefI where
  st : Stmt
  f : Fn
  N : List Str
  ps : List Str
  lam : Bool
structure DefOk (P : Prog) (q : DefI) : Prop where
  chk : chkSs P 60 ⟨q.N, scO q.st, none, true, q.f.nc, none, q.lam, true, false⟩ q.f.body (bodyO q.st) = true
  sc : C8.scC q.N q.ps (scO q.st) = true
  len : q.ps.length = (if q.f.nc = true then 1 else 0) + q.f.np
  n : q.f.n = q.N.length
  bind : ∀ (kV doc pm : Value) (an : Option Addr) (cdv ct : Value) (us : List Value), us.length = q.ps.length → bindArgs (PySem.W.fnOf q.f.name q.f.name (argsO q.st) (bodyO q.st) (scO q.st) .none kV doc pm an cdv ct) ⟨us, []⟩ = pure (q.ps.zip us)
def DefI.d (q : DefI) : He.DefD := ⟨(q.f.name, none), q.f.name, q.f.name, argsO q.st, bodyO q.st, scO q.st, [], []⟩

/-- the own errors' __init__ -/
structure IniOk (st : Stmt) : Prop where
  sc : C8.scC ["self", "what"] ["self", "what"] (scO st) = true
  pat : initPat (bodyO st) = true
  ev : ∀ env, initEv env (bodyO st)
  ve : (scO st).names.lookup ("ValueError" : Str) = some .globalImplicit
  bind : ∀ (kV doc pm : Value) (an : Option Addr) (cdv ct : Value) (us : List Value), us.length = 2 → bindArgs (PySem.W.fnOf "__init__" "Refused.__init__" (argsO st) (bodyO st) (scO st) .none kV doc pm an cdv ct) ⟨us, []⟩ = pure ((["self", "what"] : List Str).zip us)
def iniD (st : Stmt) : He.DefD := ⟨("Refused", some "__init__"), "__init__", "Refused.__init__", argsO st, bodyO st, scO st, [], []⟩
/-! ### what is looked at -/
open He in
def wDv : W → Option Dv
  | .int i => some (.int i)
  | .str x => some (.str x)
  | .bl b => some (.bl b)
  | .non => some .non
  | _ => none
def wDvs : List W → Option (List He.Dv)
  | [] => some []
  | w :: ws => match wDv w, wDvs ws with
    | some d, some ds => some (d :: ds)
    | _, _ => none
def conK (K : PySem.W.Frag) (q : Str × W) : Bool := match q.2 with
  | .int i => (He.Fa.int q.1 i).ok K
  | .str z => (He.Fa.str q.1 z).ok K
  | .ktup ws => (match wDvs ws with
    | some vs => (He.Fa.glo q.1).ok K && He.tupB K q.1 vs
    | none => false)
  | _ => false
def oexB (K : PySem.W.Frag) (C : Addr) : Bool := match K.lookup C with
  | some ⟨.type t, _, .cls cd, sl⟩ => decide (t = "type") && (match cd.mro, sl.toList with
    | .ref C' :: bm, [_, _, _, _, some (.builtin n), _] => decide (C' = C) && decide (n = "ValueError.__new__") && !cd.hasDel && cd.hasDict && PySem.HandSPX.refsVE bm
    | _, _ => false)
  | _ => false
theorem oexB_ok {K : PySem.W.Frag} {C : Addr} (q : oexB K C = true) : ∃ nm q N bs bm sn sub ab col dd k0 k1 k2 k3 k5, K.lookup C = some (excClassObj nm q C N bs bm true sn sub ab col dd k0 k1 k2 k3 k5 "ValueError.__new__") ∧ PySem.HandSPX.refsVE bm = true := by
  unfold oexB at q
  split at q
  · rename_i t dd cd sl ho
    obtain ⟨qt, q2⟩ := and2 q
    clear q
    have et := of_decide_eq_true qt
    subst et
    split at q2
    · rename_i C' bm k0 k1 k2 k3 n k5 hm hs
      obtain ⟨q3, ht⟩ := and2 q2
      obtain ⟨q4, hd⟩ := and2 q3
      obtain ⟨q5, hdel⟩ := and2 q4
      obtain ⟨e1, e2⟩ := and2 q5
      clear q2 q3 q4 q5
      have e1 := of_decide_eq_true e1
      have e2 := of_decide_eq_true e2
      subst e1 e2
      obtain ⟨nm, bs, mro, ns, qn, hd', sn, sub, ab, col, del⟩ := cd
      have hm2 : mro = .ref C' :: bm := hm
      have hd2 : hd' = true := hd
      have hdel2 : (!del) = true := hdel
      have hdel3 : del = false := by simpa using hdel2
      clear hm hd hdel hdel2
      subst hm2 hd2 hdel3
      have hsl : sl = #[k0, k1, k2, k3, some (.builtin "ValueError.__new__"), k5] := by
        obtain ⟨l⟩ := sl
        simp only at hs
        rw [hs]
      subst hsl
      exact ⟨nm, qn, ns, bs, bm, sn, sub, ab, col, dd, k0, k1, k2, k3, k5, ho, ht⟩
    · cases q2
  · cases q
def clsOkB (K : PySem.W.Frag) (fI C : Addr) : Bool := oexB K C && decide (PySem.W.findIn K (.ref C) "__setattr__" = some (some (.builtin "object.__setattr__"))) && decide (PySem.W.typeIn K (.ref C) = some (.type "type")) && PySem.W.keepIn K (.ref C) && xfB K C &&
  decide (PySem.W.findIn K (.ref C) "__class__" = some (some (.builtin "object.__class__"))) && decide (PySem.W.specialIn K (.builtin "object.__class__") "__get__" = some (some (.builtin "getset_descriptor.__get__"))) && decide (PySem.W.takesIn K (.builtin "object.__class__") = some true) && decide (PySem.W.mroIn K C (.type "object") = some true) &&
  decide (PySem.W.findIn K (.ref C) "what" = some none) && decide (PySem.W.findIn K (.ref C) "__init__" = some (some (.ref fI)))
theorem clsOkB_ok {G : Gam} {fI : Addr} {c : Nat} (q : clsOkB G.K fI (G.ca c) = true) : ClsOk G fI c := by
  unfold clsOkB at q
  simp only [Bool.and_eq_true, decide_eq_true_eq] at q
  obtain ⟨⟨⟨⟨⟨⟨⟨⟨⟨⟨q1, q2⟩, q3⟩, q4⟩, q5⟩, q6⟩, q7⟩, q8⟩, q9⟩, q10⟩, q11⟩ := q
  have x := xfB_ok q5
  exact ⟨⟨oexB_ok q1, q2, x.exC, q3, q4⟩, x, ⟨x.ga, x.gg, x.exC, x.hdC, q6, q7, q8, q9⟩, q10, q11⟩
/-- a table of what is beneath what -/
def subT (t : List (List Bool)) (c d : Nat) : Bool := (t.getD (if c < t.length then c else 0) []).getD (if d < t.length then d else 0) false
theorem subT_in {t : List (List Bool)} (c d : Nat) : subT t c d = subT t (if c < t.length then c else 0) (if d < t.length then d else 0) := by
  unfold subT
  by_cases h1 : c < t.length <;> by_cases h2 : d < t.length
  · rw [if_pos h1, if_pos h2, if_pos h1, if_pos h2]
  · rw [if_pos h1, if_neg h2, if_pos h1]
    by_cases h3 : 0 < t.length
    · rw [if_pos h3]
    · rw [if_neg h3]
  · rw [if_neg h1, if_pos h2, if_pos h2]
    by_cases h3 : 0 < t.length
    · rw [if_pos h3]
    · rw [if_neg h3]
  · rw [if_neg h1, if_neg h2]
    by_cases h3 : 0 < t.length
    · rw [if_pos h3]
    · rw [if_neg h3]
def clsA (K : PySem.W.Frag) (cls : List Str) (c : Nat) : Addr := He.ga K (cls.getD (if c < cls.length then c else 0) "")
def exB (K : PySem.W.Frag) (cls : List Str) (sub : Nat → Nat → Bool) : Bool := cls.isEmpty || (decide (PySem.W.typeIn K (.ref (He.fAd K ("Refused", some "__init__"))) = some (.type "function")) && cls.all (fun x => (He.Fa.glo x).ok K && clsOkB K (He.fAd K ("Refused", some "__init__")) (He.ga K x)) &&
  (List.range cls.length).all fun c => (List.range cls.length).all fun d => decide (PySem.W.exmOne K (.ref (clsA K cls c)) (.ref (clsA K cls d)) = some (sub c d)) && decide (PySem.W.kitOne K (.ref (clsA K cls c)) (.ref (clsA K cls d)) = some (sub c d)))
def codOf (K : PySem.W.Frag) (x : Str) : Addr := match K.lookup (He.ga K x) with
  | some ⟨_, _, .func fd, _⟩ => (match fd.code with
    | .ref c => c
    | _ => 0)
  | _ => 0
def tabOf (K : PySem.W.Frag) (x : Str) : Addr := match K.lookup (codOf K x) with
  | some ⟨_, _, .fields vs, _⟩ => (match vs.getD 11 .none with
    | .ref P => P
    | _ => 0)
  | _ => 0
def emptyTab : Option Obj → Bool
  | some ⟨.none, none, .fields vs, sl⟩ => vs.size == 0 && sl.size == 0
  | _ => false
theorem emptyTab_ok {o : Option Obj} (h : emptyTab o = true) : o = some { cls := .none, data := .fields #[] } := by
  unfold emptyTab at h
  split at h
  · rename_i vs sl
    simp only [Bool.and_eq_true, beq_iff_eq, Array.size_eq_zero_iff] at h
    obtain ⟨rfl, rfl⟩ := h
    rfl
  · cases h
def codeHdB (K : PySem.W.Frag) (c P : Addr) : Bool := match K.lookup c with
  | some ⟨Value.type t, _, Data.fields vs, _⟩ => decide (t = "code") && (match (vs[11]? : Option Value) with
    | some (Value.ref p) => decide (p = P)
    | _ => false) && (match vs.getD 18 Value.none with
    | Value.str _ _ => true
    | _ => false) && (match vs.getD 7 Value.none with
    | Value.int _ _ => true
    | _ => false) && (match vs.getD 9 Value.none with
    | Value.bool _ => true
    | _ => false) && (match vs.getD 10 Value.none with
    | Value.int _ _ => true
    | _ => false) && decide (c ≠ P)
  | _ => false
theorem codeHdB_ok {K : PySem.W.Frag} {h : Heap} (X : K.In h) {c P : Addr} (e : codeHdB K c P = true) : PySem.W.CodeHd h c P := by
  unfold codeHdB at e
  split at e
  · rename_i t dd vs sl hl
    simp only [Bool.and_eq_true, decide_eq_true_eq] at e
    obtain ⟨⟨⟨⟨⟨⟨e1, e2⟩, e3⟩, e4⟩, e5⟩, e6⟩, e7⟩ := e
    subst e1
    split at e2 <;> first | cases e2 | skip
    rename_i p hp
    have ep := of_decide_eq_true e2
    subst ep
    split at e3 <;> first | cases e3 | skip
    rename_i a3 b3 h3
    split at e4 <;> first | cases e4 | skip
    rename_i a4 b4 h4
    split at e5 <;> first | cases e5 | skip
    rename_i a5 h5
    split at e6 <;> first | cases e6 | skip
    rename_i a6 b6 h6
    refine ⟨_, vs, _, _, _, _, _, _, _, X c _ hl, rfl, rfl, hp, ?_, h3, h4, h5, h6, e7⟩
    rw [Array.getD_eq_getD_getElem?, hp]
    rfl
  · cases e
def tabB (g : Addr → Option Obj) (K : PySem.W.Frag) (x : Str) : Bool := emptyTab (g (tabOf K x)) && (K.lookup (tabOf K x)).isNone && codeHdB K (codOf K x) (tabOf K x) &&
  (match K.lookup (He.ga K x) with
  | some ⟨_, _, .func fd, _⟩ => (match fd.code with
    | .ref c => decide (c = codOf K x)
    | _ => false)
  | _ => false)
def KT (n : Nat) (lamF : List Str) (g : Addr → Option Obj) : PySem.W.Frag := He.frG g ((He.asD g n).filter fun a => !((lamF.map (tabOf (He.frG g (He.asD g n)))).contains a))
abbrev AlT : Type := He.AlD × Bool
def obsT (n : Nat) (fa : List He.Fa) (fn : List He.DefD) (P : Prog) (lamF : List Str) (g : Addr → Option Obj) : AlT :=
  (He.obsD fa fn (KT n lamF g), P.cons.all (conK (KT n lamF g)) && lamF.all (tabB g (KT n lamF g)) && decide ((lamF.map (tabOf (KT n lamF g))).Nodup) && exB (KT n lamF g) P.cls P.sub)
def SaysT (fa : List He.Fa) (fn : List He.DefD) (P : Prog) (lamF : List Str) (h : Heap) (K : PySem.W.Frag) : Prop :=
  K.In h ∧ He.SaysD fa fn K ∧ P.cons.all (conK K) = true ∧ (lamF.map (tabOf K)).Nodup ∧ exB K P.cls P.sub = true ∧ ∀ x ∈ lamF, h.get? (tabOf K x) = some { cls := .none, data := .fields #[] } ∧ K.lookup (tabOf K x) = none ∧ PySem.W.CodeHd h (codOf K x) (tabOf K x) ∧
    ∃ (oc : Value) (od : Option Addr) (fd : FuncData) (osl : Array (Option Value)), K.lookup (He.ga K x) = some ⟨oc, od, .func fd, osl⟩ ∧ fd.code = .ref (codOf K x)
theorem tabB_ok {h : Heap} {K : PySem.W.Frag} (X : K.In h) {x : Str} (e : tabB h.get? K x = true) : h.get? (tabOf K x) = some { cls := .none, data := .fields #[] } ∧ K.lookup (tabOf K x) = none ∧ PySem.W.CodeHd h (codOf K x) (tabOf K x) ∧
    ∃ (oc : Value) (od : Option Addr) (fd : FuncData) (osl : Array (Option Value)), K.lookup (He.ga K x) = some ⟨oc, od, .func fd, osl⟩ ∧ fd.code = .ref (codOf K x) := by
  unfold tabB at e
  simp only [Bool.and_eq_true, Option.isNone_iff_eq_none] at e
  obtain ⟨⟨⟨e1, e2⟩, e3⟩, e4⟩ := e
  refine ⟨emptyTab_ok e1, e2, codeHdB_ok X e3, ?_⟩
  split at e4
  · rename_i oc od fd osl hl
    split at e4
    · rename_i c hc
      have := of_decide_eq_true e4
      subst this
      exact ⟨oc, od, fd, osl, hl, hc⟩
    · cases e4
  · cases e4
theorem codeHd_keeps {h h' : Heap} {c P : Addr} (H : PySem.W.CodeHd h c P) (k : ∀ b o, h.get? b = some o → h'.get? b = some o) : PySem.W.CodeHd h' c P := by
  obtain ⟨o, vs, file, tf, flags, tg, inF, text, tt, e, r⟩ := H
  exact ⟨o, vs, file, tf, flags, tg, inF, text, tt, k _ _ e, r⟩
def hookT (n : Nat) (fa : List He.Fa) (fn : List He.DefD) (P : Prog) (lamF : List Str) : PySem.W.Hook where
  α := AlT
  obs := fun s => obsT n fa fn P lamF s.heap.get?
  val := fun _ => (He.valD fn, true)
  says := fun _ h => ∃ K, SaysT fa fn P lamF h K
  of := fun _ s e => by
    have e1 := congrArg (fun z : AlT => z.1) e
    have e2 := congrArg (fun z : AlT => z.2) e
    have e2 : (P.cons.all (conK (KT n lamF s.heap.get?)) && lamF.all (tabB s.heap.get? (KT n lamF s.heap.get?)) && decide ((lamF.map (tabOf (KT n lamF s.heap.get?))).Nodup) && exB (KT n lamF s.heap.get?) P.cls P.sub) = true := e2
    simp only [Bool.and_eq_true, decide_eq_true_eq] at e2
    obtain ⟨⟨⟨e3, e4⟩, e5⟩, e6⟩ := e2
    have X : (KT n lamF s.heap.get?).In s.heap := He.frG_in
    exact ⟨_, X, e1, e3, e5, e6, fun x hx => tabB_ok X (List.all_eq_true.mp e4 x hx)⟩
  keeps := fun _ _ _ ⟨K, X, c, c2, c3, c5, c4⟩ k => ⟨K, PySem.W.Frag.In.keeps X k, c, c2, c3, c5, fun x hx => by
    obtain ⟨q1, q2, q3, q4⟩ := c4 x hx
    exact ⟨k _ _ q1, q2, codeHd_keeps q3 k, q4⟩⟩
theorem obsT_eq {n : Nat} {fa : List He.Fa} {fn : List He.DefD} {P : Prog} {lamF : List Str} {g : Addr → Option Obj} {s : Shared} (h : ∀ a, g a = s.heap.get? a) : obsT n fa fn P lamF g = (hookT n fa fn P lamF).obs s := by
  have e : g = s.heap.get? := funext h
  rw [e] <;> rfl
/-! ### a whole text -/
/-- the defs that are looked at: the text's, the own errors' __init__ -/
def fnsOf (P : Prog) (D : List DefI) (st : Stmt) : List He.DefD := D.map DefI.d ++ (match P.cls with
  | [] => []
  | _ => [iniD st])
structure TextOk (P : Prog) (D : List DefI) (lamF : List Str) (L : Nat) (ld : DefI) (x : Str) (ist : Stmt) : Prop where
  sub : ∃ t, P.sub = subT t ∧ t.length = P.cls.length
  ini : P.cls = [] ∨ IniOk ist
  fns : P.fns = D.map (·.f)
  defs : ∀ q ∈ D, DefOk P q
  lam : ∀ q ∈ D, q.lam = true → q.f.name ∈ lamF
  law : D[L]? = some ld
  nc : ld.f.nc = false
  ps : ld.ps = [x]
def faOf (D : List DefI) : List He.Fa := (D.map fun q => He.Fa.glo q.f.name) ++ bltNames.map He.Fa.free
theorem rvs_dvs {G : Gam} {K : PySem.W.Frag} {ρ : Nat → Addr} {n : Nat} {Hv : Hp} : ∀ {ws : List W} {ds : List He.Dv}, wDvs ws = some ds → RVs G ρ n Hv ws (ds.map (He.Dv.v K))
  | [], ds, h => by
    cases h
    rfl
  | w :: ws, ds, h => by
    unfold wDvs at h
    split at h
    · rename_i d ds' h1 h2
      cases h
      refine ⟨_, _, rfl, ?_, rvs_dvs h2⟩
      cases w <;> cases h1 <;> rfl
    · cases h
def gamOf (P : Prog) (prog : Program) (w : World) (K : PySem.W.Frag) (mg : Str → Option Value) (base : Heap) (lamF : List Str) : Gam where
  P := P
  prog := prog
  w := w
  K := K
  mg := mg
  base := base
  fa := fun g => match P.fns[g]? with
    | some f => He.ga K f.name
    | none => 0
  ca := fun c => clsA K P.cls c
  T := lamF.map fun x => (tabOf K x, x ++ ".<locals>." ++ "<lambda>")
section
variable {P : Prog} {D : List DefI} {lamF : List Str} {L : Nat} {ld : DefI} {x : Str} {ist : Stmt} {prog : Program} {w : World} {K : PySem.W.Frag} {mg : Str → Option Value} {base h : Heap}
theorem fns_at {g : Nat} {q : DefI} (e : D[g]? = some q) : (fnsOf P D ist)[g]? = some q.d := by
  unfold fnsOf
  have hl : g < (D.map DefI.d).length := by
    rw [List.length_map]
    exact (List.getElem?_eq_some_iff.mp e).1
  rw [List.getElem?_append_left hl, List.getElem?_map, e]
  rfl
theorem gam_fa {g : Nat} {f : Fn} (e : P.fns[g]? = some f) : (gamOf P prog w K mg base lamF).fa g = He.ga K f.name := by
  show (match P.fns[g]? with
    | some f => He.ga K f.name
    | none => 0) = _
  rw [e]
theorem TextOk.at (T : TextOk P D lamF L ld x ist) {g : Nat} {f : Fn} (e : P.fns[g]? = some f) : ∃ q, D[g]? = some q ∧ q.f = f ∧ q ∈ D := by
  rw [T.fns, List.getElem?_map] at e
  obtain ⟨q, e1, e2⟩ := Option.map_eq_some_iff.mp e
  exact ⟨q, e1, e2, List.mem_of_getElem? e1⟩
theorem fact_in {fa : List He.Fa} {fn : List He.DefD} (c : He.SaysD fa fn K) {f : He.Fa} (hf : f ∈ fa) : f.ok K = true := by
  obtain ⟨i, hi⟩ := List.mem_iff_getElem?.mp hf
  exact c.fact i hi
theorem ex_ok (T : TextOk P D lamF L ld x ist) (X : K.In h) (Gm : h.Ns mainGlobals mg) (c : He.SaysD (faOf D) (fnsOf P D ist) K) (ce : exB K P.cls P.sub = true) (hne : P.cls ≠ []) : ExOk (gamOf P prog w K mg base lamF) := by
  obtain ⟨t, hsub, ht⟩ := T.sub
  have IO := T.ini.resolve_left hne
  have hnil : P.cls.isEmpty = false := by
    cases hc : P.cls with
    | nil => exact absurd hc hne
    | cons => rfl
  have hpos : 0 < P.cls.length := by
    cases hc : P.cls with
    | nil => exact absurd hc hne
    | cons => simp
  unfold exB at ce
  rw [hnil, Bool.false_or] at ce
  obtain ⟨ce, ct⟩ := and2 ce
  obtain ⟨cf, cc⟩ := and2 ce
  have hat : (fnsOf P D ist)[D.length]? = some (iniD ist) := by
    unfold fnsOf
    rw [List.getElem?_append_right (by rw [List.length_map]; exact Nat.le_refl _), List.length_map, Nat.sub_self]
    split
    · rename_i hc; exact absurd hc hne
    · rfl
  obtain ⟨fd, F⟩ := c.def_ D.length hat
  obtain ⟨oc, od, dV, kV, doc, pm, an, cdv, ct', osl, rfl, lk, hcd, hD, _⟩ := F.ex
  have hd0 : dV = .none := by
    rcases hD with ⟨_, rfl⟩ | ⟨e, _⟩
    · rfl
    · exact absurd rfl e
  subst hd0
  have idx : ∀ c : Nat, (if c < P.cls.length then c else 0) < P.cls.length := fun c => by
    by_cases h : c < P.cls.length
    · rw [if_pos h]; exact h
    · rw [if_neg h]; exact hpos
  have S := C8.fnScope_by IO.sc
  refine ⟨⟨He.fAd K ("Refused", some "__init__"), _, ["self", "what"], of_decide_eq_true cf, init_fn lk hcd S IO.pat IO.ev IO.ve (He.free_ok X Gm (fact_in c (List.mem_append_right _ (List.mem_map.mpr ⟨"ValueError", by decide, rfl⟩)))) (vV_any K), Binds.all fun us hl => IO.bind kV doc pm an cdv ct' us hl, fun c => ?_⟩, fun c x e => ?_, fun c d => ?_⟩
  · refine clsOkB_ok ?_
    have hm : P.cls.getD (if c < P.cls.length then c else 0) "" ∈ P.cls := by
      rw [List.getD_eq_getElem?_getD, List.getElem?_eq_getElem (idx c)]
      exact List.getElem_mem _
    exact (and2 (List.all_eq_true.mp cc _ hm)).2
  · have e : P.cls[c]? = some x := e
    obtain ⟨hl, hx⟩ := List.getElem?_eq_some_iff.mp e
    have ea : clsA K P.cls c = He.ga K x := by
      unfold clsA
      rw [if_pos hl, List.getD_eq_getElem?_getD, e]
      rfl
    show mg x = some (.ref (clsA K P.cls c))
    rw [ea]
    exact He.glo_ok X Gm (and2 (List.all_eq_true.mp cc x (List.mem_of_getElem? e))).1
  · have q := List.all_eq_true.mp (List.all_eq_true.mp ct _ (List.mem_range.mpr (idx c))) _ (List.mem_range.mpr (idx d))
    obtain ⟨q1, q2⟩ := and2 q
    have q1 := of_decide_eq_true q1
    have q2 := of_decide_eq_true q2
    have ecl : ∀ c, clsA K P.cls (if c < P.cls.length then c else 0) = clsA K P.cls c := fun c => by
      unfold clsA
      by_cases h : c < P.cls.length
      · rw [if_pos h, if_pos h]
      · rw [if_neg h, if_pos hpos]
    have es : P.sub (if c < P.cls.length then c else 0) (if d < P.cls.length then d else 0) = P.sub c d := by
      rw [hsub, ← ht, ← subT_in]
    rw [ecl, ecl, es] at q1 q2
    exact ⟨q1, q2⟩
theorem gok (T : TextOk P D lamF L ld x ist) (X : K.In h) (Gm : h.Ns mainGlobals mg) (c : He.SaysD (faOf D) (fnsOf P D ist) K) (cc : P.cons.all (conK K) = true) (ce : exB K P.cls P.sub = true) : GOk (gamOf P prog w K mg base lamF) where
  fns := fun g f e => by
    have e : P.fns[g]? = some f := e
    obtain ⟨q, e1, e2, hq⟩ := T.at e
    rw [gam_fa e]
    obtain ⟨fd, F⟩ := c.def_ g (d := q.d) (fns_at e1)
    have k := F.kp
    rw [← e2]
    exact ⟨He.glo_ok X Gm (fact_in c (List.mem_append_left _ (List.mem_map.mpr ⟨q, hq, rfl⟩))), k⟩
  cons := fun i q e => by
    have ok := List.all_eq_true.mp cc q (List.mem_of_getElem? e)
    obtain ⟨x, wv⟩ := q
    unfold conK at ok
    cases wv with
    | int i =>
      obtain ⟨t, e⟩ := He.int_ok X Gm ok
      exact ⟨.int i, _, e, ⟨t, rfl⟩, fun _ _ _ => rfl⟩
    | str z =>
      obtain ⟨t, e⟩ := He.str_ok X Gm ok
      exact ⟨.str z, _, e, ⟨t, rfl⟩, fun _ _ _ => rfl⟩
    | ktup ws =>
      simp only at ok
      split at ok
      · rename_i vs hv
        obtain ⟨o1, o2⟩ := and2 ok
        exact ⟨.ref (He.ga K x), _, He.glo_ok X Gm o1, rfl, fun _ _ _ => ⟨He.ga K x, _, rfl, fun H' => He.tupB_ok o2 H', rvs_dvs hv⟩⟩
      · cases ok
    | _ => cases ok
  ex := fun i y e => ex_ok T X Gm c ce fun z => by
    have e : P.cls[i]? = some y := e
    rw [z] at e
    simp at e
  blt := fun x hx => He.free_ok X Gm (fact_in c (List.mem_append_right _ (List.mem_map.mpr ⟨x, hx, rfl⟩)))
theorem app_inj {a b c : Str} (h : a ++ c = b ++ c) : a = b := by
  obtain ⟨⟨a⟩⟩ := a
  obtain ⟨⟨b⟩⟩ := b
  obtain ⟨⟨c⟩⟩ := c
  have e : (Str.mk (Array.mk a ++ Array.mk c)) = Str.mk (Array.mk b ++ Array.mk c) := h
  have e2 : Array.mk a ++ Array.mk c = Array.mk b ++ Array.mk c := congrArg Str.cps e
  have e3 : a ++ c = b ++ c := by
    have := congrArg Array.toList e2
    simpa using this
  have e4 : a = b := List.append_cancel_right e3
  rw [e4]
theorem tab_at (T : TextOk P D lamF L ld x ist) (X : K.In h) (c : He.SaysD (faOf D) (fnsOf P D ist) K) {g : Nat} {q : DefI} (e : D[g]? = some q) (hq : q ∈ D) :
    ∃ (kV doc pm : Value) (an od : Option Addr) (cdv ct oc : Value) (osl : Array (Option Value)), K.lookup (He.ga K q.f.name) = some ⟨oc, od, .func (PySem.W.fnOf q.f.name q.f.name (argsO q.st) (bodyO q.st) (scO q.st) .none kV doc pm an cdv ct), osl⟩ ∧ PySem.W.codeIn K cdv q.f.name = true := by
  obtain ⟨fd, F⟩ := c.def_ g (d := q.d) (fns_at e)
  obtain ⟨oc, od, dV, kV, doc, pm, an, cdv, ct, osl, rfl, lk, hcd, hD, _⟩ := F.ex
  rcases hD with ⟨_, rfl⟩ | ⟨e, _⟩
  · exact ⟨kV, doc, pm, an, od, cdv, ct, oc, osl, lk, hcd⟩
  · exact absurd rfl e
theorem body_ok (T : TextOk P D lamF L ld x ist) (gk : GOk (gamOf P prog w K mg base lamF)) (s : SaysT (faOf D) (fnsOf P D ist) P lamF h K) (TB : ∀ y ∈ lamF, LamX.TabB base mg (codOf K y) (tabOf K y)) {g : Nat} {q : DefI} (hq : q ∈ D) (he : P.fns[g]? = some q.f)
    {kV doc pm : Value} {an od : Option Addr} {cdv ct oc : Value} {osl : Array (Option Value)} (lk : K.lookup (He.ga K q.f.name) = some ⟨oc, od, .func (PySem.W.fnOf q.f.name q.f.name (argsO q.st) (bodyO q.st) (scO q.st) .none kV doc pm an cdv ct), osl⟩) :
    BodyOk (gamOf P prog w K mg base lamF) g q.f (bodyO q.st) (scO q.st) cdv q.N := by
  intro d hF A outer st H E co k v0 vx gx xc
  have dk := T.defs q hq
  have S := C8.fnScope_by dk.sc
  refine (sndS gk 60).Ss _ _ _ dk.chk d hF k ⟨co, none⟩ _ _ ⟨⟨gx.prog, gx.w, gx.K, gx.mg, gx.base⟩, fun _ => gx.room, rfl, S.nd, rfl, S.kind, fun _ => rfl, fun _ => rfl, v0, fun p hp => (by rw [vx] at hp; cases hp), fun hl => ?_, fun _ => passes_of rfl, L2N.takes_of (E := E) rfl rfl rfl rfl, xc, fun _ => rfl, (fun h => nomatch h), fun _ => ⟨rfl, rfl⟩, (fun i h => nomatch h)⟩
  have hm := T.lam q hq hl
  obtain ⟨q1, q2, q3, oc', od', fd', osl', lk', hc'⟩ := s.2.2.2.2.2 q.f.name hm
  rw [lk] at lk'
  cases lk'
  refine ⟨codOf K q.f.name, tabOf K q.f.name, TB _ hm, hc', List.mem_map.mpr ⟨q.f.name, hm, rfl⟩, fun p hp e => ?_⟩
  obtain ⟨y, hy, rfl⟩ := List.mem_map.mp hp
  have e : tabOf K y = tabOf K q.f.name := e
  have nd := s.2.2.2.1
  have : y = q.f.name := by
    have inj : ∀ {l : List Str}, (l.map (tabOf K)).Nodup → ∀ a ∈ l, ∀ b ∈ l, tabOf K a = tabOf K b → a = b := by
      intro l
      induction l with
      | nil => intro _ a ha; cases ha
      | cons z l ih =>
        intro nd a ha b hb e
        rw [List.map_cons, List.nodup_cons] at nd
        rcases List.mem_cons.mp ha with ea | ha2
        · rcases List.mem_cons.mp hb with eb | hb2
          · rw [ea, eb]
          · rw [ea] at e
            exact absurd (List.mem_map.mpr ⟨b, hb2, e.symm⟩) nd.1
        · rcases List.mem_cons.mp hb with eb | hb2
          · rw [eb] at e
            exact absurd (List.mem_map.mpr ⟨a, ha2, e⟩) nd.1
          · exact ih nd.2 a ha2 b hb2 e
    exact inj nd y hy _ hm e
  subst this
  rfl
theorem fok_text (T : TextOk P D lamF L ld x ist) (gk : GOk (gamOf P prog w K mg base lamF)) (s : SaysT (faOf D) (fnsOf P D ist) P lamF h K) (TB : ∀ y ∈ lamF, LamX.TabB base mg (codOf K y) (tabOf K y)) : ∀ d, FOK (gamOf P prog w K mg base lamF) d := by
  refine fok fun g f e => ?_
  have e : P.fns[g]? = some f := e
  obtain ⟨q, e1, e2, hq⟩ := T.at e
  subst e2
  have dk := T.defs q hq
  have S := C8.fnScope_by dk.sc
  obtain ⟨kV, doc, pm, an, od, cdv, ct, oc, osl, lk, hcd⟩ := tab_at T s.1 s.2.1 e1 hq
  refine ⟨argsO q.st, bodyO q.st, scO q.st, cdv, q.N, q.ps, ⟨⟨.none, kV, doc, pm, an, od, ct, oc, osl, ?_, fun st us hl => .of_eq (dk.bind kV doc pm an cdv ct us hl)⟩, hcd, S, dk.len, dk.n⟩, body_ok T gk s TB hq e lk⟩
  rw [gam_fa e]
  exact lk
/-- of a heap just the list at a -/
def vis1 (H : Hp) (a : Addr) : Hp := fun b => if b = a then (match H a with
  | some (.lst xs) => some (.lst xs)
  | some (.frz o xs) => some (.frz o xs)
  | _ => none) else none
theorem vis1_ok {H : Hp} {a b : Addr} {o : HO} (e : vis1 H a b = some o) : H b = some o ∧ Vk o := by
  unfold vis1 at e
  by_cases hb : b = a
  · subst hb
    rw [if_pos rfl] at e
    split at e
    · rename_i q; rw [q]; exact ⟨e, by cases e; trivial⟩
    · rename_i q; rw [q]; exact ⟨e, by cases e; trivial⟩
    · cases e
  · rw [if_neg hb] at e; cases e
/-- the law's promise over the layer -/
def spLaw (K : PySem.W.Frag) (lamF : List Str) : Sp := fun vs H Q _ => ∃ (a : Addr) (ns : List Int), vs = [.ref a] ∧ SqL K H a (ns.map V.int) ∧ ns.length ≤ 63 ∧ (∀ z ∈ ns, Builtin.Int.intBits z ≤ 1048576) ∧ (∀ y ∈ lamF, H (tabOf K y) = some (.tbl #[])) ∧ ∀ H', Q (.bl true) H'
theorem law_ok {d : Nat} (T : TextOk P D lamF L ld x ist) (gk : GOk (gamOf P prog w K mg base lamF)) (s : SaysT (faOf D) (fnsOf P D ist) P lamF h K) (TB : ∀ y ∈ lamF, LamX.TabB base mg (codOf K y) (tabOf K y))
    (wp : ∀ ns : List Int, ns.length ≤ 63 → (∀ z ∈ ns, Builtin.Int.intBits z ≤ 1048576) → (callW P (d + 1)).fn L none [.scr ns] [] (fun v _ => v = .bl true) noX)
    {kV doc pm : Value} {an od : Option Addr} {cdv ct oc : Value} {osl : Array (Option Value)} (lk : K.lookup (He.ga K ld.f.name) = some ⟨oc, od, .func (PySem.W.fnOf ld.f.name ld.f.name (argsO ld.st) (bodyO ld.st) (scO ld.st) .none kV doc pm an cdv ct), osl⟩) (hcd : PySem.W.codeIn K cdv ld.f.name = true) :
    FnOk prog w K mg base (L2N.CX prog w) (Rd (d + 1)) (He.ga K ld.f.name) (PySem.W.fnOf ld.f.name ld.f.name (argsO ld.st) (bodyO ld.st) (scO ld.st) .none kV doc pm an cdv ct) [x] (spLaw K lamF) := by
  have hq : ld ∈ D := List.mem_of_getElem? T.law
  have e : P.fns[L]? = some ld.f := by rw [T.fns, List.getElem?_map, T.law]; rfl
  have dk := T.defs ld hq
  have S := C8.fnScope_by dk.sc
  refine ⟨fun vs H Q E h => ?_, fun A outer st H args us vs Q E hr e0 hb hv hsp => ?_⟩
  · obtain ⟨a, ns, rfl, _⟩ := h
    rfl
  · obtain ⟨a, ns, rfl, hS, hl, hbits, htab, hQ⟩ := hsp
    have efa := gam_fa (P := P) (prog := prog) (w := w) (K := K) (mg := mg) (base := base) (lamF := lamF) e
    -- what may be spoken of: the script
    have so : StO (gamOf P prog w K mg base lamF) (fun _ => 0) (vis1 H a) H [] := {
      sub := fun b o eb => (vis1_ok eb).1
      sto := fun i c ec => by simp at ec
      inj := fun i j hi => by simp at hi
      tab := fun p hp => by
        obtain ⟨y, hy, rfl⟩ := List.mem_map.mp hp
        exact LamX.TabS.nil (htab y hy)
      nt := fun b o eb => (vis1_ok eb).2 }
    have rv : RVs (gamOf P prog w K mg base lamF) (fun _ => 0) ([] : Store).length (vis1 H a) [.scr ns] [.ref a] := by
      refine ⟨_, _, rfl, ⟨a, rfl, ?_⟩, rfl⟩
      rcases hS with (h | ⟨o, h⟩) | h
      · exact .inl ⟨.inl (by unfold vis1; rw [if_pos rfl, h]), fun i hi => absurd hi (Nat.not_lt_zero i)⟩
      · exact .inl ⟨.inr ⟨o, by unfold vis1; rw [if_pos rfl, h]⟩, fun i hi => absurd hi (Nat.not_lt_zero i)⟩
      · exact .inr fun H' => .inr h
    have lk' : (gamOf P prog w K mg base lamF).K.lookup ((gamOf P prog w K mg base lamF).fa L) = some ⟨oc, od, .func (PySem.W.fnOf ld.f.name ld.f.name (argsO ld.st) (bodyO ld.st) (scO ld.st) .none kV doc pm an cdv ct), osl⟩ := by
      rw [efa]
      exact lk
    have hb' := body_ok (prog := prog) (w := w) (mg := mg) (base := base) T gk s TB hq e lk
    have run := run_def (G := gamOf P prog w K mg base lamF) (e := d) (g := L) (cus := []) hcd S dk.len dk.n lk' (hb' d fun d' _ => fok_text T gk s TB d') (args := args) hr e0 so rv hv (show CloArg _ _ none [] _ _ _ _ _ _ from rfl) (fun _ => by rw [T.ps]; exact hb) e (wp ns hl hbits)
      (Q := Q) (E := E) (fun w' st' v Hv' H' ρ' q l so' r => by
        subst q
        obtain rfl : v = .bl true := r
        exact hQ H') (fun _ _ _ _ _ _ _ z => z.elim)
    rw [efa] at run
    exact run
/-- a law, by the plain promise of its code -/
theorem walk_text {l : PySem.W.OpenLaw} {n : Nat} {q : Program} {loose : List Str} {XP : (Str → Option Value) → Heap → Prop} {dr : DefRec} {m d : Nat}
    (hn : l.most = some 63) (hdf : dr.params.defaults = []) (hr : Room (Rd (d + 1)) callerA) (T : TextOk P D lamF L ld x ist) (hname : dr.name = ld.f.name)
    (wp : ∀ ns : List Int, ns.length ≤ 63 → (∀ z ∈ ns, Builtin.Int.intBits z ≤ 1048576) → (callW P (d + 1)).fn L none [.scr ns] [] (fun v _ => v = .bl true) noX) :
    PySem.W.WalkO q loose XP (hookT m (faOf D) (fnsOf P D ist) P lamF).says l.row.toRowW dr [] (fun f vs => PySem.call f vs) := by
  refine Att.attach_callB hn hdf fun w s₀ s₁ mg mb fa o pm cd doc a vs ns G Y ho hd hcd hmg hobj hints hlen hbits hg => ?_
  obtain ⟨K, s⟩ := Y
  have KX := s.1
  have hfa : fa = He.ga K ld.f.name := by
    have h1 := He.glo_ok KX G.T.g (fact_in s.2.1 (f := .glo ld.f.name) (List.mem_append_left _ (List.mem_map.mpr ⟨ld, List.mem_of_getElem? T.law, rfl⟩)))
    rw [hname, h1] at hmg
    cases hmg
    rfl
  subst hfa
  have main : ∃ fd : FuncData, (∀ (s : Shared) (u : Value), BindsTo s fd ⟨[u], []⟩ [(x, u)]) ∧ ∀ base : Heap, K.In base → base.Ns mainGlobals mg → (∀ p ∈ lamF.map fun y => (codOf K y, tabOf K y), LamX.TabB base mg p.1 p.2) → FnOk l.prog w K mg base (L2N.CX l.prog w) (Rd (d + 1)) (He.ga K ld.f.name) fd [x] (spLaw K lamF) := by
    have gk0 := fun (base : Heap) => gok (prog := l.prog) (w := w) (base := base) T KX G.T.g s.2.1 s.2.2.1 s.2.2.2.2.1
    obtain ⟨kV, doc', pm', an, od, cdv, ct, oc, osl, lk, hcd⟩ := tab_at T s.1 s.2.1 T.law (List.mem_of_getElem? T.law)
    have dk := T.defs ld (List.mem_of_getElem? T.law)
    refine ⟨PySem.W.fnOf ld.f.name ld.f.name (argsO ld.st) (bodyO ld.st) (scO ld.st) .none kV doc' pm' an cdv ct, fun st u => ?_, fun base _ _ TB => ?_⟩
    · have := BindsTo.of_eq (s := st) (dk.bind kV doc' pm' an cdv ct [u] (by rw [T.ps]; rfl))
      rw [T.ps] at this
      exact this
    · refine law_ok (P := P) (D := D) (L := L) T (gk0 base) s (fun y hy => TB _ (List.mem_map.mpr ⟨y, hy, rfl⟩)) wp lk hcd
  obtain ⟨fd, hb, hF⟩ := main
  refine LamX.law_callTs (cs := lamF.map fun y => (codOf K y, tabOf K y)) KX G.T.g G.T.b G.T.builtins G.T.nolimit hg ?_ ?_ ?_ G.T.bmain hobj hints (Nat.le_trans hlen (by decide)) hr hF hb (fun H hH hS => ?_) (fun H e s' z => ?_)
  · intro p hp
    obtain ⟨y, hy, rfl⟩ := List.mem_map.mp hp
    exact (s.2.2.2.2.2 y hy).1
  · intro p hp
    obtain ⟨y, hy, rfl⟩ := List.mem_map.mp hp
    exact (s.2.2.2.2.2 y hy).2.1
  · intro p hp
    obtain ⟨y, hy, rfl⟩ := List.mem_map.mp hp
    exact (s.2.2.2.2.2 y hy).2.2.1
  · exact ⟨a, ns, rfl, hS, hlen, hbits, fun y hy => hH _ (List.mem_map.mpr ⟨y, hy, rfl⟩), fun _ => rfl⟩
  · obtain ⟨_, _, _, _, _, _, _, _, _, _, _, _, z⟩ := z
    exact z
end
end Ev

set_option maxRecDepth 100000
set_option maxHeartbeats 4000000
/-! Draw: the laws' draws: whatever the script is. -/
namespace Ev
open PySem L2
def fTake : Fn := ⟨"_law_take", 2, false, 3, [
  .ite (.cmp .Gt (.sub (.var 0) (.int 0)) (.int 0)) [.asg 2 (.bin .Mod (.bi .int [.sub (.var 0) (.int 0)]) (.var 1)), .asgS (.var 0) (.int 0) (.bin .FloorDiv (.sub (.var 0) (.int 0)) (.var 1)), .ret (.var 2)] [],
  .asgS (.var 0) (.int 2) (.bin .Add (.sub (.var 0) (.int 2)) (.int 1)),
  .asgS (.var 0) (.int 1) (.bin .Mod (.bi .int [.bin .Add (.bin .Add (.bin .Mult (.sub (.var 0) (.int 1)) (.int 39373)) (.bin .Mult (.int 7919) (.sub (.var 0) (.int 2)))) (.int 7)]) (.int 2147483647)),
  .ret (.bin .Mod (.bi .int [.bin .FloorDiv (.bin .Mod (.bi .int [.bin .Mult (.sub (.var 0) (.int 1)) (.sub (.var 0) (.int 1))]) (.int 2147483629)) (.int 32)]) (.var 1))]⟩
theorem sub3 {st : Store} {n : Nat} {x y z : W} {Q : W → Prop} (h : st[n]? = some (.lst [x, y, z])) :
    (Q x → subW st (.loc n) (.int 0) Q) ∧ (Q y → subW st (.loc n) (.int 1) Q) ∧ (Q z → subW st (.loc n) (.int 2) Q) := by
  refine ⟨fun q => ?_, fun q => ?_, fun q => ?_⟩
  · simp only [subW, h]; exact ⟨0, x, rfl, rfl, q⟩
  · simp only [subW, h]; exact ⟨1, y, rfl, rfl, q⟩
  · simp only [subW, h]; exact ⟨2, z, rfl, rfl, q⟩
theorem set3 {st : Store} {n : Nat} {x y z v : W} {Q : Store → Prop} (h : st[n]? = some (.lst [x, y, z])) :
    (Q (st.set n (.lst [ro v, y, z])) → setW st (.loc n) (.int 0) v Q) ∧ (Q (st.set n (.lst [x, ro v, z])) → setW st (.loc n) (.int 1) v Q) ∧ (Q (st.set n (.lst [x, y, ro v])) → setW st (.loc n) (.int 2) v Q) := by
  refine ⟨fun q => ?_, fun q => ?_, fun q => ?_⟩
  · simp only [setW, h]; exact ⟨0, rfl, q⟩
  · simp only [setW, h]; exact ⟨1, rfl, q⟩
  · simp only [setW, h]; exact ⟨2, rfl, q⟩
theorem set_get {st : Store} {n : Nat} {c d : Cell} (h : st[n]? = some c) : (st.set n d)[n]? = some d := by
  rw [List.getElem?_set_self (List.getElem?_eq_some_iff.mp h).1]
theorem sp_take {P : Prog} {d t n : Nat} {st : Store} {a b c m : Int} {Q : Post} {X : XPost} (hf : P.fns[t]? = some fTake) (hj : st[n]? = some (.lst [.int a, .int b, .int c])) (hm : 0 < m) (hm2 : m < 1073741824)
    (q : ∀ r a' b' c', 0 ≤ r → r < m → Q (.int r) (st.set n (.lst [.int a', .int b', .int c']))) : (callW P (d + 1)).fn t none [.loc n, .int m] st Q X := by
  refine ⟨fTake, hf, rfl, rfl, ?_⟩
  simp only [fTake, initW, wpSs, wpS, wpE, wpEs]
  refine ⟨_, rfl, (by intro h; cases h), (sub3 hj).1 ?_⟩
  refine ⟨_, rfl, ?_⟩
  by_cases ha : 0 < a
  · rw [if_pos (by simpa using ha)]
    refine ⟨_, rfl, (by intro h; cases h), (sub3 hj).1 ?_⟩
    refine ⟨_, rfl, (by intro h; cases h), hm, by simp, ?_⟩
    refine ⟨_, rfl, (by intro h; cases h), (sub3 hj).1 ?_⟩
    refine ⟨_, rfl, (by intro h; cases h), .inl ⟨hm, hm2⟩, ?_⟩
    refine ⟨_, rfl, (by intro h; cases h), (set3 hj).1 ?_⟩
    refine ⟨_, rfl, (by intro h; cases h), .inl ?_⟩
    exact q _ _ _ _ (Int.emod_nonneg _ (by omega)) (Int.emod_lt_of_pos _ hm)
  · rw [if_neg (by simpa using ha)]
    refine ⟨_, rfl, (by intro h; cases h), (sub3 hj).2.2 ?_⟩
    refine ⟨_, rfl, (by intro h; cases h), (set3 hj).2.2 ?_⟩
    have h2 := set_get (d := .lst [.int a, .int b, ro (.int (c + 1))]) hj
    refine ⟨_, rfl, (by intro h; cases h), (sub3 h2).2.1 ?_⟩
    refine ⟨.inl (.inr ⟨by decide, by decide⟩), ?_⟩
    refine ⟨_, rfl, (by intro h; cases h), (sub3 h2).2.2 ?_⟩
    refine ⟨.inl (.inl ⟨by decide, by decide⟩), ?_⟩
    refine ⟨by decide, ?_⟩
    refine ⟨_, rfl, (by intro h; cases h), (set3 h2).2.1 ?_⟩
    have h3 := set_get (d := .lst [.int a, ro (.int ((b * 39373 + 7919 * (c + 1) + 7) % 2147483647)), ro (.int (c + 1))]) h2
    refine ⟨_, rfl, (by intro h; cases h), (sub3 h3).2.1 ?_⟩
    refine ⟨_, rfl, (by intro h; cases h), (sub3 h3).2.1 ?_⟩
    have hb1 := Int.emod_nonneg (b * 39373 + 7919 * (c + 1) + 7) (show (2147483647 : Int) ≠ 0 by decide)
    have hb2 := Int.emod_lt_of_pos (b * 39373 + 7919 * (c + 1) + 7) (show (0 : Int) < 2147483647 by decide)
    refine ⟨.inl (.inl ⟨by omega, by omega⟩), ?_⟩
    refine ⟨by decide, .inl ⟨by decide, by decide⟩, ?_⟩
    refine ⟨_, rfl, (by intro h; cases h), hm, .inl ?_⟩
    rw [List.set_set]
    exact q _ _ _ _ (Int.emod_nonneg _ (by omega)) (Int.emod_lt_of_pos _ hm)
/-! ### loops -/
theorem for_inv {turn : W → Env → Store → Ends → Prop} {guard : Store → Prop} {D : Ends} (items : List W) (I : Nat → Env → Store → Prop)
    (hs : ∀ i x env st (K : Env → Store → Prop), items[i]? = some x → I i env st → (∀ env' st', I (i + 1) env' st' → K env' st') → guard st ∧ turn x env st { D with nx := K, ct := K, bk := D.nx })
    (hd : ∀ env st, I items.length env st → guard st ∧ D.nx env st) {env : Env} {st : Store} (h0 : I 0 env st) : wpFor turn guard items env st D := by
  have main : ∀ (n i : Nat), items.length - i = n → ∀ env st, i ≤ items.length → I i env st → wpFor turn guard (items.drop i) env st D := by
    intro n
    induction n with
    | zero =>
      intro i hi env st hl h
      have e : i = items.length := by omega
      subst e
      rw [List.drop_length]
      exact hd env st h
    | succ n ih =>
      intro i hi env st hl h
      have hlt : i < items.length := by omega
      rw [List.drop_eq_getElem_cons hlt]
      exact hs i _ env st _ (List.getElem?_eq_getElem hlt) h fun env' st' h' => ih (i + 1) (by omega) env' st' hlt h'
  exact main _ 0 rfl env st (Nat.zero_le _) h0
theorem comp_inv {turn : W → List W → Store → (List W → Store → Prop) → Prop} {guard : Store → Prop} {Q : List W → Store → Prop} (items : List W) (I : Nat → List W → Store → Prop)
    (hs : ∀ i x acc st (K : List W → Store → Prop), items[i]? = some x → I i acc st → (∀ acc' st', I (i + 1) acc' st' → K acc' st') → guard st ∧ turn x acc st K)
    (hd : ∀ acc st, I items.length acc st → guard st ∧ Q acc st) {acc : List W} {st : Store} (h0 : I 0 acc st) : wpComp turn guard items acc st Q := by
  have main : ∀ (n i : Nat), items.length - i = n → ∀ acc st, i ≤ items.length → I i acc st → wpComp turn guard (items.drop i) acc st Q := by
    intro n
    induction n with
    | zero =>
      intro i hi acc st hl h
      have e : i = items.length := by omega
      subst e
      rw [List.drop_length]
      exact hd acc st h
    | succ n ih =>
      intro i hi acc st hl h
      have hlt : i < items.length := by omega
      rw [List.drop_eq_getElem_cons hlt]
      exact hs i _ acc st _ (List.getElem?_eq_getElem hlt) h fun acc' st' h' => ih (i + 1) (by omega) acc' st' hlt h'
  exact main _ 0 rfl acc st (Nat.zero_le _) h0
theorem len_w {st : Store} {w : W} {ws : List W} {Q : W → Store → Prop} (h : seqW st w = some ws) (q : Q (.int ws.length) st) : biW st .len [w] Q := by
  cases w with
  | loc n =>
    simp only [seqW] at h
    split at h
    · rename_i us hs
      cases h
      simp only [biW, hs]
      exact q
    · cases h
  | tup us => cases h; exact ⟨_, rfl, q⟩
  | ktup us => cases h; exact ⟨_, rfl, q⟩
  | lst us => cases h; exact ⟨_, rfl, q⟩
  | tmp us => cases h; exact ⟨_, rfl, q⟩
  | scr us => cases h; exact ⟨_, rfl, q⟩
  | _ => cases h
theorem ixN_nat {n r : Nat} (h : r < n) : ixN n (r : Int) = some r := by
  show L2.ixN n (r : Int) = some r
  unfold L2.ixN
  rw [if_pos (by omega), if_pos (by omega)]
  rfl
theorem sub_w {st : Store} {w x : W} {ws : List W} {r : Nat} {Q : W → Prop} (h : seqW st w = some ws) (hx : ws[r]? = some x) (q : Q x) : subW st w (.int (r : Nat)) Q := by
  have hr := (List.getElem?_eq_some_iff.mp hx).1
  cases w with
  | loc n =>
    simp only [seqW] at h
    split at h
    · rename_i us hs
      cases h
      simp only [subW, hs]
      exact ⟨r, x, ixN_nat hr, hx, q⟩
    · cases h
  | tup us => exact ⟨ws, r, x, h, ixN_nat hr, hx, q⟩
  | ktup us => exact ⟨ws, r, x, h, ixN_nat hr, hx, q⟩
  | lst us => exact ⟨ws, r, x, h, ixN_nat hr, hx, q⟩
  | tmp us => exact ⟨ws, r, x, h, ixN_nat hr, hx, q⟩
  | scr us => exact ⟨ws, r, x, h, ixN_nat hr, hx, q⟩
  | _ => cases h
/-! ### one of some things -/
def fOne (t : Nat) : Fn := ⟨"_law_one", 2, false, 2, [.ret (.sub (.var 1) (.call t [.var 0, .bi .len [.var 1]]))]⟩
theorem sp_one {P : Prog} {d t o n : Nat} {st : Store} {a b c : Int} {w : W} {ws : List W} {Q : Post} {X : XPost} (hf : P.fns[t]? = some fTake) (ho : P.fns[o]? = some (fOne t)) (hj : st[n]? = some (.lst [.int a, .int b, .int c]))
    (hw : seqW st w = some ws) (hw' : ∀ c, seqW (st.set n c) w = some ws) (hu : w ≠ .undef) (hl : 0 < ws.length) (hl2 : ws.length < 1073741824)
    (q : ∀ (r : Nat) (x : W) (a' b' c' : Int), ws[r]? = some x → Q x (st.set n (.lst [.int a', .int b', .int c']))) : (callW P (d + 2)).fn o none [.loc n, w] st Q X := by
  refine ⟨fOne t, ho, rfl, rfl, ?_⟩
  simp only [fOne, initW, wpSs, wpS, wpE, wpEs]
  refine ⟨_, rfl, hu, ?_⟩
  refine ⟨_, rfl, (by intro h; cases h), ?_⟩
  refine ⟨_, rfl, hu, len_w hw ?_⟩
  refine sp_take (d := d) hf hj (by omega) (by omega) fun r a' b' c' h0 h1 => ?_
  obtain ⟨m, rfl⟩ := Int.eq_ofNat_of_zero_le h0
  have hm : m < ws.length := by omega
  exact sub_w (hw' _) (List.getElem?_eq_getElem hm) (.inl (q m _ a' b' c' (List.getElem?_eq_getElem hm)))
/-! ### in another order -/
def fMixed (t : Nat) : Fn := ⟨"_law_mixed", 2, false, 5, [
  .par [3, 4] [.alloc (.bi .list [.var 1]), .alloc (.lst [])],
  .for_ (.nm 2) (.rng1 (.bi .len [.var 1])) [.ex (.meth .append (.var 4) [.meth .popi (.var 3) [.call t [.var 0, .bi .len [.var 3]]]])],
  .ret (.var 4)]⟩
/-- a store whose cells name none beyond it -/
def okSt (st : Store) : Prop := ∀ c ∈ st, okC st.length c = true
theorem okVs_mem {n : Nat} : ∀ {ws : List W}, okVs n ws = true ↔ ∀ w ∈ ws, okV n w = true
  | [] => by simp [okVs]
  | w :: ws => by
    simp only [okVs, Bool.and_eq_true, List.mem_cons, forall_eq_or_imp]
    rw [okVs_mem]
theorem jar_ok {st : Store} {n : Nat} {a b c : Int} (h : okSt st) : okSt (st.set n (.lst [.int a, .int b, .int c])) := by
  intro d hd
  rw [List.length_set]
  rcases List.mem_or_eq_of_mem_set hd with h1 | h1
  · exact h d h1
  · rw [h1]; rfl
theorem seqIndex_nat {n k : Nat} (h : k < n) : seqIndex? (k : Int) n = some k := by
  have := ixN_seq (n := n) (i := (k : Int)) (j := k) (ixN_nat h)
  exact this.1
theorem erase_perm {α : Type} {l : List α} {m : Nat} (h : m < l.length) : (l[m] :: l.eraseIdx m).Perm l := by
  rw [List.eraseIdx_eq_take_drop_succ]
  have e : l = l.take m ++ l[m] :: l.drop (m + 1) := by
    rw [← List.drop_eq_getElem_cons h, List.take_append_drop]
  have p := (List.perm_middle (a := l[m]) (l₁ := l.take m) (l₂ := l.drop (m + 1))).symm
  exact p.trans (by rw [← e])
theorem sp_mixed {P : Prog} {d t o n : Nat} {st : Store} {a b c : Int} {w : W} {ws : List W} {Q : Post} {X : XPost} (hf : P.fns[t]? = some fTake) (ho : P.fns[o]? = some (fMixed t)) (hj : st[n]? = some (.lst [.int a, .int b, .int c]))
    (hw : seqW st w = some ws) (hsc : ∀ ns, w ≠ .scr ns) (hw2 : ∀ st', (∃ j, st' = st.set n j ++ [.lst ws, .lst []]) → seqW st' w = some ws) (hu : w ≠ .undef) (hl2 : ws.length < 10000) (hro : ∀ x ∈ ws, ro x = x) (hok : okVs st.length ws = true) (hst : okSt st)
    (q : ∀ (us : List W) (a' b' c' : Int), us.Perm ws → Q (.tmp us) (st.set n (.lst [.int a', .int b', .int c']))) : (callW P (d + 2)).fn o none [.loc n, w] st Q X := by
  have hn : n < st.length := (List.getElem?_eq_some_iff.mp hj).1
  have zl : (10000 : Nat) ≤ sizeLine := by decide
  refine ⟨fMixed t, ho, rfl, rfl, ?_⟩
  simp only [fMixed, initW, wpSs, wpS, wpE, wpEs, wpI]
  refine ⟨_, rfl, hu, ws, hw, hsc, ?_⟩
  refine ⟨Nat.zero_le _, ?_⟩
  refine ⟨_, rfl, ?_⟩
  have e0 : st.set n (.lst [.int a, .int b, .int c]) = st := by
    refine List.ext_getElem? fun i => ?_
    by_cases hi : n = i
    · subst hi; rw [List.getElem?_set_self hn, hj]
    · rw [List.getElem?_set_ne hi]
  refine ⟨_, rfl, hu, len_w (ws := ws) (hw2 _ ⟨.lst [.int a, .int b, .int c], by rw [e0, List.append_assoc]; rfl⟩) ⟨by omega, by omega, ?_⟩⟩
  refine for_inv (rangeW 0 (ws.length : Nat)) (fun i env s => ∃ z a b c left made, env = [.loc n, w, z, .loc st.length, .loc (st ++ [Cell.lst ws]).length] ∧ s = st.set n (.lst [.int a, .int b, .int c]) ++ [.lst left, .lst made] ∧ left.length + i = ws.length ∧ (left ++ made).Perm ws) ?_ ?_ ?_
  · rintro i x env s K hx ⟨z, a, b, c, left, made, rfl, rfl, hlen, hp⟩ hK
    refine ⟨trivial, ?_⟩
    have hi : i < ws.length := by
      obtain ⟨h1, _⟩ := rangeW_get _ _ _ hx
      omega
    have hL : (st.set n (Cell.lst [.int a, .int b, .int c])).length = st.length := List.length_set
    have hL2 : (st ++ [Cell.lst ws]).length = st.length + 1 := by simp
    rw [hL2]
    refine ⟨_, rfl, ?_⟩
    have g1 : ∀ {j : Cell} {x y : Cell}, (st.set n j ++ [x, y])[st.length + 1]? = some y := by intro j x y; rw [List.getElem?_append_right (by simp)]; simp
    have g0 : ∀ {j : Cell} {x y : Cell}, (st.set n j ++ [x, y])[st.length]? = some x := by intro j x y; rw [List.getElem?_append_right (by simp)]; simp
    have gn : ∀ {j : Cell} {x y : Cell}, (st.set n j ++ [x, y])[n]? = some j := by intro j x y; rw [List.getElem?_append_left (by simpa using hn)]; exact set_get hj
    refine ⟨_, rfl, (by intro h; cases h), ⟨_, _, rfl, g1⟩, ?_⟩
    refine ⟨_, rfl, (by intro h; cases h), ⟨_, _, rfl, g0⟩, ?_⟩
    refine ⟨_, rfl, (by intro h; cases h), ?_⟩
    refine ⟨_, rfl, (by intro h; cases h), len_w (ws := left) (by simp only [seqW, g0]) ?_⟩
    refine sp_take (d := d) hf gn (by omega) (by omega) fun r a' b' c' h0 h1 => ?_
    obtain ⟨m, rfl⟩ := Int.eq_ofNat_of_zero_le h0
    have hm : m < left.length := by omega
    have s1 : (st.set n (Cell.lst [.int a, .int b, .int c]) ++ [Cell.lst left, Cell.lst made]).set n (.lst [.int a', .int b', .int c']) = st.set n (.lst [.int a', .int b', .int c']) ++ [Cell.lst left, Cell.lst made] := by
      rw [List.set_append_left _ _ (by simpa using hn), List.set_set]
    rw [s1]
    simp only [meW, g0]
    refine ⟨m, left[m], by omega, by omega, seqIndex_nat hm, List.getElem?_eq_getElem hm, ?_⟩
    have s2 : ∀ {j : Cell} {u v x : Cell}, (st.set n j ++ [u, v]).set st.length x = st.set n j ++ [x, v] := by
      intro j u v x
      rw [List.set_append_right _ _ (by simp)]
      simp
    have s3 : ∀ {j : Cell} {u v x : Cell}, (st.set n j ++ [u, v]).set (st.length + 1) x = st.set n j ++ [u, x] := by
      intro j u v x
      rw [List.set_append_right _ _ (by simp)]
      simp
    rw [s2, g1]
    have hmem : left[m] ∈ ws := hp.mem_iff.mp (List.mem_append_left _ (List.getElem_mem hm))
    have hml : made.length ≤ ws.length := by have := hp.length_eq; rw [List.length_append] at this; omega
    refine ⟨by omega, hK _ _ ?_⟩
    rw [s3, hro _ hmem]
    refine ⟨_, a', b', c', left.eraseIdx m, made ++ [left[m]], by rw [hL2]; rfl, rfl, ?_, ?_⟩
    · rw [List.length_eraseIdx_of_lt hm]
      omega
    · refine List.Perm.trans ?_ hp
      have h1 : (left.eraseIdx m ++ (made ++ [left[m]])).Perm (left[m] :: left.eraseIdx m ++ made) := by
        rw [← List.append_assoc]
        exact List.perm_append_singleton _ _
      exact h1.trans ((erase_perm hm).append_right made)
  · rintro env s ⟨z, a, b, c, left, made, rfl, rfl, hlen, hp⟩
    refine ⟨trivial, ?_⟩
    have hL2 : (st ++ [Cell.lst ws]).length = st.length + 1 := by simp
    rw [hL2]
    refine ⟨_, rfl, (by intro h; cases h), ?_⟩
    rw [rangeW_length] at hlen
    have hl0 : left = [] := List.length_eq_zero_iff.mp (by omega)
    subst hl0
    have hp : made.Perm ws := hp
    have ht : (st.set n (Cell.lst [.int a, .int b, .int c]) ++ [Cell.lst [], Cell.lst made]).take st.length = st.set n (.lst [.int a, .int b, .int c]) := by
      rw [List.take_append_of_le_length (by simp)]
      rw [List.take_of_length_le (by simp)]
    refine .inr (.inr (.inl ⟨st.length + 1, made, rfl, Nat.le_succ _, by rw [List.getElem?_append_right (by simp)]; simp, ?_, ?_, ?_⟩))
    · rw [okVs_mem] at hok ⊢
      exact fun x hx => hok x (hp.mem_iff.mp hx)
    · intro d hd
      rw [ht] at hd
      have := jar_ok (a := a) (b := b) (c := c) (n := n) hst d hd
      rwa [List.length_set] at this
    · rw [ht]
      exact q made a b c hp
  · exact ⟨.undef, a, b, c, ws, [], rfl, by rw [e0, List.append_assoc]; rfl, by simp, by simp⟩
/-! ### the jar -/
def fPool : Fn := ⟨"_law_pool", 1, false, 5, [
  .asgT (.tup [.nm 2, .nm 3]) (.tup [.int 0, .int 7]),
  .for_ (.nm 1) (.rng1 (.bi .len [.var 0])) [.asg 4 (.bi .int [.bi .max [.sub (.var 0) (.var 1), .bin .Sub (.neg (.int 1)) (.sub (.var 0) (.var 1))]]), .asg 3 (.bin .Mod (.bi .int [.bin .Add (.bin .Add (.bin .Mult (.var 3) (.int 48271)) (.bin .Mod (.var 4) (.int 2147483629))) (.int 11)]) (.int 2147483647)), .asg 2 (.ife (.band [.cmp .GtE (.var 4) (.bin .Pow (.int 10) (.int 12)), .cmp .Lt (.var 2) (.bin .Pow (.int 10) (.int 60))]) (.bi .int [.bin .Add (.bin .Mult (.var 2) (.bin .Pow (.int 10) (.int 60))) (.bin .Mod (.var 4) (.bin .Pow (.int 10) (.int 60)))]) (.var 2))],
  .ret (.lst [.var 2, .var 3, .int 0])]⟩
theorem log2_lt {i : Int} {k : Nat} (h0 : 0 ≤ i) (h : i < 2 ^ k) : i.natAbs.log2 ≤ k := by
  by_cases hi : i.natAbs = 0
  · rw [hi]; exact Nat.zero_le _
  · have h2 : i.natAbs < 2 ^ k := by
      have e : ((i.natAbs : Nat) : Int) = i := Int.natAbs_of_nonneg h0
      have : ((i.natAbs : Nat) : Int) < ((2 ^ k : Nat) : Int) := by rw [e]; push_cast; exact h
      exact_mod_cast this
    exact Nat.le_of_lt ((Nat.log2_lt hi).mpr h2)
theorem sp_pool {P : Prog} {d t : Nat} {st : Store} {ns : List Int} {Q : Post} {X : XPost} (hf : P.fns[t]? = some fPool) (hl : ns.length ≤ 63) (q : ∀ a b : Int, Q (.tmp [.int a, .int b, .int 0]) st) : (callW P (d + 1)).fn t none [.scr ns] st Q X := by
  refine ⟨fPool, hf, rfl, rfl, ?_⟩
  simp only [fPool, initW, wpSs, wpS, wpE, wpEs, wpI]
  refine ⟨by decide, _, rfl, ?_⟩
  refine ⟨_, rfl, (by intro h; cases h), len_w (ws := ns.map .int) rfl ⟨by omega, by rw [List.length_map]; omega, ?_⟩⟩
  rw [List.length_map]
  refine for_inv (rangeW 0 (ns.length : Nat)) (fun i env s => ∃ z a b y, env = [.scr ns, z, .int a, .int b, y] ∧ s = st ∧ 0 ≤ a) ?_ ?_ ?_
  · rintro i x env s K hx ⟨z, a, b, y, rfl, rfl, h0⟩ hK
    refine ⟨trivial, ?_⟩
    obtain ⟨hi, rfl⟩ := rangeW_get _ _ _ hx
    have hi : i < ns.length := by omega
    refine ⟨_, rfl, ?_⟩
    have hx : (ns.map W.int)[i]? = some (.int ns[i]) := by rw [List.getElem?_map, List.getElem?_eq_getElem hi]; rfl
    have e0 : (0 : Int) + (i : Nat) = (i : Nat) := by omega
    refine ⟨_, rfl, (by intro h; cases h), ?_⟩
    refine ⟨_, rfl, (by intro h; cases h), ?_⟩
    rw [e0]
    refine sub_w (ws := ns.map .int) rfl hx ?_
    refine ⟨_, rfl, (by intro h; cases h), ?_⟩
    refine ⟨_, rfl, (by intro h; cases h), sub_w (ws := ns.map .int) rfl hx ?_⟩
    -- the cell is not negative
    have hc : (0 : Int) ≤ if -1 - ns[i] > ns[i] then -1 - ns[i] else ns[i] := by split <;> omega
    refine ⟨by simp, ?_⟩
    generalize (if -1 - ns[i] > ns[i] then -1 - ns[i] else ns[i]) = cell at hc ⊢
    refine ⟨_, rfl, (by intro h; cases h), ?_⟩
    refine ⟨.inl (.inr ⟨by decide, by decide⟩), ?_⟩
    refine ⟨_, rfl, (by intro h; cases h), by decide, by decide, by simp, ?_⟩
    refine ⟨_, rfl, (by intro h; cases h), ⟨by decide, by decide, by decide⟩, _, rfl, ?_⟩
    by_cases h12 : (10 : Int) ^ (12 : Int).toNat ≤ cell
    · rw [if_pos (by simpa using h12)]
      refine ⟨_, rfl, (by intro h; cases h), ⟨by decide, by decide, by decide⟩, ?_⟩
      refine ⟨_, rfl, ?_⟩
      by_cases h60 : a < (10 : Int) ^ (60 : Int).toNat
      · rw [if_pos (by simpa using h60)]
        refine ⟨_, rfl, (by intro h; cases h), ⟨by decide, by decide, by decide⟩, ?_⟩
        refine ⟨.inr ?_, ?_⟩
        · have h1 : a < 2 ^ 200 := Int.lt_of_lt_of_le h60 (by decide)
          have h2 := log2_lt h0 h1
          have h3 : ((10 : Int) ^ (60 : Int).toNat).natAbs.log2 < 300 := by decide
          show _ < _
          omega
        refine ⟨_, rfl, (by intro h; cases h), ⟨by decide, by decide, by decide⟩, by decide, by simp, hK _ _ ?_⟩
        refine ⟨_, _, _, _, rfl, rfl, ?_⟩
        have h4 := Int.emod_nonneg cell (show (10 : Int) ^ (60 : Int).toNat ≠ 0 by decide)
        have h5 : (0 : Int) ≤ a * 10 ^ (60 : Int).toNat := Int.mul_nonneg h0 (by decide)
        omega
      · rw [if_neg (by simpa using h60)]
        exact ⟨_, rfl, (by intro h; cases h), by simp, hK _ _ ⟨_, _, _, _, rfl, rfl, h0⟩⟩
    · rw [if_neg (by simpa using h12)]
      exact ⟨_, rfl, ⟨_, rfl, (by intro h; cases h), by simp, hK _ _ ⟨_, _, _, _, rfl, rfl, h0⟩⟩⟩
  · rintro env s ⟨z, a, b, y, rfl, rfl, h0⟩
    refine ⟨trivial, ?_⟩
    refine ⟨_, rfl, (by intro h; cases h), ?_⟩
    refine ⟨_, rfl, (by intro h; cases h), ?_⟩
    exact ⟨show 3 ≤ sizeLine by decide, .inl (q a b)⟩
  · exact ⟨_, 0, 7, _, rfl, rfl, by decide⟩
end Ev

set_option maxRecDepth 100000
set_option maxHeartbeats 4000000
/-! Wp: one lemma for each step of a promise; a stepper. -/
namespace Ev
open PySem L2
section
variable {C : CallSem} {P : Prog} {cl : Ex} {env : Env} {st : Store} {Q : Post} {X : XPost} {nx bk ct : Env → Store → Prop} {rt : Post} {ex : Nat → W → Env → Store → Prop}
theorem wp_var {i : Nat} {w : W} (h : env[i]? = some w) (u : w ≠ .undef) (q : Q w st) : wpE C P cl (.var i) env st Q X := by
  simp only [wpE]; exact ⟨w, h, u, q⟩
theorem wp_int {i : Int} (q : Q (.int i) st) : wpE C P cl (.int i) env st Q X := by simp only [wpE]; exact q
theorem wp_bl {b : Bool} (q : Q (.bl b) st) : wpE C P cl (.bl b) env st Q X := by simp only [wpE]; exact q
theorem wp_non (q : Q .non st) : wpE C P cl .non env st Q X := by simp only [wpE]; exact q
theorem wp_str {x : Str} (q : Q (.str x) st) : wpE C P cl (.str x) env st Q X := by simp only [wpE]; exact q
theorem wp_gfn {g : Nat} (q : Q (.fn g) st) : wpE C P cl (.gfn g) env st Q X := by simp only [wpE]; exact q
theorem wp_gcon {k : Nat} {c : Str × W} (h : P.cons[k]? = some c) (q : Q c.2 st) : wpE C P cl (.gcon k) env st Q X := by simp only [wpE]; exact ⟨c, h, q⟩
theorem wp_tup {es : List E} (q : wpEs C P cl es env st (fun ws st' => ws.length ≤ sizeLine ∧ ∀ us, us = ws.map ro → Q (.tup us) st') X) : wpE C P cl (.tup es) env st Q X := by
  simp only [wpE]
  have e : (fun (ws : List W) (st' : Store) => ws.length ≤ sizeLine ∧ ∀ us, us = ws.map ro → Q (.tup us) st') = fun ws st' => ws.length ≤ sizeLine ∧ Q (.tup (ws.map ro)) st' := by
    funext ws st'; simp
  rwa [e] at q
theorem wp_lst {es : List E} (q : wpEs C P cl es env st (fun ws st' => ws.length ≤ sizeLine ∧ ∀ us, us = ws.map ro → Q (.tmp us) st') X) : wpE C P cl (.lst es) env st Q X := by
  simp only [wpE]
  have e : (fun (ws : List W) (st' : Store) => ws.length ≤ sizeLine ∧ ∀ us, us = ws.map ro → Q (.tmp us) st') = fun ws st' => ws.length ≤ sizeLine ∧ Q (.tmp (ws.map ro)) st' := by
    funext ws st'; simp
  rwa [e] at q
def allocP (Q : Post) (w : W) (st' : Store) : Prop := match w with
  | .tmp ws => Q (.loc st'.length) (st' ++ [.lst ws])
  | _ => False
theorem wp_alloc {e : E} (q : wpE C P cl e env st (allocP Q) X) : wpE C P cl (.alloc e) env st Q X := by simp only [wpE]; exact q
theorem alloc_tmp {ws : List W} (q : ∀ n st', n = st.length → st' = st ++ [.lst ws] → Q (.loc n) st') : allocP Q (.tmp ws) st := q _ _ rfl rfl
theorem wp_bin {op : Operator} {a b : E} (q : wpE C P cl a env st (fun x st1 => wpE C P cl b env st1 (fun y st2 => binW st2 op x y fun w => Q w st2) X) X) : wpE C P cl (.bin op a b) env st Q X := by simp only [wpE]; exact q
def negP (Q : Post) (w : W) (st' : Store) : Prop := match w with
  | .int i => Q (.int (-i)) st'
  | _ => False
theorem wp_neg {e : E} (q : wpE C P cl e env st (negP Q) X) : wpE C P cl (.neg e) env st Q X := by simp only [wpE]; exact q
theorem neg_int {i : Int} (q : Q (.int (-i)) st) : negP Q (.int i) st := q
theorem wp_not {a : E} (q : wpE C P cl a env st (fun x st1 => ∃ b, truW st1 x = some b ∧ Q (.bl (!b)) st1) X) : wpE C P cl (.not a) env st Q X := by simp only [wpE]; exact q
theorem wp_band {es : List E} (q : wpAnd C P cl es env st Q X) : wpE C P cl (.band es) env st Q X := by simp only [wpE]; exact q
theorem wp_bor {es : List E} (q : wpOr C P cl es env st Q X) : wpE C P cl (.bor es) env st Q X := by simp only [wpE]; exact q
theorem wp_and1 {e : E} (q : wpE C P cl e env st Q X) : wpAnd C P cl [e] env st Q X := by simp only [wpAnd]; exact q
theorem wp_and2 {e e2 : E} {es : List E} (q : wpE C P cl e env st (fun x st1 => ∃ b, x = .bl b ∧ if b = true then wpAnd C P cl (e2 :: es) env st1 Q X else Q (.bl false) st1) X) : wpAnd C P cl (e :: e2 :: es) env st Q X := by rw [wpAnd]; exact q
theorem wp_or1 {e : E} (q : wpE C P cl e env st Q X) : wpOr C P cl [e] env st Q X := by simp only [wpOr]; exact q
theorem wp_or2 {e e2 : E} {es : List E} (q : wpE C P cl e env st (fun x st1 => ∃ b, x = .bl b ∧ if b = true then Q (.bl true) st1 else wpOr C P cl (e2 :: es) env st1 Q X) X) : wpOr C P cl (e :: e2 :: es) env st Q X := by rw [wpOr]; exact q
/-- a truth that parts the ways -/
theorem tru_bl {b : Bool} {K : Bool → Prop} (q : K b) : ∃ k, truW st (.bl b) = some k ∧ K k := ⟨b, rfl, q⟩
theorem truK_of {w : W} {b : Bool} {K : Bool → Prop} (h : truW st w = some b) (q : K b) : ∃ k, truW st w = some k ∧ K k := ⟨b, h, q⟩
theorem bl_of {b : Bool} {K : Bool → Prop} (q : K b) : ∃ k, W.bl b = .bl k ∧ K k := ⟨b, rfl, q⟩
theorem br {b : Bool} {A B : Prop} (ha : b = true → A) (hb : b = false → B) : if b = true then A else B := by
  cases b with
  | true => rw [if_pos rfl]; exact ha rfl
  | false => rw [if_neg (by simp)]; exact hb rfl
theorem br_t {b : Bool} {A B : Prop} (h : b = true) (ha : A) : if b = true then A else B := by rw [if_pos h]; exact ha
theorem br_f {b : Bool} {A B : Prop} (h : b = false) (hb : B) : if b = true then A else B := by rw [if_neg (by rw [h]; simp)]; exact hb
theorem wp_cmp {op : CmpOp} {a b : E} (q : wpE C P cl a env st (fun x st1 => wpE C P cl b env st1 (fun y st2 => cmpW st2 op x y fun c => Q (.bl c) st2) X) X) : wpE C P cl (.cmp op a b) env st Q X := by simp only [wpE]; exact q
theorem wp_cmp2 {o1 o2 : CmpOp} {a b c : E} (q : wpE C P cl a env st (fun x st1 => wpE C P cl b env st1 (fun y st2 => cmpW st2 o1 x y fun k => if k = true then wpE C P cl c env st2 (fun z st3 => cmpW st3 o2 y z fun k' => Q (.bl k') st3) X else Q (.bl false) st2) X) X) : wpE C P cl (.cmp2 o1 o2 a b c) env st Q X := by
  simp only [wpE]
  exact q
theorem wp_ife {c a b : E} (q : wpE C P cl c env st (fun x st1 => ∃ k, truW st1 x = some k ∧ if k = true then wpE C P cl a env st1 Q X else wpE C P cl b env st1 Q X) X) : wpE C P cl (.ife c a b) env st Q X := by simp only [wpE]; exact q
theorem wp_call {g : Nat} {es : List E} (q : wpEs C P cl es env st (fun ws st' => ∀ us, us = ws.map ro → C.fn g none us st' Q X) X) : wpE C P cl (.call g es) env st Q X := by
  simp only [wpE]
  have e : (fun (ws : List W) (st' : Store) => ∀ us, us = ws.map ro → C.fn g none us st' Q X) = fun ws st' => C.fn g none (ws.map ro) st' Q X := by funext ws st'; simp
  rwa [e] at q
theorem wp_callv {i g : Nat} {es : List E} (h : env[i]? = some (.fn g)) (hl : g < P.fns.length) (q : wpEs C P cl es env st (fun ws st' => ∀ us, us = ws.map ro → C.fn g none us st' Q X) X) : wpE C P cl (.callv i es) env st Q X := by
  simp only [wpE]
  have e : (fun (ws : List W) (st' : Store) => ∀ us, us = ws.map ro → C.fn g none us st' Q X) = fun ws st' => C.fn g none (ws.map ro) st' Q X := by funext ws st'; simp
  rw [e] at q
  exact ⟨g, h, hl, q⟩
theorem wp_callc {i : Nat} {c : Clo} (h : cl.cl = some c) (q : C.clo c st Q X) : wpE C P cl (.callc i) env st Q X := by simp only [wpE]; exact ⟨c, h, q⟩
theorem wp_callL {g l : Nat} {es : List E} (q : wpEs C P cl es env st (fun ws st' => ∀ us, us = ws.map ro → C.fn g (some ⟨env, l⟩) us st' Q X) X) : wpE C P cl (.callC g (.lam l) es) env st Q X := by
  simp only [wpE]
  have e : (fun (ws : List W) (st' : Store) => ∀ us, us = ws.map ro → C.fn g (some ⟨env, l⟩) us st' Q X) = fun ws st' => C.fn g (some ⟨env, l⟩) (ws.map ro) st' Q X := by funext ws st'; simp
  rw [e] at q
  exact ⟨_, rfl, q⟩
theorem wp_callP {g i : Nat} {c : Clo} {es : List E} (h : cl.cl = some c) (q : wpEs C P cl es env st (fun ws st' => ∀ us, us = ws.map ro → C.fn g (some c) us st' Q X) X) : wpE C P cl (.callC g (.pass i) es) env st Q X := by
  simp only [wpE]
  have e : (fun (ws : List W) (st' : Store) => ∀ us, us = ws.map ro → C.fn g (some c) us st' Q X) = fun ws st' => C.fn g (some c) (ws.map ro) st' Q X := by funext ws st'; simp
  rw [e] at q
  exact ⟨_, h, q⟩
theorem wp_bi {f : Bi} {es : List E} (q : wpEs C P cl es env st (fun ws st' => biW st' f ws Q) X) : wpE C P cl (.bi f es) env st Q X := by simp only [wpE]; exact q
theorem wp_isi {e : E} {t : Ty} (q : wpE C P cl e env st (fun x st1 => isiW st1 x t fun b => Q (.bl b) st1) X) : wpE C P cl (.isi e t) env st Q X := by simp only [wpE]; exact q
theorem wp_meth {m : Me} {o : E} {es : List E} (q : wpE C P cl o env st (fun x st1 => meTy st1 m x ∧ wpEs C P cl es env st1 (fun ws st' => meW st' m x ws Q) X) X) : wpE C P cl (.meth m o es) env st Q X := by simp only [wpE]; exact q
theorem wp_sub {a b : E} (q : wpE C P cl a env st (fun x st1 => wpE C P cl b env st1 (fun y st2 => subW st2 x y fun w => Q w st2) X) X) : wpE C P cl (.sub a b) env st Q X := by simp only [wpE]; exact q
theorem wp_slice {a : E} {lo hi : Option E} (q : wpE C P cl a env st (fun x st1 => wpO C P cl lo env st1 (fun l st2 => wpO C P cl hi env st2 (fun h st3 => sliceW st3 x l h fun w => Q w st3) X) X) X) : wpE C P cl (.slice a lo hi) env st Q X := by simp only [wpE]; exact q
theorem wpO_none {K : Option Int → Store → Prop} (q : K none st) : wpO C P cl none env st K X := by simp only [wpO]; exact q
def optP (K : Option Int → Store → Prop) (w : W) (st' : Store) : Prop := match w with
  | .int i => K (some i) st'
  | _ => False
theorem wpO_some {e : E} {K : Option Int → Store → Prop} (q : wpE C P cl e env st (optP K) X) : wpO C P cl (some e) env st K X := by simp only [wpO]; exact q
theorem opt_int {K : Option Int → Store → Prop} {i : Int} (q : K (some i) st) : optP K (.int i) st := q
theorem wp_rev {a : E} (q : wpE C P cl a env st (fun x st1 => revW st1 x fun w => Q w st1) X) : wpE C P cl (.rev a) env st Q X := by simp only [wpE]; exact q
theorem rev_l {x : W} {ws : List W} {K : W → Prop} (h : lstW st x = some ws) (q : K (.tmp ws.reverse)) : revW st x K := by
  cases x with
  | tup us => cases h
  | ktup us => cases h
  | _ => exact ⟨ws, h, q⟩
theorem rev_t {ws : List W} {K : W → Prop} (q : K (.tup ws.reverse)) : revW st (.tup ws) K := q
/-- targets of any sort -/
theorem wpS_asgX {ts : List Tx} {e : E} (q : wpE C P cl e env st (fun v st1 => isScr v = false ∧ ∃ vs, seqW st1 v = some vs ∧ vs.length = ts.length ∧ wpX C P cl ts vs env st1 nx ex) fun c w st1 => ex c w env st1) : wpS C P cl (.asgX ts e) env st ⟨nx, rt, bk, ct, ex⟩ := by simp only [wpS]; exact q
theorem wpX_nil (q : nx env st) : wpX C P cl [] [] env st nx ex := by simp only [wpX]; exact q
theorem wpX_nm {i : Nat} {ts : List Tx} {w : W} {ws : List W} (h : i < env.length) (q : wpX C P cl ts ws (env.set i w) st nx ex) : wpX C P cl (.nm i :: ts) (w :: ws) env st nx ex := by simp only [wpX]; exact ⟨h, q⟩
theorem wpX_sub {o ix : E} {ts : List Tx} {w : W} {ws : List W} (q : wpE C P cl o env st (fun x st2 => wpE C P cl ix env st2 (fun y st3 => setW st3 x y w fun st4 => wpX C P cl ts ws env st4 nx ex) fun c w st1 => ex c w env st1) fun c w st1 => ex c w env st1) : wpX C P cl (.sub o ix :: ts) (w :: ws) env st nx ex := by simp only [wpX]; exact q
theorem wp_dnewT (q : ∀ n st', n = st.length → st' = st ++ [.dT []] → Q (.loc n) st') : wpE C P cl .dnewT env st Q X := by simp only [wpE]; exact q _ _ rfl rfl
theorem wp_dnewK (q : ∀ n st', n = st.length → st' = st ++ [.dK []] → Q (.loc n) st') : wpE C P cl .dnewK env st Q X := by simp only [wpE]; exact q _ _ rfl rfl
theorem wpEs_nil {K : List W → Store → Prop} (q : K [] st) : wpEs C P cl [] env st K X := by simp only [wpEs]; exact q
theorem wpEs_cons {e : E} {es : List E} {K : List W → Store → Prop} (q : wpE C P cl e env st (fun w st1 => wpEs C P cl es env st1 (fun ws st2 => K (w :: ws) st2) X) X) : wpEs C P cl (e :: es) env st K X := by simp only [wpEs]; exact q
theorem wpTs_nil {K : Bool → Store → Prop} (q : K true st) : wpTs C P cl [] env st K := by simp only [wpTs]; exact q
theorem wpTs_cons {e : E} {es : List E} {K : Bool → Store → Prop} (q : wpE C P cl e env st (fun x st1 => ∃ b, truW st1 x = some b ∧ if b = true then wpTs C P cl es env st1 K else K false st1) noX) : wpTs C P cl (e :: es) env st K := by simp only [wpTs]; exact q
theorem wpTs_one {e : E} {K : Bool → Store → Prop} (q : wpE C P cl e env st (fun x st1 => ∃ b, truW st1 x = some b ∧ K b st1) noX) : wpTs C P cl [e] env st K := by
  simp only [wpTs]
  have e : ∀ (x : W) (st1 : Store), (∃ b, truW st1 x = some b ∧ K b st1) = ∃ b, truW st1 x = some b ∧ if b = true then K true st1 else K false st1 := by
    intro x st1
    congr 1
    funext b
    cases b <;> simp
  simp only [e] at q
  exact q
abbrev IPost := List W → (Store → Prop) → Store → Prop
theorem wpI_seq {e : E} {K : IPost} (q : wpE C P cl e env st (fun x st1 => ∃ ws, seqW st1 x = some ws ∧ isScr x = false ∧ K ws (still x ws) st1) X) : wpI C P cl (.seq e) env st K X := by
  simp only [wpI]
  have e : ∀ (x : W), (isScr x = false) = ∀ ns, x ≠ .scr ns := by intro x; cases x <;> simp [isScr]
  simp only [e] at q
  exact q
def rng1P (K : IPost) (w : W) (st1 : Store) : Prop := match w with
  | .int j => -(2 ^ 62) ≤ j ∧ j < 2 ^ 62 ∧ K (rangeW 0 j) (fun _ => True) st1
  | _ => False
theorem wpI_rng1 {a : E} {K : IPost} (q : wpE C P cl a env st (rng1P K) X) : wpI C P cl (.rng1 a) env st K X := by simp only [wpI]; exact q
def rng2P (K : IPost) (x y : W) (st2 : Store) : Prop := match x, y with
  | .int i, .int j => -(2 ^ 62) ≤ i ∧ i < 2 ^ 62 ∧ -(2 ^ 62) ≤ j ∧ j < 2 ^ 62 ∧ K (rangeW i j) (fun _ => True) st2
  | _, _ => False
theorem wpI_rng2 {a b : E} {K : IPost} (q : wpE C P cl a env st (fun x st1 => wpE C P cl b env st1 (rng2P K x) X) X) : wpI C P cl (.rng2 a b) env st K X := by simp only [wpI]; exact q
theorem rng1_int {j : Int} {K : IPost} (h1 : -(2 ^ 62) ≤ j) (h2 : j < 2 ^ 62) (q : K (rangeW 0 j) (fun _ => True) st) : rng1P K (.int j) st := ⟨h1, h2, q⟩
theorem rng2_int {i j : Int} {K : IPost} (h1 : -(2 ^ 62) ≤ i) (h2 : i < 2 ^ 62) (h3 : -(2 ^ 62) ≤ j) (h4 : j < 2 ^ 62) (q : K (rangeW i j) (fun _ => True) st) : rng2P K (.int i) (.int j) st := ⟨h1, h2, h3, h4, q⟩
theorem wpI_enum {e : E} {K : IPost} (q : wpE C P cl e env st (fun x st1 => ∃ ws, seqW st1 x = some ws ∧ isScr x = false ∧ K (enumW ws) (still x ws) st1) X) : wpI C P cl (.enum e) env st K X := by
  simp only [wpI]
  have e : ∀ (x : W), (isScr x = false) = ∀ ns, x ≠ .scr ns := by intro x; cases x <;> simp [isScr]
  simp only [e] at q
  exact q
theorem it_of {x : W} {ws : List W} {K : List W → Prop} (h : seqW st x = some ws) (hs : isScr x = false) (q : K ws) : ∃ ws, seqW st x = some ws ∧ isScr x = false ∧ K ws := ⟨ws, h, hs, q⟩
/-! ### statements -/
theorem wpSs_nil (q : nx env st) : wpSs C P cl [] env st ⟨nx, rt, bk, ct, ex⟩ := by simp only [wpSs]; exact q
theorem wpSs_cons {s : S} {ss : List S} (q : wpS C P cl s env st ⟨fun env' st' => wpSs C P cl ss env' st' ⟨nx, rt, bk, ct, ex⟩, rt, bk, ct, ex⟩) : wpSs C P cl (s :: ss) env st ⟨nx, rt, bk, ct, ex⟩ := by simp only [wpSs]; exact q
theorem wpS_asg {i : Nat} {e : E} (q : wpE C P cl e env st (fun w st1 => i < env.length ∧ ∀ env1, env1 = env.set i (ro w) → nx env1 st1) fun c w st1 => ex c w env st1) : wpS C P cl (.asg i e) env st ⟨nx, rt, bk, ct, ex⟩ := by
  simp only [wpS]
  have e : (fun (w : W) (st1 : Store) => i < env.length ∧ ∀ env1, env1 = env.set i (ro w) → nx env1 st1) = fun w st1 => i < env.length ∧ nx (env.set i (ro w)) st1 := by funext w st1; simp
  rwa [e] at q
theorem wpS_asgT {tg : Tg} {e : E} (q : wpE C P cl e env st (fun w st1 => ∃ env1, bindT st1 tg w env = some env1 ∧ nx env1 st1) fun c w st1 => ex c w env st1) : wpS C P cl (.asgT tg e) env st ⟨nx, rt, bk, ct, ex⟩ := by simp only [wpS]; exact q
theorem wpS_par {is : List Nat} {es : List E} (q : wpEs C P cl es env st (fun ws st1 => ∃ env1, bindTs st1 (is.map .nm) ws env = some env1 ∧ nx env1 st1) fun c w st1 => ex c w env st1) : wpS C P cl (.par is es) env st ⟨nx, rt, bk, ct, ex⟩ := by simp only [wpS]; exact q
theorem wpS_asgS {o ix e : E} (q : wpE C P cl e env st (fun v st1 => wpE C P cl o env st1 (fun x st2 => wpE C P cl ix env st2 (fun y st3 => setW st3 x y v fun st4 => nx env st4)
      fun c w st1 => ex c w env st1) fun c w st1 => ex c w env st1) fun c w st1 => ex c w env st1) : wpS C P cl (.asgS o ix e) env st ⟨nx, rt, bk, ct, ex⟩ := by simp only [wpS]; exact q
theorem wpS_ex {e : E} (q : wpE C P cl e env st (fun _ st1 => nx env st1) fun c w st1 => ex c w env st1) : wpS C P cl (.ex e) env st ⟨nx, rt, bk, ct, ex⟩ := by simp only [wpS]; exact q
theorem wpS_ite {c : E} {a b : List S} (q : wpE C P cl c env st (fun x st1 => ∃ k, truW st1 x = some k ∧ if k = true then wpSs C P cl a env st1 ⟨nx, rt, bk, ct, ex⟩ else wpSs C P cl b env st1 ⟨nx, rt, bk, ct, ex⟩) fun c w st1 => ex c w env st1) : wpS C P cl (.ite c a b) env st ⟨nx, rt, bk, ct, ex⟩ := by simp only [wpS]; exact q
theorem wpS_for {tg : Tg} {it : It} {body : List S} (q : wpI C P cl it env st (fun items guard st1 =>
      wpFor (fun x env2 st2 D2 => ∃ env3, bindT st2 tg x env2 = some env3 ∧ wpSs C P cl body env3 st2 D2) guard items env st1 ⟨nx, rt, bk, ct, ex⟩) fun c w st1 => ex c w env st1) : wpS C P cl (.for_ tg it body) env st ⟨nx, rt, bk, ct, ex⟩ := by simp only [wpS]; exact q
theorem wpS_ret {e : E} (q : wpE C P cl e env st rt fun c w st1 => ex c w env st1) : wpS C P cl (.ret e) env st ⟨nx, rt, bk, ct, ex⟩ := by simp only [wpS]; exact q
theorem wpS_retN (q : rt .non st) : wpS C P cl .retN env st ⟨nx, rt, bk, ct, ex⟩ := by simp only [wpS]; exact q
theorem wpS_brk (q : bk env st) : wpS C P cl .brk env st ⟨nx, rt, bk, ct, ex⟩ := by simp only [wpS]; exact q
theorem wpS_cont (q : ct env st) : wpS C P cl .cont env st ⟨nx, rt, bk, ct, ex⟩ := by simp only [wpS]; exact q
theorem wpS_pass (q : nx env st) : wpS C P cl .pass env st ⟨nx, rt, bk, ct, ex⟩ := by simp only [wpS]; exact q
theorem wpS_tryN {body : List S} (q : wpSs C P cl body env st ⟨nx, rt, bk, ct, fun _ _ _ _ => False⟩) : wpS C P cl (.tryN body) env st ⟨nx, rt, bk, ct, ex⟩ := by simp only [wpS]; exact q
theorem wpS_while {c : E} {body : List S} (I : Nat → Env → Store → Prop) {n : Nat} (h0 : I n env st) (q : ∀ n env st, I n env st →
      wpE C P cl c env st (fun x st1 => ∃ k, truW st1 x = some k ∧ if k = true then wpSs C P cl body env st1 ⟨fun env' st' => ∃ n', n' < n ∧ I n' env' st', rt, nx, fun env' st' => ∃ n', n' < n ∧ I n' env' st', ex⟩
        else nx env st1) fun c w st1 => ex c w env st1) : wpS C P cl (.while_ c body) env st ⟨nx, rt, bk, ct, ex⟩ := by
  simp only [wpS]
  exact ⟨I, ⟨n, h0⟩, q⟩
theorem bind_of {st1 : Store} {tg : Tg} {w : W} {env1 : Env} {K : Env → Prop} (h : bindT st1 tg w env = some env1) (q : K env1) : ∃ env1, bindT st1 tg w env = some env1 ∧ K env1 := ⟨env1, h, q⟩
theorem binds_of {st1 : Store} {tg : List Tg} {w : List W} {env1 : Env} {K : Env → Prop} (h : bindTs st1 tg w env = some env1) (q : K env1) : ∃ env1, bindTs st1 tg w env = some env1 ∧ K env1 := ⟨env1, h, q⟩
/-! ### operators -/
section
variable {i j : Int} {K : W → Prop} {B : Bool → Prop}
theorem add_ii (q : K (.int (i + j))) : binW st .Add (.int i) (.int j) K := q
theorem sub_ii (q : K (.int (i - j))) : binW st .Sub (.int i) (.int j) K := q
theorem mul_ii (h : CMulA i j) (q : K (.int (i * j))) : binW st .Mult (.int i) (.int j) K := ⟨h, q⟩
theorem div_ii (h : 0 < j) (h2 : j < 1073741824) (q : K (.int (i / j))) : binW st .FloorDiv (.int i) (.int j) K := ⟨.inl ⟨h, h2⟩, q⟩
theorem mod_ii (h : 0 < j) (q : K (.int (i % j))) : binW st .Mod (.int i) (.int j) K := ⟨h, q⟩
theorem add_ss {x y : Str} (h : x.length + y.length ≤ sizeLine) (q : K (.str (x ++ y))) : binW st .Add (.str x) (.str y) K := ⟨h, q⟩
theorem add_tt {x y : List W} (h : x.length + y.length ≤ sizeLine) (q : K (.tup (x ++ y))) : binW st .Add (.tup x) (.tup y) K := ⟨h, q⟩
theorem add_ll {a b : W} {x y : List W} (ha : lstW st a = some x) (hb : lstW st b = some y) (h : x.length + y.length ≤ sizeLine) (q : K (.tmp (x ++ y))) : binW st .Add a b K := by
  cases a <;> cases b <;> first | exact ⟨x, y, ha, hb, h, q⟩ | (simp [lstW] at ha; done) | (simp [lstW] at hb; done)
theorem eq_ii (q : B (decide (i = j))) : cmpW st .Eq (.int i) (.int j) B := q
theorem ne_ii (q : B (!decide (i = j))) : cmpW st .NotEq (.int i) (.int j) B := q
theorem lt_ii (q : B (decide (i < j))) : cmpW st .Lt (.int i) (.int j) B := q
theorem le_ii (q : B (decide (i ≤ j))) : cmpW st .LtE (.int i) (.int j) B := q
theorem gt_ii (q : B (decide (j < i))) : cmpW st .Gt (.int i) (.int j) B := q
theorem ge_ii (q : B (decide (j ≤ i))) : cmpW st .GtE (.int i) (.int j) B := q
def isNon : W → Option Bool
  | .non => some true
  | .undef => none
  | _ => some false
theorem is_non {x : W} {b : Bool} (h : isNon x = some b) (q : B b) : cmpW st .Is x .non B := by
  cases x <;> first | (cases h; exact q) | cases h
theorem isnot_non {x : W} {b : Bool} (h : isNon x = some b) (q : B (!b)) : cmpW st .IsNot x .non B := by
  cases x <;> first | (cases h; exact q) | cases h
def isiF (st : Store) (x : W) (t : Ty) : Option Bool :=
  match x, t with
  | .non, _ => some false
  | .bl _, .tBool => some true
  | .bl _, .tInt => some true
  | .bl _, _ => some false
  | .int _, .tInt => some true
  | .int _, _ => some false
  | .str _, .tStr => some true
  | .str _, _ => some false
  | .tup _, .tTuple => some true
  | .tup _, _ => some false
  | .ktup _, .tTuple => some true
  | .ktup _, _ => some false
  | .lst _, .tList => some true
  | .lst _, _ => some false
  | .tmp _, .tList => some true
  | .tmp _, _ => some false
  | .loc n, t => (match st[n]? with
    | some (.lst _) => some (match t with
      | .tList => true
      | _ => false)
    | _ => none)
  | _, _ => none
theorem isi_of {x : W} {t : Ty} {b : Bool} (h : isiF st x t = some b) (q : B b) : isiW st x t B := by
  cases x with
  | loc n =>
    cases hs : st[n]? with
    | none => simp [isiF, hs] at h
    | some c =>
      cases c with
      | lst ws => cases t <;> (simp [isiF, hs] at h; simp [isiW, hs]; subst h; exact q)
      | dK kvs => simp [isiF, hs] at h
      | dT kvs => simp [isiF, hs] at h
  | _ => cases t <;> first | (cases h; exact q) | cases h
theorem sub_lit {x w : W} {ws : List W} {j : Nat} (h : seqW st x = some ws) (hj : ixN ws.length i = some j) (hw : ws[j]? = some w) (q : K w) : subW st x (.int i) K := by
  cases x with
  | loc n =>
    simp only [seqW] at h
    split at h
    · rename_i us hs
      cases h
      simp only [subW, hs]
      exact ⟨j, w, hj, hw, q⟩
    · cases h
  | tup us => exact ⟨ws, j, w, h, hj, hw, q⟩
  | ktup us => exact ⟨ws, j, w, h, hj, hw, q⟩
  | lst us => exact ⟨ws, j, w, h, hj, hw, q⟩
  | tmp us => exact ⟨ws, j, w, h, hj, hw, q⟩
  | scr us => exact ⟨ws, j, w, h, hj, hw, q⟩
  | _ => cases h
end
theorem int_i {i : Int} (q : Q (.int i) st) : biW st .int [.int i] Q := q
theorem max_ii {i j : Int} (q : Q (.int (max i j)) st) : biW st .max [.int i, .int j] Q := by
  have e : (if j > i then j else i) = max i j := by split <;> omega
  show Q (.int (if j > i then j else i)) st
  rw [e]; exact q
theorem min_ii {i j : Int} (q : Q (.int (min i j)) st) : biW st .min [.int i, .int j] Q := by
  have e : (if j < i then j else i) = min i j := by split <;> omega
  show Q (.int (if j < i then j else i)) st
  rw [e]; exact q
theorem tuple_w {w : W} {ws : List W} (h : seqW st w = some ws) (hk : match w with | .ktup _ => False | .scr _ => False | _ => True) (q : Q (.tup ws) st) : biW st .tuple [w] Q := by
  cases w with
  | ktup us => exact hk.elim
  | scr us => exact hk.elim
  | _ => exact ⟨ws, h, (by intro ns z; cases z), q⟩
theorem tuple_k {ws : List W} (q : Q (.ktup ws) st) : biW st .tuple [.ktup ws] Q := q
theorem list_w {w : W} {ws : List W} (h : seqW st w = some ws) (hk : isScr w = false) (q : Q (.tmp ws) st) : biW st .list [w] Q := by
  cases w with
  | scr us => cases hk
  | _ => exact ⟨ws, h, (by intro ns z; cases z), q⟩
/-! ### methods -/
theorem meTy_lst {n : Nat} {ws : List W} {m : Me} (h : st[n]? = some (.lst ws)) (hm : m = .append ∨ m = .extend ∨ m = .pop ∨ m = .popi) : meTy st m (.loc n) := by
  rcases hm with rfl | rfl | rfl | rfl <;> exact ⟨n, ws, rfl, h⟩
theorem append_w {n : Nat} {xs : List W} {w : W} (h : st[n]? = some (.lst xs)) (hl : xs.length < sizeLine) (q : Q .non (st.set n (.lst (xs ++ [ro w])))) : meW st .append (.loc n) [w] Q := by
  simp only [meW, h]; exact ⟨hl, q⟩
theorem extend_w {n : Nat} {xs ys : List W} {w : W} (h : st[n]? = some (.lst xs)) (hy : lstW st w = some ys) (hl : xs.length + ys.length ≤ sizeLine) (q : Q .non (st.set n (.lst (xs ++ ys)))) : meW st .extend (.loc n) [w] Q := by
  simp only [meW, h]; exact ⟨ys, hy, hl, q⟩
theorem pop_w {n : Nat} {xs : List W} {y : W} (h : st[n]? = some (.lst (xs ++ [y]))) (q : Q y (st.set n (.lst xs))) : meW st .pop (.loc n) [] Q := by
  simp only [meW, h]
  exact ⟨y, by simp, by simpa using q⟩
theorem set_w {n r : Nat} {xs : List W} {v : W} {K : Store → Prop} (h : st[n]? = some (.lst xs)) (hr : r < xs.length) (q : K (st.set n (.lst (xs.set r (ro v))))) : setW st (.loc n) (.int (r : Nat)) v K := by
  simp only [setW, h]; exact ⟨r, ixN_nat hr, q⟩
/-! ### a call's end -/
theorem ret_same {w : W} {K : Post} (q : K w st) : retW st.length st w K := .inl q
theorem ret_app {cs : List Cell} {w : W} {K : Post} (hw : okV st.length w = true) (hst : okSt st) (q : K w st) : retW st.length (st ++ cs) w K := by
  refine .inr (.inl ⟨hw, ?_, ?_⟩)
  · intro c hc
    rw [List.take_append_of_le_length (Nat.le_refl _), List.take_length] at hc
    exact hst c hc
  · rw [List.take_append_of_le_length (Nat.le_refl _), List.take_length]; exact q
theorem ret_new {cs : List Cell} {j : Nat} {ws : List W} {K : Post} (hj : st.length ≤ j) (hg : (st ++ cs)[j]? = some (.lst ws)) (hw : okVs st.length ws = true) (hst : okSt st) (q : K (.tmp ws) st) : retW st.length (st ++ cs) (.loc j) K := by
  refine .inr (.inr (.inl ⟨j, ws, rfl, hj, hg, hw, ?_, ?_⟩))
  · intro c hc
    rw [List.take_append_of_le_length (Nat.le_refl _), List.take_length] at hc
    exact hst c hc
  · rw [List.take_append_of_le_length (Nat.le_refl _), List.take_length]; exact q
end
theorem fn_in {P : Prog} {d g : Nat} {f : Fn} {co : Option Clo} {ws : List W} {st : Store} {Q : Post} {X : XPost} {env : Env} (hf : P.fns[g]? = some f) (hc : f.nc = co.isSome) (hn : f.np = ws.length) (he : env = initW f ws)
    (q : wpSs (callW P d) P ⟨co, none⟩ f.body env st ⟨fun _ st' => retW st.length st' .non Q, fun w st' => retW st.length st' w Q, fun _ _ => False, fun _ _ => False, fun c w _ st' => excW st.length st' w (X c)⟩) : (callW P (d + 1)).fn g co ws st Q X := by
  subst he
  exact ⟨f, hf, hc, hn, q⟩
theorem clo_in {P : Prog} {d : Nat} {c : Clo} {l : Lam} {st : Store} {Q : Post} {X : XPost} (hf : P.lams[c.l]? = some l) (q : wpE (callW P d) P X0 l.body c.env st Q X) : (callW P (d + 1)).clo c st Q X := ⟨l, hf, q⟩
end Ev

set_option maxRecDepth 100000
set_option maxHeartbeats 4000000
/-! KD: numbers, lots, rows as values; loops and comprehensions over lists of things. -/
namespace Ev
open PySem L2
abbrev nW (k : Nat) : W := .int (k : Nat)
abbrev lotW (l : List Nat) : W := .tup (l.map nW)
abbrev rowW (r : List (List Nat)) : W := .tup (r.map lotW)
theorem toDs_map {α : Type} (f : α → W) : ∀ xs : List α, toDs (xs.map f) = xs.map (fun x => toD (f x))
  | [] => rfl
  | x :: xs => by simp only [List.map_cons, toDs, toDs_map f xs]
theorem isDs_map {α : Type} (f : α → W) (h : ∀ x, isD (f x) = true) : ∀ xs : List α, isDs (xs.map f) = true
  | [] => rfl
  | x :: xs => by simp only [List.map_cons, isDs, isDs_map f h xs, h x, Bool.and_self]
theorem canLay_map {α : Type} (g : α → PyData) (h : ∀ x, (g x).canLay0 = true) : ∀ xs : List α, PyData.canLayAll0 (xs.map g) = true
  | [] => rfl
  | x :: xs => by simp only [List.map_cons, PyData.canLayAll0, canLay_map g h xs, h x, Bool.and_self]
theorem depth_map {α : Type} (g : α → PyData) {n : Nat} (h : ∀ x, (g x).depth ≤ n) : ∀ xs : List α, PyData.depthAll (xs.map g) ≤ n
  | [] => Nat.zero_le _
  | x :: xs => by
    simp only [List.map_cons, PyData.depthAll]
    exact Nat.max_le.mpr ⟨h x, depth_map g h xs⟩
theorem eqvAll_map {α : Type} [DecidableEq α] (g : α → PyData) (h : ∀ x y, PyData.eqv (g x) (g y) = decide (x = y)) : ∀ xs ys : List α, PyData.eqvAll (xs.map g) (ys.map g) = decide (xs = ys)
  | [], [] => by simp [PyData.eqvAll]
  | x :: xs, y :: ys => by
    simp only [List.map_cons, PyData.eqvAll, h, eqvAll_map g h xs ys, List.cons.injEq, Bool.decide_and]
  | [], _ :: _ => by simp [PyData.eqvAll]
  | _ :: _, [] => by simp [PyData.eqvAll]
theorem eqv_nat (x y : Nat) : PyData.eqv (toD (nW x)) (toD (nW y)) = decide (x = y) := by
  show ((x : Int) == (y : Int)) = decide (x = y)
  by_cases h : x = y
  · subst h; simp
  · rw [decide_eq_false h]
    have h2 : ¬ (x : Int) = (y : Int) := by omega
    simpa using h2
theorem lot_toD (l : List Nat) : toD (lotW l) = .tuple (l.map fun k => toD (nW k)) := by
  show PyData.tuple (toDs (l.map nW)) = _
  rw [toDs_map]
theorem lot_isD (l : List Nat) : isD (lotW l) = true := isDs_map nW (fun _ => rfl) l
theorem lot_lay (l : List Nat) : (toD (lotW l)).canLay0 = true := by
  rw [lot_toD]
  simp only [PyData.canLay0]
  exact canLay_map (fun k => toD (nW k)) (fun _ => rfl) l
theorem lot_depth (l : List Nat) : (toD (lotW l)).depth ≤ 1 := by
  rw [lot_toD]
  simp only [PyData.depth]
  have := depth_map (fun k => toD (nW k)) (n := 0) (fun _ => Nat.le_refl 0) l
  omega
theorem shaped_of {d : PyData} (h : d.canLay0 = true) (h2 : d.depth ≤ 64) : SeqAt.shaped d = true := by
  unfold SeqAt.shaped
  rw [h, decide_eq_true h2]
  rfl
theorem lot_shaped (l : List Nat) : SeqAt.shaped (toD (lotW l)) = true := shaped_of (lot_lay l) (Nat.le_trans (lot_depth l) (by decide))
theorem eqv_lot (l m : List Nat) : PyData.eqv (toD (lotW l)) (toD (lotW m)) = decide (l = m) := by
  rw [lot_toD, lot_toD]
  simp only [PyData.eqv]
  exact eqvAll_map _ eqv_nat l m
section
variable {st : Store} {B : Bool → Prop} {K : W → Prop} {Q : Post}
theorem datW_of {x : W} (h : isD x = true) : datW st x = some (toD x) := by
  cases x <;> first | (simp only [datW, h]; rfl) | (simp [isD] at h; done)
theorem eqW_d {x y : W} (hx : isD x = true) (hy : isD y = true) (sx : SeqAt.shaped (toD x) = true) (sy : SeqAt.shaped (toD y) = true) (q : B (PyData.eqv (toD x) (toD y))) : eqW st x y B :=
  .inl ⟨_, _, datW_of hx, datW_of hy, sx, sy, q⟩
theorem eq_lot {l m : List Nat} (q : B (decide (l = m))) : cmpW st .Eq (lotW l) (lotW m) B := by
  show eqW st (lotW l) (lotW m) B
  exact eqW_d (lot_isD _) (lot_isD _) (lot_shaped _) (lot_shaped _) (by rw [eqv_lot]; exact q)
theorem ne_lot {l m : List Nat} (q : B (!decide (l = m))) : cmpW st .NotEq (lotW l) (lotW m) B := by
  show eqW st (lotW l) (lotW m) fun b => B (!b)
  exact eqW_d (lot_isD _) (lot_isD _) (lot_shaped _) (lot_shaped _) (by rw [eqv_lot]; exact q)
theorem list_lot_shaped (l : List Nat) : SeqAt.shaped (.list (toDs (l.map nW))) = true := by
  rw [toDs_map]
  refine shaped_of ?_ ?_
  · simp only [PyData.canLay0]; exact canLay_map _ (fun _ => rfl) l
  · simp only [PyData.depth]
    have := depth_map (fun k => toD (nW k)) (n := 0) (fun _ => Nat.le_refl 0) l
    omega
theorem in_any (l : List Nat) (k : Nat) : ((toDs (l.map nW)).any fun z => PyData.eqv z (toD (nW k))) = decide (k ∈ l) := by
  rw [toDs_map]
  induction l with
  | nil => simp
  | cons x l ih =>
    simp only [List.map_cons, List.any_cons, ih, eqv_nat, List.mem_cons]
    by_cases h : x = k
    · subst h; simp
    · have h2 : ¬ k = x := fun e => h e.symm
      simp [h, h2]
theorem in_lot {k : Nat} {l : List Nat} (q : B (decide (k ∈ l))) : cmpW st .In (nW k) (lotW l) B := by
  show inW st (nW k) (.tup (l.map nW)) B
  exact ⟨rfl, isDs_map nW (fun _ => rfl) l, shaped_of rfl (show 0 ≤ 64 from Nat.zero_le _), list_lot_shaped l, by rw [in_any]; exact q⟩
theorem notin_lot {k : Nat} {l : List Nat} (q : B (!decide (k ∈ l))) : cmpW st .NotIn (nW k) (lotW l) B := by
  show inW st (nW k) (.tup (l.map nW)) fun b => B (!b)
  exact ⟨rfl, isDs_map nW (fun _ => rfl) l, shaped_of rfl (show 0 ≤ 64 from Nat.zero_le _), list_lot_shaped l, by rw [in_any]; exact q⟩
theorem eqW_nil {x : W} {xs : List W} (h : lstW st x = some xs) (q : B xs.isEmpty) : eqW st x (.tmp []) B := by
  cases xs with
  | nil =>
    refine .inl ⟨.list [], .list [], ?_, rfl, by decide, by decide, q⟩
    cases x with
    | lst us => cases h; rfl
    | tmp us => cases h; rfl
    | loc n =>
      simp only [lstW] at h
      split at h
      · rename_i us hs
        cases h
        simp only [datW, hs, isDs, toDs, if_true]
      · cases h
    | _ => cases h
  | cons w ws => exact .inr ⟨_, [], h, rfl, by simp, q⟩
theorem eq_nil {x : W} {xs : List W} (h : lstW st x = some xs) (q : B xs.isEmpty) : cmpW st .Eq x (.tmp []) B := by
  cases x <;> first | exact eqW_nil h q | cases h
theorem ne_nil {x : W} {xs : List W} (h : lstW st x = some xs) (q : B (!xs.isEmpty)) : cmpW st .NotEq x (.tmp []) B := by
  cases x <;> first | exact eqW_nil (B := fun b => B (!b)) h q | cases h
theorem sub_map {α : Type} {f : α → W} {xs : List α} {w : W} {k : Nat} (d : α) (h : seqW st w = some (xs.map f)) (hk : k < xs.length) (q : K (f (xs.getD k d))) : subW st w (.int (k : Nat)) K := by
  refine sub_w h ?_ q
  rw [List.getElem?_map, List.getElem?_eq_getElem hk, List.getD_eq_getElem?_getD, List.getElem?_eq_getElem hk]
  rfl
theorem len_map {α : Type} {f : α → W} {xs : List α} {w : W} (h : seqW st w = some (xs.map f)) (q : Q (.int xs.length) st) : biW st .len [w] Q := by
  refine len_w h ?_
  rw [List.length_map]; exact q
end
section
variable {i : Int} {b : Bool} {x : Str} {ws : List W} {ns : List Int} {n : Nat}
theorem ro_int : ro (.int i) = .int i := rfl
theorem ro_bl : ro (.bl b) = .bl b := rfl
theorem ro_str : ro (.str x) = .str x := rfl
theorem ro_non : ro .non = .non := rfl
theorem ro_undef : ro .undef = .undef := rfl
theorem ro_tup : ro (.tup ws) = .tup ws := rfl
theorem ro_ktup : ro (.ktup ws) = .ktup ws := rfl
theorem ro_lst : ro (.lst ws) = .lst ws := rfl
theorem ro_tmp : ro (.tmp ws) = .lst ws := rfl
theorem ro_scr : ro (.scr ns) = .scr ns := rfl
theorem ro_loc : ro (.loc n) = .loc n := rfl
theorem ro_fn : ro (.fn n) = .fn n := rfl
end
theorem lst_seq {st : Store} {h : W} {us : List W} (e : lstW st h = some us) : seqW st h = some us := by
  cases h with
  | loc n => exact e
  | lst ws => exact e
  | tmp ws => exact e
  | _ => cases e
theorem tup_seq {st : Store} {h : W} {us : List W} (e : tupW h = some us) : seqW st h = some us := by
  cases h with
  | tup ws => exact e
  | ktup ws => exact e
  | _ => cases e
theorem rangeW_nat (n : Nat) : rangeW 0 (n : Nat) = (List.range n).map nW := by
  unfold rangeW nW
  have e : ((n : Int) - 0).toNat = n := by omega
  rw [e]
  refine List.map_congr_left fun k _ => ?_
  congr 1
  omega
theorem rangeW_from (i j : Nat) : rangeW (i : Nat) (j : Nat) = (List.range' i (j - i)).map nW := by
  unfold rangeW nW
  have e : ((j : Int) - (i : Nat)).toNat = j - i := by omega
  rw [e, List.range'_eq_map_range, List.map_map]
  refine List.map_congr_left fun k _ => ?_
  show W.int _ = W.int _
  congr 1
/-! ### loops -/
def compT (C : CallSem) (P : Prog) (own : List (Str × Nat)) (elt : E) (tg : Tg) (ifs : List E) (env : Env) : W → List W → Store → (List W → Store → Prop) → Prop :=
  fun x acc st2 K => ∃ env2, bindT st2 tg x (wipeW env (own.map (·.2))) = some env2 ∧
        wpTs C P ⟨none, none⟩ ifs env2 st2 fun b st3 => if b = true then wpE C P ⟨none, none⟩ elt env2 st3 (fun w st4 => acc.length < sizeLine ∧ K (acc ++ [ro w]) st4) noX else K acc st3
def forT (C : CallSem) (P : Prog) (cl : Ex) (tg : Tg) (body : List S) : W → Env → Store → Ends → Prop := fun x env2 st2 D2 => ∃ env3, bindT st2 tg x env2 = some env3 ∧ wpSs C P cl body env3 st2 D2
section
variable {C : CallSem} {P : Prog} {cl : Ex} {env : Env} {st : Store} {Q : Post} {X : XPost} {nx bk ct : Env → Store → Prop} {rt : Post} {ex : Nat → W → Env → Store → Prop} {guard : Store → Prop}
theorem wp_comp {own : List (Str × Nat)} {elt : E} {tg : Tg} {it : It} {ifs : List E} (q : wpI C P cl it env st (fun items guard st1 => wpComp (compT C P own elt tg ifs env) guard items [] st1 fun acc st' => Q (.tmp acc) st') X) : wpE C P cl (.comp own elt tg it ifs) env st Q X := by
  simp only [wpE]; exact q
theorem wpS_for' {tg : Tg} {it : It} {body : List S} (q : wpI C P cl it env st (fun items guard st1 => wpFor (forT C P cl tg body) guard items env st1 ⟨nx, rt, bk, ct, ex⟩) fun c w st1 => ex c w env st1) : wpS C P cl (.for_ tg it body) env st ⟨nx, rt, bk, ct, ex⟩ := by
  simp only [wpS]; exact q
/-- a comprehension that leaves the store, over things of one sort -/
theorem comp_ty {α : Type} {own : List (Str × Nat)} {elt : E} {tg : Tg} {ifs : List E} {Q : List W → Store → Prop} (xs : List α) (inj : α → W) (p : α → Bool) (g : α → W) {items : List W} (hi : items = xs.map inj) (hg : guard st) (hl : xs.length ≤ sizeLine)
    (ht : ∀ x ∈ xs, ∃ env2, bindT st tg (inj x) (wipeW env (own.map (·.2))) = some env2 ∧ (∀ K : Bool → Store → Prop, K (p x) st → wpTs C P ⟨none, none⟩ ifs env2 st K) ∧ (p x = true → ∀ K : Post, (∀ w, ro w = g x → K w st) → wpE C P ⟨none, none⟩ elt env2 st K noX))
    (q : Q ((xs.filter p).map g) st) : wpComp (compT C P own elt tg ifs env) guard items [] st Q := by
  subst hi
  have main : ∀ (xs : List α) (acc : List W), acc.length + xs.length ≤ sizeLine → (∀ x ∈ xs, ∃ env2, bindT st tg (inj x) (wipeW env (own.map (·.2))) = some env2 ∧ (∀ K : Bool → Store → Prop, K (p x) st → wpTs C P ⟨none, none⟩ ifs env2 st K) ∧ (p x = true → ∀ K : Post, (∀ w, ro w = g x → K w st) → wpE C P ⟨none, none⟩ elt env2 st K noX)) →
      Q (acc ++ (xs.filter p).map g) st → wpComp (compT C P own elt tg ifs env) guard (xs.map inj) acc st Q := by
    intro xs
    induction xs with
    | nil => intro acc _ _ q; exact ⟨hg, by simpa using q⟩
    | cons x xs ih =>
      intro acc hl ht q
      rw [List.length_cons] at hl
      obtain ⟨env2, h1, h2, h3⟩ := ht x (List.mem_cons_self ..)
      refine ⟨hg, env2, h1, h2 _ ?_⟩
      cases hp : p x with
      | true =>
        rw [if_pos rfl]
        refine h3 hp _ fun w hw => ⟨by omega, ?_⟩
        rw [hw]
        exact ih _ (by simp; omega) (fun y hy => ht y (List.mem_cons_of_mem _ hy)) (by simpa [List.filter_cons, hp] using q)
      | false =>
        rw [if_neg (by simp)]
        exact ih _ (by omega) (fun y hy => ht y (List.mem_cons_of_mem _ hy)) (by simpa [List.filter_cons, hp] using q)
  exact main xs [] (by simpa using hl) ht q
theorem comp_none {α : Type} {own : List (Str × Nat)} {elt : E} {tg : Tg} {ifs : List E} {Q : List W → Store → Prop} (xs : List α) (inj : α → W) {items : List W} (hi : items = xs.map inj) (hg : guard st) (hl : xs.length ≤ sizeLine)
    (ht : ∀ x ∈ xs, ∃ env2, bindT st tg (inj x) (wipeW env (own.map (·.2))) = some env2 ∧ (∀ K : Bool → Store → Prop, K false st → wpTs C P ⟨none, none⟩ ifs env2 st K))
    (q : Q [] st) : wpComp (compT C P own elt tg ifs env) guard items [] st Q := by
  refine comp_ty xs inj (fun _ => false) (fun _ => .non) hi hg hl (fun x hx => ?_) (by rw [List.filter_eq_nil_iff.mpr (fun _ _ => by simp)]; exact q)
  obtain ⟨env2, h1, h2⟩ := ht x hx
  exact ⟨env2, h1, h2, fun h => by cases h⟩
theorem comp_all {α : Type} {own : List (Str × Nat)} {elt : E} {tg : Tg} {Q : List W → Store → Prop} (xs : List α) (inj : α → W) (g : α → W) {items : List W} (hi : items = xs.map inj) (hg : guard st) (hl : xs.length ≤ sizeLine)
    (ht : ∀ x ∈ xs, ∃ env2, bindT st tg (inj x) (wipeW env (own.map (·.2))) = some env2 ∧ ∀ K : Post, (∀ w, ro w = g x → K w st) → wpE C P ⟨none, none⟩ elt env2 st K noX)
    (q : Q (xs.map g) st) : wpComp (compT C P own elt tg [] env) guard items [] st Q := by
  refine comp_ty xs inj (fun _ => true) g hi hg hl (fun x hx => ?_) (by rw [List.filter_eq_self.mpr (fun _ _ => rfl)]; exact q)
  obtain ⟨env2, h1, h2⟩ := ht x hx
  exact ⟨env2, h1, fun K q => wpTs_nil q, fun _ => h2⟩
/-- a walk over things of one sort, by what stands ahead of each turn -/
theorem for_ty {α : Type} {tg : Tg} {body : List S} (xs : List α) (inj : α → W) {items : List W} (hi : items = xs.map inj) (I : Nat → Env → Store → Prop)
    (h0 : I 0 env st)
    (hs : ∀ i x env st, ∀ nx' : Env → Store → Prop, xs[i]? = some x → I i env st → (∀ env' st', I (i + 1) env' st' → nx' env' st') → guard st ∧ ∃ env3, bindT st tg (inj x) env = some env3 ∧ wpSs C P cl body env3 st ⟨nx', rt, nx, nx', ex⟩)
    (hd : ∀ env st, I xs.length env st → guard st ∧ nx env st) : wpFor (forT C P cl tg body) guard items env st ⟨nx, rt, bk, ct, ex⟩ := by
  subst hi
  refine for_inv (xs.map inj) I (fun i x env st K hx hI hK => ?_) (fun env st hI => ?_) h0
  · rw [List.getElem?_map] at hx
    obtain ⟨y, hy, rfl⟩ := Option.map_eq_some_iff.mp hx
    exact hs i y env st K hy hI hK
  · rw [List.length_map] at hI
    exact hd env st hI
theorem band2 {e1 e2 : E} {b1 b2 : Bool} (h1 : ∀ K : Post, K (.bl b1) st → wpE C P cl e1 env st K X) (h2 : b1 = true → ∀ K : Post, K (.bl b2) st → wpE C P cl e2 env st K X) (q : Q (.bl (b1 && b2)) st) : wpE C P cl (.band [e1, e2]) env st Q X := by
  refine wp_band (wp_and2 (h1 _ (bl_of (br (fun h => wp_and1 (h2 h _ ?_)) fun h => ?_))))
  · rw [h] at q; simpa using q
  · rw [h] at q; simpa using q
theorem bor2 {e1 e2 : E} {b1 b2 : Bool} (h1 : ∀ K : Post, K (.bl b1) st → wpE C P cl e1 env st K X) (h2 : b1 = false → ∀ K : Post, K (.bl b2) st → wpE C P cl e2 env st K X) (q : Q (.bl (b1 || b2)) st) : wpE C P cl (.bor [e1, e2]) env st Q X := by
  refine wp_bor (wp_or2 (h1 _ (bl_of (br (fun h => ?_) fun h => wp_or1 (h2 h _ ?_)))))
  · rw [h] at q; simpa using q
  · rw [h] at q; simpa using q
end
end Ev

set_option maxRecDepth 100000
set_option maxHeartbeats 4000000
/-! KbF: the helpers of the kb laws as code, whatever their places. -/
namespace Ev
open PySem L2
/-! ### a book, plainly -/
structure IsBook (ts : List Nat) (tb : List (List (List Nat))) : Prop where
  len1 : 1 ≤ ts.length
  len2 : ts.length ≤ 13
  kinds : ∀ k ∈ ts, k < ts.length
  zero : ts.getD 0 0 = 0
  back : ∀ k < ts.length, ts.getD (ts.getD k 0) 0 = k
  rows : tb.length = ts.length
  row : ∀ a < ts.length, (tb.getD a []).length = ts.length
  ne : ∀ a < ts.length, ∀ b < ts.length, (tb.getD a []).getD b [] ≠ []
  lt : ∀ a < ts.length, ∀ b < ts.length, ∀ c ∈ (tb.getD a []).getD b [], c < ts.length
  up : ∀ a < ts.length, ∀ b < ts.length, ((tb.getD a []).getD b []).Pairwise (· < ·)
  left : ∀ b < ts.length, (tb.getD 0 []).getD b [] = [b]
  right : ∀ a < ts.length, (tb.getD a []).getD 0 [] = [a]
  turn : ∀ a < ts.length, ∀ b < ts.length, ∀ c ∈ (tb.getD a []).getD b [], a ∈ (tb.getD c []).getD (ts.getD b 0) [] ∧ b ∈ (tb.getD (ts.getD a 0) []).getD c []
def fWhole : Fn := ⟨"_law_kb_is_whole", 1, false, 1, [
  .ret (.band [.isi (.var 0) .tInt, .not (.isi (.var 0) .tBool)])]⟩
def fIn (w : Nat) : Fn := ⟨"_law_kb_is_in", 3, false, 3, [
  .ret (.band [.call w [.var 0], .cmp2 .LtE .LtE (.var 1) (.var 0) (.var 2)])]⟩
def fSame (w : Nat) : Fn := ⟨"_law_kb_same", 2, false, 7, [
  .asg 2 (.alloc (.lst [.tup [.var 0, .var 1]])),
  .while_ (.cmp .NotEq (.var 2) (.lst [])) [.asgT (.tup [.nm 3, .nm 4]) (.meth .pop (.var 2) []), .ite (.cmp .Is (.var 4) (.non)) [.asg 5 (.cmp .Is (.var 3) (.non))] [.ite (.isi (.var 4) .tBool) [.asg 5 (.band [.isi (.var 3) .tBool, .cmp .Eq (.var 3) (.var 4)])] [.ite (.isi (.var 4) .tInt) [.asg 5 (.band [.call w [.var 3], .cmp .Eq (.var 3) (.var 4)])] [.ite (.isi (.var 4) .tStr) [.asg 5 (.band [.isi (.var 3) .tStr, .cmp .Eq (.var 3) (.var 4)])] [.asg 5 (.ife (.isi (.var 4) .tTuple) (.isi (.var 3) .tTuple) (.isi (.var 3) .tList)), .asg 5 (.band [.var 5, .cmp .Eq (.bi .len [.var 3]) (.bi .len [.var 4])]), .ex (.meth .extend (.var 2) [.ife (.var 5) (.comp [("at", 6)] (.tup [.sub (.var 3) (.var 6), .sub (.var 4) (.var 6)]) (.nm 6) (.rng1 (.bi .len [.var 4])) []) (.lst [])])]]]], .ite (.not (.var 5)) [.ret (.bl false)] []],
  .ret (.bl true)]⟩
def fTurns (i : Nat) : Fn := ⟨"_law_kb_are_turns", 1, false, 2, [
  .ite (.bor [.not (.isi (.var 0) .tTuple), .not (.cmp2 .LtE .LtE (.int 1) (.bi .len [.var 0]) (.int 13))]) [.ret (.bl false)] [],
  .ite (.cmp .NotEq (.comp [("k", 1)] (.var 1) (.nm 1) (.seq (.var 0)) [.not (.call i [.var 1, .int 0, .bin .Sub (.bi .len [.var 0]) (.int 1)])]) (.lst [])) [.ret (.bl false)] [],
  .ret (.band [.cmp .Eq (.sub (.var 0) (.int 0)) (.int 0), .cmp .Eq (.comp [("k", 1)] (.var 1) (.nm 1) (.rng1 (.bi .len [.var 0])) [.cmp .NotEq (.sub (.var 0) (.sub (.var 0) (.var 1))) (.var 1)]) (.lst [])])]⟩
def fSquare : Fn := ⟨"_law_kb_is_square", 2, false, 3, [
  .ite (.bor [.not (.isi (.var 1) .tTuple), .cmp .NotEq (.bi .len [.var 1]) (.var 0)]) [.ret (.bl false)] [],
  .ret (.cmp .Eq (.comp [("row", 2)] (.var 2) (.nm 2) (.seq (.var 1)) [.bor [.not (.isi (.var 2) .tTuple), .cmp .NotEq (.bi .len [.var 2]) (.var 0)]]) (.lst []))]⟩
def fLot (i : Nat) : Fn := ⟨"_law_kb_is_lot", 2, false, 4, [
  .ite (.bor [.not (.isi (.var 1) .tTuple), .cmp .Eq (.var 1) (.tup []), .cmp .NotEq (.comp [("k", 3)] (.var 3) (.nm 3) (.seq (.var 1)) [.not (.call i [.var 3, .int 0, .bin .Sub (.var 0) (.int 1)])]) (.lst [])]) [.ret (.bl false)] [],
  .ret (.cmp .Eq (.comp [("at", 2)] (.var 2) (.nm 2) (.rng2 (.int 1) (.bi .len [.var 1])) [.cmp .LtE (.sub (.var 1) (.var 2)) (.sub (.var 1) (.bin .Sub (.var 2) (.int 1)))]) (.lst []))]⟩
def fFault (t s l : Nat) : Fn := ⟨"_law_kb_fault", 1, false, 8, [
  .ite (.bor [.not (.isi (.var 0) .tTuple), .cmp .NotEq (.bi .len [.var 0]) (.int 2)]) [.ret (.neg (.int 1))] [],
  .asgT (.tup [.nm 3, .nm 4]) (.var 0),
  .ite (.not (.call t [.var 3])) [.ret (.int 0)] [],
  .asg 1 (.bi .len [.var 3]),
  .ite (.not (.call s [.var 1, .var 4])) [.ret (.int 1)] [],
  .for_ (.nm 2) (.rng1 (.var 1)) [.for_ (.nm 5) (.rng1 (.var 1)) [.ite (.not (.call l [.var 1, .sub (.sub (.var 4) (.var 2)) (.var 5)])) [.ret (.tup [.var 2, .var 5])] [], .ite (.bor [.band [.cmp .Eq (.var 2) (.int 0), .cmp .NotEq (.sub (.sub (.var 4) (.var 2)) (.var 5)) (.tup [.var 5])], .band [.cmp .Eq (.var 5) (.int 0), .cmp .NotEq (.sub (.sub (.var 4) (.var 2)) (.var 5)) (.tup [.var 2])]]) [.ret (.tup [.var 2, .var 5])] []]],
  .for_ (.nm 2) (.rng1 (.var 1)) [.for_ (.nm 5) (.rng1 (.var 1)) [.asg 6 (.comp [("c", 7)] (.var 7) (.nm 7) (.seq (.sub (.sub (.var 4) (.var 2)) (.var 5))) [.bor [.cmp .NotIn (.var 2) (.sub (.sub (.var 4) (.var 7)) (.sub (.var 3) (.var 5))), .cmp .NotIn (.var 5) (.sub (.sub (.var 4) (.sub (.var 3) (.var 2))) (.var 7))]]), .ite (.cmp .NotEq (.var 6) (.lst [])) [.ret (.tup [.var 2, .var 5, .sub (.var 6) (.int 0)])] []]],
  .ret (.non)]⟩
def fMade : Fn := ⟨"_law_kb_made", 2, false, 8, [
  .par [3, 4] [.alloc (.lst []), .bi .len [.var 0]],
  .for_ (.nm 2) (.rng1 (.var 4)) [.asg 5 (.alloc (.lst [])), .for_ (.nm 6) (.rng1 (.var 4)) [.ex (.meth .append (.var 5) [.bi .tuple [.comp [("c", 7)] (.var 7) (.nm 7) (.rng1 (.var 4)) [.cmp .In (.tup [.var 2, .var 6, .var 7]) (.var 1)]]])], .ex (.meth .append (.var 3) [.bi .tuple [.var 5]])],
  .ret (.tup [.bi .tuple [.var 0], .bi .tuple [.var 3]])]⟩
def fModel (m : Nat) : Fn := ⟨"_law_kb_model", 3, false, 8, [
  .par [4, 5] [.alloc (.bin .Mult (.lst [.int 0]) (.var 2)), .dnewT],
  .for_ (.nm 3) (.seq (.var 0)) [.for_ (.nm 6) (.seq (.var 0)) [.asgS (.var 4) (.callv 1 [.var 3, .var 6]) (.callv 1 [.var 6, .var 3]), .for_ (.nm 7) (.seq (.var 0)) [.asgS (.var 5) (.tup [.callv 1 [.var 3, .var 6], .callv 1 [.var 6, .var 7], .callv 1 [.var 3, .var 7]]) (.bl true)]]],
  .ret (.call m [.var 4, .var 5])]⟩
end Ev

set_option maxRecDepth 100000
set_option maxHeartbeats 4000000
/-! KbS: what the helpers of the kb laws tell. -/
namespace Ev
open PySem L2
set_option hygiene false
local macro_rules | `(tactic| array_mem_dec) => `(tactic| first | rfl | assumption | decide | omega | (focus (simp; done)))
local macro_rules | `(tactic| sizeOf_list_dec) => `(tactic| first
  | ((with_reducible apply wp_var); rfl; (first | assumption | (focus (intro h; cases h; done))))
  | (with_reducible refine wp_int ?_)
  | (with_reducible refine wpSs_cons ?_)
  | (with_reducible refine wpEs_cons ?_)
  | (with_reducible refine wpEs_nil ?_)
  | (with_reducible refine wpS_asg ?_)
  | (with_reducible refine wpS_ret ?_)
  | (with_reducible refine wpS_ite ?_)
  | (with_reducible refine wpS_for' ?_)
  | (with_reducible refine wpS_ex ?_)
  | (with_reducible refine wp_sub ?_)
  | (with_reducible refine wp_cmp ?_)
  | (with_reducible refine wp_bi ?_)
  | (with_reducible refine wp_call ?_)
  | (with_reducible refine wp_bin ?_)
  | (with_reducible refine wp_not ?_)
  | (with_reducible refine wp_isi ?_)
  | (with_reducible refine wp_meth ?_)
  | (with_reducible refine wp_tup ?_)
  | (with_reducible refine wp_lst ?_)
  | (with_reducible refine wp_band ?_)
  | (with_reducible refine wp_bor ?_)
  | (with_reducible refine wp_and1 ?_)
  | (with_reducible refine wp_and2 ?_)
  | (with_reducible refine wp_or1 ?_)
  | (with_reducible refine wp_or2 ?_)
  | (with_reducible refine wpS_asgT ?_)
  | (with_reducible refine wpS_asgS ?_)
  | (with_reducible refine wpSs_nil ?_)
  | (with_reducible refine ret_same ?_)
  | (with_reducible refine tru_bl ?_)
  | (with_reducible refine bl_of ?_)
  | ((with_reducible refine br_t ?_ ?_); (focus (first | exact rfl | assumption | (simp only [Bool.not_eq_true', Bool.not_eq_false', decide_eq_true_eq, decide_eq_false_iff_not, List.length_cons, List.length_nil, List.length_map, List.length_range]; omega))))
  | ((with_reducible refine br_f ?_ ?_); (focus (first | exact rfl | assumption | (simp only [Bool.not_eq_true', Bool.not_eq_false', decide_eq_true_eq, decide_eq_false_iff_not, List.length_cons, List.length_nil, List.length_map, List.length_range]; omega))))
  | (with_reducible refine wp_non ?_)
  | (with_reducible refine wp_bl ?_)
  | (with_reducible refine wp_str ?_)
  | (with_reducible refine wp_gfn ?_)
  | ((with_reducible apply wp_gcon); rfl)
  | (with_reducible refine wp_alloc ?_)
  | ((with_reducible refine alloc_tmp ?_); (intro _ _ hen hes; (try simp only [List.length_append, List.length_set, List.length_cons, List.length_nil, Nat.zero_add, Nat.add_assoc, Nat.reduceAdd] at hen); (try simp only [List.append_assoc, List.cons_append, List.nil_append] at hes); subst hen; subst hes))
  | ((with_reducible refine wp_dnewT ?_); (intro _ _ hen hes; (try simp only [List.length_append, List.length_set, List.length_cons, List.length_nil, Nat.zero_add, Nat.add_assoc, Nat.reduceAdd] at hen); (try simp only [List.append_assoc, List.cons_append, List.nil_append] at hes); subst hen; subst hes))
  | ((with_reducible refine wp_dnewK ?_); (intro _ _ hen hes; (try simp only [List.length_append, List.length_set, List.length_cons, List.length_nil, Nat.zero_add, Nat.add_assoc, Nat.reduceAdd] at hen); (try simp only [List.append_assoc, List.cons_append, List.nil_append] at hes); subst hen; subst hes))
  | (with_reducible refine wp_ife ?_)
  | (with_reducible refine wp_comp ?_)
  | (with_reducible refine wp_comp2 ?_)
  | (with_reducible refine wp_cmp2 ?_)
  | (with_reducible refine wp_neg ?_)
  | (with_reducible refine neg_int ?_)
  | (with_reducible refine wp_slice ?_)
  | (with_reducible refine wpO_none ?_)
  | (with_reducible refine wpO_some ?_)
  | (with_reducible refine opt_int ?_)
  | (with_reducible refine wp_rev ?_)
  | (with_reducible refine wpI_seq ?_)
  | (with_reducible refine wpI_rng1 ?_)
  | (with_reducible refine wpI_rng2 ?_)
  | (with_reducible refine wpI_enum ?_)
  | (with_reducible refine wpTs_nil ?_)
  | (with_reducible refine wpTs_one ?_)
  | (with_reducible refine wpS_par ?_)
  | (with_reducible refine wpS_pass ?_)
  | (with_reducible refine wpS_brk ?_)
  | (with_reducible refine wpS_cont ?_)
  | (with_reducible refine wpS_retN ?_)
  | (with_reducible refine wpS_tryN ?_)
  | (with_reducible refine wp_callL ?_)
  | ((with_reducible apply wp_callv); rfl; (focus (first | assumption | decide)))
  | ((with_reducible apply wp_callc); rfl)
  | ((with_reducible apply wp_callP); rfl)
  | ((with_reducible apply len_map); (focus assumption))
  | ((with_reducible apply len_w); (focus (first | rfl | assumption)))
  | ((with_reducible apply it_of); (focus (first | assumption | apply hth | rfl)); (focus (first | assumption | rfl)))
  | ((with_reducible apply eq_nil); (focus (first | rfl | assumption)))
  | ((with_reducible apply ne_nil); (focus (first | rfl | assumption)))
  | ((with_reducible refine rng1_int ?_ ?_ ?_); (focus omega); (focus omega))
  | ((with_reducible refine rng2_int ?_ ?_ ?_ ?_ ?_); (focus omega); (focus omega); (focus omega); (focus omega))
  | (with_reducible refine eq_ii ?_)
  | (with_reducible refine ne_ii ?_)
  | (with_reducible refine lt_ii ?_)
  | (with_reducible refine le_ii ?_)
  | (with_reducible refine gt_ii ?_)
  | (with_reducible refine ge_ii ?_)
  | (with_reducible refine add_ii ?_)
  | (with_reducible refine sub_ii ?_)
  | (with_reducible refine int_i ?_)
  | (with_reducible refine max_ii ?_)
  | (with_reducible refine min_ii ?_)
  | (with_reducible refine tuple_k ?_)
  | ((with_reducible apply is_non); (focus (first | rfl | assumption)))
  | ((with_reducible apply isnot_non); (focus (first | rfl | assumption)))
  | ((with_reducible apply isi_of); (focus (first | rfl | assumption)))
  | ((with_reducible refine And.intro ?_ ?_); (first | decide | (focus (simp [sizeLine]; done))); (intro _ he; (first | simp only [List.set, List.map_cons, List.map_nil, ro_int, ro_bl, ro_str, ro_non, ro_undef, ro_tup, ro_ktup, ro_lst, ro_tmp, ro_scr, ro_loc, ro_fn, hro, hro2] at he | simp only [List.set, List.map_cons, List.map_nil, ro_int, ro_bl, ro_str, ro_non, ro_undef, ro_tup, ro_ktup, ro_lst, ro_tmp, ro_scr, ro_loc, ro_fn, hro] at he | simp only [List.set, List.map_cons, List.map_nil, ro_int, ro_bl, ro_str, ro_non, ro_undef, ro_tup, ro_ktup, ro_lst, ro_tmp, ro_scr, ro_loc, ro_fn] at he | skip); subst he))
  | ((with_reducible intro _ he); (first | simp only [List.set, List.map_cons, List.map_nil, ro_int, ro_bl, ro_str, ro_non, ro_undef, ro_tup, ro_ktup, ro_lst, ro_tmp, ro_scr, ro_loc, ro_fn, hro, hro2] at he | simp only [List.set, List.map_cons, List.map_nil, ro_int, ro_bl, ro_str, ro_non, ro_undef, ro_tup, ro_ktup, ro_lst, ro_tmp, ro_scr, ro_loc, ro_fn, hro] at he | simp only [List.set, List.map_cons, List.map_nil, ro_int, ro_bl, ro_str, ro_non, ro_undef, ro_tup, ro_ktup, ro_lst, ro_tmp, ro_scr, ro_loc, ro_fn] at he | skip); subst he)
  | ((with_reducible apply bind_of); (focus ((first | simp only [bindT, bindTs, seqW, isScr, ro_int, ro_bl, ro_str, ro_non, ro_undef, ro_tup, ro_ktup, ro_lst, ro_tmp, ro_scr, ro_loc, ro_fn, hro, hro2, wipeW, List.set, List.length_cons, List.length_nil, Bool.false_eq_true, if_false, if_true, Nat.reduceAdd, Nat.reduceLT, ↓reduceIte] | simp only [bindT, bindTs, seqW, isScr, ro_int, ro_bl, ro_str, ro_non, ro_undef, ro_tup, ro_ktup, ro_lst, ro_tmp, ro_scr, ro_loc, ro_fn, hro, wipeW, List.set, List.length_cons, List.length_nil, Bool.false_eq_true, if_false, if_true, Nat.reduceAdd, Nat.reduceLT, ↓reduceIte] | simp only [bindT, bindTs, seqW, isScr, ro_int, ro_bl, ro_str, ro_non, ro_undef, ro_tup, ro_ktup, ro_lst, ro_tmp, ro_scr, ro_loc, ro_fn, wipeW, List.set, List.length_cons, List.length_nil, Bool.false_eq_true, if_false, if_true, Nat.reduceAdd, Nat.reduceLT, ↓reduceIte]); rfl)))
  | ((with_reducible apply binds_of); (focus ((first | simp only [List.map_cons, List.map_nil, bindT, bindTs, seqW, isScr, ro_int, ro_bl, ro_str, ro_non, ro_undef, ro_tup, ro_ktup, ro_lst, ro_tmp, ro_scr, ro_loc, ro_fn, hro, hro2, wipeW, List.set, List.length_cons, List.length_nil, Bool.false_eq_true, if_false, if_true, Nat.reduceAdd, Nat.reduceLT, ↓reduceIte] | simp only [List.map_cons, List.map_nil, bindT, bindTs, seqW, isScr, ro_int, ro_bl, ro_str, ro_non, ro_undef, ro_tup, ro_ktup, ro_lst, ro_tmp, ro_scr, ro_loc, ro_fn, hro, wipeW, List.set, List.length_cons, List.length_nil, Bool.false_eq_true, if_false, if_true, Nat.reduceAdd, Nat.reduceLT, ↓reduceIte] | simp only [List.map_cons, List.map_nil, bindT, bindTs, seqW, isScr, ro_int, ro_bl, ro_str, ro_non, ro_undef, ro_tup, ro_ktup, ro_lst, ro_tmp, ro_scr, ro_loc, ro_fn, wipeW, List.set, List.length_cons, List.length_nil, Bool.false_eq_true, if_false, if_true, Nat.reduceAdd, Nat.reduceLT, ↓reduceIte]); rfl))))
local macro_rules | `(tactic| array_get_dec) => `(tactic| first
  | ((with_reducible apply wp_var); rfl; (first | assumption | (focus (intro h; cases h; done))))
  | (with_reducible refine wp_int ?_)
  | (with_reducible refine wpSs_cons ?_)
  | (with_reducible refine wpEs_cons ?_)
  | (with_reducible refine wpEs_nil ?_)
  | (with_reducible refine wpS_asg ?_)
  | (with_reducible refine wpS_ret ?_)
  | (with_reducible refine wpS_ite ?_)
  | (with_reducible refine wpS_for' ?_)
  | (with_reducible refine wpS_ex ?_)
  | (with_reducible refine wp_sub ?_)
  | (with_reducible refine wp_cmp ?_)
  | (with_reducible refine wp_bi ?_)
  | (with_reducible refine wp_call ?_)
  | (with_reducible refine wp_bin ?_)
  | (with_reducible refine wp_not ?_)
  | (with_reducible refine wp_isi ?_)
  | (with_reducible refine wp_meth ?_)
  | (with_reducible refine wp_tup ?_)
  | (with_reducible refine wp_lst ?_)
  | (with_reducible refine wp_and1 ?_)
  | (with_reducible refine wp_and2 ?_)
  | (with_reducible refine wp_or1 ?_)
  | (with_reducible refine wp_or2 ?_)
  | (with_reducible refine wpS_asgT ?_)
  | (with_reducible refine wpS_asgS ?_)
  | (with_reducible refine wpSs_nil ?_)
  | (with_reducible refine ret_same ?_)
  | (with_reducible refine tru_bl ?_)
  | (with_reducible refine bl_of ?_)
  | ((with_reducible refine br_t ?_ ?_); (focus (first | exact rfl | assumption | (simp only [Bool.not_eq_true', Bool.not_eq_false', decide_eq_true_eq, decide_eq_false_iff_not, List.length_cons, List.length_nil, List.length_map, List.length_range]; omega))))
  | ((with_reducible refine br_f ?_ ?_); (focus (first | exact rfl | assumption | (simp only [Bool.not_eq_true', Bool.not_eq_false', decide_eq_true_eq, decide_eq_false_iff_not, List.length_cons, List.length_nil, List.length_map, List.length_range]; omega))))
  | (with_reducible refine wp_non ?_)
  | (with_reducible refine wp_bl ?_)
  | (with_reducible refine wp_str ?_)
  | (with_reducible refine wp_gfn ?_)
  | ((with_reducible apply wp_gcon); rfl)
  | (with_reducible refine wp_alloc ?_)
  | ((with_reducible refine alloc_tmp ?_); (intro _ _ hen hes; (try simp only [List.length_append, List.length_set, List.length_cons, List.length_nil, Nat.zero_add, Nat.add_assoc, Nat.reduceAdd] at hen); (try simp only [List.append_assoc, List.cons_append, List.nil_append] at hes); subst hen; subst hes))
  | ((with_reducible refine wp_dnewT ?_); (intro _ _ hen hes; (try simp only [List.length_append, List.length_set, List.length_cons, List.length_nil, Nat.zero_add, Nat.add_assoc, Nat.reduceAdd] at hen); (try simp only [List.append_assoc, List.cons_append, List.nil_append] at hes); subst hen; subst hes))
  | ((with_reducible refine wp_dnewK ?_); (intro _ _ hen hes; (try simp only [List.length_append, List.length_set, List.length_cons, List.length_nil, Nat.zero_add, Nat.add_assoc, Nat.reduceAdd] at hen); (try simp only [List.append_assoc, List.cons_append, List.nil_append] at hes); subst hen; subst hes))
  | (with_reducible refine wp_ife ?_)
  | (with_reducible refine wp_comp ?_)
  | (with_reducible refine wp_comp2 ?_)
  | (with_reducible refine wp_cmp2 ?_)
  | (with_reducible refine wp_neg ?_)
  | (with_reducible refine neg_int ?_)
  | (with_reducible refine wp_slice ?_)
  | (with_reducible refine wpO_none ?_)
  | (with_reducible refine wpO_some ?_)
  | (with_reducible refine opt_int ?_)
  | (with_reducible refine wp_rev ?_)
  | (with_reducible refine wpI_seq ?_)
  | (with_reducible refine wpI_rng1 ?_)
  | (with_reducible refine wpI_rng2 ?_)
  | (with_reducible refine wpI_enum ?_)
  | (with_reducible refine wpTs_nil ?_)
  | (with_reducible refine wpTs_one ?_)
  | (with_reducible refine wpS_par ?_)
  | (with_reducible refine wpS_pass ?_)
  | (with_reducible refine wpS_brk ?_)
  | (with_reducible refine wpS_cont ?_)
  | (with_reducible refine wpS_retN ?_)
  | (with_reducible refine wpS_tryN ?_)
  | (with_reducible refine wp_callL ?_)
  | ((with_reducible apply wp_callv); rfl; (focus (first | assumption | decide)))
  | ((with_reducible apply wp_callc); rfl)
  | ((with_reducible apply wp_callP); rfl)
  | ((with_reducible apply len_map); (focus assumption))
  | ((with_reducible apply len_w); (focus (first | rfl | assumption)))
  | ((with_reducible apply it_of); (focus (first | assumption | apply hth | rfl)); (focus (first | assumption | rfl)))
  | ((with_reducible apply eq_nil); (focus (first | rfl | assumption)))
  | ((with_reducible apply ne_nil); (focus (first | rfl | assumption)))
  | ((with_reducible refine rng1_int ?_ ?_ ?_); (focus omega); (focus omega))
  | ((with_reducible refine rng2_int ?_ ?_ ?_ ?_ ?_); (focus omega); (focus omega); (focus omega); (focus omega))
  | (with_reducible refine eq_ii ?_)
  | (with_reducible refine ne_ii ?_)
  | (with_reducible refine lt_ii ?_)
  | (with_reducible refine le_ii ?_)
  | (with_reducible refine gt_ii ?_)
  | (with_reducible refine ge_ii ?_)
  | (with_reducible refine add_ii ?_)
  | (with_reducible refine sub_ii ?_)
  | (with_reducible refine int_i ?_)
  | (with_reducible refine max_ii ?_)
  | (with_reducible refine min_ii ?_)
  | (with_reducible refine tuple_k ?_)
  | ((with_reducible apply is_non); (focus (first | rfl | assumption)))
  | ((with_reducible apply isnot_non); (focus (first | rfl | assumption)))
  | ((with_reducible apply isi_of); (focus (first | rfl | assumption)))
  | ((with_reducible refine And.intro ?_ ?_); (first | decide | (focus (simp [sizeLine]; done))); (intro _ he; (first | simp only [List.set, List.map_cons, List.map_nil, ro_int, ro_bl, ro_str, ro_non, ro_undef, ro_tup, ro_ktup, ro_lst, ro_tmp, ro_scr, ro_loc, ro_fn, hro, hro2] at he | simp only [List.set, List.map_cons, List.map_nil, ro_int, ro_bl, ro_str, ro_non, ro_undef, ro_tup, ro_ktup, ro_lst, ro_tmp, ro_scr, ro_loc, ro_fn, hro] at he | simp only [List.set, List.map_cons, List.map_nil, ro_int, ro_bl, ro_str, ro_non, ro_undef, ro_tup, ro_ktup, ro_lst, ro_tmp, ro_scr, ro_loc, ro_fn] at he | skip); subst he))
  | ((with_reducible intro _ he); (first | simp only [List.set, List.map_cons, List.map_nil, ro_int, ro_bl, ro_str, ro_non, ro_undef, ro_tup, ro_ktup, ro_lst, ro_tmp, ro_scr, ro_loc, ro_fn, hro, hro2] at he | simp only [List.set, List.map_cons, List.map_nil, ro_int, ro_bl, ro_str, ro_non, ro_undef, ro_tup, ro_ktup, ro_lst, ro_tmp, ro_scr, ro_loc, ro_fn, hro] at he | simp only [List.set, List.map_cons, List.map_nil, ro_int, ro_bl, ro_str, ro_non, ro_undef, ro_tup, ro_ktup, ro_lst, ro_tmp, ro_scr, ro_loc, ro_fn] at he | skip); subst he)
  | ((with_reducible apply bind_of); (focus ((first | simp only [bindT, bindTs, seqW, isScr, ro_int, ro_bl, ro_str, ro_non, ro_undef, ro_tup, ro_ktup, ro_lst, ro_tmp, ro_scr, ro_loc, ro_fn, hro, hro2, wipeW, List.set, List.length_cons, List.length_nil, Bool.false_eq_true, if_false, if_true, Nat.reduceAdd, Nat.reduceLT, ↓reduceIte] | simp only [bindT, bindTs, seqW, isScr, ro_int, ro_bl, ro_str, ro_non, ro_undef, ro_tup, ro_ktup, ro_lst, ro_tmp, ro_scr, ro_loc, ro_fn, hro, wipeW, List.set, List.length_cons, List.length_nil, Bool.false_eq_true, if_false, if_true, Nat.reduceAdd, Nat.reduceLT, ↓reduceIte] | simp only [bindT, bindTs, seqW, isScr, ro_int, ro_bl, ro_str, ro_non, ro_undef, ro_tup, ro_ktup, ro_lst, ro_tmp, ro_scr, ro_loc, ro_fn, wipeW, List.set, List.length_cons, List.length_nil, Bool.false_eq_true, if_false, if_true, Nat.reduceAdd, Nat.reduceLT, ↓reduceIte]); rfl)))
  | ((with_reducible apply binds_of); (focus ((first | simp only [List.map_cons, List.map_nil, bindT, bindTs, seqW, isScr, ro_int, ro_bl, ro_str, ro_non, ro_undef, ro_tup, ro_ktup, ro_lst, ro_tmp, ro_scr, ro_loc, ro_fn, hro, hro2, wipeW, List.set, List.length_cons, List.length_nil, Bool.false_eq_true, if_false, if_true, Nat.reduceAdd, Nat.reduceLT, ↓reduceIte] | simp only [List.map_cons, List.map_nil, bindT, bindTs, seqW, isScr, ro_int, ro_bl, ro_str, ro_non, ro_undef, ro_tup, ro_ktup, ro_lst, ro_tmp, ro_scr, ro_loc, ro_fn, hro, wipeW, List.set, List.length_cons, List.length_nil, Bool.false_eq_true, if_false, if_true, Nat.reduceAdd, Nat.reduceLT, ↓reduceIte] | simp only [List.map_cons, List.map_nil, bindT, bindTs, seqW, isScr, ro_int, ro_bl, ro_str, ro_non, ro_undef, ro_tup, ro_ktup, ro_lst, ro_tmp, ro_scr, ro_loc, ro_fn, wipeW, List.set, List.length_cons, List.length_nil, Bool.false_eq_true, if_false, if_true, Nat.reduceAdd, Nat.reduceLT, ↓reduceIte]); rfl))))
section
variable {P : Prog} {d : Nat} {st : Store} {Q : Post} {X : XPost}
theorem sp_whole {w : Nat} {i : Int} (hf : P.fns[w]? = some fWhole) (q : Q (.bl true) st) : (callW P (d + 1)).fn w none [.int i] st Q X := by
  refine fn_in (env := [.int i]) hf rfl rfl rfl ?_
  dsimp only [fWhole]
  repeat' sizeOf_list_dec
  exact q
theorem sp_in {w g : Nat} {i lo hi : Int} (hw : P.fns[w]? = some fWhole) (hf : P.fns[g]? = some (fIn w)) (q : Q (.bl (decide (lo ≤ i ∧ i ≤ hi))) st) : (callW P (d + 2)).fn g none [.int i, .int lo, .int hi] st Q X := by
  refine fn_in (env := [.int i, .int lo, .int hi]) hf rfl rfl rfl ?_
  dsimp only [fIn]
  repeat' sizeOf_list_dec
  refine sp_whole hw ?_
  repeat' sizeOf_list_dec
  refine br (fun h => ?_) (fun h => ?_)
  · repeat' sizeOf_list_dec
    simp only [decide_eq_true_eq] at h
    have e : decide (lo ≤ i ∧ i ≤ hi) = decide (i ≤ hi) := by simp [h]
    rw [← e]; exact q
  · repeat' sizeOf_list_dec
    simp only [decide_eq_false_iff_not] at h
    have e : decide (lo ≤ i ∧ i ≤ hi) = false := by simp [h]
    rw [← e]; exact q
theorem tup_or {w : W} {ws : List W} (h : tupW w = some ws) : w = .tup ws ∨ w = .ktup ws := by
  cases w <;> simp_all [tupW]
theorem sp_turns {w i g : Nat} {ts : List Nat} {tw : W} (hw : P.fns[w]? = some fWhole) (hi : P.fns[i]? = some (fIn w)) (hf : P.fns[g]? = some (fTurns i)) (ht : tupW tw = some (ts.map nW)) (h1 : 1 ≤ ts.length) (h2 : ts.length ≤ 13)
    (hk : ∀ k ∈ ts, k < ts.length) (h0 : ts.getD 0 0 = 0) (hb : ∀ k < ts.length, ts.getD (ts.getD k 0) 0 = k) (q : Q (.bl true) st) : (callW P (d + 3)).fn g none [tw] st Q X := by
  have hs : seqW st tw = some (ts.map nW) := tup_seq ht
  have hsc : isScr tw = false := by rcases tup_or ht with rfl | rfl <;> rfl
  have his : isiF st tw .tTuple = some true := by rcases tup_or ht with rfl | rfl <;> rfl
  have hu : tw ≠ .undef := by rcases tup_or ht with rfl | rfl <;> (intro h; cases h)
  refine fn_in (env := [tw, .undef]) hf rfl rfl rfl ?_
  dsimp only [fTurns]
  have hl1 : decide ((1 : Int) ≤ (ts.length : Nat)) = true := by simp; omega
  have hl2 : decide (((ts.length : Nat) : Int) ≤ 13) = true := by simp; omega
  repeat' sizeOf_list_dec
  refine comp_none ts nW rfl hs (by simp [sizeLine]; omega) (fun k hkm => ⟨[tw, nW k], rfl, fun K q => ?_⟩) ?_
  · repeat' sizeOf_list_dec
    refine sp_in hw hi ?_
    have : decide ((0 : Int) ≤ (k : Nat) ∧ ((k : Nat) : Int) ≤ (ts.length : Nat) - 1) = true := by have := hk k hkm; simp; omega
    rw [this]
    repeat' sizeOf_list_dec
    exact q
  repeat' sizeOf_list_dec
  refine sub_map (k := 0) 0 hs (by omega) ?_
  rw [h0]
  repeat' sizeOf_list_dec
  refine comp_none (List.range ts.length) nW (rangeW_nat _) trivial (by simp [sizeLine]; omega) (fun k hkm => ⟨[tw, nW k], rfl, fun K q => ?_⟩) ?_
  · rw [List.mem_range] at hkm
    repeat' sizeOf_list_dec
    refine sub_map 0 hs hkm ?_
    refine sub_map 0 hs ?_ ?_
    · rw [List.getD_eq_getElem?_getD, List.getElem?_eq_getElem hkm]; exact hk _ (List.getElem_mem hkm)
    rw [hb k hkm]
    repeat' sizeOf_list_dec
    simpa using q
  repeat' sizeOf_list_dec
  exact q
theorem sp_lot {w i g : Nat} {m : Nat} {l : List Nat} (hw : P.fns[w]? = some fWhole) (hi : P.fns[i]? = some (fIn w)) (hf : P.fns[g]? = some (fLot i)) (hn : l ≠ []) (hlen : l.length ≤ 1000) (hk : ∀ k ∈ l, k < m) (hp : l.Pairwise (· < ·)) (q : Q (.bl true) st) : (callW P (d + 3)).fn g none [nW m, lotW l] st Q X := by
  refine fn_in (env := [nW m, lotW l, .undef, .undef]) hf rfl rfl rfl ?_
  dsimp only [fLot]
  have hs : seqW st (lotW l) = some (l.map nW) := rfl
  repeat' sizeOf_list_dec
  refine eq_lot (l := l) (m := []) ?_
  have e0 : decide (l = []) = false := by simpa using hn
  repeat' sizeOf_list_dec
  refine comp_none l nW rfl hs (by simp [sizeLine]; omega) (fun k hkm => ⟨[nW m, lotW l, .undef, nW k], rfl, fun K q => ?_⟩) ?_
  · repeat' sizeOf_list_dec
    refine sp_in hw hi ?_
    have : decide ((0 : Int) ≤ (k : Nat) ∧ ((k : Nat) : Int) ≤ (m : Nat) - 1) = true := by have := hk k hkm; simp; omega
    rw [this]
    repeat' sizeOf_list_dec
    exact q
  repeat' sizeOf_list_dec
  refine comp_none (List.range' 1 (l.length - 1)) nW (rangeW_from 1 _) trivial (by simp [sizeLine]; omega) (fun k hkm => ⟨[nW m, lotW l, nW k, .undef], rfl, fun K q => ?_⟩) ?_
  · rw [List.mem_range'_1] at hkm
    repeat' sizeOf_list_dec
    refine sub_map 0 hs (by omega) ?_
    repeat' sizeOf_list_dec
    have e1 : ((k : Nat) : Int) - 1 = ((k - 1 : Nat) : Int) := by omega
    rw [e1]
    refine sub_map 0 hs (by omega) ?_
    repeat' sizeOf_list_dec
    have hlt : l.getD (k - 1) 0 < l.getD k 0 := by
      rw [List.getD_eq_getElem?_getD, List.getD_eq_getElem?_getD, List.getElem?_eq_getElem (by omega), List.getElem?_eq_getElem (by omega)]
      exact List.pairwise_iff_getElem.mp hp _ _ _ _ (by omega)
    have e2 : decide (((l.getD k 0 : Nat) : Int) ≤ (l.getD (k - 1) 0 : Nat)) = false := by simp only [decide_eq_false_iff_not]; omega
    rw [e2]
    exact q
  repeat' sizeOf_list_dec
  exact q
theorem sp_square {g : Nat} {m : Nat} {tb : List (List (List Nat))} (hf : P.fns[g]? = some fSquare) (hm : m ≤ 1000) (hl : tb.length = m) (hr : ∀ r ∈ tb, r.length = m) (q : Q (.bl true) st) : (callW P (d + 1)).fn g none [nW m, .tup (tb.map rowW)] st Q X := by
  refine fn_in (env := [nW m, .tup (tb.map rowW), .undef]) hf rfl rfl rfl ?_
  dsimp only [fSquare]
  have hs : seqW st (.tup (tb.map rowW)) = some (tb.map rowW) := rfl
  have e1 : decide (((tb.length : Nat) : Int) = (m : Nat)) = true := by simp; omega
  repeat' sizeOf_list_dec
  refine comp_none tb rowW rfl hs (by simp [sizeLine]; omega) (fun r hr2 => ⟨[nW m, .tup (tb.map rowW), rowW r], rfl, fun K q => ?_⟩) ?_
  · have hs2 : seqW st (rowW r) = some (r.map lotW) := rfl
    repeat' sizeOf_list_dec
    have e2 : decide (((r.length : Nat) : Int) = (m : Nat)) = true := by have := hr r hr2; simp; omega
    rw [e2]
    exact q
  repeat' sizeOf_list_dec
  exact q
theorem getD_mem {l : List Nat} {k : Nat} (h : k < l.length) : l.getD k 0 ∈ l := by
  rw [List.getD_eq_getElem?_getD, List.getElem?_eq_getElem h]; exact List.getElem_mem h
theorem len_up : ∀ {l : List Nat} {lo n : Nat}, l.Pairwise (· < ·) → (∀ c ∈ l, lo ≤ c) → (∀ c ∈ l, c < n) → l.length ≤ n - lo
  | [], _, _, _, _, _ => Nat.zero_le _
  | x :: l, lo, n, hp, h1, h2 => by
    rw [List.pairwise_cons] at hp
    have := len_up (lo := x + 1) hp.2 (fun c hc => hp.1 c hc) (fun c hc => h2 c (List.mem_cons_of_mem _ hc))
    have a := h1 x (List.mem_cons_self ..)
    have b := h2 x (List.mem_cons_self ..)
    rw [List.length_cons]
    omega
theorem sp_fault {w i t s l g : Nat} {ts : List Nat} {tb : List (List (List Nat))} {tw : W} (hw : P.fns[w]? = some fWhole) (hi : P.fns[i]? = some (fIn w)) (hT : P.fns[t]? = some (fTurns i)) (hS : P.fns[s]? = some fSquare) (hL : P.fns[l]? = some (fLot i)) (hf : P.fns[g]? = some (fFault t s l))
    (ht : tupW tw = some (ts.map nW)) (B : IsBook ts tb) (q : Q .non st) : (callW P (d + 4)).fn g none [.tup [tw, .tup (tb.map rowW)]] st Q X := by
  have hs : seqW st tw = some (ts.map nW) := tup_seq ht
  have hu : tw ≠ .undef := by rcases tup_or ht with rfl | rfl <;> (intro h; cases h)
  have hro : ro tw = tw := by rcases tup_or ht with rfl | rfl <;> rfl
  have hrows : ∀ r ∈ tb, r.length = ts.length := fun r hr => by
    obtain ⟨n, hn, rfl⟩ := List.getElem_of_mem hr
    have := B.row n (by rw [← B.rows]; exact hn)
    rwa [List.getD_eq_getElem?_getD, List.getElem?_eq_getElem hn] at this
  have hlen : ∀ a < ts.length, ∀ b < ts.length, ((tb.getD a []).getD b []).length ≤ 1000 := fun a ha b hb => by
    have h1 := B.lt a ha b hb
    have h2 := B.up a ha b hb
    have : ((tb.getD a []).getD b []).length ≤ ts.length := by
      have := len_up (lo := 0) h2 (fun _ _ => Nat.zero_le _) h1
      omega
    have := B.len2
    omega
  have hst : seqW st (.tup (tb.map rowW)) = some (tb.map rowW) := rfl
  have hlo := B.len1
  have hhi := B.len2
  refine fn_in (env := [.tup [tw, .tup (tb.map rowW)], .undef, .undef, .undef, .undef, .undef, .undef, .undef]) hf rfl rfl rfl ?_
  dsimp only [fFault]
  repeat' sizeOf_list_dec
  refine sp_turns hw hi hT ht hlo hhi B.kinds B.zero B.back ?_
  repeat' sizeOf_list_dec
  refine sp_square hS (by omega) B.rows hrows ?_
  repeat' sizeOf_list_dec
  refine for_ty (List.range ts.length) nW (rangeW_nat _) (fun _ env st' => ∃ v2 v5, env = [.tup [tw, .tup (tb.map rowW)], nW ts.length, v2, tw, .tup (tb.map rowW), v5, .undef, .undef] ∧ st' = st) ⟨_, _, rfl, rfl⟩ ?_ ?_
  · rintro i x env st' nx' hx ⟨v2, v5, rfl, rfl⟩ hn
    have hx2 : x < ts.length := List.mem_range.mp (List.mem_of_getElem? hx)
    refine ⟨trivial, ?_⟩
    repeat' sizeOf_list_dec
    refine for_ty (List.range ts.length) nW (rangeW_nat _) (fun _ env s => ∃ v5, env = [.tup [tw, .tup (tb.map rowW)], nW ts.length, nW x, tw, .tup (tb.map rowW), v5, .undef, .undef] ∧ s = st') ⟨_, rfl, rfl⟩ ?_ ?_
    · rintro j y env s nx2 hy ⟨v5, rfl, rfl⟩ hn2
      have hy2 : y < ts.length := List.mem_range.mp (List.mem_of_getElem? hy)
      have hx3 : x < tb.length := by rw [B.rows]; exact hx2
      have hy3 : y < (tb.getD x []).length := by rw [B.row x hx2]; exact hy2
      refine ⟨trivial, ?_⟩
      repeat' sizeOf_list_dec
      refine sub_map [] hst hx3 ?_
      repeat' sizeOf_list_dec
      refine sub_map [] rfl hy3 ?_
      repeat' sizeOf_list_dec
      refine sp_lot hw hi hL (B.ne x hx2 y hy2) (hlen x hx2 y hy2) (B.lt x hx2 y hy2) (B.up x hx2 y hy2) ?_
      repeat' sizeOf_list_dec
      refine br (fun h => ?_) (fun h => ?_)
      · repeat' sizeOf_list_dec
        refine sub_map [] hst hx3 ?_
        repeat' sizeOf_list_dec
        refine sub_map [] rfl hy3 ?_
        repeat' sizeOf_list_dec
        refine ne_lot (l := (tb.getD x []).getD y []) (m := [y]) ?_
        have hx0 : x = 0 := by simpa using h
        have e : (!decide ((tb.getD x []).getD y [] = [y])) = false := by rw [hx0, B.left y hy2]; simp
        repeat' sizeOf_list_dec
        refine br (fun h => ?_) (fun h => ?_)
        · repeat' sizeOf_list_dec
          refine sub_map [] hst hx3 ?_
          repeat' sizeOf_list_dec
          refine sub_map [] rfl hy3 ?_
          repeat' sizeOf_list_dec
          refine ne_lot (l := (tb.getD x []).getD y []) (m := [x]) ?_
          have hy0 : y = 0 := by simpa using h
          have e : (!decide ((tb.getD x []).getD y [] = [x])) = false := by rw [hy0, B.right x hx2]; simp
          repeat' sizeOf_list_dec
          exact hn2 _ _ ⟨_, rfl, rfl⟩
        · repeat' sizeOf_list_dec
          exact hn2 _ _ ⟨_, rfl, rfl⟩
      · repeat' sizeOf_list_dec
        refine br (fun h => ?_) (fun h => ?_)
        · repeat' sizeOf_list_dec
          refine sub_map [] hst hx3 ?_
          repeat' sizeOf_list_dec
          refine sub_map [] rfl hy3 ?_
          repeat' sizeOf_list_dec
          refine ne_lot (l := (tb.getD x []).getD y []) (m := [x]) ?_
          have hy0 : y = 0 := by simpa using h
          have e : (!decide ((tb.getD x []).getD y [] = [x])) = false := by rw [hy0, B.right x hx2]; simp
          repeat' sizeOf_list_dec
          exact hn2 _ _ ⟨_, rfl, rfl⟩
        · repeat' sizeOf_list_dec
          exact hn2 _ _ ⟨_, rfl, rfl⟩
    · rintro env s ⟨v5, rfl, rfl⟩
      refine ⟨trivial, ?_⟩
      repeat' sizeOf_list_dec
      exact hn _ _ ⟨_, _, rfl, rfl⟩
  · rintro env st' ⟨v2, v5, rfl, rfl⟩
    refine ⟨trivial, ?_⟩
    repeat' sizeOf_list_dec
    refine for_ty (List.range ts.length) nW (rangeW_nat _) (fun _ env s => ∃ v2 v5 v6, env = [.tup [tw, .tup (tb.map rowW)], nW ts.length, v2, tw, .tup (tb.map rowW), v5, v6, .undef] ∧ s = st') ⟨_, _, _, rfl, rfl⟩ ?_ ?_
    · rintro i x env s nx' hx ⟨v2, v5, v6, rfl, rfl⟩ hn
      have hx2 : x < ts.length := List.mem_range.mp (List.mem_of_getElem? hx)
      have hx3 : x < tb.length := by rw [B.rows]; exact hx2
      refine ⟨trivial, ?_⟩
      repeat' sizeOf_list_dec
      refine for_ty (List.range ts.length) nW (rangeW_nat _) (fun _ env s2 => ∃ v5 v6, env = [.tup [tw, .tup (tb.map rowW)], nW ts.length, nW x, tw, .tup (tb.map rowW), v5, v6, .undef] ∧ s2 = s) ⟨_, _, rfl, rfl⟩ ?_ ?_
      · rintro j y env s2 nx2 hy ⟨v5, v6, rfl, rfl⟩ hn2
        have hy2 : y < ts.length := List.mem_range.mp (List.mem_of_getElem? hy)
        have hy3 : y < (tb.getD x []).length := by rw [B.row x hx2]; exact hy2
        refine ⟨trivial, ?_⟩
        repeat' sizeOf_list_dec
        refine sub_map [] hst hx3 ?_
        repeat' sizeOf_list_dec
        refine sub_map [] rfl hy3 ?_
        repeat' sizeOf_list_dec
        refine comp_none ((tb.getD x []).getD y []) nW rfl rfl (Nat.le_trans (hlen x hx2 y hy2) (by decide)) (fun c hc => ⟨[.tup [tw, .tup (tb.map rowW)], nW ts.length, nW x, tw, .tup (tb.map rowW), nW y, v6, nW c], rfl, fun K q => ?_⟩) ?_
        · have hc2 := B.lt x hx2 y hy2 c hc
          obtain ⟨t1, t2⟩ := B.turn x hx2 y hy2 c hc
          have k1 : ts.getD y 0 < ts.length := B.kinds _ (getD_mem hy2)
          have k2 : ts.getD x 0 < ts.length := B.kinds _ (getD_mem hx2)
          repeat' sizeOf_list_dec
          refine sub_map [] hst (by rw [B.rows]; exact hc2) ?_
          repeat' sizeOf_list_dec
          refine sub_map 0 hs hy2 ?_
          refine sub_map [] rfl (by rw [B.row c hc2]; exact k1) ?_
          refine notin_lot ?_
          rw [decide_eq_true t1]
          repeat' sizeOf_list_dec
          refine sub_map 0 hs hx2 ?_
          refine sub_map [] hst (by rw [B.rows]; exact k2) ?_
          repeat' sizeOf_list_dec
          refine sub_map [] rfl (by rw [B.row _ k2]; exact hc2) ?_
          refine notin_lot ?_
          rw [decide_eq_true t2]
          repeat' sizeOf_list_dec
          exact q
        repeat' sizeOf_list_dec
        exact hn2 _ _ ⟨_, _, rfl, rfl⟩
      · rintro env s2 ⟨v5, v6, rfl, rfl⟩
        refine ⟨trivial, ?_⟩
        repeat' sizeOf_list_dec
        exact hn _ _ ⟨_, _, _, rfl, rfl⟩
    · rintro env s ⟨v2, v5, v6, rfl, rfl⟩
      refine ⟨trivial, ?_⟩
      repeat' sizeOf_list_dec
      exact q
end
end Ev

set_option maxRecDepth 100000
set_option maxHeartbeats 4000000
/-! PbS: the program's looks at a book. -/
namespace Ev
open PySem L2
set_option hygiene false
local macro_rules | `(tactic| array_mem_dec) => `(tactic| first | rfl | assumption | decide | omega | (focus (simp; done)))
local macro_rules | `(tactic| sizeOf_list_dec) => `(tactic| first
  | ((with_reducible apply wp_var); rfl; (first | assumption | (focus (intro h; cases h; done))))
  | (with_reducible refine wp_int ?_)
  | (with_reducible refine wpSs_cons ?_)
  | (with_reducible refine wpEs_cons ?_)
  | (with_reducible refine wpEs_nil ?_)
  | (with_reducible refine wpS_asg ?_)
  | (with_reducible refine wpS_ret ?_)
  | (with_reducible refine wpS_ite ?_)
  | (with_reducible refine wpS_for' ?_)
  | (with_reducible refine wpS_ex ?_)
  | (with_reducible refine wp_sub ?_)
  | (with_reducible refine wp_cmp ?_)
  | (with_reducible refine wp_bi ?_)
  | (with_reducible refine wp_call ?_)
  | (with_reducible refine wp_bin ?_)
  | (with_reducible refine wp_not ?_)
  | (with_reducible refine wp_isi ?_)
  | (with_reducible refine wp_meth ?_)
  | (with_reducible refine wp_tup ?_)
  | (with_reducible refine wp_lst ?_)
  | (with_reducible refine wp_band ?_)
  | (with_reducible refine wp_bor ?_)
  | (with_reducible refine wp_and1 ?_)
  | (with_reducible refine wp_and2 ?_)
  | (with_reducible refine wp_or1 ?_)
  | (with_reducible refine wp_or2 ?_)
  | (with_reducible refine wpS_asgT ?_)
  | (with_reducible refine wpS_asgS ?_)
  | (with_reducible refine wpSs_nil ?_)
  | (with_reducible refine ret_same ?_)
  | (with_reducible refine tru_bl ?_)
  | (with_reducible refine bl_of ?_)
  | ((with_reducible refine br_t ?_ ?_); (focus (first | exact rfl | assumption | (simp only [Bool.not_eq_true', Bool.not_eq_false', decide_eq_true_eq, decide_eq_false_iff_not, List.length_cons, List.length_nil, List.length_map, List.length_range]; omega))))
  | ((with_reducible refine br_f ?_ ?_); (focus (first | exact rfl | assumption | (simp only [Bool.not_eq_true', Bool.not_eq_false', decide_eq_true_eq, decide_eq_false_iff_not, List.length_cons, List.length_nil, List.length_map, List.length_range]; omega))))
  | (with_reducible refine wp_non ?_)
  | (with_reducible refine wp_bl ?_)
  | (with_reducible refine wp_str ?_)
  | (with_reducible refine wp_gfn ?_)
  | ((with_reducible apply wp_gcon); rfl)
  | (with_reducible refine wp_alloc ?_)
  | ((with_reducible refine alloc_tmp ?_); (intro _ _ hen hes; (try simp only [List.length_append, List.length_set, List.length_cons, List.length_nil, Nat.zero_add, Nat.add_assoc, Nat.reduceAdd] at hen); (try simp only [List.append_assoc, List.cons_append, List.nil_append] at hes); subst hen; subst hes))
  | ((with_reducible refine wp_dnewT ?_); (intro _ _ hen hes; (try simp only [List.length_append, List.length_set, List.length_cons, List.length_nil, Nat.zero_add, Nat.add_assoc, Nat.reduceAdd] at hen); (try simp only [List.append_assoc, List.cons_append, List.nil_append] at hes); subst hen; subst hes))
  | ((with_reducible refine wp_dnewK ?_); (intro _ _ hen hes; (try simp only [List.length_append, List.length_set, List.length_cons, List.length_nil, Nat.zero_add, Nat.add_assoc, Nat.reduceAdd] at hen); (try simp only [List.append_assoc, List.cons_append, List.nil_append] at hes); subst hen; subst hes))
  | (with_reducible refine wp_ife ?_)
  | (with_reducible refine wp_comp ?_)
  | (with_reducible refine wp_comp2 ?_)
  | (with_reducible refine wp_cmp2 ?_)
  | (with_reducible refine wp_neg ?_)
  | (with_reducible refine neg_int ?_)
  | (with_reducible refine wp_slice ?_)
  | (with_reducible refine wpO_none ?_)
  | (with_reducible refine wpO_some ?_)
  | (with_reducible refine opt_int ?_)
  | (with_reducible refine wp_rev ?_)
  | (with_reducible refine wpI_seq ?_)
  | (with_reducible refine wpI_rng1 ?_)
  | (with_reducible refine wpI_rng2 ?_)
  | (with_reducible refine wpI_enum ?_)
  | (with_reducible refine wpTs_nil ?_)
  | (with_reducible refine wpTs_one ?_)
  | (with_reducible refine wpS_par ?_)
  | (with_reducible refine wpS_pass ?_)
  | (with_reducible refine wpS_brk ?_)
  | (with_reducible refine wpS_cont ?_)
  | (with_reducible refine wpS_retN ?_)
  | (with_reducible refine wpS_tryN ?_)
  | (with_reducible refine wp_callL ?_)
  | ((with_reducible apply wp_callv); rfl; (focus (first | assumption | decide)))
  | ((with_reducible apply wp_callc); rfl)
  | ((with_reducible apply wp_callP); rfl)
  | ((with_reducible apply len_map); (focus assumption))
  | ((with_reducible apply len_w); (focus (first | rfl | assumption)))
  | ((with_reducible apply it_of); (focus (first | assumption | apply hth | rfl)); (focus (first | assumption | rfl)))
  | ((with_reducible apply eq_nil); (focus (first | rfl | assumption)))
  | ((with_reducible apply ne_nil); (focus (first | rfl | assumption)))
  | ((with_reducible refine rng1_int ?_ ?_ ?_); (focus omega); (focus omega))
  | ((with_reducible refine rng2_int ?_ ?_ ?_ ?_ ?_); (focus omega); (focus omega); (focus omega); (focus omega))
  | (with_reducible refine eq_ii ?_)
  | (with_reducible refine ne_ii ?_)
  | (with_reducible refine lt_ii ?_)
  | (with_reducible refine le_ii ?_)
  | (with_reducible refine gt_ii ?_)
  | (with_reducible refine ge_ii ?_)
  | (with_reducible refine add_ii ?_)
  | (with_reducible refine sub_ii ?_)
  | (with_reducible refine int_i ?_)
  | (with_reducible refine max_ii ?_)
  | (with_reducible refine min_ii ?_)
  | (with_reducible refine tuple_k ?_)
  | ((with_reducible apply is_non); (focus (first | rfl | assumption)))
  | ((with_reducible apply isnot_non); (focus (first | rfl | assumption)))
  | ((with_reducible apply isi_of); (focus (first | rfl | assumption)))
  | ((with_reducible refine And.intro ?_ ?_); (first | decide | (focus (simp [sizeLine]; done))); (intro _ he; (first | simp only [List.set, List.map_cons, List.map_nil, ro_int, ro_bl, ro_str, ro_non, ro_undef, ro_tup, ro_ktup, ro_lst, ro_tmp, ro_scr, ro_loc, ro_fn, hro, hro2] at he | simp only [List.set, List.map_cons, List.map_nil, ro_int, ro_bl, ro_str, ro_non, ro_undef, ro_tup, ro_ktup, ro_lst, ro_tmp, ro_scr, ro_loc, ro_fn, hro] at he | simp only [List.set, List.map_cons, List.map_nil, ro_int, ro_bl, ro_str, ro_non, ro_undef, ro_tup, ro_ktup, ro_lst, ro_tmp, ro_scr, ro_loc, ro_fn] at he | skip); subst he))
  | ((with_reducible intro _ he); (first | simp only [List.set, List.map_cons, List.map_nil, ro_int, ro_bl, ro_str, ro_non, ro_undef, ro_tup, ro_ktup, ro_lst, ro_tmp, ro_scr, ro_loc, ro_fn, hro, hro2] at he | simp only [List.set, List.map_cons, List.map_nil, ro_int, ro_bl, ro_str, ro_non, ro_undef, ro_tup, ro_ktup, ro_lst, ro_tmp, ro_scr, ro_loc, ro_fn, hro] at he | simp only [List.set, List.map_cons, List.map_nil, ro_int, ro_bl, ro_str, ro_non, ro_undef, ro_tup, ro_ktup, ro_lst, ro_tmp, ro_scr, ro_loc, ro_fn] at he | skip); subst he)
  | ((with_reducible apply bind_of); (focus ((first | simp only [bindT, bindTs, seqW, isScr, ro_int, ro_bl, ro_str, ro_non, ro_undef, ro_tup, ro_ktup, ro_lst, ro_tmp, ro_scr, ro_loc, ro_fn, hro, hro2, wipeW, List.set, List.length_cons, List.length_nil, Bool.false_eq_true, if_false, if_true, Nat.reduceAdd, Nat.reduceLT, ↓reduceIte] | simp only [bindT, bindTs, seqW, isScr, ro_int, ro_bl, ro_str, ro_non, ro_undef, ro_tup, ro_ktup, ro_lst, ro_tmp, ro_scr, ro_loc, ro_fn, hro, wipeW, List.set, List.length_cons, List.length_nil, Bool.false_eq_true, if_false, if_true, Nat.reduceAdd, Nat.reduceLT, ↓reduceIte] | simp only [bindT, bindTs, seqW, isScr, ro_int, ro_bl, ro_str, ro_non, ro_undef, ro_tup, ro_ktup, ro_lst, ro_tmp, ro_scr, ro_loc, ro_fn, wipeW, List.set, List.length_cons, List.length_nil, Bool.false_eq_true, if_false, if_true, Nat.reduceAdd, Nat.reduceLT, ↓reduceIte]); rfl)))
  | ((with_reducible apply binds_of); (focus ((first | simp only [List.map_cons, List.map_nil, bindT, bindTs, seqW, isScr, ro_int, ro_bl, ro_str, ro_non, ro_undef, ro_tup, ro_ktup, ro_lst, ro_tmp, ro_scr, ro_loc, ro_fn, hro, hro2, wipeW, List.set, List.length_cons, List.length_nil, Bool.false_eq_true, if_false, if_true, Nat.reduceAdd, Nat.reduceLT, ↓reduceIte] | simp only [List.map_cons, List.map_nil, bindT, bindTs, seqW, isScr, ro_int, ro_bl, ro_str, ro_non, ro_undef, ro_tup, ro_ktup, ro_lst, ro_tmp, ro_scr, ro_loc, ro_fn, hro, wipeW, List.set, List.length_cons, List.length_nil, Bool.false_eq_true, if_false, if_true, Nat.reduceAdd, Nat.reduceLT, ↓reduceIte] | simp only [List.map_cons, List.map_nil, bindT, bindTs, seqW, isScr, ro_int, ro_bl, ro_str, ro_non, ro_undef, ro_tup, ro_ktup, ro_lst, ro_tmp, ro_scr, ro_loc, ro_fn, wipeW, List.set, List.length_cons, List.length_nil, Bool.false_eq_true, if_false, if_true, Nat.reduceAdd, Nat.reduceLT, ↓reduceIte]); rfl))))
local macro_rules | `(tactic| array_get_dec) => `(tactic| first
  | ((with_reducible apply wp_var); rfl; (first | assumption | (focus (intro h; cases h; done))))
  | (with_reducible refine wp_int ?_)
  | (with_reducible refine wpSs_cons ?_)
  | (with_reducible refine wpEs_cons ?_)
  | (with_reducible refine wpEs_nil ?_)
  | (with_reducible refine wpS_asg ?_)
  | (with_reducible refine wpS_ret ?_)
  | (with_reducible refine wpS_ite ?_)
  | (with_reducible refine wpS_for' ?_)
  | (with_reducible refine wpS_ex ?_)
  | (with_reducible refine wp_sub ?_)
  | (with_reducible refine wp_cmp ?_)
  | (with_reducible refine wp_bi ?_)
  | (with_reducible refine wp_call ?_)
  | (with_reducible refine wp_bin ?_)
  | (with_reducible refine wp_not ?_)
  | (with_reducible refine wp_isi ?_)
  | (with_reducible refine wp_meth ?_)
  | (with_reducible refine wp_tup ?_)
  | (with_reducible refine wp_lst ?_)
  | (with_reducible refine wp_and1 ?_)
  | (with_reducible refine wp_and2 ?_)
  | (with_reducible refine wp_or1 ?_)
  | (with_reducible refine wp_or2 ?_)
  | (with_reducible refine wpS_asgT ?_)
  | (with_reducible refine wpS_asgS ?_)
  | (with_reducible refine wpSs_nil ?_)
  | (with_reducible refine ret_same ?_)
  | (with_reducible refine tru_bl ?_)
  | (with_reducible refine bl_of ?_)
  | ((with_reducible refine br_t ?_ ?_); (focus (first | exact rfl | assumption | (simp only [Bool.not_eq_true', Bool.not_eq_false', decide_eq_true_eq, decide_eq_false_iff_not, List.length_cons, List.length_nil, List.length_map, List.length_range]; omega))))
  | ((with_reducible refine br_f ?_ ?_); (focus (first | exact rfl | assumption | (simp only [Bool.not_eq_true', Bool.not_eq_false', decide_eq_true_eq, decide_eq_false_iff_not, List.length_cons, List.length_nil, List.length_map, List.length_range]; omega))))
  | (with_reducible refine wp_non ?_)
  | (with_reducible refine wp_bl ?_)
  | (with_reducible refine wp_str ?_)
  | (with_reducible refine wp_gfn ?_)
  | ((with_reducible apply wp_gcon); rfl)
  | (with_reducible refine wp_alloc ?_)
  | ((with_reducible refine alloc_tmp ?_); (intro _ _ hen hes; (try simp only [List.length_append, List.length_set, List.length_cons, List.length_nil, Nat.zero_add, Nat.add_assoc, Nat.reduceAdd] at hen); (try simp only [List.append_assoc, List.cons_append, List.nil_append] at hes); subst hen; subst hes))
  | ((with_reducible refine wp_dnewT ?_); (intro _ _ hen hes; (try simp only [List.length_append, List.length_set, List.length_cons, List.length_nil, Nat.zero_add, Nat.add_assoc, Nat.reduceAdd] at hen); (try simp only [List.append_assoc, List.cons_append, List.nil_append] at hes); subst hen; subst hes))
  | ((with_reducible refine wp_dnewK ?_); (intro _ _ hen hes; (try simp only [List.length_append, List.length_set, List.length_cons, List.length_nil, Nat.zero_add, Nat.add_assoc, Nat.reduceAdd] at hen); (try simp only [List.append_assoc, List.cons_append, List.nil_append] at hes); subst hen; subst hes))
  | (with_reducible refine wp_ife ?_)
  | (with_reducible refine wp_comp ?_)
  | (with_reducible refine wp_comp2 ?_)
  | (with_reducible refine wp_cmp2 ?_)
  | (with_reducible refine wp_neg ?_)
  | (with_reducible refine neg_int ?_)
  | (with_reducible refine wp_slice ?_)
  | (with_reducible refine wpO_none ?_)
  | (with_reducible refine wpO_some ?_)
  | (with_reducible refine opt_int ?_)
  | (with_reducible refine wp_rev ?_)
  | (with_reducible refine wpI_seq ?_)
  | (with_reducible refine wpI_rng1 ?_)
  | (with_reducible refine wpI_rng2 ?_)
  | (with_reducible refine wpI_enum ?_)
  | (with_reducible refine wpTs_nil ?_)
  | (with_reducible refine wpTs_one ?_)
  | (with_reducible refine wpS_par ?_)
  | (with_reducible refine wpS_pass ?_)
  | (with_reducible refine wpS_brk ?_)
  | (with_reducible refine wpS_cont ?_)
  | (with_reducible refine wpS_retN ?_)
  | (with_reducible refine wpS_tryN ?_)
  | (with_reducible refine wp_callL ?_)
  | ((with_reducible apply wp_callv); rfl; (focus (first | assumption | decide)))
  | ((with_reducible apply wp_callc); rfl)
  | ((with_reducible apply wp_callP); rfl)
  | ((with_reducible apply len_map); (focus assumption))
  | ((with_reducible apply len_w); (focus (first | rfl | assumption)))
  | ((with_reducible apply it_of); (focus (first | assumption | apply hth | rfl)); (focus (first | assumption | rfl)))
  | ((with_reducible apply eq_nil); (focus (first | rfl | assumption)))
  | ((with_reducible apply ne_nil); (focus (first | rfl | assumption)))
  | ((with_reducible refine rng1_int ?_ ?_ ?_); (focus omega); (focus omega))
  | ((with_reducible refine rng2_int ?_ ?_ ?_ ?_ ?_); (focus omega); (focus omega); (focus omega); (focus omega))
  | (with_reducible refine eq_ii ?_)
  | (with_reducible refine ne_ii ?_)
  | (with_reducible refine lt_ii ?_)
  | (with_reducible refine le_ii ?_)
  | (with_reducible refine gt_ii ?_)
  | (with_reducible refine ge_ii ?_)
  | (with_reducible refine add_ii ?_)
  | (with_reducible refine sub_ii ?_)
  | (with_reducible refine int_i ?_)
  | (with_reducible refine max_ii ?_)
  | (with_reducible refine min_ii ?_)
  | (with_reducible refine tuple_k ?_)
  | ((with_reducible apply is_non); (focus (first | rfl | assumption)))
  | ((with_reducible apply isnot_non); (focus (first | rfl | assumption)))
  | ((with_reducible apply isi_of); (focus (first | rfl | assumption)))
  | ((with_reducible refine And.intro ?_ ?_); (first | decide | (focus (simp [sizeLine]; done))); (intro _ he; (first | simp only [List.set, List.map_cons, List.map_nil, ro_int, ro_bl, ro_str, ro_non, ro_undef, ro_tup, ro_ktup, ro_lst, ro_tmp, ro_scr, ro_loc, ro_fn, hro, hro2] at he | simp only [List.set, List.map_cons, List.map_nil, ro_int, ro_bl, ro_str, ro_non, ro_undef, ro_tup, ro_ktup, ro_lst, ro_tmp, ro_scr, ro_loc, ro_fn, hro] at he | simp only [List.set, List.map_cons, List.map_nil, ro_int, ro_bl, ro_str, ro_non, ro_undef, ro_tup, ro_ktup, ro_lst, ro_tmp, ro_scr, ro_loc, ro_fn] at he | skip); subst he))
  | ((with_reducible intro _ he); (first | simp only [List.set, List.map_cons, List.map_nil, ro_int, ro_bl, ro_str, ro_non, ro_undef, ro_tup, ro_ktup, ro_lst, ro_tmp, ro_scr, ro_loc, ro_fn, hro, hro2] at he | simp only [List.set, List.map_cons, List.map_nil, ro_int, ro_bl, ro_str, ro_non, ro_undef, ro_tup, ro_ktup, ro_lst, ro_tmp, ro_scr, ro_loc, ro_fn, hro] at he | simp only [List.set, List.map_cons, List.map_nil, ro_int, ro_bl, ro_str, ro_non, ro_undef, ro_tup, ro_ktup, ro_lst, ro_tmp, ro_scr, ro_loc, ro_fn] at he | skip); subst he)
  | ((with_reducible apply bind_of); (focus ((first | simp only [bindT, bindTs, seqW, isScr, ro_int, ro_bl, ro_str, ro_non, ro_undef, ro_tup, ro_ktup, ro_lst, ro_tmp, ro_scr, ro_loc, ro_fn, hro, hro2, wipeW, List.set, List.length_cons, List.length_nil, Bool.false_eq_true, if_false, if_true, Nat.reduceAdd, Nat.reduceLT, ↓reduceIte] | simp only [bindT, bindTs, seqW, isScr, ro_int, ro_bl, ro_str, ro_non, ro_undef, ro_tup, ro_ktup, ro_lst, ro_tmp, ro_scr, ro_loc, ro_fn, hro, wipeW, List.set, List.length_cons, List.length_nil, Bool.false_eq_true, if_false, if_true, Nat.reduceAdd, Nat.reduceLT, ↓reduceIte] | simp only [bindT, bindTs, seqW, isScr, ro_int, ro_bl, ro_str, ro_non, ro_undef, ro_tup, ro_ktup, ro_lst, ro_tmp, ro_scr, ro_loc, ro_fn, wipeW, List.set, List.length_cons, List.length_nil, Bool.false_eq_true, if_false, if_true, Nat.reduceAdd, Nat.reduceLT, ↓reduceIte]); rfl)))
  | ((with_reducible apply binds_of); (focus ((first | simp only [List.map_cons, List.map_nil, bindT, bindTs, seqW, isScr, ro_int, ro_bl, ro_str, ro_non, ro_undef, ro_tup, ro_ktup, ro_lst, ro_tmp, ro_scr, ro_loc, ro_fn, hro, hro2, wipeW, List.set, List.length_cons, List.length_nil, Bool.false_eq_true, if_false, if_true, Nat.reduceAdd, Nat.reduceLT, ↓reduceIte] | simp only [List.map_cons, List.map_nil, bindT, bindTs, seqW, isScr, ro_int, ro_bl, ro_str, ro_non, ro_undef, ro_tup, ro_ktup, ro_lst, ro_tmp, ro_scr, ro_loc, ro_fn, hro, wipeW, List.set, List.length_cons, List.length_nil, Bool.false_eq_true, if_false, if_true, Nat.reduceAdd, Nat.reduceLT, ↓reduceIte] | simp only [List.map_cons, List.map_nil, bindT, bindTs, seqW, isScr, ro_int, ro_bl, ro_str, ro_non, ro_undef, ro_tup, ro_ktup, ro_lst, ro_tmp, ro_scr, ro_loc, ro_fn, wipeW, List.set, List.length_cons, List.length_nil, Bool.false_eq_true, if_false, if_true, Nat.reduceAdd, Nat.reduceLT, ↓reduceIte]); rfl))))
def gUnturned : Fn := ⟨"first_unturned", 2, false, 7, [
  .for_ (.tup [.nm 2, .nm 3]) (.enum (.var 1)) [.for_ (.tup [.nm 4, .nm 5]) (.enum (.var 3)) [.for_ (.nm 6) (.seq (.var 5)) [.ite (.bor [.cmp .NotIn (.var 2) (.sub (.sub (.var 1) (.var 6)) (.sub (.var 0) (.var 4))), .cmp .NotIn (.var 4) (.sub (.sub (.var 1) (.sub (.var 0) (.var 2))) (.var 6))]) [.ret (.tup [.var 2, .var 4, .var 6])] []]]],
  .ret (.non)]⟩
def gWholeIn : Fn := ⟨"whole_in", 3, false, 3, [
  .ret (.band [.isi (.var 0) .tInt, .not (.isi (.var 0) .tBool), .cmp2 .LtE .LtE (.var 1) (.var 0) (.var 2)])]⟩
def gTurns (mk wi : Nat) : Fn := ⟨"are_turns", 1, false, 3, [
  .ite (.bor [.not (.isi (.var 0) .tTuple), .not (.cmp2 .LtE .LtE (.int 1) (.bi .len [.var 0]) (.gcon mk))]) [.ret (.bl false)] [],
  .ite (.not (.bi .all [.comp [("kind", 1)] (.call wi [.var 1, .int 0, .bin .Sub (.bi .len [.var 0]) (.int 1)]) (.nm 1) (.seq (.var 0)) []])) [.ret (.bl false)] [],
  .ret (.band [.cmp .Eq (.sub (.var 0) (.int 0)) (.int 0), .bi .all [.comp [("kind", 1), ("turn", 2)] (.cmp .Eq (.sub (.var 0) (.var 2)) (.var 1)) (.tup [.nm 1, .nm 2]) (.enum (.var 0)) []]])]⟩
def gSquare : Fn := ⟨"is_square", 2, false, 3, [
  .ite (.bor [.not (.isi (.var 0) .tTuple), .cmp .NotEq (.bi .len [.var 0]) (.var 1)]) [.ret (.bl false)] [],
  .ret (.bi .all [.comp [("row", 2)] (.band [.isi (.var 2) .tTuple, .cmp .Eq (.bi .len [.var 2]) (.var 1)]) (.nm 2) (.seq (.var 0)) []])]⟩
def gLotWhat (wi : Nat) : Fn := ⟨"lot_what", 2, false, 5, [
  .ite (.bor [.not (.isi (.var 0) .tTuple), .cmp .Eq (.var 0) (.tup [])]) [.ret (.neg (.int 1))] [],
  .asg 2 (.neg (.int 1)),
  .for_ (.tup [.nm 3, .nm 4]) (.enum (.var 0)) [.ite (.not (.call wi [.var 4, .bin .Add (.var 2) (.int 1), .bin .Sub (.var 1) (.int 1)])) [.ret (.var 3)] [], .asg 2 (.var 4)],
  .ret (.non)]⟩
def gIsLot (lw : Nat) : Fn := ⟨"is_lot", 2, false, 2, [
  .ret (.cmp .Is (.call lw [.var 0, .var 1]) (.non))]⟩
def gEntry (il : Nat) : Fn := ⟨"is_entry", 4, false, 4, [
  .ite (.not (.call il [.var 0, .var 1])) [.ret (.bl false)] [],
  .ret (.band [.bor [.cmp .Gt (.var 2) (.int 0), .cmp .Eq (.var 0) (.tup [.var 3])], .bor [.cmp .Gt (.var 3) (.int 0), .cmp .Eq (.var 0) (.tup [.var 2])]])]⟩
def gWrong (t s e u : Nat) : Fn := ⟨"wrong_of", 1, false, 8, [
  .ite (.bor [.not (.isi (.var 0) .tTuple), .cmp .NotEq (.bi .len [.var 0]) (.int 2)]) [.ret (.neg (.int 1))] [],
  .asgT (.tup [.nm 2, .nm 3]) (.var 0),
  .ite (.not (.call t [.var 2])) [.ret (.int 0)] [],
  .asg 1 (.bi .len [.var 2]),
  .ite (.not (.call s [.var 3, .var 1])) [.ret (.int 1)] [],
  .for_ (.tup [.nm 4, .nm 5]) (.enum (.var 3)) [.for_ (.tup [.nm 6, .nm 7]) (.enum (.var 5)) [.ite (.not (.call e [.var 7, .var 1, .var 4, .var 6])) [.ret (.tup [.var 4, .var 6])] []]],
  .ret (.call u [.var 2, .var 3])]⟩
def gIsBook (w : Nat) : Fn := ⟨"is_book", 1, false, 1, [
  .ret (.cmp .Is (.call w [.var 0]) (.non))]⟩
theorem enumW_map {α : Type} (f : α → W) (xs : List α) : enumW (xs.map f) = xs.zipIdx.map fun p => .tup [nW p.2, f p.1] := by
  unfold enumW
  rw [List.zipIdx_map, List.map_map]
  rfl
theorem zipIdx_at {α : Type} {xs : List α} {i : Nat} {p : α × Nat} (h : xs.zipIdx[i]? = some p) : p.2 = i ∧ xs[i]? = some p.1 := by
  rw [List.getElem?_zipIdx] at h
  obtain ⟨x, hx, rfl⟩ := Option.map_eq_some_iff.mp h
  exact ⟨by simp, hx⟩
theorem all_w {st : Store} {Q : Post} {bs : List Bool} (q : Q (.bl (bs.all id)) st) : biW st .all [.tmp (bs.map .bl)] Q := by
  refine ⟨bs.map .bl, bs, rfl, ?_, q⟩
  clear q
  induction bs with
  | nil => rfl
  | cons b bs ih => simp only [List.map_cons, allBl, ih, Option.map_some]
theorem all_true {α : Type} {st : Store} {Q : Post} {xs : List α} (q : Q (.bl true) st) : biW st .all [.tmp (xs.map fun _ => .bl true)] Q := by
  have e : (xs.map fun _ => W.bl true) = (xs.map fun _ => true).map .bl := by rw [List.map_map]; rfl
  rw [e]
  refine all_w ?_
  rw [show (xs.map fun _ => true).all id = true by simp]
  exact q
section
variable {P : Prog} {d : Nat} {st : Store} {Q : Post} {X : XPost}
theorem sp_wholein {g : Nat} {i lo hi : Int} (hf : P.fns[g]? = some gWholeIn) (q : Q (.bl (decide (lo ≤ i ∧ i ≤ hi))) st) : (callW P (d + 1)).fn g none [.int i, .int lo, .int hi] st Q X := by
  refine fn_in (env := [.int i, .int lo, .int hi]) hf rfl rfl rfl ?_
  dsimp only [gWholeIn]
  repeat' sizeOf_list_dec
  refine br (fun h => ?_) (fun h => ?_)
  · repeat' sizeOf_list_dec
    simp only [decide_eq_true_eq] at h
    have e : decide (lo ≤ i ∧ i ≤ hi) = decide (i ≤ hi) := by simp [h]
    rw [← e]; exact q
  · repeat' sizeOf_list_dec
    simp only [decide_eq_false_iff_not] at h
    have e : decide (lo ≤ i ∧ i ≤ hi) = false := by simp [h]
    rw [← e]; exact q
theorem sp_gturns {mk wi g : Nat} {ts : List Nat} {tw : W} {nm : Str} (hc : P.cons[mk]? = some (nm, .int 13)) (hi : P.fns[wi]? = some gWholeIn) (hf : P.fns[g]? = some (gTurns mk wi)) (ht : tupW tw = some (ts.map nW)) (h1 : 1 ≤ ts.length) (h2 : ts.length ≤ 13)
    (hk : ∀ k ∈ ts, k < ts.length) (h0 : ts.getD 0 0 = 0) (hb : ∀ k < ts.length, ts.getD (ts.getD k 0) 0 = k) (q : Q (.bl true) st) : (callW P (d + 2)).fn g none [tw] st Q X := by
  have hs : seqW st tw = some (ts.map nW) := tup_seq ht
  have hsc : isScr tw = false := by rcases tup_or ht with rfl | rfl <;> rfl
  have his : isiF st tw .tTuple = some true := by rcases tup_or ht with rfl | rfl <;> rfl
  have hu : tw ≠ .undef := by rcases tup_or ht with rfl | rfl <;> (intro h; cases h)
  refine fn_in (env := [tw, .undef, .undef]) hf rfl rfl rfl ?_
  dsimp only [gTurns]
  repeat' sizeOf_list_dec
  refine wp_gcon hc ?_
  repeat' sizeOf_list_dec
  refine comp_all ts nW (fun _ => .bl true) rfl hs (by simp [sizeLine]; omega) (fun k hkm => ⟨[tw, nW k, .undef], rfl, fun K q => ?_⟩) ?_
  · repeat' sizeOf_list_dec
    refine sp_wholein hi ?_
    have : decide ((0 : Int) ≤ (k : Nat) ∧ ((k : Nat) : Int) ≤ (ts.length : Nat) - 1) = true := by have := hk k hkm; simp; omega
    rw [this]
    exact q _ rfl
  repeat' sizeOf_list_dec
  refine all_true ?_
  repeat' sizeOf_list_dec
  refine sub_map (k := 0) 0 hs (by omega) ?_
  rw [h0]
  repeat' sizeOf_list_dec
  refine comp_all ts.zipIdx (fun p => .tup [nW p.2, nW p.1]) (fun _ => .bl true) (enumW_map _ _) hs (by simp [sizeLine]; omega) (fun p hp => ⟨[tw, nW p.2, nW p.1], rfl, fun K q => ?_⟩) ?_
  · obtain ⟨j, hj⟩ := List.mem_iff_getElem?.mp hp
    obtain ⟨e1, e2⟩ := zipIdx_at hj
    have hlt := (List.getElem?_eq_some_iff.mp e2).1
    have hp1 : p.1 = ts.getD p.2 0 := by rw [e1, List.getD_eq_getElem?_getD, e2]; rfl
    have hm : p.1 ∈ ts := List.mem_of_getElem? e2
    repeat' sizeOf_list_dec
    refine sub_map 0 hs (hk _ hm) ?_
    rw [hp1, hb p.2 (by rw [e1]; exact hlt)]
    repeat' sizeOf_list_dec
    exact q _ (by simp [ro])
  repeat' sizeOf_list_dec
  refine all_true ?_
  repeat' sizeOf_list_dec
  exact q
theorem sp_gsquare {g : Nat} {m : Nat} {tb : List (List (List Nat))} (hf : P.fns[g]? = some gSquare) (hm : m ≤ 1000) (hl : tb.length = m) (hr : ∀ r ∈ tb, r.length = m) (q : Q (.bl true) st) : (callW P (d + 1)).fn g none [.tup (tb.map rowW), nW m] st Q X := by
  refine fn_in (env := [.tup (tb.map rowW), nW m, .undef]) hf rfl rfl rfl ?_
  dsimp only [gSquare]
  have hs : seqW st (.tup (tb.map rowW)) = some (tb.map rowW) := rfl
  repeat' sizeOf_list_dec
  refine comp_all tb rowW (fun _ => .bl true) rfl hs (by simp [sizeLine]; omega) (fun r hr2 => ⟨[.tup (tb.map rowW), nW m, rowW r], rfl, fun K q => ?_⟩) ?_
  · have hs2 : seqW st (rowW r) = some (r.map lotW) := rfl
    have := hr r hr2
    repeat' sizeOf_list_dec
    exact q _ (by simp [ro, this])
  repeat' sizeOf_list_dec
  refine all_true ?_
  repeat' sizeOf_list_dec
  exact q
theorem sp_glotwhat {wi g : Nat} {m : Nat} {l : List Nat} (hi : P.fns[wi]? = some gWholeIn) (hf : P.fns[g]? = some (gLotWhat wi)) (hn : l ≠ []) (hk : ∀ k ∈ l, k < m) (hp : l.Pairwise (· < ·)) (q : Q .non st) : (callW P (d + 2)).fn g none [lotW l, nW m] st Q X := by
  refine fn_in (env := [lotW l, nW m, .undef, .undef, .undef]) hf rfl rfl rfl ?_
  dsimp only [gLotWhat]
  have e0 : decide (l = []) = false := by simpa using hn
  repeat' sizeOf_list_dec
  refine eq_lot (l := l) (m := []) ?_
  repeat' sizeOf_list_dec
  refine for_ty l.zipIdx (fun p => .tup [nW p.2, nW p.1]) (enumW_map _ _) (fun i env s => ∃ v2 v3 v4, env = [lotW l, nW m, .int v2, v3, v4] ∧ s = st ∧ ∀ (h : i < l.length), v2 < l.getD i 0) ⟨-1, _, _, rfl, rfl, fun _ => by omega⟩ ?_ ?_
  · rintro i ⟨x, y⟩ env s nx' hx ⟨v2, v3, v4, rfl, rfl, hv⟩ hn2
    obtain ⟨e1, e2⟩ := zipIdx_at hx
    obtain rfl : y = i := e1
    have e2 : l[y]? = some x := e2
    have hlt := (List.getElem?_eq_some_iff.mp e2).1
    have hx1 : l.getD y 0 = x := by rw [List.getD_eq_getElem?_getD, e2]; rfl
    have hv2 := hv hlt
    rw [hx1] at hv2
    have hm := hk x (List.mem_of_getElem? e2)
    refine ⟨rfl, ?_⟩
    repeat' sizeOf_list_dec
    refine sp_wholein hi ?_
    have : decide (v2 + 1 ≤ ((x : Nat) : Int) ∧ ((x : Nat) : Int) ≤ (m : Nat) - 1) = true := by simp; omega
    rw [this]
    repeat' sizeOf_list_dec
    refine hn2 _ _ ⟨_, _, _, rfl, rfl, fun h => ?_⟩
    have e3 := (List.getElem?_eq_some_iff.mp e2).2
    have := List.pairwise_iff_getElem.mp hp y (y + 1) hlt h (by omega)
    rw [List.getD_eq_getElem?_getD, List.getElem?_eq_getElem h]
    show ((x : Nat) : Int) < ((l[y + 1] : Nat) : Int)
    rw [e3] at this
    omega
  · rintro env s ⟨v2, v3, v4, rfl, rfl, _⟩
    refine ⟨rfl, ?_⟩
    repeat' sizeOf_list_dec
    exact q
theorem sp_gislot {wi lw g : Nat} {m : Nat} {l : List Nat} (hi : P.fns[wi]? = some gWholeIn) (hw : P.fns[lw]? = some (gLotWhat wi)) (hf : P.fns[g]? = some (gIsLot lw)) (hn : l ≠ []) (hk : ∀ k ∈ l, k < m) (hp : l.Pairwise (· < ·)) (q : Q (.bl true) st) : (callW P (d + 3)).fn g none [lotW l, nW m] st Q X := by
  refine fn_in (env := [lotW l, nW m]) hf rfl rfl rfl ?_
  dsimp only [gIsLot]
  repeat' sizeOf_list_dec
  refine sp_glotwhat hi hw hn hk hp ?_
  repeat' sizeOf_list_dec
  exact q
theorem sp_gentry {wi lw il g : Nat} {m a b : Nat} {l : List Nat} (hi : P.fns[wi]? = some gWholeIn) (hw : P.fns[lw]? = some (gLotWhat wi)) (hil : P.fns[il]? = some (gIsLot lw)) (hf : P.fns[g]? = some (gEntry il)) (hn : l ≠ []) (hk : ∀ k ∈ l, k < m) (hp : l.Pairwise (· < ·)) (ha : a = 0 → l = [b]) (hb : b = 0 → l = [a]) (q : Q (.bl true) st) : (callW P (d + 4)).fn g none [lotW l, nW m, nW a, nW b] st Q X := by
  refine fn_in (env := [lotW l, nW m, nW a, nW b]) hf rfl rfl rfl ?_
  dsimp only [gEntry]
  repeat' sizeOf_list_dec
  refine sp_gislot hi hw hil hn hk hp ?_
  have two : b = 0 → decide (l = [a]) = true := fun h => by simpa using hb h
  have one : a = 0 → decide (l = [b]) = true := fun h => by simpa using ha h
  repeat' sizeOf_list_dec
  refine br (fun h => ?_) (fun h => ?_)
  · repeat' sizeOf_list_dec
    refine br (fun h => ret_same q) (fun h => ?_)
    repeat' sizeOf_list_dec
    refine eq_lot (l := l) (m := [a]) ?_
    rw [two (by simp only [decide_eq_false_iff_not] at h; omega)]
    exact ret_same q
  · repeat' sizeOf_list_dec
    refine eq_lot (l := l) (m := [b]) ?_
    rw [one (by simp only [decide_eq_false_iff_not] at h; omega)]
    repeat' sizeOf_list_dec
    refine br (fun h => ret_same q) (fun h => ?_)
    repeat' sizeOf_list_dec
    refine eq_lot (l := l) (m := [a]) ?_
    rw [two (by simp only [decide_eq_false_iff_not] at h; omega)]
    exact ret_same q
theorem sp_gunturned {g : Nat} {ts : List Nat} {tb : List (List (List Nat))} {tw : W} (hf : P.fns[g]? = some gUnturned) (ht : tupW tw = some (ts.map nW)) (B : IsBook ts tb) (q : Q .non st) : (callW P (d + 1)).fn g none [tw, .tup (tb.map rowW)] st Q X := by
  have hs : seqW st tw = some (ts.map nW) := tup_seq ht
  have hu : tw ≠ .undef := by rcases tup_or ht with rfl | rfl <;> (intro h; cases h)
  have hro : ro tw = tw := by rcases tup_or ht with rfl | rfl <;> rfl
  have hst : seqW st (.tup (tb.map rowW)) = some (tb.map rowW) := rfl
  refine fn_in (env := [tw, .tup (tb.map rowW), .undef, .undef, .undef, .undef, .undef]) hf rfl rfl rfl ?_
  dsimp only [gUnturned]
  repeat' sizeOf_list_dec
  refine for_ty tb.zipIdx (fun p => .tup [nW p.2, rowW p.1]) (enumW_map _ _) (fun i env s => ∃ v2 v3 v4 v5 v6, env = [tw, .tup (tb.map rowW), v2, v3, v4, v5, v6] ∧ s = st) ⟨_, _, _, _, _, rfl, rfl⟩ ?_ ?_
  · rintro i ⟨r, y⟩ env s nx' hx ⟨v2, v3, v4, v5, v6, rfl, rfl⟩ hn
    obtain ⟨e1, e2⟩ := zipIdx_at hx
    obtain rfl : y = i := e1
    have e2 : tb[y]? = some r := e2
    have hy : y < tb.length := (List.getElem?_eq_some_iff.mp e2).1
    have hy2 : y < ts.length := by rw [← B.rows]; exact hy
    have hr : tb.getD y [] = r := by rw [List.getD_eq_getElem?_getD, e2]; rfl
    refine ⟨rfl, ?_⟩
    repeat' sizeOf_list_dec
    refine for_ty r.zipIdx (fun p => .tup [nW p.2, lotW p.1]) (enumW_map _ _) (fun i env s2 => ∃ v4 v5 v6, env = [tw, .tup (tb.map rowW), nW y, rowW r, v4, v5, v6] ∧ s2 = s) ⟨_, _, _, rfl, rfl⟩ ?_ ?_
    · rintro i ⟨l, z⟩ env s2 nx2 hx ⟨v4, v5, v6, rfl, rfl⟩ hn2
      obtain ⟨e1, e3⟩ := zipIdx_at hx
      obtain rfl : z = i := e1
      have e3 : r[z]? = some l := e3
      have hz : z < r.length := (List.getElem?_eq_some_iff.mp e3).1
      have hz2 : z < ts.length := by rw [← B.row y hy2, hr]; exact hz
      have hl : (tb.getD y []).getD z [] = l := by rw [hr, List.getD_eq_getElem?_getD, e3]; rfl
      refine ⟨rfl, ?_⟩
      repeat' sizeOf_list_dec
      refine for_ty l nW rfl (fun i env s3 => ∃ v6, env = [tw, .tup (tb.map rowW), nW y, rowW r, nW z, lotW l, v6] ∧ s3 = s2) ⟨_, rfl, rfl⟩ ?_ ?_
      · rintro i c env s3 nx3 hx ⟨v6, rfl, rfl⟩ hn3
        have hc : c ∈ (tb.getD y []).getD z [] := by rw [hl]; exact List.mem_of_getElem? hx
        have hc2 := B.lt y hy2 z hz2 c hc
        obtain ⟨t1, t2⟩ := B.turn y hy2 z hz2 c hc
        have k1 : ts.getD z 0 < ts.length := B.kinds _ (getD_mem hz2)
        have k2 : ts.getD y 0 < ts.length := B.kinds _ (getD_mem hy2)
        refine ⟨rfl, ?_⟩
        repeat' sizeOf_list_dec
        refine sub_map [] hst (by rw [B.rows]; exact hc2) ?_
        repeat' sizeOf_list_dec
        refine sub_map 0 hs hz2 ?_
        refine sub_map [] rfl (by rw [B.row c hc2]; exact k1) ?_
        refine notin_lot ?_
        rw [decide_eq_true t1]
        repeat' sizeOf_list_dec
        refine sub_map 0 hs hy2 ?_
        refine sub_map [] hst (by rw [B.rows]; exact k2) ?_
        repeat' sizeOf_list_dec
        refine sub_map [] rfl (by rw [B.row _ k2]; exact hc2) ?_
        refine notin_lot ?_
        rw [decide_eq_true t2]
        repeat' sizeOf_list_dec
        exact hn3 _ _ ⟨_, rfl, rfl⟩
      · rintro env s3 ⟨v6, rfl, rfl⟩
        refine ⟨rfl, ?_⟩
        repeat' sizeOf_list_dec
        exact hn2 _ _ ⟨_, _, _, rfl, rfl⟩
    · rintro env s2 ⟨v4, v5, v6, rfl, rfl⟩
      refine ⟨rfl, ?_⟩
      repeat' sizeOf_list_dec
      exact hn _ _ ⟨_, _, _, _, _, rfl, rfl⟩
  · rintro env s ⟨v2, v3, v4, v5, v6, rfl, rfl⟩
    refine ⟨rfl, ?_⟩
    repeat' sizeOf_list_dec
    exact q
/-- the defs that look at a book, at their places -/
structure BookFns0 (P : Prog) (mk wi lw il t s e u g : Nat) : Prop where
  c0 : ∃ nm, P.cons[mk]? = some (nm, .int 13)
  c1 : P.fns[wi]? = some gWholeIn
  c2 : P.fns[lw]? = some (gLotWhat wi)
  c3 : P.fns[il]? = some (gIsLot lw)
  c4 : P.fns[t]? = some (gTurns mk wi)
  c5 : P.fns[s]? = some gSquare
  c6 : P.fns[e]? = some (gEntry il)
  c7 : P.fns[u]? = some gUnturned
  c8 : P.fns[g]? = some (gWrong t s e u)
structure BookFns (P : Prog) (mk wi lw il t s e u g b : Nat) : Prop where
  b0 : BookFns0 P mk wi lw il t s e u g
  c9 : P.fns[b]? = some (gIsBook g)
theorem sp_gwrong {mk wi lw il t s e u g : Nat} {ts : List Nat} {tb : List (List (List Nat))} {tw : W} (F : BookFns0 P mk wi lw il t s e u g) (ht : tupW tw = some (ts.map nW)) (B : IsBook ts tb) (q : Q .non st) : (callW P (d + 5)).fn g none [.tup [tw, .tup (tb.map rowW)]] st Q X := by
  have hs : seqW st tw = some (ts.map nW) := tup_seq ht
  have hu : tw ≠ .undef := by rcases tup_or ht with rfl | rfl <;> (intro h; cases h)
  have hro : ro tw = tw := by rcases tup_or ht with rfl | rfl <;> rfl
  have hst : seqW st (.tup (tb.map rowW)) = some (tb.map rowW) := rfl
  have hlo := B.len1
  have hhi := B.len2
  have hrows : ∀ r ∈ tb, r.length = ts.length := fun r hr => by
    obtain ⟨n, hn, rfl⟩ := List.getElem_of_mem hr
    have := B.row n (by rw [← B.rows]; exact hn)
    rwa [List.getD_eq_getElem?_getD, List.getElem?_eq_getElem hn] at this
  refine fn_in (env := [.tup [tw, .tup (tb.map rowW)], .undef, .undef, .undef, .undef, .undef, .undef, .undef]) F.c8 rfl rfl rfl ?_
  dsimp only [gWrong]
  repeat' sizeOf_list_dec
  obtain ⟨nm, hc⟩ := F.c0
  refine sp_gturns hc F.c1 F.c4 ht hlo hhi B.kinds B.zero B.back ?_
  repeat' sizeOf_list_dec
  refine sp_gsquare F.c5 (by omega) B.rows hrows ?_
  repeat' sizeOf_list_dec
  refine for_ty tb.zipIdx (fun p => .tup [nW p.2, rowW p.1]) (enumW_map _ _) (fun i env s => ∃ v4 v5 v6 v7, env = [.tup [tw, .tup (tb.map rowW)], nW ts.length, tw, .tup (tb.map rowW), v4, v5, v6, v7] ∧ s = st) ⟨_, _, _, _, rfl, rfl⟩ ?_ ?_
  · rintro i ⟨r, y⟩ env s nx' hx ⟨v4, v5, v6, v7, rfl, rfl⟩ hn
    obtain ⟨e1, e2⟩ := zipIdx_at hx
    obtain rfl : y = i := e1
    have e2 : tb[y]? = some r := e2
    have hy : y < tb.length := (List.getElem?_eq_some_iff.mp e2).1
    have hy2 : y < ts.length := by rw [← B.rows]; exact hy
    have hr : tb.getD y [] = r := by rw [List.getD_eq_getElem?_getD, e2]; rfl
    refine ⟨rfl, ?_⟩
    repeat' sizeOf_list_dec
    refine for_ty r.zipIdx (fun p => .tup [nW p.2, lotW p.1]) (enumW_map _ _) (fun i env s2 => ∃ v6 v7, env = [.tup [tw, .tup (tb.map rowW)], nW ts.length, tw, .tup (tb.map rowW), nW y, rowW r, v6, v7] ∧ s2 = s) ⟨_, _, rfl, rfl⟩ ?_ ?_
    · rintro i ⟨l, z⟩ env s2 nx2 hx ⟨v6, v7, rfl, rfl⟩ hn2
      obtain ⟨e1, e3⟩ := zipIdx_at hx
      obtain rfl : z = i := e1
      have e3 : r[z]? = some l := e3
      have hz : z < r.length := (List.getElem?_eq_some_iff.mp e3).1
      have hz2 : z < ts.length := by rw [← B.row y hy2, hr]; exact hz
      have hl : (tb.getD y []).getD z [] = l := by rw [hr, List.getD_eq_getElem?_getD, e3]; rfl
      refine ⟨rfl, ?_⟩
      repeat' sizeOf_list_dec
      refine sp_gentry F.c1 F.c2 F.c3 F.c6 (by rw [← hl]; exact B.ne y hy2 z hz2) (by rw [← hl]; exact B.lt y hy2 z hz2) (by rw [← hl]; exact B.up y hy2 z hz2) (fun h => by rw [← hl, h]; exact B.left z hz2) (fun h => by rw [← hl, h]; exact B.right y hy2) ?_
      repeat' sizeOf_list_dec
      exact hn2 _ _ ⟨_, _, rfl, rfl⟩
    · rintro env s2 ⟨v6, v7, rfl, rfl⟩
      refine ⟨rfl, ?_⟩
      repeat' sizeOf_list_dec
      exact hn _ _ ⟨_, _, _, _, rfl, rfl⟩
  · rintro env s ⟨v4, v5, v6, v7, rfl, rfl⟩
    refine ⟨rfl, ?_⟩
    repeat' sizeOf_list_dec
    refine sp_gunturned F.c7 ht B ?_
    exact ret_same q
theorem sp_gisbook {mk wi lw il t s e u g b : Nat} {ts : List Nat} {tb : List (List (List Nat))} {tw : W} (F : BookFns P mk wi lw il t s e u g b) (ht : tupW tw = some (ts.map nW)) (B : IsBook ts tb) (q : Q (.bl true) st) : (callW P (d + 6)).fn b none [.tup [tw, .tup (tb.map rowW)]] st Q X := by
  refine fn_in (env := [.tup [tw, .tup (tb.map rowW)]]) F.c9 rfl rfl rfl ?_
  dsimp only [gIsBook]
  repeat' sizeOf_list_dec
  refine sp_gwrong F.b0 ht B ?_
  repeat' sizeOf_list_dec
  exact q
end
end Ev

set_option maxRecDepth 100000
set_option maxHeartbeats 4000000
/-! KbSame: equal at every place. -/
namespace Ev
open PySem L2
set_option hygiene false
local macro_rules | `(tactic| array_mem_dec) => `(tactic| first | rfl | assumption | decide | omega | (focus (simp; done)))
local macro_rules | `(tactic| sizeOf_list_dec) => `(tactic| first
  | ((with_reducible apply wp_var); rfl; (first | assumption | (focus (intro h; cases h; done))))
  | (with_reducible refine wp_int ?_)
  | (with_reducible refine wpSs_cons ?_)
  | (with_reducible refine wpEs_cons ?_)
  | (with_reducible refine wpEs_nil ?_)
  | (with_reducible refine wpS_asg ?_)
  | (with_reducible refine wpS_ret ?_)
  | (with_reducible refine wpS_ite ?_)
  | (with_reducible refine wpS_for' ?_)
  | (with_reducible refine wpS_ex ?_)
  | (with_reducible refine wp_sub ?_)
  | (with_reducible refine wp_cmp ?_)
  | (with_reducible refine wp_bi ?_)
  | (with_reducible refine wp_call ?_)
  | (with_reducible refine wp_bin ?_)
  | (with_reducible refine wp_not ?_)
  | (with_reducible refine wp_isi ?_)
  | (with_reducible refine wp_meth ?_)
  | (with_reducible refine wp_tup ?_)
  | (with_reducible refine wp_lst ?_)
  | (with_reducible refine wp_band ?_)
  | (with_reducible refine wp_bor ?_)
  | (with_reducible refine wp_and1 ?_)
  | (with_reducible refine wp_and2 ?_)
  | (with_reducible refine wp_or1 ?_)
  | (with_reducible refine wp_or2 ?_)
  | (with_reducible refine wpS_asgT ?_)
  | (with_reducible refine wpS_asgS ?_)
  | (with_reducible refine wpSs_nil ?_)
  | (with_reducible refine ret_same ?_)
  | (with_reducible refine tru_bl ?_)
  | (with_reducible refine bl_of ?_)
  | ((with_reducible refine br_t ?_ ?_); (focus (first | exact rfl | assumption | (simp only [Bool.not_eq_true', Bool.not_eq_false', decide_eq_true_eq, decide_eq_false_iff_not, List.length_cons, List.length_nil, List.length_map, List.length_range]; omega))))
  | ((with_reducible refine br_f ?_ ?_); (focus (first | exact rfl | assumption | (simp only [Bool.not_eq_true', Bool.not_eq_false', decide_eq_true_eq, decide_eq_false_iff_not, List.length_cons, List.length_nil, List.length_map, List.length_range]; omega))))
  | (with_reducible refine wp_non ?_)
  | (with_reducible refine wp_bl ?_)
  | (with_reducible refine wp_str ?_)
  | (with_reducible refine wp_gfn ?_)
  | ((with_reducible apply wp_gcon); rfl)
  | (with_reducible refine wp_alloc ?_)
  | ((with_reducible refine alloc_tmp ?_); (intro _ _ hen hes; (try simp only [List.length_append, List.length_set, List.length_cons, List.length_nil, Nat.zero_add, Nat.add_assoc, Nat.reduceAdd] at hen); (try simp only [List.append_assoc, List.cons_append, List.nil_append] at hes); subst hen; subst hes))
  | ((with_reducible refine wp_dnewT ?_); (intro _ _ hen hes; (try simp only [List.length_append, List.length_set, List.length_cons, List.length_nil, Nat.zero_add, Nat.add_assoc, Nat.reduceAdd] at hen); (try simp only [List.append_assoc, List.cons_append, List.nil_append] at hes); subst hen; subst hes))
  | ((with_reducible refine wp_dnewK ?_); (intro _ _ hen hes; (try simp only [List.length_append, List.length_set, List.length_cons, List.length_nil, Nat.zero_add, Nat.add_assoc, Nat.reduceAdd] at hen); (try simp only [List.append_assoc, List.cons_append, List.nil_append] at hes); subst hen; subst hes))
  | (with_reducible refine wp_ife ?_)
  | (with_reducible refine wp_comp ?_)
  | (with_reducible refine wp_comp2 ?_)
  | (with_reducible refine wp_cmp2 ?_)
  | (with_reducible refine wp_neg ?_)
  | (with_reducible refine neg_int ?_)
  | (with_reducible refine wp_slice ?_)
  | (with_reducible refine wpO_none ?_)
  | (with_reducible refine wpO_some ?_)
  | (with_reducible refine opt_int ?_)
  | (with_reducible refine wp_rev ?_)
  | (with_reducible refine wpI_seq ?_)
  | (with_reducible refine wpI_rng1 ?_)
  | (with_reducible refine wpI_rng2 ?_)
  | (with_reducible refine wpI_enum ?_)
  | (with_reducible refine wpTs_nil ?_)
  | (with_reducible refine wpTs_one ?_)
  | (with_reducible refine wpS_par ?_)
  | (with_reducible refine wpS_pass ?_)
  | (with_reducible refine wpS_brk ?_)
  | (with_reducible refine wpS_cont ?_)
  | (with_reducible refine wpS_retN ?_)
  | (with_reducible refine wpS_tryN ?_)
  | (with_reducible refine wp_callL ?_)
  | ((with_reducible apply wp_callv); rfl; (focus (first | assumption | decide)))
  | ((with_reducible apply wp_callc); rfl)
  | ((with_reducible apply wp_callP); rfl)
  | ((with_reducible apply len_map); (focus assumption))
  | ((with_reducible apply len_w); (focus (first | rfl | assumption)))
  | ((with_reducible apply it_of); (focus (first | assumption | apply hth | rfl)); (focus (first | assumption | rfl)))
  | ((with_reducible apply eq_nil); (focus (first | rfl | assumption)))
  | ((with_reducible apply ne_nil); (focus (first | rfl | assumption)))
  | ((with_reducible refine rng1_int ?_ ?_ ?_); (focus omega); (focus omega))
  | ((with_reducible refine rng2_int ?_ ?_ ?_ ?_ ?_); (focus omega); (focus omega); (focus omega); (focus omega))
  | (with_reducible refine eq_ii ?_)
  | (with_reducible refine ne_ii ?_)
  | (with_reducible refine lt_ii ?_)
  | (with_reducible refine le_ii ?_)
  | (with_reducible refine gt_ii ?_)
  | (with_reducible refine ge_ii ?_)
  | (with_reducible refine add_ii ?_)
  | (with_reducible refine sub_ii ?_)
  | (with_reducible refine int_i ?_)
  | (with_reducible refine max_ii ?_)
  | (with_reducible refine min_ii ?_)
  | (with_reducible refine tuple_k ?_)
  | ((with_reducible apply is_non); (focus (first | rfl | assumption)))
  | ((with_reducible apply isnot_non); (focus (first | rfl | assumption)))
  | ((with_reducible apply isi_of); (focus (first | rfl | assumption)))
  | ((with_reducible refine And.intro ?_ ?_); (first | decide | (focus (simp [sizeLine]; done))); (intro _ he; (first | simp only [List.set, List.map_cons, List.map_nil, ro_int, ro_bl, ro_str, ro_non, ro_undef, ro_tup, ro_ktup, ro_lst, ro_tmp, ro_scr, ro_loc, ro_fn, hro, hro2] at he | simp only [List.set, List.map_cons, List.map_nil, ro_int, ro_bl, ro_str, ro_non, ro_undef, ro_tup, ro_ktup, ro_lst, ro_tmp, ro_scr, ro_loc, ro_fn, hro] at he | simp only [List.set, List.map_cons, List.map_nil, ro_int, ro_bl, ro_str, ro_non, ro_undef, ro_tup, ro_ktup, ro_lst, ro_tmp, ro_scr, ro_loc, ro_fn] at he | skip); subst he))
  | ((with_reducible intro _ he); (first | simp only [List.set, List.map_cons, List.map_nil, ro_int, ro_bl, ro_str, ro_non, ro_undef, ro_tup, ro_ktup, ro_lst, ro_tmp, ro_scr, ro_loc, ro_fn, hro, hro2] at he | simp only [List.set, List.map_cons, List.map_nil, ro_int, ro_bl, ro_str, ro_non, ro_undef, ro_tup, ro_ktup, ro_lst, ro_tmp, ro_scr, ro_loc, ro_fn, hro] at he | simp only [List.set, List.map_cons, List.map_nil, ro_int, ro_bl, ro_str, ro_non, ro_undef, ro_tup, ro_ktup, ro_lst, ro_tmp, ro_scr, ro_loc, ro_fn] at he | skip); subst he)
  | ((with_reducible apply bind_of); (focus ((first | simp only [bindT, bindTs, seqW, isScr, ro_int, ro_bl, ro_str, ro_non, ro_undef, ro_tup, ro_ktup, ro_lst, ro_tmp, ro_scr, ro_loc, ro_fn, hro, hro2, wipeW, List.set, List.length_cons, List.length_nil, Bool.false_eq_true, if_false, if_true, Nat.reduceAdd, Nat.reduceLT, ↓reduceIte] | simp only [bindT, bindTs, seqW, isScr, ro_int, ro_bl, ro_str, ro_non, ro_undef, ro_tup, ro_ktup, ro_lst, ro_tmp, ro_scr, ro_loc, ro_fn, hro, wipeW, List.set, List.length_cons, List.length_nil, Bool.false_eq_true, if_false, if_true, Nat.reduceAdd, Nat.reduceLT, ↓reduceIte] | simp only [bindT, bindTs, seqW, isScr, ro_int, ro_bl, ro_str, ro_non, ro_undef, ro_tup, ro_ktup, ro_lst, ro_tmp, ro_scr, ro_loc, ro_fn, wipeW, List.set, List.length_cons, List.length_nil, Bool.false_eq_true, if_false, if_true, Nat.reduceAdd, Nat.reduceLT, ↓reduceIte]); rfl)))
  | ((with_reducible apply binds_of); (focus ((first | simp only [List.map_cons, List.map_nil, bindT, bindTs, seqW, isScr, ro_int, ro_bl, ro_str, ro_non, ro_undef, ro_tup, ro_ktup, ro_lst, ro_tmp, ro_scr, ro_loc, ro_fn, hro, hro2, wipeW, List.set, List.length_cons, List.length_nil, Bool.false_eq_true, if_false, if_true, Nat.reduceAdd, Nat.reduceLT, ↓reduceIte] | simp only [List.map_cons, List.map_nil, bindT, bindTs, seqW, isScr, ro_int, ro_bl, ro_str, ro_non, ro_undef, ro_tup, ro_ktup, ro_lst, ro_tmp, ro_scr, ro_loc, ro_fn, hro, wipeW, List.set, List.length_cons, List.length_nil, Bool.false_eq_true, if_false, if_true, Nat.reduceAdd, Nat.reduceLT, ↓reduceIte] | simp only [List.map_cons, List.map_nil, bindT, bindTs, seqW, isScr, ro_int, ro_bl, ro_str, ro_non, ro_undef, ro_tup, ro_ktup, ro_lst, ro_tmp, ro_scr, ro_loc, ro_fn, wipeW, List.set, List.length_cons, List.length_nil, Bool.false_eq_true, if_false, if_true, Nat.reduceAdd, Nat.reduceLT, ↓reduceIte]); rfl))))
local macro_rules | `(tactic| array_get_dec) => `(tactic| first
  | ((with_reducible apply wp_var); rfl; (first | assumption | (focus (intro h; cases h; done))))
  | (with_reducible refine wp_int ?_)
  | (with_reducible refine wpSs_cons ?_)
  | (with_reducible refine wpEs_cons ?_)
  | (with_reducible refine wpEs_nil ?_)
  | (with_reducible refine wpS_asg ?_)
  | (with_reducible refine wpS_ret ?_)
  | (with_reducible refine wpS_ite ?_)
  | (with_reducible refine wpS_for' ?_)
  | (with_reducible refine wpS_ex ?_)
  | (with_reducible refine wp_sub ?_)
  | (with_reducible refine wp_cmp ?_)
  | (with_reducible refine wp_bi ?_)
  | (with_reducible refine wp_call ?_)
  | (with_reducible refine wp_bin ?_)
  | (with_reducible refine wp_not ?_)
  | (with_reducible refine wp_isi ?_)
  | (with_reducible refine wp_meth ?_)
  | (with_reducible refine wp_tup ?_)
  | (with_reducible refine wp_lst ?_)
  | (with_reducible refine wp_and1 ?_)
  | (with_reducible refine wp_and2 ?_)
  | (with_reducible refine wp_or1 ?_)
  | (with_reducible refine wp_or2 ?_)
  | (with_reducible refine wpS_asgT ?_)
  | (with_reducible refine wpS_asgS ?_)
  | (with_reducible refine wpSs_nil ?_)
  | (with_reducible refine ret_same ?_)
  | (with_reducible refine tru_bl ?_)
  | (with_reducible refine bl_of ?_)
  | ((with_reducible refine br_t ?_ ?_); (focus (first | exact rfl | assumption | (simp only [Bool.not_eq_true', Bool.not_eq_false', decide_eq_true_eq, decide_eq_false_iff_not, List.length_cons, List.length_nil, List.length_map, List.length_range]; omega))))
  | ((with_reducible refine br_f ?_ ?_); (focus (first | exact rfl | assumption | (simp only [Bool.not_eq_true', Bool.not_eq_false', decide_eq_true_eq, decide_eq_false_iff_not, List.length_cons, List.length_nil, List.length_map, List.length_range]; omega))))
  | (with_reducible refine wp_non ?_)
  | (with_reducible refine wp_bl ?_)
  | (with_reducible refine wp_str ?_)
  | (with_reducible refine wp_gfn ?_)
  | ((with_reducible apply wp_gcon); rfl)
  | (with_reducible refine wp_alloc ?_)
  | ((with_reducible refine alloc_tmp ?_); (intro _ _ hen hes; (try simp only [List.length_append, List.length_set, List.length_cons, List.length_nil, Nat.zero_add, Nat.add_assoc, Nat.reduceAdd] at hen); (try simp only [List.append_assoc, List.cons_append, List.nil_append] at hes); subst hen; subst hes))
  | ((with_reducible refine wp_dnewT ?_); (intro _ _ hen hes; (try simp only [List.length_append, List.length_set, List.length_cons, List.length_nil, Nat.zero_add, Nat.add_assoc, Nat.reduceAdd] at hen); (try simp only [List.append_assoc, List.cons_append, List.nil_append] at hes); subst hen; subst hes))
  | ((with_reducible refine wp_dnewK ?_); (intro _ _ hen hes; (try simp only [List.length_append, List.length_set, List.length_cons, List.length_nil, Nat.zero_add, Nat.add_assoc, Nat.reduceAdd] at hen); (try simp only [List.append_assoc, List.cons_append, List.nil_append] at hes); subst hen; subst hes))
  | (with_reducible refine wp_ife ?_)
  | (with_reducible refine wp_comp ?_)
  | (with_reducible refine wp_comp2 ?_)
  | (with_reducible refine wp_cmp2 ?_)
  | (with_reducible refine wp_neg ?_)
  | (with_reducible refine neg_int ?_)
  | (with_reducible refine wp_slice ?_)
  | (with_reducible refine wpO_none ?_)
  | (with_reducible refine wpO_some ?_)
  | (with_reducible refine opt_int ?_)
  | (with_reducible refine wp_rev ?_)
  | (with_reducible refine wpI_seq ?_)
  | (with_reducible refine wpI_rng1 ?_)
  | (with_reducible refine wpI_rng2 ?_)
  | (with_reducible refine wpI_enum ?_)
  | (with_reducible refine wpTs_nil ?_)
  | (with_reducible refine wpTs_one ?_)
  | (with_reducible refine wpS_par ?_)
  | (with_reducible refine wpS_pass ?_)
  | (with_reducible refine wpS_brk ?_)
  | (with_reducible refine wpS_cont ?_)
  | (with_reducible refine wpS_retN ?_)
  | (with_reducible refine wpS_tryN ?_)
  | (with_reducible refine wp_callL ?_)
  | ((with_reducible apply wp_callv); rfl; (focus (first | assumption | decide)))
  | ((with_reducible apply wp_callc); rfl)
  | ((with_reducible apply wp_callP); rfl)
  | ((with_reducible apply len_map); (focus assumption))
  | ((with_reducible apply len_w); (focus (first | rfl | assumption)))
  | ((with_reducible apply it_of); (focus (first | assumption | apply hth | rfl)); (focus (first | assumption | rfl)))
  | ((with_reducible apply eq_nil); (focus (first | rfl | assumption)))
  | ((with_reducible apply ne_nil); (focus (first | rfl | assumption)))
  | ((with_reducible refine rng1_int ?_ ?_ ?_); (focus omega); (focus omega))
  | ((with_reducible refine rng2_int ?_ ?_ ?_ ?_ ?_); (focus omega); (focus omega); (focus omega); (focus omega))
  | (with_reducible refine eq_ii ?_)
  | (with_reducible refine ne_ii ?_)
  | (with_reducible refine lt_ii ?_)
  | (with_reducible refine le_ii ?_)
  | (with_reducible refine gt_ii ?_)
  | (with_reducible refine ge_ii ?_)
  | (with_reducible refine add_ii ?_)
  | (with_reducible refine sub_ii ?_)
  | (with_reducible refine int_i ?_)
  | (with_reducible refine max_ii ?_)
  | (with_reducible refine min_ii ?_)
  | (with_reducible refine tuple_k ?_)
  | ((with_reducible apply is_non); (focus (first | rfl | assumption)))
  | ((with_reducible apply isnot_non); (focus (first | rfl | assumption)))
  | ((with_reducible apply isi_of); (focus (first | rfl | assumption)))
  | ((with_reducible refine And.intro ?_ ?_); (first | decide | (focus (simp [sizeLine]; done))); (intro _ he; (first | simp only [List.set, List.map_cons, List.map_nil, ro_int, ro_bl, ro_str, ro_non, ro_undef, ro_tup, ro_ktup, ro_lst, ro_tmp, ro_scr, ro_loc, ro_fn, hro, hro2] at he | simp only [List.set, List.map_cons, List.map_nil, ro_int, ro_bl, ro_str, ro_non, ro_undef, ro_tup, ro_ktup, ro_lst, ro_tmp, ro_scr, ro_loc, ro_fn, hro] at he | simp only [List.set, List.map_cons, List.map_nil, ro_int, ro_bl, ro_str, ro_non, ro_undef, ro_tup, ro_ktup, ro_lst, ro_tmp, ro_scr, ro_loc, ro_fn] at he | skip); subst he))
  | ((with_reducible intro _ he); (first | simp only [List.set, List.map_cons, List.map_nil, ro_int, ro_bl, ro_str, ro_non, ro_undef, ro_tup, ro_ktup, ro_lst, ro_tmp, ro_scr, ro_loc, ro_fn, hro, hro2] at he | simp only [List.set, List.map_cons, List.map_nil, ro_int, ro_bl, ro_str, ro_non, ro_undef, ro_tup, ro_ktup, ro_lst, ro_tmp, ro_scr, ro_loc, ro_fn, hro] at he | simp only [List.set, List.map_cons, List.map_nil, ro_int, ro_bl, ro_str, ro_non, ro_undef, ro_tup, ro_ktup, ro_lst, ro_tmp, ro_scr, ro_loc, ro_fn] at he | skip); subst he)
  | ((with_reducible apply bind_of); (focus ((first | simp only [bindT, bindTs, seqW, isScr, ro_int, ro_bl, ro_str, ro_non, ro_undef, ro_tup, ro_ktup, ro_lst, ro_tmp, ro_scr, ro_loc, ro_fn, hro, hro2, wipeW, List.set, List.length_cons, List.length_nil, Bool.false_eq_true, if_false, if_true, Nat.reduceAdd, Nat.reduceLT, ↓reduceIte] | simp only [bindT, bindTs, seqW, isScr, ro_int, ro_bl, ro_str, ro_non, ro_undef, ro_tup, ro_ktup, ro_lst, ro_tmp, ro_scr, ro_loc, ro_fn, hro, wipeW, List.set, List.length_cons, List.length_nil, Bool.false_eq_true, if_false, if_true, Nat.reduceAdd, Nat.reduceLT, ↓reduceIte] | simp only [bindT, bindTs, seqW, isScr, ro_int, ro_bl, ro_str, ro_non, ro_undef, ro_tup, ro_ktup, ro_lst, ro_tmp, ro_scr, ro_loc, ro_fn, wipeW, List.set, List.length_cons, List.length_nil, Bool.false_eq_true, if_false, if_true, Nat.reduceAdd, Nat.reduceLT, ↓reduceIte]); rfl)))
  | ((with_reducible apply binds_of); (focus ((first | simp only [List.map_cons, List.map_nil, bindT, bindTs, seqW, isScr, ro_int, ro_bl, ro_str, ro_non, ro_undef, ro_tup, ro_ktup, ro_lst, ro_tmp, ro_scr, ro_loc, ro_fn, hro, hro2, wipeW, List.set, List.length_cons, List.length_nil, Bool.false_eq_true, if_false, if_true, Nat.reduceAdd, Nat.reduceLT, ↓reduceIte] | simp only [List.map_cons, List.map_nil, bindT, bindTs, seqW, isScr, ro_int, ro_bl, ro_str, ro_non, ro_undef, ro_tup, ro_ktup, ro_lst, ro_tmp, ro_scr, ro_loc, ro_fn, hro, wipeW, List.set, List.length_cons, List.length_nil, Bool.false_eq_true, if_false, if_true, Nat.reduceAdd, Nat.reduceLT, ↓reduceIte] | simp only [List.map_cons, List.map_nil, bindT, bindTs, seqW, isScr, ro_int, ro_bl, ro_str, ro_non, ro_undef, ro_tup, ro_ktup, ro_lst, ro_tmp, ro_scr, ro_loc, ro_fn, wipeW, List.set, List.length_cons, List.length_nil, Bool.false_eq_true, if_false, if_true, Nat.reduceAdd, Nat.reduceLT, ↓reduceIte]); rfl))))
mutual
/-- the same at every place; o is of plain things -/
def same (st : Store) : W → W → Bool
  | .non, h => match h with
    | .non => true
    | _ => false
  | .bl b, h => match h with
    | .bl a => a == b
    | _ => false
  | .int j, h => match h with
    | .int i => i == j
    | _ => false
  | .str y, h => match h with
    | .str x => x == y && SeqAt.shaped (.str y) && PyData.eqv (.str y) (.str y)
    | _ => false
  | .tup ws, h => match tupW h with
    | some us => sames st ws us
    | none => false
  | .lst ws, h => match lstW st h with
    | some us => sames st ws us
    | none => false
  | _, _ => false
def sames (st : Store) : List W → List W → Bool
  | [], [] => true
  | w :: ws, u :: us => same st w u && sames st ws us
  | _, _ => false
end
mutual
def wt : W → Nat
  | .tup ws => 1 + wts ws
  | .lst ws => 1 + wts ws
  | _ => 1
def wts : List W → Nat
  | [] => 0
  | w :: ws => wt w + wts ws
end
theorem lstW_app {st : Store} {c : List Cell} {h : W} {us : List W} (e : lstW st h = some us) : lstW (st ++ c) h = some us := by
  cases h with
  | loc n =>
    simp only [lstW] at e ⊢
    split at e
    · rename_i ws g
      have hn := (List.getElem?_eq_some_iff.mp g).1
      rw [List.getElem?_append_left hn, g]
      exact e
    · cases e
  | _ => exact e
theorem isiL {st : Store} {h : W} {us : List W} (e : lstW st h = some us) : isiF st h .tList = some true := by
  cases h with
  | loc n =>
    simp only [lstW] at e
    split at e
    · rename_i ws g
      simp only [isiF, g]
    · cases e
  | lst ws => rfl
  | tmp ws => rfl
  | _ => cases e
theorem same_ro {st : Store} {o h : W} (e : same st o h = true) : ro o = o ∧ same st o (ro h) = true ∧ o ≠ .undef ∧ ro h ≠ .undef := by
  cases o with
  | non => cases h <;> simp_all [same, ro]
  | bl => cases h <;> simp_all [same, ro]
  | int => cases h <;> simp_all [same, ro]
  | str => cases h <;> simp_all [same, ro]
  | tup => cases h <;> simp_all [same, ro, tupW]
  | lst => cases h <;> simp_all [same, ro, lstW]
  | _ => simp [same] at e
theorem sames_get {st : Store} : ∀ {ws us : List W}, sames st ws us = true → ws.length = us.length ∧ ∀ i (h1 : i < ws.length) (h2 : i < us.length), same st ws[i] us[i] = true
  | [], [], _ => ⟨rfl, fun i h1 h2 => absurd h1 (Nat.not_lt_zero _)⟩
  | w :: ws, u :: us, e => by
    simp only [sames, Bool.and_eq_true] at e
    obtain ⟨e1, e2⟩ := e
    obtain ⟨h1, h2⟩ := sames_get e2
    refine ⟨by simp [h1], fun i g1 g2 => ?_⟩
    cases i with
    | zero => exact e1
    | succ i => exact h2 i (by simpa using g1) (by simpa using g2)
  | [], _ :: _, e => by simp [sames] at e
  | _ :: _, [], e => by simp [sames] at e
theorem wt_pos : ∀ (w : W), 1 ≤ wt w := by intro w; cases w <;> simp [wt]
/-- the pairs that wait -/
def pairs (ps : List (W × W)) : List W := ps.map fun p => .tup [p.1, p.2]
def wtp (ps : List (W × W)) : Nat := (ps.map fun p => wt p.2).sum
theorem wtp_le : ∀ (ps : List (W × W)), ps.length ≤ wtp ps
  | [] => Nat.le_refl _
  | p :: ps => by
    have h := wtp_le ps
    have h1 := wt_pos p.2
    simp only [wtp, List.map_cons, List.sum_cons, List.length_cons] at h ⊢
    omega
theorem wtp_app (ps qs : List (W × W)) : wtp (ps ++ qs) = wtp ps + wtp qs := by simp [wtp]
theorem wtp_zip : ∀ (ws us : List W), ws.length = us.length → wtp (us.zip ws) = wts ws
  | [], [], _ => rfl
  | w :: ws, u :: us, h => by
    have := wtp_zip ws us (by simpa using h)
    simp only [wtp, List.zip_cons_cons, List.map_cons, List.sum_cons, wts] at this ⊢
    rw [this]
  | [], _ :: _, h => by simp at h
  | _ :: _, [], h => by simp at h
section
variable {st : Store} {B : Bool → Prop}
theorem eqv_bl : ∀ b, PyData.eqv (.bool b) (.bool b) = true := by intro b; cases b <;> rfl
theorem eq_bls {b : Bool} (q : B true) : cmpW st .Eq (.bl b) (.bl b) B := .inl ⟨.bool b, .bool b, rfl, rfl, shaped_of rfl (Nat.zero_le _), shaped_of rfl (Nat.zero_le _), by rw [eqv_bl]; exact q⟩
theorem eq_strs {y : Str} (h : SeqAt.shaped (.str y) = true) (h2 : PyData.eqv (.str y) (.str y) = true) (q : B true) : cmpW st .Eq (.str y) (.str y) B := .inl ⟨.str y, .str y, rfl, rfl, h, h, by rw [h2]; exact q⟩
end
theorem zip_len {ws us : List W} (h : ws.length = us.length) : (us.zip ws).length = ws.length := by rw [List.length_zip]; omega
section
variable {P : Prog} {d : Nat} {st : Store} {Q : Post} {X : XPost}
theorem sp_same {w f : Nat} {o h : W} (hw : P.fns[w]? = some fWhole) (hf : P.fns[f]? = some (fSame w)) (e : same st o h = true) (hz : wt o ≤ 100000) (hro : ro h = h) (hst : okSt st) (q : Q (.bl true) st) : (callW P (d + 2)).fn f none [h, o] st Q X := by
  obtain ⟨hro2, -, uo, uh⟩ := same_ro e
  rw [hro] at uh
  refine fn_in (env := [h, o, .undef, .undef, .undef, .undef, .undef]) hf rfl rfl rfl ?_
  dsimp only [fSame]
  repeat' sizeOf_list_dec
  refine wpS_while (n := wt o) (fun n env s => ∃ ps v3 v4 v5 v6, env = [h, o, .loc st.length, v3, v4, v5, v6] ∧ s = st ++ [.lst (pairs ps)] ∧ (∀ p ∈ ps, same st p.2 p.1 = true) ∧ wtp ps = n ∧ n ≤ 100000) ⟨[(h, o)], .undef, .undef, .undef, .undef, rfl, rfl, by simpa using e, by simp [wtp], hz⟩ ?_
  rintro n env s ⟨ps, v3, v4, v5, v6, rfl, rfl, hps, hn, hn2⟩
  have gl : (st ++ [Cell.lst (pairs ps)])[st.length]? = some (.lst (pairs ps)) := by simp
  have gl2 : lstW (st ++ [Cell.lst (pairs ps)]) (.loc st.length) = some (pairs ps) := by simp only [lstW, gl]
  repeat' sizeOf_list_dec
  rcases List.eq_nil_or_concat ps with rfl | ⟨qs, ⟨one, due⟩, rfl⟩
  · repeat' sizeOf_list_dec
    exact ret_app rfl hst q
  rw [List.concat_eq_append] at *
  have e1 : same st due one = true := hps (one, due) (by simp)
  obtain ⟨hro2, eh, ud, uone⟩ := same_ro e1
  have hne : (!(pairs (qs ++ [(one, due)])).isEmpty) = true := by simp [pairs]
  repeat' sizeOf_list_dec
  refine ⟨meTy_lst gl (by simp), ?_⟩
  repeat' sizeOf_list_dec
  have gl3 : (st ++ [Cell.lst (pairs (qs ++ [(one, due)]))])[st.length]? = some (.lst (pairs qs ++ [.tup [one, due]])) := by simp [pairs]
  refine pop_w gl3 ?_
  have es : (st ++ [Cell.lst (pairs (qs ++ [(one, due)]))]).set st.length (.lst (pairs qs)) = st ++ [Cell.lst (pairs qs)] := by
    rw [List.set_append_right _ _ (by simp)]; simp
  rw [es]
  generalize hone : ro one = one' at eh uone
  have hro := hone
  have leaf : wt due = 1 → ∀ v5, ∃ n', n' < n ∧ ∃ ps v3 v4 v5_1 v6_1, [h, o, W.loc st.length, one', due, v5, v6] = [h, o, .loc st.length, v3, v4, v5_1, v6_1] ∧ st ++ [Cell.lst (pairs qs)] = st ++ [.lst (pairs ps)] ∧ (∀ p ∈ ps, same st p.2 p.1 = true) ∧ wtp ps = n' ∧ n' ≤ 100000 := fun hd v5 =>
    ⟨wtp qs, by rw [← hn, wtp_app]; simp [wtp, hd], qs, _, _, _, _, rfl, rfl, fun p hp => hps p (List.mem_append_left _ hp), rfl, by rw [← hn, wtp_app] at hn2; omega⟩
  repeat' sizeOf_list_dec
  cases due with
  | non =>
    cases one' <;> simp only [same] at eh <;> try (cases eh; done)
    repeat' sizeOf_list_dec
    exact leaf rfl _
  | bl b =>
    cases one' <;> simp only [same] at eh <;> try (cases eh; done)
    obtain rfl := eq_of_beq eh
    repeat' sizeOf_list_dec
    refine eq_bls ?_
    repeat' sizeOf_list_dec
    exact leaf rfl _
  | int j =>
    cases one' <;> simp only [same] at eh <;> try (cases eh; done)
    obtain rfl := eq_of_beq eh
    repeat' sizeOf_list_dec
    refine sp_whole hw ?_
    repeat' sizeOf_list_dec
    exact leaf rfl _
  | str y =>
    cases one' <;> simp only [same, Bool.and_eq_true] at eh <;> try (cases eh; done)
    obtain ⟨⟨eh, es⟩, ev⟩ := eh
    obtain rfl := eq_of_beq eh
    repeat' sizeOf_list_dec
    refine eq_strs es ev ?_
    repeat' sizeOf_list_dec
    exact leaf rfl _
  | tup ws =>
    simp only [same] at eh
    split at eh
    · rename_i us hus
      have hseq : seqW (st ++ [Cell.lst (pairs qs)]) one' = some us := tup_seq hus
      have hseq2 : seqW (st ++ [Cell.lst (pairs qs)]) (.tup ws) = some ws := rfl
      have his : isiF (st ++ [Cell.lst (pairs qs)]) one' .tTuple = some true := by rcases tup_or hus with rfl | rfl <;> rfl
      obtain ⟨hlen, hget⟩ := sames_get eh
      have hwz : 1 + wts ws ≤ n := by rw [← hn, wtp_app]; simp [wtp, wt]
      have hwl : ws.length ≤ 100000 := by
        have := wtp_le (us.zip ws)
        rw [zip_len hlen, wtp_zip ws us hlen] at this
        omega
      repeat' sizeOf_list_dec
      have g5 : (st ++ [Cell.lst (pairs qs)])[st.length]? = some (.lst (pairs qs)) := by simp
      refine ⟨meTy_lst g5 (by simp), ?_⟩
      repeat' sizeOf_list_dec
      refine comp_all (List.range ws.length) nW (fun k => .tup [ro (us.getD k .non), ws.getD k .non]) (rangeW_nat _) trivial (by simp [sizeLine]; omega) (fun k hk => ⟨[h, o, .loc st.length, one', .tup ws, .bl (decide (((us.length : Nat) : Int) = ((ws.length : Nat) : Int))), nW k], rfl, fun K q => ?_⟩) ?_
      · have hk2 : k < ws.length := List.mem_range.mp hk
        have e2 := hget k hk2 (by omega)
        obtain ⟨hro2, -, u1, u2⟩ := same_ro e2
        have g1 : us[k]? = some (us.getD k .non) := by rw [List.getD_eq_getElem?_getD, List.getElem?_eq_getElem (by omega)]; rfl
        have g2 : ws[k]? = some (ws.getD k .non) := by rw [List.getD_eq_getElem?_getD, List.getElem?_eq_getElem hk2]; rfl
        have e3 : ws.getD k .non = ws[k] := by rw [List.getD_eq_getElem?_getD, List.getElem?_eq_getElem hk2]; rfl
        rw [← e3] at hro2
        repeat' sizeOf_list_dec
        refine sub_w hseq g1 ?_
        repeat' sizeOf_list_dec
        refine sub_w hseq2 g2 ?_
        repeat' sizeOf_list_dec
        exact q _ rfl
      repeat' sizeOf_list_dec
      refine extend_w g5 rfl (by have := wtp_le qs; simp [pairs, sizeLine]; rw [wtp_app] at hn; omega) ?_
      have es2 : (st ++ [Cell.lst (pairs qs)]).set st.length (.lst (pairs qs ++ (List.range ws.length).map fun k => .tup [ro (us.getD k .non), ws.getD k .non])) = st ++ [Cell.lst (pairs (qs ++ (us.zip ws).map fun p => (ro p.1, p.2)))] := by
        rw [List.set_append_right _ _ (by simp)]
        simp only [Nat.sub_self, List.set_cons_zero, pairs, List.map_append, List.map_map]
        congr 4
        refine List.ext_getElem (by simp; omega) fun i h1 h2 => ?_
        simp at h1 h2 ⊢
        rw [List.getElem?_eq_getElem (by omega), List.getElem?_eq_getElem (by omega)]
        simp
      rw [es2]
      repeat' sizeOf_list_dec
      refine ⟨wtp (qs ++ (us.zip ws).map fun p => (ro p.1, p.2)), ?_, _, _, _, _, _, rfl, rfl, ?_, rfl, ?_⟩
      · have e4 : wtp ((us.zip ws).map fun p => (ro p.1, p.2)) = wts ws := by
          rw [← wtp_zip ws us hlen]; simp [wtp]; rfl
        rw [wtp_app, e4, ← hn, wtp_app]
        simp [wtp, wt]
      · intro p hp
        rcases List.mem_append.mp hp with hp | hp
        · exact hps p (List.mem_append_left _ hp)
        · obtain ⟨p2, hp2, rfl⟩ := List.mem_map.mp hp
          obtain ⟨i, hi, e5⟩ := List.getElem_of_mem hp2
          rw [List.getElem_zip] at e5
          rw [← e5]
          rw [List.length_zip] at hi
          exact (same_ro (hget i (by omega) (by omega))).2.1
      · have e4 : wtp ((us.zip ws).map fun p => (ro p.1, p.2)) = wts ws := by
          rw [← wtp_zip ws us hlen]; simp [wtp]; rfl
        rw [wtp_app, e4]
        rw [wtp_app] at hn
        simp [wtp, wt] at hn
        simp only [wtp]
        omega
    · cases eh
  | lst ws =>
    simp only [same] at eh
    split at eh
    · rename_i us hus
      have hseq : seqW (st ++ [Cell.lst (pairs qs)]) one' = some us := lst_seq (lstW_app hus)
      have hseq2 : seqW (st ++ [Cell.lst (pairs qs)]) (.lst ws) = some ws := rfl
      have his : isiF (st ++ [Cell.lst (pairs qs)]) one' .tList = some true := isiL (lstW_app hus)
      obtain ⟨hlen, hget⟩ := sames_get eh
      have hwz : 1 + wts ws ≤ n := by rw [← hn, wtp_app]; simp [wtp, wt]
      have hwl : ws.length ≤ 100000 := by
        have := wtp_le (us.zip ws)
        rw [zip_len hlen, wtp_zip ws us hlen] at this
        omega
      repeat' sizeOf_list_dec
      have g5 : (st ++ [Cell.lst (pairs qs)])[st.length]? = some (.lst (pairs qs)) := by simp
      refine ⟨meTy_lst g5 (by simp), ?_⟩
      repeat' sizeOf_list_dec
      refine comp_all (List.range ws.length) nW (fun k => .tup [ro (us.getD k .non), ws.getD k .non]) (rangeW_nat _) trivial (by simp [sizeLine]; omega) (fun k hk => ⟨[h, o, .loc st.length, one', .lst ws, .bl (decide (((us.length : Nat) : Int) = ((ws.length : Nat) : Int))), nW k], rfl, fun K q => ?_⟩) ?_
      · have hk2 : k < ws.length := List.mem_range.mp hk
        have e2 := hget k hk2 (by omega)
        obtain ⟨hro2, -, u1, u2⟩ := same_ro e2
        have g1 : us[k]? = some (us.getD k .non) := by rw [List.getD_eq_getElem?_getD, List.getElem?_eq_getElem (by omega)]; rfl
        have g2 : ws[k]? = some (ws.getD k .non) := by rw [List.getD_eq_getElem?_getD, List.getElem?_eq_getElem hk2]; rfl
        have e3 : ws.getD k .non = ws[k] := by rw [List.getD_eq_getElem?_getD, List.getElem?_eq_getElem hk2]; rfl
        rw [← e3] at hro2
        repeat' sizeOf_list_dec
        refine sub_w hseq g1 ?_
        repeat' sizeOf_list_dec
        refine sub_w hseq2 g2 ?_
        repeat' sizeOf_list_dec
        exact q _ rfl
      repeat' sizeOf_list_dec
      refine extend_w g5 rfl (by have := wtp_le qs; simp [pairs, sizeLine]; rw [wtp_app] at hn; omega) ?_
      have es2 : (st ++ [Cell.lst (pairs qs)]).set st.length (.lst (pairs qs ++ (List.range ws.length).map fun k => .tup [ro (us.getD k .non), ws.getD k .non])) = st ++ [Cell.lst (pairs (qs ++ (us.zip ws).map fun p => (ro p.1, p.2)))] := by
        rw [List.set_append_right _ _ (by simp)]
        simp only [Nat.sub_self, List.set_cons_zero, pairs, List.map_append, List.map_map]
        congr 4
        refine List.ext_getElem (by simp; omega) fun i h1 h2 => ?_
        simp at h1 h2 ⊢
        rw [List.getElem?_eq_getElem (by omega), List.getElem?_eq_getElem (by omega)]
        simp
      rw [es2]
      repeat' sizeOf_list_dec
      refine ⟨wtp (qs ++ (us.zip ws).map fun p => (ro p.1, p.2)), ?_, _, _, _, _, _, rfl, rfl, ?_, rfl, ?_⟩
      · have e4 : wtp ((us.zip ws).map fun p => (ro p.1, p.2)) = wts ws := by
          rw [← wtp_zip ws us hlen]; simp [wtp]; rfl
        rw [wtp_app, e4, ← hn, wtp_app]
        simp [wtp, wt]
      · intro p hp
        rcases List.mem_append.mp hp with hp | hp
        · exact hps p (List.mem_append_left _ hp)
        · obtain ⟨p2, hp2, rfl⟩ := List.mem_map.mp hp
          obtain ⟨i, hi, e5⟩ := List.getElem_of_mem hp2
          rw [List.getElem_zip] at e5
          rw [← e5]
          rw [List.length_zip] at hi
          exact (same_ro (hget i (by omega) (by omega))).2.1
      · have e4 : wtp ((us.zip ws).map fun p => (ro p.1, p.2)) = wts ws := by
          rw [← wtp_zip ws us hlen]; simp [wtp]; rfl
        rw [wtp_app, e4]
        rw [wtp_app] at hn
        simp [wtp, wt] at hn
        simp only [wtp]
        omega
    · cases eh
  | _ => simp [same] at eh
end
end Ev

set_option maxRecDepth 100000
set_option maxHeartbeats 4000000
/-! KbM: books made of threes. -/
namespace Ev
open PySem L2
set_option hygiene false
local macro_rules | `(tactic| array_mem_dec) => `(tactic| first | rfl | assumption | decide | omega | (focus (simp; done)))
local macro_rules | `(tactic| sizeOf_list_dec) => `(tactic| first
  | ((with_reducible apply wp_var); rfl; (first | assumption | (focus (intro h; cases h; done))))
  | (with_reducible refine wp_int ?_)
  | (with_reducible refine wpSs_cons ?_)
  | (with_reducible refine wpEs_cons ?_)
  | (with_reducible refine wpEs_nil ?_)
  | (with_reducible refine wpS_asg ?_)
  | (with_reducible refine wpS_ret ?_)
  | (with_reducible refine wpS_ite ?_)
  | (with_reducible refine wpS_for' ?_)
  | (with_reducible refine wpS_ex ?_)
  | (with_reducible refine wp_sub ?_)
  | (with_reducible refine wp_cmp ?_)
  | (with_reducible refine wp_bi ?_)
  | (with_reducible refine wp_call ?_)
  | (with_reducible refine wp_bin ?_)
  | (with_reducible refine wp_not ?_)
  | (with_reducible refine wp_isi ?_)
  | (with_reducible refine wp_meth ?_)
  | (with_reducible refine wp_tup ?_)
  | (with_reducible refine wp_lst ?_)
  | (with_reducible refine wp_band ?_)
  | (with_reducible refine wp_bor ?_)
  | (with_reducible refine wp_and1 ?_)
  | (with_reducible refine wp_and2 ?_)
  | (with_reducible refine wp_or1 ?_)
  | (with_reducible refine wp_or2 ?_)
  | (with_reducible refine wpS_asgT ?_)
  | (with_reducible refine wpS_asgS ?_)
  | (with_reducible refine wpSs_nil ?_)
  | (with_reducible refine ret_same ?_)
  | (with_reducible refine tru_bl ?_)
  | (with_reducible refine bl_of ?_)
  | ((with_reducible refine br_t ?_ ?_); (focus (first | exact rfl | assumption | (simp only [Bool.not_eq_true', Bool.not_eq_false', decide_eq_true_eq, decide_eq_false_iff_not, List.length_cons, List.length_nil, List.length_map, List.length_range]; omega))))
  | ((with_reducible refine br_f ?_ ?_); (focus (first | exact rfl | assumption | (simp only [Bool.not_eq_true', Bool.not_eq_false', decide_eq_true_eq, decide_eq_false_iff_not, List.length_cons, List.length_nil, List.length_map, List.length_range]; omega))))
  | (with_reducible refine wp_non ?_)
  | (with_reducible refine wp_bl ?_)
  | (with_reducible refine wp_str ?_)
  | (with_reducible refine wp_gfn ?_)
  | ((with_reducible apply wp_gcon); rfl)
  | (with_reducible refine wp_alloc ?_)
  | ((with_reducible refine alloc_tmp ?_); (intro _ _ hen hes; (try simp only [List.length_append, List.length_set, List.length_cons, List.length_nil, Nat.zero_add, Nat.add_assoc, Nat.reduceAdd] at hen); (try simp only [List.append_assoc, List.cons_append, List.nil_append] at hes); subst hen; subst hes))
  | ((with_reducible refine wp_dnewT ?_); (intro _ _ hen hes; (try simp only [List.length_append, List.length_set, List.length_cons, List.length_nil, Nat.zero_add, Nat.add_assoc, Nat.reduceAdd] at hen); (try simp only [List.append_assoc, List.cons_append, List.nil_append] at hes); subst hen; subst hes))
  | ((with_reducible refine wp_dnewK ?_); (intro _ _ hen hes; (try simp only [List.length_append, List.length_set, List.length_cons, List.length_nil, Nat.zero_add, Nat.add_assoc, Nat.reduceAdd] at hen); (try simp only [List.append_assoc, List.cons_append, List.nil_append] at hes); subst hen; subst hes))
  | (with_reducible refine wp_ife ?_)
  | (with_reducible refine wp_comp ?_)
  | (with_reducible refine wp_comp2 ?_)
  | (with_reducible refine wp_cmp2 ?_)
  | (with_reducible refine wp_neg ?_)
  | (with_reducible refine neg_int ?_)
  | (with_reducible refine wp_slice ?_)
  | (with_reducible refine wpO_none ?_)
  | (with_reducible refine wpO_some ?_)
  | (with_reducible refine opt_int ?_)
  | (with_reducible refine wp_rev ?_)
  | (with_reducible refine wpI_seq ?_)
  | (with_reducible refine wpI_rng1 ?_)
  | (with_reducible refine wpI_rng2 ?_)
  | (with_reducible refine wpI_enum ?_)
  | (with_reducible refine wpTs_nil ?_)
  | (with_reducible refine wpTs_one ?_)
  | (with_reducible refine wpS_par ?_)
  | (with_reducible refine wpS_pass ?_)
  | (with_reducible refine wpS_brk ?_)
  | (with_reducible refine wpS_cont ?_)
  | (with_reducible refine wpS_retN ?_)
  | (with_reducible refine wpS_tryN ?_)
  | (with_reducible refine wp_callL ?_)
  | ((with_reducible apply wp_callv); rfl; (focus (first | assumption | decide)))
  | ((with_reducible apply wp_callc); rfl)
  | ((with_reducible apply wp_callP); rfl)
  | ((with_reducible apply len_map); (focus assumption))
  | ((with_reducible apply len_w); (focus (first | rfl | assumption)))
  | ((with_reducible apply it_of); (focus (first | assumption | apply hth | rfl)); (focus (first | assumption | rfl)))
  | ((with_reducible apply eq_nil); (focus (first | rfl | assumption)))
  | ((with_reducible apply ne_nil); (focus (first | rfl | assumption)))
  | ((with_reducible refine rng1_int ?_ ?_ ?_); (focus omega); (focus omega))
  | ((with_reducible refine rng2_int ?_ ?_ ?_ ?_ ?_); (focus omega); (focus omega); (focus omega); (focus omega))
  | (with_reducible refine eq_ii ?_)
  | (with_reducible refine ne_ii ?_)
  | (with_reducible refine lt_ii ?_)
  | (with_reducible refine le_ii ?_)
  | (with_reducible refine gt_ii ?_)
  | (with_reducible refine ge_ii ?_)
  | (with_reducible refine add_ii ?_)
  | (with_reducible refine sub_ii ?_)
  | (with_reducible refine int_i ?_)
  | (with_reducible refine max_ii ?_)
  | (with_reducible refine min_ii ?_)
  | (with_reducible refine tuple_k ?_)
  | ((with_reducible apply is_non); (focus (first | rfl | assumption)))
  | ((with_reducible apply isnot_non); (focus (first | rfl | assumption)))
  | ((with_reducible apply isi_of); (focus (first | rfl | assumption)))
  | ((with_reducible refine And.intro ?_ ?_); (first | decide | (focus (simp [sizeLine]; done))); (intro _ he; (first | simp only [List.set, List.map_cons, List.map_nil, ro_int, ro_bl, ro_str, ro_non, ro_undef, ro_tup, ro_ktup, ro_lst, ro_tmp, ro_scr, ro_loc, ro_fn, hro, hro2] at he | simp only [List.set, List.map_cons, List.map_nil, ro_int, ro_bl, ro_str, ro_non, ro_undef, ro_tup, ro_ktup, ro_lst, ro_tmp, ro_scr, ro_loc, ro_fn, hro] at he | simp only [List.set, List.map_cons, List.map_nil, ro_int, ro_bl, ro_str, ro_non, ro_undef, ro_tup, ro_ktup, ro_lst, ro_tmp, ro_scr, ro_loc, ro_fn] at he | skip); subst he))
  | ((with_reducible intro _ he); (first | simp only [List.set, List.map_cons, List.map_nil, ro_int, ro_bl, ro_str, ro_non, ro_undef, ro_tup, ro_ktup, ro_lst, ro_tmp, ro_scr, ro_loc, ro_fn, hro, hro2] at he | simp only [List.set, List.map_cons, List.map_nil, ro_int, ro_bl, ro_str, ro_non, ro_undef, ro_tup, ro_ktup, ro_lst, ro_tmp, ro_scr, ro_loc, ro_fn, hro] at he | simp only [List.set, List.map_cons, List.map_nil, ro_int, ro_bl, ro_str, ro_non, ro_undef, ro_tup, ro_ktup, ro_lst, ro_tmp, ro_scr, ro_loc, ro_fn] at he | skip); subst he)
  | ((with_reducible apply bind_of); (focus ((first | simp only [bindT, bindTs, seqW, isScr, ro_int, ro_bl, ro_str, ro_non, ro_undef, ro_tup, ro_ktup, ro_lst, ro_tmp, ro_scr, ro_loc, ro_fn, hro, hro2, wipeW, List.set, List.length_cons, List.length_nil, Bool.false_eq_true, if_false, if_true, Nat.reduceAdd, Nat.reduceLT, ↓reduceIte] | simp only [bindT, bindTs, seqW, isScr, ro_int, ro_bl, ro_str, ro_non, ro_undef, ro_tup, ro_ktup, ro_lst, ro_tmp, ro_scr, ro_loc, ro_fn, hro, wipeW, List.set, List.length_cons, List.length_nil, Bool.false_eq_true, if_false, if_true, Nat.reduceAdd, Nat.reduceLT, ↓reduceIte] | simp only [bindT, bindTs, seqW, isScr, ro_int, ro_bl, ro_str, ro_non, ro_undef, ro_tup, ro_ktup, ro_lst, ro_tmp, ro_scr, ro_loc, ro_fn, wipeW, List.set, List.length_cons, List.length_nil, Bool.false_eq_true, if_false, if_true, Nat.reduceAdd, Nat.reduceLT, ↓reduceIte]); rfl)))
  | ((with_reducible apply binds_of); (focus ((first | simp only [List.map_cons, List.map_nil, bindT, bindTs, seqW, isScr, ro_int, ro_bl, ro_str, ro_non, ro_undef, ro_tup, ro_ktup, ro_lst, ro_tmp, ro_scr, ro_loc, ro_fn, hro, hro2, wipeW, List.set, List.length_cons, List.length_nil, Bool.false_eq_true, if_false, if_true, Nat.reduceAdd, Nat.reduceLT, ↓reduceIte] | simp only [List.map_cons, List.map_nil, bindT, bindTs, seqW, isScr, ro_int, ro_bl, ro_str, ro_non, ro_undef, ro_tup, ro_ktup, ro_lst, ro_tmp, ro_scr, ro_loc, ro_fn, hro, wipeW, List.set, List.length_cons, List.length_nil, Bool.false_eq_true, if_false, if_true, Nat.reduceAdd, Nat.reduceLT, ↓reduceIte] | simp only [List.map_cons, List.map_nil, bindT, bindTs, seqW, isScr, ro_int, ro_bl, ro_str, ro_non, ro_undef, ro_tup, ro_ktup, ro_lst, ro_tmp, ro_scr, ro_loc, ro_fn, wipeW, List.set, List.length_cons, List.length_nil, Bool.false_eq_true, if_false, if_true, Nat.reduceAdd, Nat.reduceLT, ↓reduceIte]); rfl))))
local macro_rules | `(tactic| array_get_dec) => `(tactic| first
  | ((with_reducible apply wp_var); rfl; (first | assumption | (focus (intro h; cases h; done))))
  | (with_reducible refine wp_int ?_)
  | (with_reducible refine wpSs_cons ?_)
  | (with_reducible refine wpEs_cons ?_)
  | (with_reducible refine wpEs_nil ?_)
  | (with_reducible refine wpS_asg ?_)
  | (with_reducible refine wpS_ret ?_)
  | (with_reducible refine wpS_ite ?_)
  | (with_reducible refine wpS_for' ?_)
  | (with_reducible refine wpS_ex ?_)
  | (with_reducible refine wp_sub ?_)
  | (with_reducible refine wp_cmp ?_)
  | (with_reducible refine wp_bi ?_)
  | (with_reducible refine wp_call ?_)
  | (with_reducible refine wp_bin ?_)
  | (with_reducible refine wp_not ?_)
  | (with_reducible refine wp_isi ?_)
  | (with_reducible refine wp_meth ?_)
  | (with_reducible refine wp_tup ?_)
  | (with_reducible refine wp_lst ?_)
  | (with_reducible refine wp_and1 ?_)
  | (with_reducible refine wp_and2 ?_)
  | (with_reducible refine wp_or1 ?_)
  | (with_reducible refine wp_or2 ?_)
  | (with_reducible refine wpS_asgT ?_)
  | (with_reducible refine wpS_asgS ?_)
  | (with_reducible refine wpSs_nil ?_)
  | (with_reducible refine ret_same ?_)
  | (with_reducible refine tru_bl ?_)
  | (with_reducible refine bl_of ?_)
  | ((with_reducible refine br_t ?_ ?_); (focus (first | exact rfl | assumption | (simp only [Bool.not_eq_true', Bool.not_eq_false', decide_eq_true_eq, decide_eq_false_iff_not, List.length_cons, List.length_nil, List.length_map, List.length_range]; omega))))
  | ((with_reducible refine br_f ?_ ?_); (focus (first | exact rfl | assumption | (simp only [Bool.not_eq_true', Bool.not_eq_false', decide_eq_true_eq, decide_eq_false_iff_not, List.length_cons, List.length_nil, List.length_map, List.length_range]; omega))))
  | (with_reducible refine wp_non ?_)
  | (with_reducible refine wp_bl ?_)
  | (with_reducible refine wp_str ?_)
  | (with_reducible refine wp_gfn ?_)
  | ((with_reducible apply wp_gcon); rfl)
  | (with_reducible refine wp_alloc ?_)
  | ((with_reducible refine alloc_tmp ?_); (intro _ _ hen hes; (try simp only [List.length_append, List.length_set, List.length_cons, List.length_nil, Nat.zero_add, Nat.add_assoc, Nat.reduceAdd] at hen); (try simp only [List.append_assoc, List.cons_append, List.nil_append] at hes); subst hen; subst hes))
  | ((with_reducible refine wp_dnewT ?_); (intro _ _ hen hes; (try simp only [List.length_append, List.length_set, List.length_cons, List.length_nil, Nat.zero_add, Nat.add_assoc, Nat.reduceAdd] at hen); (try simp only [List.append_assoc, List.cons_append, List.nil_append] at hes); subst hen; subst hes))
  | ((with_reducible refine wp_dnewK ?_); (intro _ _ hen hes; (try simp only [List.length_append, List.length_set, List.length_cons, List.length_nil, Nat.zero_add, Nat.add_assoc, Nat.reduceAdd] at hen); (try simp only [List.append_assoc, List.cons_append, List.nil_append] at hes); subst hen; subst hes))
  | (with_reducible refine wp_ife ?_)
  | (with_reducible refine wp_comp ?_)
  | (with_reducible refine wp_comp2 ?_)
  | (with_reducible refine wp_cmp2 ?_)
  | (with_reducible refine wp_neg ?_)
  | (with_reducible refine neg_int ?_)
  | (with_reducible refine wp_slice ?_)
  | (with_reducible refine wpO_none ?_)
  | (with_reducible refine wpO_some ?_)
  | (with_reducible refine opt_int ?_)
  | (with_reducible refine wp_rev ?_)
  | (with_reducible refine wpI_seq ?_)
  | (with_reducible refine wpI_rng1 ?_)
  | (with_reducible refine wpI_rng2 ?_)
  | (with_reducible refine wpI_enum ?_)
  | (with_reducible refine wpTs_nil ?_)
  | (with_reducible refine wpTs_one ?_)
  | (with_reducible refine wpS_par ?_)
  | (with_reducible refine wpS_pass ?_)
  | (with_reducible refine wpS_brk ?_)
  | (with_reducible refine wpS_cont ?_)
  | (with_reducible refine wpS_retN ?_)
  | (with_reducible refine wpS_tryN ?_)
  | (with_reducible refine wp_callL ?_)
  | ((with_reducible apply wp_callv); rfl; (focus (first | assumption | decide)))
  | ((with_reducible apply wp_callc); rfl)
  | ((with_reducible apply wp_callP); rfl)
  | ((with_reducible apply len_map); (focus assumption))
  | ((with_reducible apply len_w); (focus (first | rfl | assumption)))
  | ((with_reducible apply it_of); (focus (first | assumption | apply hth | rfl)); (focus (first | assumption | rfl)))
  | ((with_reducible apply eq_nil); (focus (first | rfl | assumption)))
  | ((with_reducible apply ne_nil); (focus (first | rfl | assumption)))
  | ((with_reducible refine rng1_int ?_ ?_ ?_); (focus omega); (focus omega))
  | ((with_reducible refine rng2_int ?_ ?_ ?_ ?_ ?_); (focus omega); (focus omega); (focus omega); (focus omega))
  | (with_reducible refine eq_ii ?_)
  | (with_reducible refine ne_ii ?_)
  | (with_reducible refine lt_ii ?_)
  | (with_reducible refine le_ii ?_)
  | (with_reducible refine gt_ii ?_)
  | (with_reducible refine ge_ii ?_)
  | (with_reducible refine add_ii ?_)
  | (with_reducible refine sub_ii ?_)
  | (with_reducible refine int_i ?_)
  | (with_reducible refine max_ii ?_)
  | (with_reducible refine min_ii ?_)
  | (with_reducible refine tuple_k ?_)
  | ((with_reducible apply is_non); (focus (first | rfl | assumption)))
  | ((with_reducible apply isnot_non); (focus (first | rfl | assumption)))
  | ((with_reducible apply isi_of); (focus (first | rfl | assumption)))
  | ((with_reducible refine And.intro ?_ ?_); (first | decide | (focus (simp [sizeLine]; done))); (intro _ he; (first | simp only [List.set, List.map_cons, List.map_nil, ro_int, ro_bl, ro_str, ro_non, ro_undef, ro_tup, ro_ktup, ro_lst, ro_tmp, ro_scr, ro_loc, ro_fn, hro, hro2] at he | simp only [List.set, List.map_cons, List.map_nil, ro_int, ro_bl, ro_str, ro_non, ro_undef, ro_tup, ro_ktup, ro_lst, ro_tmp, ro_scr, ro_loc, ro_fn, hro] at he | simp only [List.set, List.map_cons, List.map_nil, ro_int, ro_bl, ro_str, ro_non, ro_undef, ro_tup, ro_ktup, ro_lst, ro_tmp, ro_scr, ro_loc, ro_fn] at he | skip); subst he))
  | ((with_reducible intro _ he); (first | simp only [List.set, List.map_cons, List.map_nil, ro_int, ro_bl, ro_str, ro_non, ro_undef, ro_tup, ro_ktup, ro_lst, ro_tmp, ro_scr, ro_loc, ro_fn, hro, hro2] at he | simp only [List.set, List.map_cons, List.map_nil, ro_int, ro_bl, ro_str, ro_non, ro_undef, ro_tup, ro_ktup, ro_lst, ro_tmp, ro_scr, ro_loc, ro_fn, hro] at he | simp only [List.set, List.map_cons, List.map_nil, ro_int, ro_bl, ro_str, ro_non, ro_undef, ro_tup, ro_ktup, ro_lst, ro_tmp, ro_scr, ro_loc, ro_fn] at he | skip); subst he)
  | ((with_reducible apply bind_of); (focus ((first | simp only [bindT, bindTs, seqW, isScr, ro_int, ro_bl, ro_str, ro_non, ro_undef, ro_tup, ro_ktup, ro_lst, ro_tmp, ro_scr, ro_loc, ro_fn, hro, hro2, wipeW, List.set, List.length_cons, List.length_nil, Bool.false_eq_true, if_false, if_true, Nat.reduceAdd, Nat.reduceLT, ↓reduceIte] | simp only [bindT, bindTs, seqW, isScr, ro_int, ro_bl, ro_str, ro_non, ro_undef, ro_tup, ro_ktup, ro_lst, ro_tmp, ro_scr, ro_loc, ro_fn, hro, wipeW, List.set, List.length_cons, List.length_nil, Bool.false_eq_true, if_false, if_true, Nat.reduceAdd, Nat.reduceLT, ↓reduceIte] | simp only [bindT, bindTs, seqW, isScr, ro_int, ro_bl, ro_str, ro_non, ro_undef, ro_tup, ro_ktup, ro_lst, ro_tmp, ro_scr, ro_loc, ro_fn, wipeW, List.set, List.length_cons, List.length_nil, Bool.false_eq_true, if_false, if_true, Nat.reduceAdd, Nat.reduceLT, ↓reduceIte]); rfl)))
  | ((with_reducible apply binds_of); (focus ((first | simp only [List.map_cons, List.map_nil, bindT, bindTs, seqW, isScr, ro_int, ro_bl, ro_str, ro_non, ro_undef, ro_tup, ro_ktup, ro_lst, ro_tmp, ro_scr, ro_loc, ro_fn, hro, hro2, wipeW, List.set, List.length_cons, List.length_nil, Bool.false_eq_true, if_false, if_true, Nat.reduceAdd, Nat.reduceLT, ↓reduceIte] | simp only [List.map_cons, List.map_nil, bindT, bindTs, seqW, isScr, ro_int, ro_bl, ro_str, ro_non, ro_undef, ro_tup, ro_ktup, ro_lst, ro_tmp, ro_scr, ro_loc, ro_fn, hro, wipeW, List.set, List.length_cons, List.length_nil, Bool.false_eq_true, if_false, if_true, Nat.reduceAdd, Nat.reduceLT, ↓reduceIte] | simp only [List.map_cons, List.map_nil, bindT, bindTs, seqW, isScr, ro_int, ro_bl, ro_str, ro_non, ro_undef, ro_tup, ro_ktup, ro_lst, ro_tmp, ro_scr, ro_loc, ro_fn, wipeW, List.set, List.length_cons, List.length_nil, Bool.false_eq_true, if_false, if_true, Nat.reduceAdd, Nat.reduceLT, ↓reduceIte]); rfl))))
/-- a three as a dict's key -/
def key3 (a b c : Nat) : List L2.Key := [.inl (a : Int), .inl (b : Int), .inl (c : Int)]
theorem key3_inj {a b c a' b' c' : Nat} : key3 a b c = key3 a' b' c' ↔ a = a' ∧ b = b' ∧ c = c' := by
  unfold key3
  simp only [List.cons.injEq, Sum.inl.injEq, and_true]
  omega
theorem look_put {κ : Type} [DecidableEq κ] {k k' : κ} {w : W} {kvs : List (κ × W)} : (lookK k' (putK k w kvs)).isSome = (decide (k = k') || (lookK k' kvs).isSome) := by
  unfold lookK putK
  split
  · rename_i h
    induction kvs with
    | nil => simp at h
    | cons p kvs ih =>
      simp only [List.map_cons, List.find?_cons, List.any_cons] at h ⊢
      by_cases h1 : p.1 = k
      · subst h1
        simp only [if_true]
        by_cases h2 : p.1 = k'
        · simp [h2]
        · simp only [h2, decide_false, Bool.false_or]
          by_cases h3 : (kvs.any fun kv => decide (kv.1 = p.1)) = true
          · have := ih h3
            simpa [h2] using this
          · have e : kvs.map (fun kv => if kv.1 = p.1 then (kv.1, w) else kv) = kvs := by
              simp only [Bool.not_eq_true, List.any_eq_false, decide_eq_true_eq] at h3
              have : kvs.map (fun kv => if kv.1 = p.1 then (kv.1, w) else kv) = kvs.map id := List.map_congr_left fun q hq => by rw [if_neg (h3 q hq)]; rfl
              rw [this]; simp
            rw [e]
      · simp only [h1, decide_false, Bool.false_or, if_false] at h ⊢
        by_cases h2 : p.1 = k'
        · simp [h2]
        · simp only [h2, decide_false]
          exact ih h
  · rename_i h
    simp only [Bool.not_eq_true, List.any_eq_false, decide_eq_true_eq] at h
    rw [List.find?_append]
    cases hf : kvs.find? (fun kv => decide (kv.1 = k')) with
    | some q => simp
    | none => by_cases h2 : k = k' <;> simp [h2]
theorem put_len {κ : Type} [DecidableEq κ] {k : κ} {w : W} {kvs : List (κ × W)} : (putK k w kvs).length ≤ kvs.length + 1 := by
  unfold putK
  split <;> simp
theorem put_ok {κ : Type} [DecidableEq κ] {n : Nat} {k : κ} {w : W} {kvs : List (κ × W)} (h : okVs n (kvs.map (·.2)) = true) (hw : okV n w = true) : okVs n ((putK k w kvs).map (·.2)) = true := by
  unfold putK
  rw [okVs_mem] at h ⊢
  split
  · intro x hx
    simp only [List.map_map, List.mem_map] at hx h
    obtain ⟨p, hp, rfl⟩ := hx
    simp only [Function.comp]
    split
    · exact hw
    · exact h _ ⟨p, hp, rfl⟩
  · intro x hx
    rw [List.map_append] at hx
    rcases List.mem_append.mp hx with hx | hx
    · exact h x hx
    · obtain rfl : x = w := by simpa using hx
      exact hw
mutual
theorem okV_mono {n m : Nat} (h : n ≤ m) : ∀ w : W, okV n w = true → okV m w = true
  | .undef, e => e
  | .non, e => e
  | .bl _, e => e
  | .int _, e => e
  | .str _, e => e
  | .tup ws, e => okVs_mono h ws e
  | .ktup ws, e => okVs_mono h ws e
  | .lst ws, e => okVs_mono h ws e
  | .tmp ws, e => okVs_mono h ws e
  | .scr _, e => e
  | .loc i, e => by
    have e : decide (i < n) = true := e
    show decide (i < m) = true
    simp only [decide_eq_true_eq] at e ⊢
    omega
  | .fn _, e => e
theorem okVs_mono {n m : Nat} (h : n ≤ m) : ∀ ws : List W, okVs n ws = true → okVs m ws = true
  | [], _ => rfl
  | w :: ws, e => by
    simp only [okVs, Bool.and_eq_true] at e ⊢
    exact ⟨okV_mono h w e.1, okVs_mono h ws e.2⟩
end
theorem okC_mono {n m : Nat} (h : n ≤ m) : ∀ c : Cell, okC n c = true → okC m c = true
  | .lst ws, e => okVs_mono h ws e
  | .dK _, e => okVs_mono h _ e
  | .dT _, e => okVs_mono h _ e
theorem okSt_app {st cs : Store} (h : okSt st) (h2 : ∀ c ∈ cs, okC (st ++ cs).length c = true) : okSt (st ++ cs) := by
  intro c hc
  rcases List.mem_append.mp hc with hc | hc
  · exact okC_mono (by simp) c (h c hc)
  · exact h2 c hc
theorem get_app0 {st cs : Store} {c : Cell} : (st ++ c :: cs)[st.length]? = some c := by simp
theorem set_app0 {st cs : Store} {c c' : Cell} : (st ++ c :: cs).set st.length c' = st ++ c' :: cs := by simp
theorem get_appL {st cs : Store} {a c : Cell} : (st ++ a :: (cs ++ [c]))[st.length + (cs.length + 1)]? = some c := by
  rw [List.getElem?_append_right (by omega)]
  simp
theorem set_appL {st cs : Store} {a c c' : Cell} : (st ++ a :: (cs ++ [c])).set (st.length + (cs.length + 1)) c' = st ++ a :: (cs ++ [c']) := by
  rw [List.set_append_right _ _ (by omega)]
  simp
theorem get_appB {st cs : Store} {c : Cell} {n : Nat} (h : st[n]? = some c) : (st ++ cs)[n]? = some c := by
  rw [List.getElem?_append_left (List.getElem?_eq_some_iff.mp h).1]; exact h
theorem range_at {n i x : Nat} (h : (List.range n)[i]? = some x) : x = i ∧ i < n := by
  have hl := (List.getElem?_eq_some_iff.mp h).1
  rw [List.length_range] at hl
  rw [List.getElem?_range hl] at h
  exact ⟨(Option.some.inj h).symm, hl⟩
section
variable {P : Prog} {d : Nat} {st : Store} {Q : Post} {X : XPost}
/-- the lot that stands there -/
def lotsOf (p : Nat → Nat → Nat → Bool) (m : Nat) : List (List (List Nat)) := (List.range m).map fun a => (List.range m).map fun b => (List.range m).filter fun c => p a b c
theorem in_dT {n : Nat} {kvs : List (List L2.Key × W)} {a b c : Nat} {B : Bool → Prop} (h : st[n]? = some (.dT kvs)) (q : B (lookK (key3 a b c) kvs).isSome) : cmpW st .In (.tup [nW a, nW b, nW c]) (.loc n) B := by
  show inW st _ (.loc n) B
  simp only [inW, h]
  exact ⟨_, _, rfl, rfl, q⟩
theorem set_dT {n : Nat} {kvs : List (List L2.Key × W)} {a b c : Nat} {w : W} {K : Store → Prop} (h : st[n]? = some (.dT kvs)) (hl : kvs.length < sizeLine) (q : K (st.set n (.dT (putK (key3 a b c) (ro w) kvs)))) : setW st (.loc n) (.tup [nW a, nW b, nW c]) w K := by
  simp only [setW, h]
  exact ⟨_, _, rfl, rfl, hl, q⟩
theorem okV_lot (n : Nat) (l : List Nat) : okV n (lotW l) = true := by
  show okVs n (l.map nW) = true
  rw [okVs_mem]
  intro w hw
  obtain ⟨z, _, rfl⟩ := List.mem_map.mp hw
  rfl
theorem okV_row (n : Nat) (r : List (List Nat)) : okV n (rowW r) = true := by
  show okVs n (r.map lotW) = true
  rw [okVs_mem]
  intro w hw
  obtain ⟨z, _, rfl⟩ := List.mem_map.mp hw
  exact okV_lot n z
theorem okV_tab (n : Nat) (t : List (List (List Nat))) : okV n (.tup (t.map rowW)) = true := by
  show okVs n (t.map rowW) = true
  rw [okVs_mem]
  intro w hw
  obtain ⟨z, _, rfl⟩ := List.mem_map.mp hw
  exact okV_row n z
theorem okV_book (n : Nat) (l : List Nat) (t : List (List (List Nat))) : okV n (.tup [lotW l, .tup (t.map rowW)]) = true := by
  show (okV n (lotW l) && (okV n (.tup (t.map rowW)) && true)) = true
  rw [okV_lot, okV_tab]; rfl
theorem sp_made {g dk : Nat} {ts : List Nat} {tw : W} {kvs : List (List L2.Key × W)} (hf : P.fns[g]? = some fMade) (hs : ∀ cs, seqW (st ++ cs) tw = some (ts.map nW)) (hk : match tw with | .ktup _ => False | .scr _ => False | .undef => False | .tmp _ => False | _ => True) (hd : st[dk]? = some (.dT kvs)) (hm : ts.length ≤ 100) (hst : okSt st)
    (q : Q (.tup [lotW ts, .tup ((lotsOf (fun a b c => (lookK (key3 a b c) kvs).isSome) ts.length).map rowW)]) st) : (callW P (d + 1)).fn g none [tw, .loc dk] st Q X := by
  have hro : ro tw = tw := by cases tw <;> first | rfl | exact hk.elim
  have hu : tw ≠ .undef := by intro h; subst h; exact hk
  have hks : ∀ {s : Store} {Q : Post}, seqW s tw = some (ts.map nW) → Q (lotW ts) s → biW s .tuple [tw] Q := fun h q => tuple_w h (by cases tw <;> first | trivial | exact hk) q
  refine fn_in (env := [tw, .loc dk, .undef, .undef, .undef, .undef, .undef, .undef]) hf rfl rfl rfl ?_
  dsimp only [fMade]
  repeat' sizeOf_list_dec
  refine len_map (hs _) ?_
  repeat' sizeOf_list_dec
  refine for_ty (List.range ts.length) nW (rangeW_nat _) (fun i env s => ∃ v2 v5 v6 v7 cs, env = [tw, .loc dk, v2, .loc st.length, nW ts.length, v5, v6, v7] ∧ s = st ++ .lst (((lotsOf (fun a b c => (lookK (key3 a b c) kvs).isSome) ts.length).take i).map rowW) :: cs) ⟨_, _, _, _, [], rfl, rfl⟩ ?_ ?_
  · rintro i x env s nx' hx ⟨v2, v5, v6, v7, cs, rfl, rfl⟩ hn
    obtain ⟨rfl, hi⟩ := range_at hx
    refine ⟨trivial, ?_⟩
    repeat' sizeOf_list_dec
    refine for_ty (List.range ts.length) nW (rangeW_nat _) (fun j env s => ∃ v6 v7, env = [tw, .loc dk, nW x, .loc st.length, nW ts.length, .loc (st.length + (cs.length + 1)), v6, v7] ∧ s = st ++ .lst (((lotsOf (fun a b c => (lookK (key3 a b c) kvs).isSome) ts.length).take x).map rowW) :: (cs ++ [.lst (((List.range j).map fun b => (List.range ts.length).filter fun c => (lookK (key3 x b c) kvs).isSome).map lotW)])) ⟨_, _, rfl, rfl⟩ ?_ ?_
    · rintro j y env s nx2 hy ⟨v6, v7, rfl, rfl⟩ hn2
      obtain ⟨rfl, hj⟩ := range_at hy
      refine ⟨trivial, ?_⟩
      repeat' sizeOf_list_dec
      refine ⟨meTy_lst get_appL (by simp), ?_⟩
      repeat' sizeOf_list_dec
      refine comp_ty (List.range ts.length) nW (fun c => (lookK (key3 x y c) kvs).isSome) nW (rangeW_nat _) trivial (by simp [sizeLine]; omega) (fun c hc => ⟨[tw, .loc dk, nW x, .loc st.length, nW ts.length, .loc (st.length + (cs.length + 1)), nW y, nW c], rfl, fun K q => ?_, fun _ K q => ?_⟩) ?_
      · repeat' sizeOf_list_dec
        refine in_dT (get_appB hd) ?_
        repeat' sizeOf_list_dec
        exact q
      · repeat' sizeOf_list_dec
        exact q _ rfl
      repeat' sizeOf_list_dec
      refine tuple_w rfl trivial ?_
      repeat' sizeOf_list_dec
      refine append_w get_appL (by simp [sizeLine]; omega) ?_
      rw [set_appL]
      repeat' sizeOf_list_dec
      refine hn2 _ _ ⟨_, _, rfl, ?_⟩
      rw [List.range_succ, List.map_append, List.map_append]
      rfl
    · rintro env s ⟨v6, v7, rfl, rfl⟩
      refine ⟨trivial, ?_⟩
      repeat' sizeOf_list_dec
      refine ⟨meTy_lst get_app0 (by simp), ?_⟩
      repeat' sizeOf_list_dec
      refine tuple_w (ws := ((List.range ts.length).map fun b => (List.range ts.length).filter fun c => (lookK (key3 x b c) kvs).isSome).map lotW) (by simp only [seqW, List.length_range, get_appL]) trivial ?_
      repeat' sizeOf_list_dec
      refine append_w get_app0 (by simp [sizeLine]; omega) ?_
      rw [set_app0]
      repeat' sizeOf_list_dec
      have e : (lotsOf (fun a b c => (lookK (key3 a b c) kvs).isSome) ts.length).take (x + 1) = (lotsOf (fun a b c => (lookK (key3 a b c) kvs).isSome) ts.length).take x ++ [(List.range ts.length).map fun b => (List.range ts.length).filter fun c => (lookK (key3 x b c) kvs).isSome] := by
        rw [List.take_succ]
        congr 1
        unfold lotsOf
        rw [List.getElem?_map, List.getElem?_range hi]
        rfl
      exact hn _ _ ⟨_, _, _, _, _, rfl, (by rw [e, List.map_append]; rfl)⟩
  · rintro env s ⟨v2, v5, v6, v7, cs, rfl, rfl⟩
    refine ⟨trivial, ?_⟩
    repeat' sizeOf_list_dec
    refine hks (hs _) ?_
    repeat' sizeOf_list_dec
    refine tuple_w (by simp only [seqW, get_app0]; rfl) trivial ?_
    repeat' sizeOf_list_dec
    rw [List.length_range, List.take_of_length_le (by simp [lotsOf])]
    exact ret_app (okV_book _ _ _) hst q
theorem rep_w {x : W} {m : Nat} {K : W → Prop} (hm : m ≤ 1000) (q : K (.tmp (List.replicate m x))) : binW st .Mult (.tmp [x]) (.int (m : Nat)) K := by
  refine ⟨[x], rfl, by omega, by omega, ?_, ?_⟩
  · have : (1000 : Nat) ≤ sizeLine := by decide
    show 1 * _ ≤ _
    omega
  · have e : (List.replicate ((m : Nat) : Int).toNat [x]).flatten = List.replicate m x := by
      rw [Int.toNat_natCast]
      clear hm q
      induction m with
      | zero => rfl
      | succ m ih => rw [List.replicate_succ, List.flatten_cons, ih]; rfl
    rw [e]
    exact q
theorem get_app1 {st cs : Store} {a c : Cell} : (st ++ a :: c :: cs)[st.length + 1]? = some c := by
  rw [List.getElem?_append_right (by omega)]
  simp
theorem set_app1 {st cs : Store} {a c c' : Cell} : (st ++ a :: c :: cs).set (st.length + 1) c' = st ++ a :: c' :: cs := by
  rw [List.set_append_right _ _ (by omega)]
  simp
theorem take_at {α : Type} {xs : List α} {i : Nat} {x : α} (h : xs[i]? = some x) : xs.take (i + 1) = xs.take i ++ [x] := by
  rw [List.take_succ, h]; rfl
theorem map_set_nW (T : List Nat) (k v : Nat) : (T.map nW).set k (nW v) = (T.set k v).map nW := (List.map_set ..).symm
theorem sp_model {α : Type} {g m kf : Nat} {M : Nat} {xs : List α} {inj : α → W} {kd : α → α → Nat} {τ : List Nat} {th : W} (hM : P.fns[m]? = some fMade) (hf : P.fns[g]? = some (fModel m)) (hlt : kf < P.fns.length)
    (hkd : ∀ x ∈ xs, ∀ y ∈ xs, ∀ {st : Store} {Q : Post} {X : XPost}, Q (nW (kd x y)) st → (callW P (d + 1)).fn kf none [inj x, inj y] st Q X)
    (hro : ∀ x, ro (inj x) = inj x) (hun : ∀ x, inj x ≠ .undef) (hth : ∀ cs, seqW (st ++ cs) th = some (xs.map inj)) (hsc : isScr th = false) (hroth : ro th = th) (huth : th ≠ .undef)
    (hτl : τ.length = M) (hMl : M ≤ 100) (hn : xs.length ≤ 100) (hb : ∀ x ∈ xs, ∀ y ∈ xs, kd x y < M) (hτ : ∀ x ∈ xs, ∀ y ∈ xs, τ.getD (kd x y) 0 = kd y x) (hall : ∀ k < M, ∃ x ∈ xs, ∃ y ∈ xs, kd x y = k) (hst : okSt st)
    (q : ∀ p : Nat → Nat → Nat → Bool, (∀ a b c, p a b c = true ↔ ∃ x ∈ xs, ∃ y ∈ xs, ∃ z ∈ xs, kd x y = a ∧ kd y z = b ∧ kd x z = c) → Q (.tup [lotW τ, .tup ((lotsOf p M).map rowW)]) st) : (callW P (d + 2)).fn g none [th, .fn kf, nW M] st Q X := by
  refine fn_in (env := [th, .fn kf, nW M, .undef, .undef, .undef, .undef, .undef]) hf rfl rfl rfl ?_
  dsimp only [fModel]
  have hro' := hro
  repeat' sizeOf_list_dec
  refine rep_w (by omega) ?_
  repeat' sizeOf_list_dec
  refine for_ty xs inj rfl (fun i env s => ∃ v3 v6 v7 T kvs, env = [th, .fn kf, nW M, v3, .loc st.length, .loc (st.length + 1), v6, v7] ∧ s = st ++ [.lst (T.map nW), .dT kvs] ∧ T.length = M ∧ kvs.length ≤ i * 10000 ∧ okVs 0 (kvs.map (·.2)) = true ∧
      (∀ x ∈ xs.take i, ∀ y ∈ xs, T.getD (kd x y) 0 = kd y x) ∧ (∀ a b c, (lookK (key3 a b c) kvs).isSome = true ↔ ∃ x ∈ xs.take i, ∃ y ∈ xs, ∃ z ∈ xs, kd x y = a ∧ kd y z = b ∧ kd x z = c))
    ⟨_, _, _, List.replicate M 0, [], rfl, by rw [List.map_replicate]; rfl, List.length_replicate, Nat.zero_le _, rfl, by simp, by intro a b c; simp [lookK]⟩ ?_ ?_
  · rintro i x env s nx' hx ⟨v3, v6, v7, T, kvs, rfl, rfl, hTl, hkl, hok, hT, hD⟩ hn2
    have hxm : x ∈ xs := List.mem_of_getElem? hx
    have hil := (List.getElem?_eq_some_iff.mp hx).1
    have ux := hun x
    refine ⟨hth _, ?_⟩
    repeat' sizeOf_list_dec
    refine for_ty xs inj rfl (fun j env s => ∃ v6 v7 T kvs, env = [th, .fn kf, nW M, inj x, .loc st.length, .loc (st.length + 1), v6, v7] ∧ s = st ++ [.lst (T.map nW), .dT kvs] ∧ T.length = M ∧ kvs.length ≤ i * 10000 + j * 100 ∧ okVs 0 (kvs.map (·.2)) = true ∧
        (∀ x ∈ xs.take i, ∀ y ∈ xs, T.getD (kd x y) 0 = kd y x) ∧ (∀ y ∈ xs.take j, T.getD (kd x y) 0 = kd y x) ∧
        (∀ a b c, (lookK (key3 a b c) kvs).isSome = true ↔ (∃ x ∈ xs.take i, ∃ y ∈ xs, ∃ z ∈ xs, kd x y = a ∧ kd y z = b ∧ kd x z = c) ∨ ∃ y ∈ xs.take j, ∃ z ∈ xs, kd x y = a ∧ kd y z = b ∧ kd x z = c))
      ⟨_, _, T, kvs, rfl, rfl, hTl, by omega, hok, hT, by simp, by intro a b c; rw [hD]; simp⟩ ?_ ?_
    · rintro j y env s nx2 hy ⟨v6, v7, T, kvs, rfl, rfl, hTl, hkl, hok, hT, hT2, hD⟩ hn3
      have hym : y ∈ xs := List.mem_of_getElem? hy
      have hjl := (List.getElem?_eq_some_iff.mp hy).1
      have uy := hun y
      have k1 := hb x hxm y hym
      refine ⟨hth _, ?_⟩
      repeat' sizeOf_list_dec
      refine hkd y hym x hxm ?_
      repeat' sizeOf_list_dec
      refine hkd x hxm y hym ?_
      refine set_w get_app0 (by rw [List.length_map, hTl]; exact k1) ?_
      rw [set_app0]
      have e1 : (T.map nW).set (kd x y) (ro (nW (kd y x))) = (T.set (kd x y) (kd y x)).map nW := map_set_nW ..
      rw [e1]
      repeat' sizeOf_list_dec
      have hset : ∀ x' ∈ xs, ∀ y' ∈ xs, (T.getD (kd x' y') 0 = kd y' x' ∨ kd x' y' = kd x y) → (T.set (kd x y) (kd y x)).getD (kd x' y') 0 = kd y' x' := by
        intro x' hx' y' hy' h
        rw [List.getD_eq_getElem?_getD]
        by_cases h2 : kd x y = kd x' y'
        · rw [← h2, List.getElem?_set_self (by omega)]
          show kd y x = kd y' x'
          rw [← hτ x hxm y hym, ← hτ x' hx' y' hy', h2]
        · rw [List.getElem?_set_ne h2, ← List.getD_eq_getElem?_getD]
          rcases h with h | h
          · exact h
          · exact absurd h.symm h2
      refine for_ty xs inj rfl (fun k env s => ∃ v7 kvs, env = [th, .fn kf, nW M, inj x, .loc st.length, .loc (st.length + 1), inj y, v7] ∧ s = st ++ [.lst ((T.set (kd x y) (kd y x)).map nW), .dT kvs] ∧ kvs.length ≤ i * 10000 + j * 100 + k ∧ okVs 0 (kvs.map (·.2)) = true ∧
          (∀ a b c, (lookK (key3 a b c) kvs).isSome = true ↔ ((∃ x ∈ xs.take i, ∃ y ∈ xs, ∃ z ∈ xs, kd x y = a ∧ kd y z = b ∧ kd x z = c) ∨ ∃ y ∈ xs.take j, ∃ z ∈ xs, kd x y = a ∧ kd y z = b ∧ kd x z = c) ∨ ∃ z ∈ xs.take k, kd x y = a ∧ kd y z = b ∧ kd x z = c))
        ⟨_, kvs, rfl, rfl, by omega, hok, by intro a b c; rw [hD]; simp⟩ ?_ ?_
      · rintro k z env s nx3 hz ⟨v7, kvs, rfl, rfl, hkl, hok, hD⟩ hn4
        have hzm : z ∈ xs := List.mem_of_getElem? hz
        have hkl2 := (List.getElem?_eq_some_iff.mp hz).1
        have uz := hun z
        refine ⟨hth _, ?_⟩
        repeat' sizeOf_list_dec
        refine hkd x hxm y hym ?_
        repeat' sizeOf_list_dec
        refine hkd y hym z hzm ?_
        repeat' sizeOf_list_dec
        refine hkd x hxm z hzm ?_
        repeat' sizeOf_list_dec
        refine set_dT get_app1 (Nat.lt_of_lt_of_le (show kvs.length < 2000000 by omega) (by decide)) ?_
        rw [set_app1]
        repeat' sizeOf_list_dec
        refine hn4 _ _ ⟨_, _, rfl, rfl, Nat.le_trans put_len (by omega), put_ok hok rfl, fun a b c => ?_⟩
        rw [look_put, Bool.or_eq_true, decide_eq_true_eq, key3_inj, hD, take_at hz]
        constructor
        · rintro (⟨h1, h2, h3⟩ | h)
          · exact .inr ⟨z, by simp, h1, h2, h3⟩
          · rcases h with h | ⟨z', hz', h⟩
            · exact .inl h
            · exact .inr ⟨z', by simp [hz'], h⟩
        · rintro (h | ⟨z', hz', h1, h2, h3⟩)
          · exact .inr (.inl h)
          · rcases List.mem_append.mp hz' with hz' | hz'
            · exact .inr (.inr ⟨z', hz', h1, h2, h3⟩)
            · obtain rfl : z' = z := by simpa using hz'
              exact .inl ⟨h1, h2, h3⟩
      · rintro env s ⟨v7, kvs, rfl, rfl, hkl, hok, hD⟩
        refine ⟨hth _, ?_⟩
        repeat' sizeOf_list_dec
        refine hn3 _ _ ⟨_, _, _, _, rfl, rfl, by rw [List.length_set, hTl], by omega, hok, fun x' hx' y' hy' => hset x' (List.mem_of_mem_take hx') y' hy' (.inl (hT x' hx' y' hy')), fun y' hy' => ?_, fun a b c => ?_⟩
        · rw [take_at hy] at hy'
          rcases List.mem_append.mp hy' with hy' | hy'
          · exact hset x hxm y' (List.mem_of_mem_take hy') (.inl (hT2 y' hy'))
          · obtain rfl : y' = y := by simpa using hy'
            exact hset x hxm y' hym (.inr rfl)
        · rw [hD, List.take_of_length_le (Nat.le_refl _), take_at hy]
          constructor
          · rintro ((h | ⟨y', hy', h⟩) | ⟨z, hz, h⟩)
            · exact .inl h
            · exact .inr ⟨y', by simp [hy'], h⟩
            · exact .inr ⟨y, by simp, z, hz, h⟩
          · rintro (h | ⟨y', hy', z, hz, h⟩)
            · exact .inl (.inl h)
            · rcases List.mem_append.mp hy' with hy' | hy'
              · exact .inl (.inr ⟨y', hy', z, hz, h⟩)
              · obtain rfl : y' = y := by simpa using hy'
                exact .inr ⟨z, hz, h⟩
    · rintro env s ⟨v6, v7, T, kvs, rfl, rfl, hTl, hkl, hok, hT, hT2, hD⟩
      refine ⟨hth _, ?_⟩
      repeat' sizeOf_list_dec
      rw [List.take_of_length_le (Nat.le_refl _)] at hT2 hD
      refine hn2 _ _ ⟨_, _, _, _, _, rfl, rfl, hTl, by omega, hok, fun x' hx' y' hy' => ?_, fun a b c => ?_⟩
      · rw [take_at hx] at hx'
        rcases List.mem_append.mp hx' with hx' | hx'
        · exact hT x' hx' y' hy'
        · obtain rfl : x' = x := by simpa using hx'
          exact hT2 y' hy'
      · rw [hD, take_at hx]
        constructor
        · rintro (⟨x', hx', h⟩ | h)
          · exact ⟨x', by simp [hx'], h⟩
          · exact ⟨x, by simp, h⟩
        · rintro ⟨x', hx', h⟩
          rcases List.mem_append.mp hx' with hx' | hx'
          · exact .inl ⟨x', hx', h⟩
          · obtain rfl : x' = x := by simpa using hx'
            exact .inr h
  · rintro env s ⟨v3, v6, v7, T, kvs, rfl, rfl, hTl, hkl, hok, hT, hD⟩
    rw [List.take_of_length_le (Nat.le_refl _)] at hT hD
    have hTτ : T = τ := by
      refine List.ext_getElem (by omega) fun k h1 h2 => ?_
      obtain ⟨x, hx, y, hy, e⟩ := hall k (by omega)
      have a1 := hT x hx y hy
      have a2 := hτ x hx y hy
      rw [e, List.getD_eq_getElem?_getD, List.getElem?_eq_getElem h1] at a1
      rw [e, List.getD_eq_getElem?_getD, List.getElem?_eq_getElem h2] at a2
      simp only [Option.getD_some] at a1 a2
      rw [a1, a2]
    subst hTτ
    refine ⟨hth _, ?_⟩
    repeat' sizeOf_list_dec
    have hst2 : okSt (st ++ [.lst (T.map nW), .dT kvs]) := okSt_app hst (by
      intro c hc
      rcases List.mem_cons.mp hc with rfl | hc
      · exact okV_lot _ T
      · obtain rfl : c = .dT kvs := by simpa using hc
        exact okVs_mono (Nat.zero_le _) _ hok)
    refine sp_made (ts := T) (kvs := kvs) hM (fun cs => by simp only [seqW, List.append_assoc, List.cons_append, get_app0]) trivial get_app1 (by omega) hst2 ?_
    refine ret_app (okV_book _ _ _) hst ?_
    rw [hTl]
    exact q _ hD
end
end Ev

set_option maxRecDepth 100000
set_option maxHeartbeats 4000000
/-! Wp2: steps of raise, try, and of some built-ins. -/
namespace Ev
open PySem L2
section
variable {C : CallSem} {P : Prog} {cl : Ex} {env : Env} {st : Store} {Q : Post} {X : XPost} {nx bk ct : Env → Store → Prop} {rt : Post} {ex : Nat → W → Env → Store → Prop}
theorem wpS_raise {c : Nat} {e : E} (q : wpE C P cl e env st (fun w st1 => ∀ v, v = ro w → ex c v env st1) fun c w st1 => ex c w env st1) : wpS C P cl (.raise_ c e) env st ⟨nx, rt, bk, ct, ex⟩ := by
  simp only [wpS]
  have e1 : (fun (w : W) (st1 : Store) => ∀ v, v = ro w → ex c v env st1) = fun w st1 => ex c (ro w) env st1 := by funext w st1; simp
  rwa [e1] at q
theorem wpS_try {body suite : List S} {c i : Nat} (q : wpSs C P cl body env st ⟨nx, rt, bk, ct, fun c' w env' st' => if P.sub c' c = true then i < env'.length ∧ ∀ env2, env2 = env'.set i .undef → wpSs C P ⟨none, some (c', w)⟩ suite env2 st' ⟨fun env3 st3 => nx (env3.set i .undef) st3, rt, fun _ _ => False, fun _ _ => False, fun _ _ _ _ => False⟩ else ex c' w env' st'⟩) :
    wpS C P cl (.try_ body c i suite) env st ⟨nx, rt, bk, ct, ex⟩ := by
  simp only [wpS]
  have e1 : (fun (c' : Nat) (w : W) (env' : Env) (st' : Store) => if P.sub c' c = true then i < env'.length ∧ ∀ env2, env2 = env'.set i .undef → wpSs C P ⟨none, some (c', w)⟩ suite env2 st' ⟨fun env3 st3 => nx (env3.set i .undef) st3, rt, fun _ _ => False, fun _ _ => False, fun _ _ _ _ => False⟩ else ex c' w env' st') =
      fun c' w env' st' => if P.sub c' c = true then i < env'.length ∧ wpSs C P ⟨none, some (c', w)⟩ suite (env'.set i .undef) st' ⟨fun env3 st3 => nx (env3.set i .undef) st3, rt, fun _ _ => False, fun _ _ => False, fun _ _ _ _ => False⟩ else ex c' w env' st' := by
    funext c' w env' st'
    simp
  rwa [e1] at q
theorem wp_what {i c : Nat} {w : W} (h : cl.xc = some (c, w)) (q : Q w st) : wpE C P cl (.what i) env st Q X := by
  simp only [wpE]
  exact ⟨c, w, h, q⟩
theorem wp_isx {i c d : Nat} {w : W} (h : cl.xc = some (c, w)) (q : Q (.bl (P.sub c d)) st) : wpE C P cl (.isx i d) env st Q X := by
  simp only [wpE]
  exact ⟨c, w, h, q⟩
theorem lrange_n {n : Nat} (h : n ≤ 1000) (q : Q (.tmp ((List.range n).map nW)) st) : biW st .lrange [.int (n : Nat)] Q := by
  refine ⟨by omega, ?_, ?_⟩
  · have : (1000 : Nat) ≤ sizeLine := by decide
    omega
  · rw [rangeW_nat]; exact q
theorem max3_w {i j k m : Int} (h1 : i ≤ m) (h2 : j ≤ m) (h3 : k ≤ m) (h4 : m = i ∨ m = j ∨ m = k) (q : Q (.int m) st) : biW st .max [.int i, .int j, .int k] Q := by
  have e : (if k > (if j > i then j else i) then k else (if j > i then j else i)) = m := by
    split <;> split at * <;> omega
  show Q (.int _) st
  rw [e]
  exact q
/-- a list of ints in order, whatever way it was found -/
theorem sorted_w {w : W} {ws : List W} {ns ms : List Int} (h : lstW st w = some ws) (hn : allInt ws = some ns) (hp : ms.Perm ns) (hs : ms.Pairwise (· ≤ ·)) (q : Q (.tmp (ms.map .int)) st) : biW st .sorted [w] Q := by
  refine ⟨ws, ns, h, hn, fun ns' p' s' => ?_⟩
  have e : ns' = ms := (p'.trans hp.symm).eq_of_pairwise (fun a b _ _ h1 h2 => Int.le_antisymm h1 h2) s' hs
  rw [e]
  exact q
end
/-! ### same, of a thing and itself -/
theorem same_nat (st : Store) (k : Nat) : same st (nW k) (nW k) = true := by simp [same]
theorem sames_map {α : Type} {st : Store} {f : α → W} (h : ∀ x, same st (f x) (f x) = true) : ∀ xs : List α, sames st (xs.map f) (xs.map f) = true
  | [] => by simp [sames]
  | x :: xs => by
    simp only [List.map_cons, sames, h x, Bool.true_and]
    exact sames_map h xs
theorem same_lot (st : Store) (l : List Nat) : same st (lotW l) (lotW l) = true := by
  simp only [same, tupW]
  exact sames_map (same_nat st) l
theorem same_row (st : Store) (r : List (List Nat)) : same st (rowW r) (rowW r) = true := by
  simp only [same, tupW]
  exact sames_map (same_lot st) r
theorem same_tab (st : Store) (t : List (List (List Nat))) : same st (.tup (t.map rowW)) (.tup (t.map rowW)) = true := by
  simp only [same, tupW]
  exact sames_map (same_row st) t
abbrev bookW (ts : List Nat) (tb : List (List (List Nat))) : W := .tup [lotW ts, .tup (tb.map rowW)]
theorem same_book (st : Store) (ts : List Nat) (tb : List (List (List Nat))) : same st (bookW ts tb) (bookW ts tb) = true := by
  have h1 := same_lot st ts
  have h2 := same_tab st tb
  show (match tupW (bookW ts tb) with
    | some us => sames st [lotW ts, .tup (tb.map rowW)] us
    | none => false) = true
  show sames st [lotW ts, .tup (tb.map rowW)] [lotW ts, .tup (tb.map rowW)] = true
  simp only [sames, h1, h2, Bool.and_self]
theorem same_told (st : Store) {y z : Str} {x w : W} (h : same st (.str y) (.str z) = true) (h2 : same st x w = true) : same st (.tup [.str y, x]) (.tup [.str z, w]) = true := by
  show sames st [.str y, x] [.str z, w] = true
  simp only [sames, h, h2, Bool.and_self]
end Ev

set_option maxRecDepth 100000
set_option maxHeartbeats 0
/-! the text of law_k02_given_books_by_models as code of the small language; written by gen.py -/
namespace K02
open PySem Ev
def f0 : Fn := ⟨"_law_pool", 1, false, 5, [
  .asgT (.tup [.nm 2, .nm 3]) (.tup [.int 0, .int 7]),
  .for_ (.nm 1) (.rng1 (.bi .len [.var 0])) [.asg 4 (.bi .int [.bi .max [.sub (.var 0) (.var 1), .bin .Sub (.neg (.int 1)) (.sub (.var 0) (.var 1))]]), .asg 3 (.bin .Mod (.bi .int [.bin .Add (.bin .Add (.bin .Mult (.var 3) (.int 48271)) (.bin .Mod (.var 4) (.int 2147483629))) (.int 11)]) (.int 2147483647)), .asg 2 (.ife (.band [.cmp .GtE (.var 4) (.bin .Pow (.int 10) (.int 12)), .cmp .Lt (.var 2) (.bin .Pow (.int 10) (.int 60))]) (.bi .int [.bin .Add (.bin .Mult (.var 2) (.bin .Pow (.int 10) (.int 60))) (.bin .Mod (.var 4) (.bin .Pow (.int 10) (.int 60)))]) (.var 2))],
  .ret (.lst [.var 2, .var 3, .int 0])]⟩
def f1 : Fn := ⟨"_law_kb_is_whole", 1, false, 1, [
  .ret (.band [.isi (.var 0) .tInt, .not (.isi (.var 0) .tBool)])]⟩
def f2 : Fn := ⟨"_law_kb_same", 2, false, 7, [
  .asg 2 (.alloc (.lst [.tup [.var 0, .var 1]])),
  .while_ (.cmp .NotEq (.var 2) (.lst [])) [.asgT (.tup [.nm 3, .nm 4]) (.meth .pop (.var 2) []), .ite (.cmp .Is (.var 4) (.non)) [.asg 5 (.cmp .Is (.var 3) (.non))] [.ite (.isi (.var 4) .tBool) [.asg 5 (.band [.isi (.var 3) .tBool, .cmp .Eq (.var 3) (.var 4)])] [.ite (.isi (.var 4) .tInt) [.asg 5 (.band [.call 1 [.var 3], .cmp .Eq (.var 3) (.var 4)])] [.ite (.isi (.var 4) .tStr) [.asg 5 (.band [.isi (.var 3) .tStr, .cmp .Eq (.var 3) (.var 4)])] [.asg 5 (.ife (.isi (.var 4) .tTuple) (.isi (.var 3) .tTuple) (.isi (.var 3) .tList)), .asg 5 (.band [.var 5, .cmp .Eq (.bi .len [.var 3]) (.bi .len [.var 4])]), .ex (.meth .extend (.var 2) [.ife (.var 5) (.comp [("at", 6)] (.tup [.sub (.var 3) (.var 6), .sub (.var 4) (.var 6)]) (.nm 6) (.rng1 (.bi .len [.var 4])) []) (.lst [])])]]]], .ite (.not (.var 5)) [.ret (.bl false)] []],
  .ret (.bl true)]⟩
def f3 : Fn := ⟨"_law_t2_heard", 0, true, 5, [
  .try_ [.ret (.tup [.str "told", .callc 0])] 0 1 [.asg 2 (.lst [.tup [.str "BadMany", .isx 1 1]]), .ret (.tup [.meth .join (.str " ") [.comp [("name", 3), ("is_one", 4)] (.var 3) (.tup [.nm 3, .nm 4]) (.seq (.var 2)) [.var 4]], .what 1])]]⟩
def f4 : Fn := ⟨"_law_t2_tells", 1, true, 2, [
  .ret (.call 2 [.callC 3 (.pass 0) [], .tup [.str "told", .var 1]])]⟩
def f5 : Fn := ⟨"_law_kb_made", 2, false, 8, [
  .par [3, 4] [.alloc (.lst []), .bi .len [.var 0]],
  .for_ (.nm 2) (.rng1 (.var 4)) [.asg 5 (.alloc (.lst [])), .for_ (.nm 6) (.rng1 (.var 4)) [.ex (.meth .append (.var 5) [.bi .tuple [.comp [("c", 7)] (.var 7) (.nm 7) (.rng1 (.var 4)) [.cmp .In (.tup [.var 2, .var 6, .var 7]) (.var 1)]]])], .ex (.meth .append (.var 3) [.bi .tuple [.var 5]])],
  .ret (.tup [.bi .tuple [.var 0], .bi .tuple [.var 3]])]⟩
def f6 : Fn := ⟨"_law_kb_model", 3, false, 8, [
  .par [4, 5] [.alloc (.bin .Mult (.lst [.int 0]) (.var 2)), .dnewT],
  .for_ (.nm 3) (.seq (.var 0)) [.for_ (.nm 6) (.seq (.var 0)) [.asgS (.var 4) (.callv 1 [.var 3, .var 6]) (.callv 1 [.var 6, .var 3]), .for_ (.nm 7) (.seq (.var 0)) [.asgS (.var 5) (.tup [.callv 1 [.var 3, .var 6], .callv 1 [.var 6, .var 7], .callv 1 [.var 3, .var 7]]) (.bl true)]]],
  .ret (.call 5 [.var 4, .var 5])]⟩
def f7 : Fn := ⟨"_law_kb_order_kind", 2, false, 2, [
  .ret (.ife (.cmp .Eq (.var 0) (.var 1)) (.int 0) (.ife (.cmp .Lt (.var 0) (.var 1)) (.int 1) (.int 2)))]⟩
def f8 : Fn := ⟨"_law_kb_order", 0, false, 0, [
  .ret (.call 6 [.lst [.int 0, .int 1, .int 2], .gfn 7, .int 3])]⟩
def f9 : Fn := ⟨"_law_kb_nest_kind", 2, false, 2, [
  .ite (.cmp .Eq (.var 0) (.var 1)) [.ret (.int 0)] [],
  .ret (.ife (.cmp .Eq (.slice (.var 0) none (some (.bi .len [.var 1]))) (.var 1)) (.int 1) (.ife (.cmp .Eq (.slice (.var 1) none (some (.bi .len [.var 0]))) (.var 0)) (.int 2) (.int 3)))]⟩
def f10 : Fn := ⟨"_law_kb_nest", 0, false, 4, [
  .asg 0 (.lst [.str ""]),
  .for_ (.nm 1) (.rng1 (.int 3)) [.asg 2 (.alloc (.lst [])), .for_ (.nm 3) (.seq (.comp [("word", 3)] (.var 3) (.nm 3) (.seq (.var 0)) [.cmp .Eq (.bi .len [.var 3]) (.var 1)])) [.ex (.meth .extend (.var 2) [.lst [.bin .Add (.var 3) (.str "a"), .bin .Add (.var 3) (.str "b")]])], .asg 0 (.bin .Add (.var 0) (.var 2))],
  .ret (.call 6 [.var 0, .gfn 9, .int 4])]⟩
def f11 : Fn := ⟨"_law_take", 2, false, 3, [
  .ite (.cmp .Gt (.sub (.var 0) (.int 0)) (.int 0)) [.asg 2 (.bin .Mod (.bi .int [.sub (.var 0) (.int 0)]) (.var 1)), .asgS (.var 0) (.int 0) (.bin .FloorDiv (.sub (.var 0) (.int 0)) (.var 1)), .ret (.var 2)] [],
  .asgS (.var 0) (.int 2) (.bin .Add (.sub (.var 0) (.int 2)) (.int 1)),
  .asgS (.var 0) (.int 1) (.bin .Mod (.bi .int [.bin .Add (.bin .Add (.bin .Mult (.sub (.var 0) (.int 1)) (.int 39373)) (.bin .Mult (.int 7919) (.sub (.var 0) (.int 2)))) (.int 7)]) (.int 2147483647)),
  .ret (.bin .Mod (.bi .int [.bin .FloorDiv (.bin .Mod (.bi .int [.bin .Mult (.sub (.var 0) (.int 1)) (.sub (.var 0) (.int 1))]) (.int 2147483629)) (.int 32)]) (.var 1))]⟩
def f12 : Fn := ⟨"_law_kb_far", 1, false, 6, [
  .par [2, 3] [.dnewT, .bin .Add (.var 0) (.int 1)],
  .for_ (.nm 1) (.rng1 (.var 3)) [.for_ (.nm 4) (.rng1 (.var 3)) [.for_ (.nm 5) (.rng2 (.bi .max [.bin .Sub (.var 1) (.var 4), .bin .Sub (.var 4) (.var 1)]) (.bin .Add (.bi .min [.var 0, .bin .Add (.var 1) (.var 4)]) (.int 1))) [.asgS (.var 2) (.tup [.var 1, .var 4, .var 5]) (.bl true)]]],
  .ret (.call 5 [.bi .lrange [.var 3], .var 2])]⟩
def f13 : Fn := ⟨"_law_kb_dial", 1, false, 4, [
  .asg 1 (.dnewT),
  .for_ (.nm 2) (.rng1 (.var 0)) [.for_ (.nm 3) (.rng1 (.var 0)) [.asgS (.var 1) (.tup [.var 2, .var 3, .bin .Mod (.bi .int [.bin .Add (.var 2) (.var 3)]) (.var 0)]) (.bl true)]],
  .ret (.call 5 [.comp [("a", 2)] (.bin .Mod (.bi .int [.bin .Sub (.var 0) (.var 2)]) (.var 0)) (.nm 2) (.rng1 (.var 0)) [], .var 1])]⟩
def f14 : Fn := ⟨"_law_kb_is_in", 3, false, 3, [
  .ret (.band [.call 1 [.var 0], .cmp2 .LtE .LtE (.var 1) (.var 0) (.var 2)])]⟩
def f15 : Fn := ⟨"_law_kb_are_turns", 1, false, 2, [
  .ite (.bor [.not (.isi (.var 0) .tTuple), .not (.cmp2 .LtE .LtE (.int 1) (.bi .len [.var 0]) (.int 13))]) [.ret (.bl false)] [],
  .ite (.cmp .NotEq (.comp [("k", 1)] (.var 1) (.nm 1) (.seq (.var 0)) [.not (.call 14 [.var 1, .int 0, .bin .Sub (.bi .len [.var 0]) (.int 1)])]) (.lst [])) [.ret (.bl false)] [],
  .ret (.band [.cmp .Eq (.sub (.var 0) (.int 0)) (.int 0), .cmp .Eq (.comp [("k", 1)] (.var 1) (.nm 1) (.rng1 (.bi .len [.var 0])) [.cmp .NotEq (.sub (.var 0) (.sub (.var 0) (.var 1))) (.var 1)]) (.lst [])])]⟩
def f16 : Fn := ⟨"_law_kb_is_square", 2, false, 3, [
  .ite (.bor [.not (.isi (.var 1) .tTuple), .cmp .NotEq (.bi .len [.var 1]) (.var 0)]) [.ret (.bl false)] [],
  .ret (.cmp .Eq (.comp [("row", 2)] (.var 2) (.nm 2) (.seq (.var 1)) [.bor [.not (.isi (.var 2) .tTuple), .cmp .NotEq (.bi .len [.var 2]) (.var 0)]]) (.lst []))]⟩
def f17 : Fn := ⟨"_law_kb_is_lot", 2, false, 4, [
  .ite (.bor [.not (.isi (.var 1) .tTuple), .cmp .Eq (.var 1) (.tup []), .cmp .NotEq (.comp [("k", 3)] (.var 3) (.nm 3) (.seq (.var 1)) [.not (.call 14 [.var 3, .int 0, .bin .Sub (.var 0) (.int 1)])]) (.lst [])]) [.ret (.bl false)] [],
  .ret (.cmp .Eq (.comp [("at", 2)] (.var 2) (.nm 2) (.rng2 (.int 1) (.bi .len [.var 1])) [.cmp .LtE (.sub (.var 1) (.var 2)) (.sub (.var 1) (.bin .Sub (.var 2) (.int 1)))]) (.lst []))]⟩
def f18 : Fn := ⟨"_law_kb_fault", 1, false, 8, [
  .ite (.bor [.not (.isi (.var 0) .tTuple), .cmp .NotEq (.bi .len [.var 0]) (.int 2)]) [.ret (.neg (.int 1))] [],
  .asgT (.tup [.nm 3, .nm 4]) (.var 0),
  .ite (.not (.call 15 [.var 3])) [.ret (.int 0)] [],
  .asg 1 (.bi .len [.var 3]),
  .ite (.not (.call 16 [.var 1, .var 4])) [.ret (.int 1)] [],
  .for_ (.nm 2) (.rng1 (.var 1)) [.for_ (.nm 5) (.rng1 (.var 1)) [.ite (.not (.call 17 [.var 1, .sub (.sub (.var 4) (.var 2)) (.var 5)])) [.ret (.tup [.var 2, .var 5])] [], .ite (.bor [.band [.cmp .Eq (.var 2) (.int 0), .cmp .NotEq (.sub (.sub (.var 4) (.var 2)) (.var 5)) (.tup [.var 5])], .band [.cmp .Eq (.var 5) (.int 0), .cmp .NotEq (.sub (.sub (.var 4) (.var 2)) (.var 5)) (.tup [.var 2])]]) [.ret (.tup [.var 2, .var 5])] []]],
  .for_ (.nm 2) (.rng1 (.var 1)) [.for_ (.nm 5) (.rng1 (.var 1)) [.asg 6 (.comp [("c", 7)] (.var 7) (.nm 7) (.seq (.sub (.sub (.var 4) (.var 2)) (.var 5))) [.bor [.cmp .NotIn (.var 2) (.sub (.sub (.var 4) (.var 7)) (.sub (.var 3) (.var 5))), .cmp .NotIn (.var 5) (.sub (.sub (.var 4) (.sub (.var 3) (.var 2))) (.var 7))]]), .ite (.cmp .NotEq (.var 6) (.lst [])) [.ret (.tup [.var 2, .var 5, .sub (.var 6) (.int 0)])] []]],
  .ret (.non)]⟩
def f19 : Fn := ⟨"_law_kb_rank", 1, false, 7, [
  .par [2, 3] [.dnewT, .bin .Add (.var 0) (.int 1)],
  .for_ (.nm 1) (.rng1 (.var 3)) [.for_ (.nm 4) (.rng1 (.var 3)) [.for_ (.nm 5) (.rng1 (.var 3)) [.asg 6 (.bi .sorted [.lst [.var 1, .var 4, .var 5]]), .ite (.cmp .Eq (.sub (.var 6) (.int 1)) (.sub (.var 6) (.int 2))) [.asgS (.var 2) (.tup [.var 1, .var 4, .var 5]) (.bl true)] []]]],
  .ret (.call 5 [.bi .lrange [.var 3], .var 2])]⟩
def f20 : Fn := ⟨"whole_in", 3, false, 3, [
  .ret (.band [.isi (.var 0) .tInt, .not (.isi (.var 0) .tBool), .cmp2 .LtE .LtE (.var 1) (.var 0) (.var 2)])]⟩
def f21 : Fn := ⟨"asked_many", 3, false, 3, [
  .ite (.not (.call 20 [.var 0, .var 1, .var 2])) [.raise_ 1 (.var 0)] [],
  .ret (.var 0)]⟩
def f22 : Fn := ⟨"dial_book", 1, false, 4, [
  .ex (.call 21 [.var 0, .int 1, .gcon 0]),
  .asg 1 (.bi .lrange [.var 0]),
  .ret (.tup [.bi .tuple [.comp [("a", 2)] (.bin .Mod (.neg (.var 2)) (.var 0)) (.nm 2) (.seq (.var 1)) []], .bi .tuple [.comp [("a", 2)] (.bi .tuple [.comp [("b", 3)] (.tup [.bin .Mod (.bin .Add (.var 2) (.var 3)) (.var 0)]) (.nm 3) (.seq (.var 1)) []]) (.nm 2) (.seq (.var 1)) []]])]⟩
def f23 : Fn := ⟨"first_unturned", 2, false, 7, [
  .for_ (.tup [.nm 2, .nm 3]) (.enum (.var 1)) [.for_ (.tup [.nm 4, .nm 5]) (.enum (.var 3)) [.for_ (.nm 6) (.seq (.var 5)) [.ite (.bor [.cmp .NotIn (.var 2) (.sub (.sub (.var 1) (.var 6)) (.sub (.var 0) (.var 4))), .cmp .NotIn (.var 4) (.sub (.sub (.var 1) (.sub (.var 0) (.var 2))) (.var 6))]) [.ret (.tup [.var 2, .var 4, .var 6])] []]]],
  .ret (.non)]⟩
def f24 : Fn := ⟨"are_turns", 1, false, 3, [
  .ite (.bor [.not (.isi (.var 0) .tTuple), .not (.cmp2 .LtE .LtE (.int 1) (.bi .len [.var 0]) (.gcon 1))]) [.ret (.bl false)] [],
  .ite (.not (.bi .all [.comp [("kind", 1)] (.call 20 [.var 1, .int 0, .bin .Sub (.bi .len [.var 0]) (.int 1)]) (.nm 1) (.seq (.var 0)) []])) [.ret (.bl false)] [],
  .ret (.band [.cmp .Eq (.sub (.var 0) (.int 0)) (.int 0), .bi .all [.comp [("kind", 1), ("turn", 2)] (.cmp .Eq (.sub (.var 0) (.var 2)) (.var 1)) (.tup [.nm 1, .nm 2]) (.enum (.var 0)) []]])]⟩
def f25 : Fn := ⟨"is_square", 2, false, 3, [
  .ite (.bor [.not (.isi (.var 0) .tTuple), .cmp .NotEq (.bi .len [.var 0]) (.var 1)]) [.ret (.bl false)] [],
  .ret (.bi .all [.comp [("row", 2)] (.band [.isi (.var 2) .tTuple, .cmp .Eq (.bi .len [.var 2]) (.var 1)]) (.nm 2) (.seq (.var 0)) []])]⟩
def f26 : Fn := ⟨"lot_what", 2, false, 5, [
  .ite (.bor [.not (.isi (.var 0) .tTuple), .cmp .Eq (.var 0) (.tup [])]) [.ret (.neg (.int 1))] [],
  .asg 2 (.neg (.int 1)),
  .for_ (.tup [.nm 3, .nm 4]) (.enum (.var 0)) [.ite (.not (.call 20 [.var 4, .bin .Add (.var 2) (.int 1), .bin .Sub (.var 1) (.int 1)])) [.ret (.var 3)] [], .asg 2 (.var 4)],
  .ret (.non)]⟩
def f27 : Fn := ⟨"is_lot", 2, false, 2, [
  .ret (.cmp .Is (.call 26 [.var 0, .var 1]) (.non))]⟩
def f28 : Fn := ⟨"is_entry", 4, false, 4, [
  .ite (.not (.call 27 [.var 0, .var 1])) [.ret (.bl false)] [],
  .ret (.band [.bor [.cmp .Gt (.var 2) (.int 0), .cmp .Eq (.var 0) (.tup [.var 3])], .bor [.cmp .Gt (.var 3) (.int 0), .cmp .Eq (.var 0) (.tup [.var 2])]])]⟩
def f29 : Fn := ⟨"wrong_of", 1, false, 8, [
  .ite (.bor [.not (.isi (.var 0) .tTuple), .cmp .NotEq (.bi .len [.var 0]) (.int 2)]) [.ret (.neg (.int 1))] [],
  .asgT (.tup [.nm 2, .nm 3]) (.var 0),
  .ite (.not (.call 24 [.var 2])) [.ret (.int 0)] [],
  .asg 1 (.bi .len [.var 2]),
  .ite (.not (.call 25 [.var 3, .var 1])) [.ret (.int 1)] [],
  .for_ (.tup [.nm 4, .nm 5]) (.enum (.var 3)) [.for_ (.tup [.nm 6, .nm 7]) (.enum (.var 5)) [.ite (.not (.call 28 [.var 7, .var 1, .var 4, .var 6])) [.ret (.tup [.var 4, .var 6])] []]],
  .ret (.call 23 [.var 2, .var 3])]⟩
def f30 : Fn := ⟨"made_book", 1, false, 2, [
  .asg 1 (.call 29 [.var 0]),
  .ite (.cmp .IsNot (.var 1) (.non)) [.raise_ 2 (.var 1)] [],
  .ret (.var 0)]⟩
def f31 : Fn := ⟨"told_apart", 2, false, 6, [
  .asg 2 (.bi .lrange [.var 0]),
  .ret (.tup [.bi .tuple [.var 2], .bi .tuple [.comp [("a", 3)] (.bi .tuple [.comp [("b", 4)] (.bi .tuple [.comp [("c", 5)] (.var 5) (.nm 5) (.seq (.var 2)) [.callv 1 [.var 3, .var 4, .var 5]]]) (.nm 4) (.seq (.var 2)) []]) (.nm 3) (.seq (.var 2)) []]])]⟩
def f32 : Fn := ⟨"is_ranked", 3, false, 6, [
  .asgT (.tup [.nm 3, .nm 4, .nm 5]) (.bi .sorted [.lst [.var 0, .var 1, .var 2]]),
  .ret (.cmp .Eq (.var 4) (.var 5))]⟩
def f33 : Fn := ⟨"rank_book", 1, false, 1, [
  .ret (.call 31 [.bin .Add (.call 21 [.var 0, .int 1, .gcon 2]) (.int 1), .gfn 32])]⟩
def f34 : Fn := ⟨"is_far", 3, false, 3, [
  .ret (.cmp .LtE (.bin .Mult (.int 2) (.bi .max [.var 0, .var 1, .var 2])) (.bin .Add (.bin .Add (.var 0) (.var 1)) (.var 2)))]⟩
def f35 : Fn := ⟨"far_book", 1, false, 1, [
  .ret (.call 31 [.bin .Add (.call 21 [.var 0, .int 1, .gcon 2]) (.int 1), .gfn 34])]⟩
def f36 : Fn := ⟨"_law_t2_tops_right", 1, false, 2, [
  .asg 1 (.call 12 [.var 0]),
  .ite (.bor [.not (.callC 4 (.lam 0) [.var 1]), .cmp .IsNot (.call 18 [.var 1]) (.non)]) [.ret (.bl false)] [],
  .ite (.not (.callC 4 (.lam 1) [.var 1])) [.ret (.bl false)] [],
  .ite (.not (.callC 4 (.lam 2) [.call 19 [.var 0]])) [.ret (.bl false)] [],
  .ret (.callC 4 (.lam 3) [.call 13 [.var 0]])]⟩
def f37 : Fn := ⟨"_law_t2_refused_right", 0, false, 3, [
  .for_ (.nm 0) (.seq (.lst [.int 0, .int 13, .int 14, .neg (.int 1), .bl true, .non, .str "1", .tup [.int 1], .bin .Pow (.int 10) (.int 20)])) [.asg 1 (.alloc (.lst [.callC 3 (.lam 4) []])), .ex (.meth .append (.var 1) [.callC 3 (.lam 5) []]), .ite (.not (.call 2 [.var 1, .bin .Mult (.lst [.tup [.str "BadMany", .var 0]]) (.int 2)])) [.ret (.bl false)] [], .asg 2 (.ife (.cmp .Eq (.var 0) (.int 13)) (.tup [.str "told", .call 13 [.int 13]]) (.tup [.str "BadMany", .var 0])), .ite (.not (.call 2 [.callC 3 (.lam 6) [], .var 2])) [.ret (.bl false)] []],
  .ret (.bl true)]⟩
def f38 : Fn := ⟨"_law_t2_stands", 4, false, 4, [
  .ret (.band [.cmp .Is (.call 18 [.var 0]) (.non), .cmp .In (.var 3) (.sub (.sub (.sub (.var 0) (.int 1)) (.var 1)) (.var 2))])]⟩
def f39 : Fn := ⟨"_law_t2_points_right", 2, false, 11, [
  .asgT (.tup [.nm 3, .nm 4]) (.callC 3 (.lam 7) []),
  .asgT (.tup [.nm 5, .nm 6]) (.callC 3 (.lam 8) []),
  .ite (.bor [.cmp .NotEq (.var 3) (.str "told"), .cmp .NotEq (.var 5) (.str "told")]) [.ret (.bl false)] [],
  .for_ (.nm 2) (.rng1 (.int 6)) [.asgT (.tup [.nm 7, .nm 8, .nm 9]) (.comp [("again", 10)] (.call 11 [.var 0, .bin .Add (.var 1) (.int 1)]) (.nm 10) (.rng1 (.int 3)) []), .ite (.not (.call 38 [.var 4, .bi .max [.bin .Sub (.var 7) (.var 8), .bin .Sub (.var 8) (.var 7)], .bi .max [.bin .Sub (.var 8) (.var 9), .bin .Sub (.var 9) (.var 8)], .bi .max [.bin .Sub (.var 7) (.var 9), .bin .Sub (.var 9) (.var 7)]])) [.ret (.bl false)] [], .ite (.not (.call 38 [.var 6, .bin .Mod (.bi .int [.bin .Sub (.var 8) (.var 7)]) (.var 1), .bin .Mod (.bi .int [.bin .Sub (.var 9) (.var 8)]) (.var 1), .bin .Mod (.bi .int [.bin .Sub (.var 9) (.var 7)]) (.var 1)])) [.ret (.bl false)] []],
  .ret (.bl true)]⟩
def f40 : Fn := ⟨"_law_t2_leaves_right", 2, false, 12, [
  .asgT (.tup [.nm 3, .nm 4]) (.callC 3 (.lam 9) []),
  .ite (.cmp .NotEq (.var 3) (.str "told")) [.ret (.bl false)] [],
  .for_ (.nm 2) (.rng1 (.int 6)) [.asg 5 (.comp [("again", 10)] (.bi .tuple [.comp [("step", 11)] (.call 11 [.var 0, .int 2]) (.nm 11) (.rng1 (.var 1)) []]) (.nm 10) (.rng1 (.int 3)) []), .asg 6 (.alloc (.lst [])), .for_ (.tup [.nm 7, .nm 8]) (.seq (.lst [.tup [.int 0, .int 1], .tup [.int 1, .int 2], .tup [.int 0, .int 2]])) [.asg 9 (.comp [("step", 11)] (.var 11) (.nm 11) (.rng1 (.bin .Add (.var 1) (.int 1))) [.cmp .Eq (.slice (.sub (.var 5) (.var 7)) none (some (.var 11))) (.slice (.sub (.var 5) (.var 8)) none (some (.var 11)))]), .ex (.meth .append (.var 6) [.bin .Sub (.var 1) (.bi .max [.var 9])])], .ite (.not (.call 38 [.var 4, .sub (.var 6) (.int 0), .sub (.var 6) (.int 1), .sub (.var 6) (.int 2)])) [.ret (.bl false)] []],
  .ret (.bl true)]⟩
def f41 : Fn := ⟨"order_book", 0, false, 1, [
  .asg 0 (.tup [.int 0, .int 1, .int 2]),
  .ret (.tup [.tup [.int 0, .int 2, .int 1], .tup [.tup [.tup [.int 0], .tup [.int 1], .tup [.int 2]], .tup [.tup [.int 1], .tup [.int 1], .var 0], .tup [.tup [.int 2], .var 0, .tup [.int 2]]]])]⟩
def f42 : Fn := ⟨"nest_book", 0, false, 2, [
  .asg 0 (.tup [.int 0, .int 1, .int 2, .int 3]),
  .asg 1 (.tup [.tup [.tup [.int 0], .tup [.int 1], .tup [.int 2], .tup [.int 3]], .tup [.tup [.int 1], .tup [.int 1], .var 0, .tup [.int 3]], .tup [.tup [.int 2], .tup [.int 0, .int 1, .int 2], .tup [.int 2], .tup [.int 2, .int 3]], .tup [.tup [.int 3], .tup [.int 1, .int 3], .tup [.int 3], .var 0]]),
  .ret (.tup [.tup [.int 0, .int 2, .int 1, .int 3], .var 1])]⟩
def f43 : Fn := ⟨"law", 1, false, 6, [
  .asg 1 (.alloc (.call 0 [.var 0])),
  .for_ (.nm 2) (.seq (.lst [.int 1, .int 2, .int 3, .int 12, .bin .Add (.int 1) (.call 11 [.var 1, .int 12]), .bin .Add (.int 1) (.call 11 [.var 1, .int 12])])) [.ite (.not (.call 36 [.var 2])) [.ret (.bl false)] [], .ite (.bor [.not (.call 39 [.var 1, .var 2]), .not (.call 40 [.var 1, .var 2])]) [.ret (.bl false)] []],
  .asg 3 (.alloc (.lst [.callC 3 (.lam 10) []])),
  .ex (.meth .append (.var 3) [.callC 3 (.lam 11) []]),
  .ite (.not (.call 2 [.var 3, .lst [.tup [.str "told", .call 8 []], .tup [.str "told", .call 10 []]]])) [.ret (.bl false)] [],
  .par [4, 5] [.call 8 [], .call 10 []],
  .ite (.bor [.cmp .IsNot (.call 18 [.var 4]) (.non), .cmp .IsNot (.call 18 [.var 5]) (.non)]) [.ret (.bl false)] [],
  .ite (.bor [.cmp .NotEq (.sub (.sub (.sub (.var 4) (.int 1)) (.int 1)) (.int 2)) (.tup [.int 0, .int 1, .int 2]), .cmp .NotEq (.sub (.sub (.sub (.var 5) (.int 1)) (.int 2)) (.int 1)) (.tup [.int 0, .int 1, .int 2]), .cmp .NotEq (.sub (.sub (.sub (.var 5) (.int 1)) (.int 1)) (.int 2)) (.tup [.int 0, .int 1, .int 2, .int 3])]) [.ret (.bl false)] [],
  .ite (.bor [.not (.callC 4 (.lam 12) [.call 12 [.int 1]]), .not (.call 37 [])]) [.ret (.bl false)] [],
  .ret (.callC 4 (.lam 13) [.tup [.tup [.int 0], .tup [.tup [.tup [.int 0]]]]])]⟩
def l0 : Lam := ⟨.call 35 [.var 0]⟩
def l1 : Lam := ⟨.call 30 [.var 1]⟩
def l2 : Lam := ⟨.call 33 [.var 0]⟩
def l3 : Lam := ⟨.call 22 [.var 0]⟩
def l4 : Lam := ⟨.call 35 [.var 0]⟩
def l5 : Lam := ⟨.call 33 [.var 0]⟩
def l6 : Lam := ⟨.call 22 [.var 0]⟩
def l7 : Lam := ⟨.call 35 [.var 1]⟩
def l8 : Lam := ⟨.call 22 [.var 1]⟩
def l9 : Lam := ⟨.call 33 [.var 1]⟩
def l10 : Lam := ⟨.call 41 []⟩
def l11 : Lam := ⟨.call 42 []⟩
def l12 : Lam := ⟨.call 33 [.int 1]⟩
def l13 : Lam := ⟨.call 22 [.int 1]⟩
def P : Prog := ⟨[f0, f1, f2, f3, f4, f5, f6, f7, f8, f9, f10, f11, f12, f13, f14, f15, f16, f17, f18, f19, f20, f21, f22, f23, f24, f25, f26, f27, f28, f29] ++ [f30, f31, f32, f33, f34, f35, f36, f37, f38, f39, f40, f41, f42, f43], [l0, l1, l2, l3, l4, l5, l6, l7, l8, l9, l10, l11, l12, l13], [("MOST_DIAL", .int 13), ("MOST_KINDS", .int 13), ("MOST_TOP", .int 12)], ["Refused", "BadMany", "BadBook"], fun c d => (([[true, false, false], [true, true, false], [true, false, true]] : List (List Bool)).getD (if c < ([[true, false, false], [true, true, false], [true, false, true]] : List (List Bool)).length then c else 0) []).getD (if d < ([[true, false, false], [true, true, false], [true, false, true]] : List (List Bool)).length then d else 0) false⟩
end K02

set_option maxRecDepth 100000
set_option maxHeartbeats 0
namespace K02
open PySem Ev
def top (i : Nat) : Stmt := PySem.Challenge.pw_toldties_k02_given_books_by_models.main.body.getD i (.Pass ⟨0, 0, 0, 0⟩)
def ist : Stmt := iniS (top 1)
theorem ini : IniOk ist := ⟨by decide +kernel, by decide +kernel, fun env => ⟨_, rfl⟩, by decide +kernel, fun _ _ _ _ _ _ us hl => match us, hl with | [_, _], _ => rfl⟩
def N0 : List Str := ["script", "at", "digits", "stirred", "cell"]
def c0 : Sc := ⟨N0, scO (top 29), none, true, false, none, false, true, false⟩
theorem k0 : chkSs P 60 c0 f0.body (bodyO (top 29)) = true := by decide +kernel
def N1 : List Str := ["thing"]
def c1 : Sc := ⟨N1, scO (top 31), none, true, false, none, false, true, false⟩
theorem k1 : chkSs P 60 c1 f1.body (bodyO (top 31)) = true := by decide +kernel
def N2 : List Str := ["heard", "owed", "todo", "one", "due", "is_so", "at"]
def c2 : Sc := ⟨N2, scO (top 33), none, true, false, none, false, true, false⟩
theorem k2 : chkSs P 60 c2 f2.body (bodyO (top 33)) = true := by decide +kernel
def N3 : List Str := ["call", "refused_one", "some", "name", "is_one"]
def c3 : Sc := ⟨N3, scO (top 47), none, true, true, none, false, true, false⟩
theorem k3 : chkSs P 60 c3 f3.body (bodyO (top 47)) = true := by decide +kernel
def N4 : List Str := ["call", "owed"]
def c4 : Sc := ⟨N4, scO (top 48), none, true, true, none, false, true, false⟩
theorem k4 : chkSs P 60 c4 f4.body (bodyO (top 48)) = true := by decide +kernel
def N5 : List Str := ["turn_of", "threes", "a", "table", "m", "row", "b", "c"]
def c5 : Sc := ⟨N5, scO (top 38), none, true, false, none, false, true, false⟩
theorem k5 : chkSs P 60 c5 f5.body (bodyO (top 38)) = true := by decide +kernel
def N6 : List Str := ["things", "kind_of", "m", "x", "turn_of", "threes", "y", "z"]
def c6 : Sc := ⟨N6, scO (top 39), none, true, false, none, false, true, false⟩
theorem k6 : chkSs P 60 c6 f6.body (bodyO (top 39)) = true := by decide +kernel
def N7 : List Str := ["x", "y"]
def c7 : Sc := ⟨N7, scO (top 40), none, true, false, none, false, true, false⟩
theorem k7 : chkSs P 60 c7 f7.body (bodyO (top 40)) = true := by decide +kernel
def N8 : List Str := []
def c8 : Sc := ⟨N8, scO (top 42), none, true, false, none, false, true, false⟩
theorem k8 : chkSs P 60 c8 f8.body (bodyO (top 42)) = true := by decide +kernel
def N9 : List Str := ["x", "y"]
def c9 : Sc := ⟨N9, scO (top 41), none, true, false, none, false, true, false⟩
theorem k9 : chkSs P 60 c9 f9.body (bodyO (top 41)) = true := by decide +kernel
def N10 : List Str := ["some", "go", "longer", "word"]
def c10 : Sc := ⟨N10, scO (top 43), none, true, false, none, false, true, false⟩
theorem k10 : chkSs P 60 c10 f10.body (bodyO (top 43)) = true := by decide +kernel
def N11 : List Str := ["jar", "many", "made_now"]
def c11 : Sc := ⟨N11, scO (top 30), none, true, false, none, false, true, false⟩
theorem k11 : chkSs P 60 c11 f11.body (bodyO (top 30)) = true := by decide +kernel
def N12 : List Str := ["top", "a", "threes", "m", "b", "c"]
def c12 : Sc := ⟨N12, scO (top 44), none, true, false, none, false, true, false⟩
theorem k12 : chkSs P 60 c12 f12.body (bodyO (top 44)) = true := by decide +kernel
def N13 : List Str := ["top", "threes", "a", "b"]
def c13 : Sc := ⟨N13, scO (top 46), none, true, false, none, false, true, false⟩
theorem k13 : chkSs P 60 c13 f13.body (bodyO (top 46)) = true := by decide +kernel
def N14 : List Str := ["thing", "low", "high"]
def c14 : Sc := ⟨N14, scO (top 32), none, true, false, none, false, true, false⟩
theorem k14 : chkSs P 60 c14 f14.body (bodyO (top 32)) = true := by decide +kernel
def N15 : List Str := ["thing", "k"]
def c15 : Sc := ⟨N15, scO (top 35), none, true, false, none, false, true, false⟩
theorem k15 : chkSs P 60 c15 f15.body (bodyO (top 35)) = true := by decide +kernel
def N16 : List Str := ["m", "thing", "row"]
def c16 : Sc := ⟨N16, scO (top 36), none, true, false, none, false, true, false⟩
theorem k16 : chkSs P 60 c16 f16.body (bodyO (top 36)) = true := by decide +kernel
def N17 : List Str := ["m", "thing", "at", "k"]
def c17 : Sc := ⟨N17, scO (top 34), none, true, false, none, false, true, false⟩
theorem k17 : chkSs P 60 c17 f17.body (bodyO (top 34)) = true := by decide +kernel
def N18 : List Str := ["thing", "m", "a", "turn_of", "table", "b", "wrong", "c"]
def c18 : Sc := ⟨N18, scO (top 37), none, true, false, none, false, true, false⟩
theorem k18 : chkSs P 60 c18 f18.body (bodyO (top 37)) = true := by decide +kernel
def N19 : List Str := ["top", "a", "threes", "m", "b", "c", "some"]
def c19 : Sc := ⟨N19, scO (top 45), none, true, false, none, false, true, false⟩
theorem k19 : chkSs P 60 c19 f19.body (bodyO (top 45)) = true := by decide +kernel
def N20 : List Str := ["thing", "low", "high"]
def c20 : Sc := ⟨N20, scO (top 4), none, true, false, none, false, true, false⟩
theorem k20 : chkSs P 60 c20 f20.body (bodyO (top 4)) = true := by decide +kernel
def N21 : List Str := ["thing", "low", "high"]
def c21 : Sc := ⟨N21, scO (top 5), none, true, false, none, false, true, false⟩
theorem k21 : chkSs P 60 c21 f21.body (bodyO (top 5)) = true := by decide +kernel
def N22 : List Str := ["top", "kinds", "a", "b"]
def c22 : Sc := ⟨N22, scO (top 19), none, true, false, none, false, true, false⟩
theorem k22 : chkSs P 60 c22 f22.body (bodyO (top 19)) = true := by decide +kernel
def N23 : List Str := ["turns", "table", "a", "row", "b", "lot", "c"]
def c23 : Sc := ⟨N23, scO (top 25), none, true, false, none, false, true, false⟩
theorem k23 : chkSs P 60 c23 f23.body (bodyO (top 25)) = true := by decide +kernel
def N24 : List Str := ["thing", "kind", "turn"]
def c24 : Sc := ⟨N24, scO (top 22), none, true, false, none, false, true, false⟩
theorem k24 : chkSs P 60 c24 f24.body (bodyO (top 22)) = true := by decide +kernel
def N25 : List Str := ["thing", "m", "row"]
def c25 : Sc := ⟨N25, scO (top 23), none, true, false, none, false, true, false⟩
theorem k25 : chkSs P 60 c25 f25.body (bodyO (top 23)) = true := by decide +kernel
def N26 : List Str := ["thing", "m", "last", "at", "kind"]
def c26 : Sc := ⟨N26, scO (top 7), none, true, false, none, false, true, false⟩
theorem k26 : chkSs P 60 c26 f26.body (bodyO (top 7)) = true := by decide +kernel
def N27 : List Str := ["thing", "m"]
def c27 : Sc := ⟨N27, scO (top 8), none, true, false, none, false, true, false⟩
theorem k27 : chkSs P 60 c27 f27.body (bodyO (top 8)) = true := by decide +kernel
def N28 : List Str := ["thing", "m", "a", "b"]
def c28 : Sc := ⟨N28, scO (top 24), none, true, false, none, false, true, false⟩
theorem k28 : chkSs P 60 c28 f28.body (bodyO (top 24)) = true := by decide +kernel
def N29 : List Str := ["thing", "m", "turns", "table", "a", "row", "b", "lot"]
def c29 : Sc := ⟨N29, scO (top 26), none, true, false, none, false, true, false⟩
theorem k29 : chkSs P 60 c29 f29.body (bodyO (top 26)) = true := by decide +kernel
def N30 : List Str := ["thing", "wrong"]
def c30 : Sc := ⟨N30, scO (top 27), none, true, false, none, false, true, false⟩
theorem k30 : chkSs P 60 c30 f30.body (bodyO (top 27)) = true := by decide +kernel
def N31 : List Str := ["m", "is_let", "kinds", "a", "b", "c"]
def c31 : Sc := ⟨N31, scO (top 12), none, true, false, none, false, true, false⟩
theorem k31 : chkSs P 60 c31 f31.body (bodyO (top 12)) = true := by decide +kernel
def N32 : List Str := ["a", "b", "c", "least", "other", "most"]
def c32 : Sc := ⟨N32, scO (top 16), none, true, false, none, false, true, false⟩
theorem k32 : chkSs P 60 c32 f32.body (bodyO (top 16)) = true := by decide +kernel
def N33 : List Str := ["top"]
def c33 : Sc := ⟨N33, scO (top 18), none, true, false, none, false, true, false⟩
theorem k33 : chkSs P 60 c33 f33.body (bodyO (top 18)) = true := by decide +kernel
def N34 : List Str := ["a", "b", "c"]
def c34 : Sc := ⟨N34, scO (top 15), none, true, false, none, false, true, false⟩
theorem k34 : chkSs P 60 c34 f34.body (bodyO (top 15)) = true := by decide +kernel
def N35 : List Str := ["top"]
def c35 : Sc := ⟨N35, scO (top 17), none, true, false, none, false, true, false⟩
theorem k35 : chkSs P 60 c35 f35.body (bodyO (top 17)) = true := by decide +kernel
def N36 : List Str := ["top", "owed"]
def c36 : Sc := ⟨N36, scO (top 52), none, true, false, none, true, true, false⟩
theorem k36 : chkSs P 60 c36 f36.body (bodyO (top 52)) = true := by decide +kernel
def N37 : List Str := ["odd", "heard", "owed"]
def c37 : Sc := ⟨N37, scO (top 53), none, true, false, none, true, true, false⟩
theorem k37 : chkSs P 60 c37 f37.body (bodyO (top 53)) = true := by decide +kernel
def N38 : List Str := ["book", "a", "b", "c"]
def c38 : Sc := ⟨N38, scO (top 49), none, true, false, none, false, true, false⟩
theorem k38 : chkSs P 60 c38 f38.body (bodyO (top 49)) = true := by decide +kernel
def N39 : List Str := ["jar", "top", "go", "word", "far_now", "word_too", "dial_now", "x", "y", "z", "again"]
def c39 : Sc := ⟨N39, scO (top 50), none, true, false, none, true, true, false⟩
theorem k39 : chkSs P 60 c39 f39.body (bodyO (top 50)) = true := by decide +kernel
def N40 : List Str := ["jar", "top", "go", "word", "rank_now", "leaves", "ups", "at", "to", "alike", "again", "step"]
def c40 : Sc := ⟨N40, scO (top 51), none, true, false, none, true, true, false⟩
theorem k40 : chkSs P 60 c40 f40.body (bodyO (top 51)) = true := by decide +kernel
def N41 : List Str := ["every"]
def c41 : Sc := ⟨N41, scO (top 13), none, true, false, none, false, true, false⟩
theorem k41 : chkSs P 60 c41 f41.body (bodyO (top 13)) = true := by decide +kernel
def N42 : List Str := ["every", "table"]
def c42 : Sc := ⟨N42, scO (top 14), none, true, false, none, false, true, false⟩
theorem k42 : chkSs P 60 c42 f42.body (bodyO (top 14)) = true := by decide +kernel
def N43 : List Str := ["script", "jar", "top", "some", "order", "nest"]
def c43 : Sc := ⟨N43, scO (top 54), none, true, false, none, true, true, false⟩
theorem k43 : chkSs P 60 c43 f43.body (bodyO (top 54)) = true := by decide +kernel
def q0 : DefI := ⟨top 29, f0, N0, ["script"], false⟩
theorem o0 : DefOk P q0 := ⟨k0, by decide +kernel, rfl, rfl, fun _ _ _ _ _ _ us hl => match us, hl with | [_], _ => rfl⟩
def q1 : DefI := ⟨top 31, f1, N1, ["thing"], false⟩
theorem o1 : DefOk P q1 := ⟨k1, by decide +kernel, rfl, rfl, fun _ _ _ _ _ _ us hl => match us, hl with | [_], _ => rfl⟩
def q2 : DefI := ⟨top 33, f2, N2, ["heard", "owed"], false⟩
theorem o2 : DefOk P q2 := ⟨k2, by decide +kernel, rfl, rfl, fun _ _ _ _ _ _ us hl => match us, hl with | [_, _], _ => rfl⟩
def q3 : DefI := ⟨top 47, f3, N3, ["call"], false⟩
theorem o3 : DefOk P q3 := ⟨k3, by decide +kernel, rfl, rfl, fun _ _ _ _ _ _ us hl => match us, hl with | [_], _ => rfl⟩
def q4 : DefI := ⟨top 48, f4, N4, ["call", "owed"], false⟩
theorem o4 : DefOk P q4 := ⟨k4, by decide +kernel, rfl, rfl, fun _ _ _ _ _ _ us hl => match us, hl with | [_, _], _ => rfl⟩
def q5 : DefI := ⟨top 38, f5, N5, ["turn_of", "threes"], false⟩
theorem o5 : DefOk P q5 := ⟨k5, by decide +kernel, rfl, rfl, fun _ _ _ _ _ _ us hl => match us, hl with | [_, _], _ => rfl⟩
def q6 : DefI := ⟨top 39, f6, N6, ["things", "kind_of", "m"], false⟩
theorem o6 : DefOk P q6 := ⟨k6, by decide +kernel, rfl, rfl, fun _ _ _ _ _ _ us hl => match us, hl with | [_, _, _], _ => rfl⟩
def q7 : DefI := ⟨top 40, f7, N7, ["x", "y"], false⟩
theorem o7 : DefOk P q7 := ⟨k7, by decide +kernel, rfl, rfl, fun _ _ _ _ _ _ us hl => match us, hl with | [_, _], _ => rfl⟩
def q8 : DefI := ⟨top 42, f8, N8, [], false⟩
theorem o8 : DefOk P q8 := ⟨k8, by decide +kernel, rfl, rfl, fun _ _ _ _ _ _ us hl => match us, hl with | [], _ => rfl⟩
def q9 : DefI := ⟨top 41, f9, N9, ["x", "y"], false⟩
theorem o9 : DefOk P q9 := ⟨k9, by decide +kernel, rfl, rfl, fun _ _ _ _ _ _ us hl => match us, hl with | [_, _], _ => rfl⟩
def q10 : DefI := ⟨top 43, f10, N10, [], false⟩
theorem o10 : DefOk P q10 := ⟨k10, by decide +kernel, rfl, rfl, fun _ _ _ _ _ _ us hl => match us, hl with | [], _ => rfl⟩
def q11 : DefI := ⟨top 30, f11, N11, ["jar", "many"], false⟩
theorem o11 : DefOk P q11 := ⟨k11, by decide +kernel, rfl, rfl, fun _ _ _ _ _ _ us hl => match us, hl with | [_, _], _ => rfl⟩
def q12 : DefI := ⟨top 44, f12, N12, ["top"], false⟩
theorem o12 : DefOk P q12 := ⟨k12, by decide +kernel, rfl, rfl, fun _ _ _ _ _ _ us hl => match us, hl with | [_], _ => rfl⟩
def q13 : DefI := ⟨top 46, f13, N13, ["top"], false⟩
theorem o13 : DefOk P q13 := ⟨k13, by decide +kernel, rfl, rfl, fun _ _ _ _ _ _ us hl => match us, hl with | [_], _ => rfl⟩
def q14 : DefI := ⟨top 32, f14, N14, ["thing", "low", "high"], false⟩
theorem o14 : DefOk P q14 := ⟨k14, by decide +kernel, rfl, rfl, fun _ _ _ _ _ _ us hl => match us, hl with | [_, _, _], _ => rfl⟩
def q15 : DefI := ⟨top 35, f15, N15, ["thing"], false⟩
theorem o15 : DefOk P q15 := ⟨k15, by decide +kernel, rfl, rfl, fun _ _ _ _ _ _ us hl => match us, hl with | [_], _ => rfl⟩
def q16 : DefI := ⟨top 36, f16, N16, ["m", "thing"], false⟩
theorem o16 : DefOk P q16 := ⟨k16, by decide +kernel, rfl, rfl, fun _ _ _ _ _ _ us hl => match us, hl with | [_, _], _ => rfl⟩
def q17 : DefI := ⟨top 34, f17, N17, ["m", "thing"], false⟩
theorem o17 : DefOk P q17 := ⟨k17, by decide +kernel, rfl, rfl, fun _ _ _ _ _ _ us hl => match us, hl with | [_, _], _ => rfl⟩
def q18 : DefI := ⟨top 37, f18, N18, ["thing"], false⟩
theorem o18 : DefOk P q18 := ⟨k18, by decide +kernel, rfl, rfl, fun _ _ _ _ _ _ us hl => match us, hl with | [_], _ => rfl⟩
def q19 : DefI := ⟨top 45, f19, N19, ["top"], false⟩
theorem o19 : DefOk P q19 := ⟨k19, by decide +kernel, rfl, rfl, fun _ _ _ _ _ _ us hl => match us, hl with | [_], _ => rfl⟩
def q20 : DefI := ⟨top 4, f20, N20, ["thing", "low", "high"], false⟩
theorem o20 : DefOk P q20 := ⟨k20, by decide +kernel, rfl, rfl, fun _ _ _ _ _ _ us hl => match us, hl with | [_, _, _], _ => rfl⟩
def q21 : DefI := ⟨top 5, f21, N21, ["thing", "low", "high"], false⟩
theorem o21 : DefOk P q21 := ⟨k21, by decide +kernel, rfl, rfl, fun _ _ _ _ _ _ us hl => match us, hl with | [_, _, _], _ => rfl⟩
def q22 : DefI := ⟨top 19, f22, N22, ["top"], false⟩
theorem o22 : DefOk P q22 := ⟨k22, by decide +kernel, rfl, rfl, fun _ _ _ _ _ _ us hl => match us, hl with | [_], _ => rfl⟩
def q23 : DefI := ⟨top 25, f23, N23, ["turns", "table"], false⟩
theorem o23 : DefOk P q23 := ⟨k23, by decide +kernel, rfl, rfl, fun _ _ _ _ _ _ us hl => match us, hl with | [_, _], _ => rfl⟩
def q24 : DefI := ⟨top 22, f24, N24, ["thing"], false⟩
theorem o24 : DefOk P q24 := ⟨k24, by decide +kernel, rfl, rfl, fun _ _ _ _ _ _ us hl => match us, hl with | [_], _ => rfl⟩
def q25 : DefI := ⟨top 23, f25, N25, ["thing", "m"], false⟩
theorem o25 : DefOk P q25 := ⟨k25, by decide +kernel, rfl, rfl, fun _ _ _ _ _ _ us hl => match us, hl with | [_, _], _ => rfl⟩
def q26 : DefI := ⟨top 7, f26, N26, ["thing", "m"], false⟩
theorem o26 : DefOk P q26 := ⟨k26, by decide +kernel, rfl, rfl, fun _ _ _ _ _ _ us hl => match us, hl with | [_, _], _ => rfl⟩
def q27 : DefI := ⟨top 8, f27, N27, ["thing", "m"], false⟩
theorem o27 : DefOk P q27 := ⟨k27, by decide +kernel, rfl, rfl, fun _ _ _ _ _ _ us hl => match us, hl with | [_, _], _ => rfl⟩
def q28 : DefI := ⟨top 24, f28, N28, ["thing", "m", "a", "b"], false⟩
theorem o28 : DefOk P q28 := ⟨k28, by decide +kernel, rfl, rfl, fun _ _ _ _ _ _ us hl => match us, hl with | [_, _, _, _], _ => rfl⟩
def q29 : DefI := ⟨top 26, f29, N29, ["thing"], false⟩
theorem o29 : DefOk P q29 := ⟨k29, by decide +kernel, rfl, rfl, fun _ _ _ _ _ _ us hl => match us, hl with | [_], _ => rfl⟩
def q30 : DefI := ⟨top 27, f30, N30, ["thing"], false⟩
theorem o30 : DefOk P q30 := ⟨k30, by decide +kernel, rfl, rfl, fun _ _ _ _ _ _ us hl => match us, hl with | [_], _ => rfl⟩
def q31 : DefI := ⟨top 12, f31, N31, ["m", "is_let"], false⟩
theorem o31 : DefOk P q31 := ⟨k31, by decide +kernel, rfl, rfl, fun _ _ _ _ _ _ us hl => match us, hl with | [_, _], _ => rfl⟩
def q32 : DefI := ⟨top 16, f32, N32, ["a", "b", "c"], false⟩
theorem o32 : DefOk P q32 := ⟨k32, by decide +kernel, rfl, rfl, fun _ _ _ _ _ _ us hl => match us, hl with | [_, _, _], _ => rfl⟩
def q33 : DefI := ⟨top 18, f33, N33, ["top"], false⟩
theorem o33 : DefOk P q33 := ⟨k33, by decide +kernel, rfl, rfl, fun _ _ _ _ _ _ us hl => match us, hl with | [_], _ => rfl⟩
def q34 : DefI := ⟨top 15, f34, N34, ["a", "b", "c"], false⟩
theorem o34 : DefOk P q34 := ⟨k34, by decide +kernel, rfl, rfl, fun _ _ _ _ _ _ us hl => match us, hl with | [_, _, _], _ => rfl⟩
def q35 : DefI := ⟨top 17, f35, N35, ["top"], false⟩
theorem o35 : DefOk P q35 := ⟨k35, by decide +kernel, rfl, rfl, fun _ _ _ _ _ _ us hl => match us, hl with | [_], _ => rfl⟩
def q36 : DefI := ⟨top 52, f36, N36, ["top"], true⟩
theorem o36 : DefOk P q36 := ⟨k36, by decide +kernel, rfl, rfl, fun _ _ _ _ _ _ us hl => match us, hl with | [_], _ => rfl⟩
def q37 : DefI := ⟨top 53, f37, N37, [], true⟩
theorem o37 : DefOk P q37 := ⟨k37, by decide +kernel, rfl, rfl, fun _ _ _ _ _ _ us hl => match us, hl with | [], _ => rfl⟩
def q38 : DefI := ⟨top 49, f38, N38, ["book", "a", "b", "c"], false⟩
theorem o38 : DefOk P q38 := ⟨k38, by decide +kernel, rfl, rfl, fun _ _ _ _ _ _ us hl => match us, hl with | [_, _, _, _], _ => rfl⟩
def q39 : DefI := ⟨top 50, f39, N39, ["jar", "top"], true⟩
theorem o39 : DefOk P q39 := ⟨k39, by decide +kernel, rfl, rfl, fun _ _ _ _ _ _ us hl => match us, hl with | [_, _], _ => rfl⟩
def q40 : DefI := ⟨top 51, f40, N40, ["jar", "top"], true⟩
theorem o40 : DefOk P q40 := ⟨k40, by decide +kernel, rfl, rfl, fun _ _ _ _ _ _ us hl => match us, hl with | [_, _], _ => rfl⟩
def q41 : DefI := ⟨top 13, f41, N41, [], false⟩
theorem o41 : DefOk P q41 := ⟨k41, by decide +kernel, rfl, rfl, fun _ _ _ _ _ _ us hl => match us, hl with | [], _ => rfl⟩
def q42 : DefI := ⟨top 14, f42, N42, [], false⟩
theorem o42 : DefOk P q42 := ⟨k42, by decide +kernel, rfl, rfl, fun _ _ _ _ _ _ us hl => match us, hl with | [], _ => rfl⟩
def q43 : DefI := ⟨top 54, f43, N43, ["script"], true⟩
theorem o43 : DefOk P q43 := ⟨k43, by decide +kernel, rfl, rfl, fun _ _ _ _ _ _ us hl => match us, hl with | [_], _ => rfl⟩
def D : List DefI := [q0, q1, q2, q3, q4, q5, q6, q7, q8, q9, q10, q11, q12, q13, q14, q15, q16, q17, q18, q19, q20, q21, q22, q23, q24, q25, q26, q27, q28, q29] ++ [q30, q31, q32, q33, q34, q35, q36, q37, q38, q39, q40, q41, q42, q43]
def lamF : List Str := ["_law_t2_tops_right", "_law_t2_refused_right", "_law_t2_points_right", "_law_t2_leaves_right", "law"]
theorem text : TextOk P D lamF 43 q43 "script" ist where
  sub := ⟨[[true, false, false], [true, true, false], [true, false, true]], rfl, rfl⟩
  ini := .inr ini
  fns := rfl
  defs := by
    intro q hq
    unfold D at hq
    simp only [List.cons_append, List.nil_append, List.mem_cons, List.not_mem_nil, or_false] at hq
    rcases hq with rfl | rfl | rfl | rfl | rfl | rfl | rfl | rfl | rfl | rfl | rfl | rfl | rfl | rfl | rfl | rfl | rfl | rfl | rfl | rfl | rfl | rfl | rfl | rfl | rfl | rfl | rfl | rfl | rfl | rfl | rfl | rfl | rfl | rfl | rfl | rfl | rfl | rfl | rfl | rfl | rfl | rfl | rfl | rfl
    · exact o0
    · exact o1
    · exact o2
    · exact o3
    · exact o4
    · exact o5
    · exact o6
    · exact o7
    · exact o8
    · exact o9
    · exact o10
    · exact o11
    · exact o12
    · exact o13
    · exact o14
    · exact o15
    · exact o16
    · exact o17
    · exact o18
    · exact o19
    · exact o20
    · exact o21
    · exact o22
    · exact o23
    · exact o24
    · exact o25
    · exact o26
    · exact o27
    · exact o28
    · exact o29
    · exact o30
    · exact o31
    · exact o32
    · exact o33
    · exact o34
    · exact o35
    · exact o36
    · exact o37
    · exact o38
    · exact o39
    · exact o40
    · exact o41
    · exact o42
    · exact o43
  lam := by decide +kernel
  law := rfl
  nc := rfl
  ps := rfl
def loose : List Str := (["Refused", "BadMany", "BadBook", "whole_in", "asked_many", "lot_what", "is_lot", "MOST_TOP", "MOST_DIAL", "told_apart", "order_book", "nest_book", "is_far", "is_ranked", "far_book", "rank_book", "dial_book", "MOST_KINDS", "are_turns", "is_square", "is_entry", "first_unturned", "wrong_of", "made_book", "_law_pool", "_law_take", "_law_kb_is_whole", "_law_kb_is_in", "_law_kb_same", "_law_kb_is_lot"] : List Str) ++ (["_law_kb_are_turns", "_law_kb_is_square", "_law_kb_fault", "_law_kb_made", "_law_kb_model", "_law_kb_order_kind", "_law_kb_nest_kind", "_law_kb_order", "_law_kb_nest", "_law_kb_far", "_law_kb_rank", "_law_kb_dial", "_law_t2_heard", "_law_t2_tells", "_law_t2_stands", "_law_t2_points_right", "_law_t2_leaves_right", "_law_t2_tops_right", "_law_t2_refused_right"] : List Str)
abbrev R : PySem.W.OpenRow := PySem.W.OpenLaw.row PySem.Challenge.rw_toldties_k02_given_books_by_models
abbrev hk : PySem.W.Hook := hookT 6 (faOf D) (fnsOf P D ist) P lamF
def ob (s : PySem.W.SharedT) : AlT := obsT 6 (faOf D) (fnsOf P D ist) P lamF (HandSHeadRun.getT s)
theorem ob_eq (s : PySem.W.SharedT) : ob s = hk.obs s.abs := obsT_eq (HandSHeadRun.getT_eq s)
theorem run (w : World) : HandSHeadRun.RunEq R (PySem.W.view R.prog [54]) hk ob 6000 loose w := by
  intro os
  kernel_rfl
end K02
section WALK
open PySem PySem.W PySem.Calls PyProof.Rows
theorem K02.holds (wp : ∀ ns : List Int, ns.length ≤ 63 → (∀ z ∈ ns, Builtin.Int.intBits z ≤ 1048576) → (Ev.callW K02.P 20).fn 43 none [.scr ns] [] (fun v _ => v = .bl true) Ev.noX) : PySem.Challenge.rw_toldties_k02_given_books_by_models.Holds := by
  w_on; o_law
  refine HandSHeadRun.head_any (r := OpenLaw.row PySem.Challenge.rw_toldties_k02_given_books_by_models) (q := view (OpenLaw.row PySem.Challenge.rw_toldties_k02_given_books_by_models).prog [54]) (H := K02.hk) (ob := K02.ob) (M := 6000) (loose := K02.loose) (d := HandSHeadRun.topDef (OpenLaw.row PySem.Challenge.rw_toldties_k02_given_books_by_models).prog 54) (kwd := []) K02.ob_eq
    (by kernel_rfl) (fun s => by kernel_rfl) K02.run (by kernel_rfl) (by kernel_rfl) (by kernel_rfl) (by rfl) (by first | assumption | decide +kernel) (by decide +kernel) ⟨rfl, rfl, rfl, rfl, rfl, by decide +kernel⟩ ?hw ?hc
  case hw => w_witness2
  case hc => exact Ev.walk_text (n := 63) rfl (by kernel_rfl) ⟨rfl, by decide, by decide⟩ K02.text (by kernel_rfl) wp
end WALK

set_option maxRecDepth 100000
set_option maxHeartbeats 4000000
/-! K02M: the books of law k02, plainly. -/
namespace K02
open Ev
def farP (a b c : Nat) : Bool := decide (2 * max a (max b c) ≤ a + b + c)
def rankP (a b c : Nat) : Bool := decide ((a = b ∧ c ≤ a) ∨ (a = c ∧ b ≤ a) ∨ (b = c ∧ a ≤ b))
def dialP (t a b c : Nat) : Bool := decide (c = (a + b) % t)
def dialT (t : Nat) : List Nat := (List.range t).map fun a => (t - a) % t
def farB (t : Nat) : List (List (List Nat)) := lotsOf farP (t + 1)
def rankB (t : Nat) : List (List (List Nat)) := lotsOf rankP (t + 1)
def dialB (t : Nat) : List (List (List Nat)) := lotsOf (dialP t) t
theorem lots_get {p : Nat → Nat → Nat → Bool} {m a b : Nat} (ha : a < m) (hb : b < m) : ((lotsOf p m).getD a []).getD b [] = (List.range m).filter fun c => p a b c := by
  unfold lotsOf
  rw [List.getD_eq_getElem?_getD (l := List.map _ _), List.getElem?_map, List.getElem?_range ha]
  show ((List.range m).map _).getD b [] = _
  rw [List.getD_eq_getElem?_getD, List.getElem?_map, List.getElem?_range hb]
  rfl
theorem lots_row {p : Nat → Nat → Nat → Bool} {m a : Nat} (ha : a < m) : ((lotsOf p m).getD a []).length = m := by
  unfold lotsOf
  rw [List.getD_eq_getElem?_getD (l := List.map _ _), List.getElem?_map, List.getElem?_range ha]
  simp
theorem lots_len {p : Nat → Nat → Nat → Bool} {m : Nat} : (lotsOf p m).length = m := by
  unfold lotsOf
  simp
theorem mem_lots {p : Nat → Nat → Nat → Bool} {m a b c : Nat} (ha : a < m) (hb : b < m) : c ∈ ((lotsOf p m).getD a []).getD b [] ↔ c < m ∧ p a b c = true := by
  rw [lots_get ha hb]
  simp
/-- a book by a table of three kinds -/
theorem lots_book {p : Nat → Nat → Nat → Bool} {ts : List Nat} (h1 : 1 ≤ ts.length) (h2 : ts.length ≤ 13) (hk : ∀ k < ts.length, ts.getD k 0 < ts.length) (h0 : ts.getD 0 0 = 0) (hb : ∀ k < ts.length, ts.getD (ts.getD k 0) 0 = k)
    (hne : ∀ a < ts.length, ∀ b < ts.length, ∃ c < ts.length, p a b c = true) (hl : ∀ b < ts.length, ∀ c < ts.length, p 0 b c = decide (c = b)) (hr : ∀ a < ts.length, ∀ c < ts.length, p a 0 c = decide (c = a))
    (ht : ∀ a < ts.length, ∀ b < ts.length, ∀ c < ts.length, p a b c = true → p c (ts.getD b 0) a = true ∧ p (ts.getD a 0) c b = true) : IsBook ts (lotsOf p ts.length) := by
  have one : ∀ b < ts.length, (List.range ts.length).filter (fun c => decide (c = b)) = [b] := by
    intro b hb
    have : ∀ n, b < n → (List.range n).filter (fun c => decide (c = b)) = [b] := by
      intro n
      induction n with
      | zero => intro h; omega
      | succ n ih =>
        intro h
        rw [List.range_succ, List.filter_append]
        by_cases e : b = n
        · subst e
          have e2 : (List.range b).filter (fun c => decide (c = b)) = [] := by
            rw [List.filter_eq_nil_iff]
            intro a ha
            have := List.mem_range.mp ha
            simp; omega
          rw [e2]
          simp
        · rw [ih (by omega)]
          have : decide (n = b) = false := by simp; omega
          simp [this]
    exact this _ hb
  refine ⟨h1, h2, fun k hk' => ?_, h0, hb, lots_len, fun a ha => lots_row ha, fun a ha b hb e => ?_, fun a ha b hb c hc => ((mem_lots ha hb).mp hc).1, fun a ha b hb => ?_, fun b hb => ?_, fun a ha => ?_, fun a ha b hb c hc => ?_⟩
  · obtain ⟨i, hi, rfl⟩ := List.getElem_of_mem hk'
    have := hk i hi
    rwa [List.getD_eq_getElem?_getD, List.getElem?_eq_getElem hi] at this
  · obtain ⟨c, hc, hp⟩ := hne a ha b hb
    have := (mem_lots (p := p) (c := c) ha hb).mpr ⟨hc, hp⟩
    rw [e] at this
    cases this
  · rw [lots_get ha hb]
    exact List.Pairwise.filter _ (List.pairwise_lt_range)
  · rw [lots_get h1 hb]
    have : (List.range ts.length).filter (fun c => p 0 b c) = (List.range ts.length).filter (fun c => decide (c = b)) := List.filter_congr fun c hc => hl b hb c (List.mem_range.mp hc)
    rw [this, one b hb]
  · rw [lots_get ha h1]
    have : (List.range ts.length).filter (fun c => p a 0 c) = (List.range ts.length).filter (fun c => decide (c = a)) := List.filter_congr fun c hc => hr a ha c (List.mem_range.mp hc)
    rw [this, one a ha]
  · obtain ⟨hc2, hp⟩ := (mem_lots ha hb).mp hc
    have hk' : ∀ k, k < ts.length → ts.getD k 0 < ts.length := hk
    obtain ⟨q1, q2⟩ := ht a ha b hb c hc2 hp
    exact ⟨(mem_lots hc2 (hk' b hb)).mpr ⟨ha, q1⟩, (mem_lots (hk' a ha) hc2).mpr ⟨hb, q2⟩⟩
theorem range_get {n k : Nat} (h : k < n) : (List.range n).getD k 0 = k := by
  rw [List.getD_eq_getElem?_getD, List.getElem?_range h]
  rfl
theorem far_book {t : Nat} (h1 : 1 ≤ t) (h2 : t ≤ 12) : IsBook (List.range (t + 1)) (farB t) := by
  have hl : (List.range (t + 1)).length = t + 1 := List.length_range
  unfold farB
  have := lots_book (p := farP) (ts := List.range (t + 1)) (by omega) (by omega) (fun k hk => by rw [range_get (by omega)]; exact hk) (range_get (by omega)) (fun k hk => by rw [range_get (k := k) (by omega), range_get (k := k) (by omega)])
    (fun a ha b hb => ⟨max a b, by omega, by unfold farP; simp only [decide_eq_true_eq]; omega⟩) (fun b hb c hc => by unfold farP; rw [Bool.eq_iff_iff]; simp only [decide_eq_true_eq]; omega) (fun a ha c hc => by unfold farP; rw [Bool.eq_iff_iff]; simp only [decide_eq_true_eq]; omega)
    (fun a ha b hb c hc h => by rw [range_get (by omega), range_get (by omega)]; unfold farP at h ⊢; simp only [decide_eq_true_eq] at h ⊢; omega)
  rwa [hl] at this
theorem rank_book {t : Nat} (h1 : 1 ≤ t) (h2 : t ≤ 12) : IsBook (List.range (t + 1)) (rankB t) := by
  have hl : (List.range (t + 1)).length = t + 1 := List.length_range
  unfold rankB
  have := lots_book (p := rankP) (ts := List.range (t + 1)) (by omega) (by omega) (fun k hk => by rw [range_get (by omega)]; exact hk) (range_get (by omega)) (fun k hk => by rw [range_get (k := k) (by omega), range_get (k := k) (by omega)])
    (fun a ha b hb => ⟨max a b, by omega, by unfold rankP; simp only [decide_eq_true_eq]; omega⟩) (fun b hb c hc => by unfold rankP; rw [Bool.eq_iff_iff]; simp only [decide_eq_true_eq]; omega) (fun a ha c hc => by unfold rankP; rw [Bool.eq_iff_iff]; simp only [decide_eq_true_eq]; omega)
    (fun a ha b hb c hc h => by rw [range_get (by omega), range_get (by omega)]; unfold rankP at h ⊢; simp only [decide_eq_true_eq] at h ⊢; omega)
  rwa [hl] at this
theorem dialT_get {t k : Nat} (h : k < t) : (dialT t).getD k 0 = (t - k) % t := by
  unfold dialT
  rw [List.getD_eq_getElem?_getD, List.getElem?_map, List.getElem?_range h]
  rfl
/-- of less than twice t, by hand -/
theorem mod2 {t x : Nat} (h : x < 2 * t) : x % t = if x < t then x else x - t := by
  split
  · exact Nat.mod_eq_of_lt ‹_›
  · rw [Nat.mod_eq_sub_mod (by omega), Nat.mod_eq_of_lt (by omega)]
theorem dial_book {t : Nat} (h1 : 1 ≤ t) (h2 : t ≤ 13) : IsBook (dialT t) (dialB t) := by
  have hl : (dialT t).length = t := by unfold dialT; simp
  unfold dialB
  have e : ∀ k < t, (dialT t).getD k 0 = if k = 0 then 0 else t - k := fun k hk => by
    rw [dialT_get hk]
    split
    · subst_vars; rw [Nat.sub_zero, Nat.mod_self]
    · exact Nat.mod_eq_of_lt (by omega)
  have lt : ∀ k < t, (dialT t).getD k 0 < t := fun k hk => by rw [e k hk]; split <;> omega
  have := lots_book (p := dialP t) (ts := dialT t) (by omega) (by omega) (fun k hk => by rw [hl] at hk ⊢; exact lt k hk) (e 0 (by omega)) (fun k hk => by
      rw [hl] at hk
      rw [e _ (lt k hk), e k hk]
      split <;> split at * <;> omega)
    (fun a ha b hb => ⟨(a + b) % t, by rw [hl]; exact Nat.mod_lt _ (by omega), by unfold dialP; simp⟩) (fun b hb c hc => by rw [hl] at hb; unfold dialP; rw [Nat.zero_add, Nat.mod_eq_of_lt hb]) (fun a ha c hc => by rw [hl] at ha; unfold dialP; rw [Nat.add_zero, Nat.mod_eq_of_lt ha])
    (fun a ha b hb c hc h => by
      rw [hl] at ha hb hc
      rw [e a ha, e b hb]
      unfold dialP at h ⊢
      simp only [decide_eq_true_eq] at h ⊢
      rw [mod2 (by omega)] at h
      constructor
      · rw [mod2 (by split <;> omega)]
        split at h <;> split <;> split <;> omega
      · rw [mod2 (by split <;> omega)]
        split at h <;> split <;> split <;> omega)
  rwa [hl] at this
theorem lots_congr {p q : Nat → Nat → Nat → Bool} {m : Nat} (h : ∀ a < m, ∀ b < m, ∀ c < m, p a b c = q a b c) : lotsOf p m = lotsOf q m := by
  unfold lotsOf
  exact List.map_congr_left fun a ha => List.map_congr_left fun b hb => List.filter_congr fun c hc => h a (List.mem_range.mp ha) b (List.mem_range.mp hb) c (List.mem_range.mp hc)
end K02

set_option maxRecDepth 100000
set_option maxHeartbeats 4000000
namespace K02
open PySem L2 Ev
set_option hygiene false
local macro_rules | `(tactic| array_mem_dec) => `(tactic| first | rfl | assumption | decide | omega | (focus (simp; done)))
local macro_rules | `(tactic| sizeOf_list_dec) => `(tactic| first
  | ((with_reducible apply wp_var); rfl; (first | assumption | (focus (intro h; cases h; done))))
  | (with_reducible refine wp_int ?_)
  | (with_reducible refine wpSs_cons ?_)
  | (with_reducible refine wpEs_cons ?_)
  | (with_reducible refine wpEs_nil ?_)
  | (with_reducible refine wpS_asg ?_)
  | (with_reducible refine wpS_ret ?_)
  | (with_reducible refine wpS_ite ?_)
  | (with_reducible refine wpS_for' ?_)
  | (with_reducible refine wpS_ex ?_)
  | (with_reducible refine wp_sub ?_)
  | (with_reducible refine wp_cmp ?_)
  | (with_reducible refine wp_bi ?_)
  | (with_reducible refine wp_call ?_)
  | (with_reducible refine wp_bin ?_)
  | (with_reducible refine wp_not ?_)
  | (with_reducible refine wp_isi ?_)
  | (with_reducible refine wp_meth ?_)
  | (with_reducible refine wp_tup ?_)
  | (with_reducible refine wp_lst ?_)
  | (with_reducible refine wp_band ?_)
  | (with_reducible refine wp_bor ?_)
  | (with_reducible refine wp_and1 ?_)
  | (with_reducible refine wp_and2 ?_)
  | (with_reducible refine wp_or1 ?_)
  | (with_reducible refine wp_or2 ?_)
  | (with_reducible refine wpS_asgT ?_)
  | (with_reducible refine wpS_asgS ?_)
  | (with_reducible refine wpSs_nil ?_)
  | (with_reducible refine ret_same ?_)
  | (with_reducible refine tru_bl ?_)
  | (with_reducible refine bl_of ?_)
  | ((with_reducible refine br_t ?_ ?_); (focus (first | exact rfl | assumption | (simp only [Bool.not_eq_true', Bool.not_eq_false', decide_eq_true_eq, decide_eq_false_iff_not, List.length_cons, List.length_nil, List.length_map, List.length_range]; omega))))
  | ((with_reducible refine br_f ?_ ?_); (focus (first | exact rfl | assumption | (simp only [Bool.not_eq_true', Bool.not_eq_false', decide_eq_true_eq, decide_eq_false_iff_not, List.length_cons, List.length_nil, List.length_map, List.length_range]; omega))))
  | (with_reducible refine wp_non ?_)
  | (with_reducible refine wp_bl ?_)
  | (with_reducible refine wp_str ?_)
  | (with_reducible refine wp_gfn ?_)
  | ((with_reducible apply wp_gcon); rfl)
  | (with_reducible refine wp_alloc ?_)
  | ((with_reducible refine alloc_tmp ?_); (intro _ _ hen hes; (try simp only [List.length_append, List.length_set, List.length_cons, List.length_nil, Nat.zero_add, Nat.add_assoc, Nat.reduceAdd] at hen); (try simp only [List.append_assoc, List.cons_append, List.nil_append] at hes); subst hen; subst hes))
  | ((with_reducible refine wp_dnewT ?_); (intro _ _ hen hes; (try simp only [List.length_append, List.length_set, List.length_cons, List.length_nil, Nat.zero_add, Nat.add_assoc, Nat.reduceAdd] at hen); (try simp only [List.append_assoc, List.cons_append, List.nil_append] at hes); subst hen; subst hes))
  | ((with_reducible refine wp_dnewK ?_); (intro _ _ hen hes; (try simp only [List.length_append, List.length_set, List.length_cons, List.length_nil, Nat.zero_add, Nat.add_assoc, Nat.reduceAdd] at hen); (try simp only [List.append_assoc, List.cons_append, List.nil_append] at hes); subst hen; subst hes))
  | (with_reducible refine wp_ife ?_)
  | (with_reducible refine wp_comp ?_)
  | (with_reducible refine wp_comp2 ?_)
  | (with_reducible refine wp_cmp2 ?_)
  | (with_reducible refine wp_neg ?_)
  | (with_reducible refine neg_int ?_)
  | (with_reducible refine wp_slice ?_)
  | (with_reducible refine wpO_none ?_)
  | (with_reducible refine wpO_some ?_)
  | (with_reducible refine opt_int ?_)
  | (with_reducible refine wp_rev ?_)
  | (with_reducible refine wpI_seq ?_)
  | (with_reducible refine wpI_rng1 ?_)
  | (with_reducible refine wpI_rng2 ?_)
  | (with_reducible refine wpI_enum ?_)
  | (with_reducible refine wpTs_nil ?_)
  | (with_reducible refine wpTs_one ?_)
  | (with_reducible refine wpS_par ?_)
  | (with_reducible refine wpS_pass ?_)
  | (with_reducible refine wpS_brk ?_)
  | (with_reducible refine wpS_cont ?_)
  | (with_reducible refine wpS_retN ?_)
  | (with_reducible refine wpS_tryN ?_)
  | (with_reducible refine wp_callL ?_)
  | ((with_reducible apply wp_callv); rfl; (focus (first | assumption | decide)))
  | ((with_reducible apply wp_callc); rfl)
  | ((with_reducible apply wp_callP); rfl)
  | ((with_reducible apply len_map); (focus assumption))
  | ((with_reducible apply len_w); (focus (first | rfl | assumption)))
  | ((with_reducible apply it_of); (focus (first | assumption | apply hth | rfl)); (focus (first | assumption | rfl)))
  | ((with_reducible apply eq_nil); (focus (first | rfl | assumption)))
  | ((with_reducible apply ne_nil); (focus (first | rfl | assumption)))
  | ((with_reducible refine rng1_int ?_ ?_ ?_); (focus omega); (focus omega))
  | ((with_reducible refine rng2_int ?_ ?_ ?_ ?_ ?_); (focus omega); (focus omega); (focus omega); (focus omega))
  | (with_reducible refine eq_ii ?_)
  | (with_reducible refine ne_ii ?_)
  | (with_reducible refine lt_ii ?_)
  | (with_reducible refine le_ii ?_)
  | (with_reducible refine gt_ii ?_)
  | (with_reducible refine ge_ii ?_)
  | (with_reducible refine add_ii ?_)
  | (with_reducible refine sub_ii ?_)
  | (with_reducible refine int_i ?_)
  | (with_reducible refine max_ii ?_)
  | (with_reducible refine min_ii ?_)
  | (with_reducible refine tuple_k ?_)
  | ((with_reducible apply is_non); (focus (first | rfl | assumption)))
  | ((with_reducible apply isnot_non); (focus (first | rfl | assumption)))
  | ((with_reducible apply isi_of); (focus (first | rfl | assumption)))
  | ((with_reducible refine And.intro ?_ ?_); (first | decide | (focus (simp [sizeLine]; done))); (intro _ he; (first | simp only [List.set, List.map_cons, List.map_nil, ro_int, ro_bl, ro_str, ro_non, ro_undef, ro_tup, ro_ktup, ro_lst, ro_tmp, ro_scr, ro_loc, ro_fn, hro, hro2] at he | simp only [List.set, List.map_cons, List.map_nil, ro_int, ro_bl, ro_str, ro_non, ro_undef, ro_tup, ro_ktup, ro_lst, ro_tmp, ro_scr, ro_loc, ro_fn, hro] at he | simp only [List.set, List.map_cons, List.map_nil, ro_int, ro_bl, ro_str, ro_non, ro_undef, ro_tup, ro_ktup, ro_lst, ro_tmp, ro_scr, ro_loc, ro_fn] at he | skip); subst he))
  | ((with_reducible intro _ he); (first | simp only [List.set, List.map_cons, List.map_nil, ro_int, ro_bl, ro_str, ro_non, ro_undef, ro_tup, ro_ktup, ro_lst, ro_tmp, ro_scr, ro_loc, ro_fn, hro, hro2] at he | simp only [List.set, List.map_cons, List.map_nil, ro_int, ro_bl, ro_str, ro_non, ro_undef, ro_tup, ro_ktup, ro_lst, ro_tmp, ro_scr, ro_loc, ro_fn, hro] at he | simp only [List.set, List.map_cons, List.map_nil, ro_int, ro_bl, ro_str, ro_non, ro_undef, ro_tup, ro_ktup, ro_lst, ro_tmp, ro_scr, ro_loc, ro_fn] at he | skip); subst he)
  | ((with_reducible apply bind_of); (focus ((first | simp only [bindT, bindTs, seqW, isScr, ro_int, ro_bl, ro_str, ro_non, ro_undef, ro_tup, ro_ktup, ro_lst, ro_tmp, ro_scr, ro_loc, ro_fn, hro, hro2, wipeW, List.set, List.length_cons, List.length_nil, Bool.false_eq_true, if_false, if_true, Nat.reduceAdd, Nat.reduceLT, ↓reduceIte] | simp only [bindT, bindTs, seqW, isScr, ro_int, ro_bl, ro_str, ro_non, ro_undef, ro_tup, ro_ktup, ro_lst, ro_tmp, ro_scr, ro_loc, ro_fn, hro, wipeW, List.set, List.length_cons, List.length_nil, Bool.false_eq_true, if_false, if_true, Nat.reduceAdd, Nat.reduceLT, ↓reduceIte] | simp only [bindT, bindTs, seqW, isScr, ro_int, ro_bl, ro_str, ro_non, ro_undef, ro_tup, ro_ktup, ro_lst, ro_tmp, ro_scr, ro_loc, ro_fn, wipeW, List.set, List.length_cons, List.length_nil, Bool.false_eq_true, if_false, if_true, Nat.reduceAdd, Nat.reduceLT, ↓reduceIte]); rfl)))
  | ((with_reducible apply binds_of); (focus ((first | simp only [List.map_cons, List.map_nil, bindT, bindTs, seqW, isScr, ro_int, ro_bl, ro_str, ro_non, ro_undef, ro_tup, ro_ktup, ro_lst, ro_tmp, ro_scr, ro_loc, ro_fn, hro, hro2, wipeW, List.set, List.length_cons, List.length_nil, Bool.false_eq_true, if_false, if_true, Nat.reduceAdd, Nat.reduceLT, ↓reduceIte] | simp only [List.map_cons, List.map_nil, bindT, bindTs, seqW, isScr, ro_int, ro_bl, ro_str, ro_non, ro_undef, ro_tup, ro_ktup, ro_lst, ro_tmp, ro_scr, ro_loc, ro_fn, hro, wipeW, List.set, List.length_cons, List.length_nil, Bool.false_eq_true, if_false, if_true, Nat.reduceAdd, Nat.reduceLT, ↓reduceIte] | simp only [List.map_cons, List.map_nil, bindT, bindTs, seqW, isScr, ro_int, ro_bl, ro_str, ro_non, ro_undef, ro_tup, ro_ktup, ro_lst, ro_tmp, ro_scr, ro_loc, ro_fn, wipeW, List.set, List.length_cons, List.length_nil, Bool.false_eq_true, if_false, if_true, Nat.reduceAdd, Nat.reduceLT, ↓reduceIte]); rfl))))
local macro_rules | `(tactic| array_get_dec) => `(tactic| first
  | ((with_reducible apply wp_var); rfl; (first | assumption | (focus (intro h; cases h; done))))
  | (with_reducible refine wp_int ?_)
  | (with_reducible refine wpSs_cons ?_)
  | (with_reducible refine wpEs_cons ?_)
  | (with_reducible refine wpEs_nil ?_)
  | (with_reducible refine wpS_asg ?_)
  | (with_reducible refine wpS_ret ?_)
  | (with_reducible refine wpS_ite ?_)
  | (with_reducible refine wpS_for' ?_)
  | (with_reducible refine wpS_ex ?_)
  | (with_reducible refine wp_sub ?_)
  | (with_reducible refine wp_cmp ?_)
  | (with_reducible refine wp_bi ?_)
  | (with_reducible refine wp_call ?_)
  | (with_reducible refine wp_bin ?_)
  | (with_reducible refine wp_not ?_)
  | (with_reducible refine wp_isi ?_)
  | (with_reducible refine wp_meth ?_)
  | (with_reducible refine wp_tup ?_)
  | (with_reducible refine wp_lst ?_)
  | (with_reducible refine wp_and1 ?_)
  | (with_reducible refine wp_and2 ?_)
  | (with_reducible refine wp_or1 ?_)
  | (with_reducible refine wp_or2 ?_)
  | (with_reducible refine wpS_asgT ?_)
  | (with_reducible refine wpS_asgS ?_)
  | (with_reducible refine wpSs_nil ?_)
  | (with_reducible refine ret_same ?_)
  | (with_reducible refine tru_bl ?_)
  | (with_reducible refine bl_of ?_)
  | ((with_reducible refine br_t ?_ ?_); (focus (first | exact rfl | assumption | (simp only [Bool.not_eq_true', Bool.not_eq_false', decide_eq_true_eq, decide_eq_false_iff_not, List.length_cons, List.length_nil, List.length_map, List.length_range]; omega))))
  | ((with_reducible refine br_f ?_ ?_); (focus (first | exact rfl | assumption | (simp only [Bool.not_eq_true', Bool.not_eq_false', decide_eq_true_eq, decide_eq_false_iff_not, List.length_cons, List.length_nil, List.length_map, List.length_range]; omega))))
  | (with_reducible refine wp_non ?_)
  | (with_reducible refine wp_bl ?_)
  | (with_reducible refine wp_str ?_)
  | (with_reducible refine wp_gfn ?_)
  | ((with_reducible apply wp_gcon); rfl)
  | (with_reducible refine wp_alloc ?_)
  | ((with_reducible refine alloc_tmp ?_); (intro _ _ hen hes; (try simp only [List.length_append, List.length_set, List.length_cons, List.length_nil, Nat.zero_add, Nat.add_assoc, Nat.reduceAdd] at hen); (try simp only [List.append_assoc, List.cons_append, List.nil_append] at hes); subst hen; subst hes))
  | ((with_reducible refine wp_dnewT ?_); (intro _ _ hen hes; (try simp only [List.length_append, List.length_set, List.length_cons, List.length_nil, Nat.zero_add, Nat.add_assoc, Nat.reduceAdd] at hen); (try simp only [List.append_assoc, List.cons_append, List.nil_append] at hes); subst hen; subst hes))
  | ((with_reducible refine wp_dnewK ?_); (intro _ _ hen hes; (try simp only [List.length_append, List.length_set, List.length_cons, List.length_nil, Nat.zero_add, Nat.add_assoc, Nat.reduceAdd] at hen); (try simp only [List.append_assoc, List.cons_append, List.nil_append] at hes); subst hen; subst hes))
  | (with_reducible refine wp_ife ?_)
  | (with_reducible refine wp_comp ?_)
  | (with_reducible refine wp_comp2 ?_)
  | (with_reducible refine wp_cmp2 ?_)
  | (with_reducible refine wp_neg ?_)
  | (with_reducible refine neg_int ?_)
  | (with_reducible refine wp_slice ?_)
  | (with_reducible refine wpO_none ?_)
  | (with_reducible refine wpO_some ?_)
  | (with_reducible refine opt_int ?_)
  | (with_reducible refine wp_rev ?_)
  | (with_reducible refine wpI_seq ?_)
  | (with_reducible refine wpI_rng1 ?_)
  | (with_reducible refine wpI_rng2 ?_)
  | (with_reducible refine wpI_enum ?_)
  | (with_reducible refine wpTs_nil ?_)
  | (with_reducible refine wpTs_one ?_)
  | (with_reducible refine wpS_par ?_)
  | (with_reducible refine wpS_pass ?_)
  | (with_reducible refine wpS_brk ?_)
  | (with_reducible refine wpS_cont ?_)
  | (with_reducible refine wpS_retN ?_)
  | (with_reducible refine wpS_tryN ?_)
  | (with_reducible refine wp_callL ?_)
  | ((with_reducible apply wp_callv); rfl; (focus (first | assumption | decide)))
  | ((with_reducible apply wp_callc); rfl)
  | ((with_reducible apply wp_callP); rfl)
  | ((with_reducible apply len_map); (focus assumption))
  | ((with_reducible apply len_w); (focus (first | rfl | assumption)))
  | ((with_reducible apply it_of); (focus (first | assumption | apply hth | rfl)); (focus (first | assumption | rfl)))
  | ((with_reducible apply eq_nil); (focus (first | rfl | assumption)))
  | ((with_reducible apply ne_nil); (focus (first | rfl | assumption)))
  | ((with_reducible refine rng1_int ?_ ?_ ?_); (focus omega); (focus omega))
  | ((with_reducible refine rng2_int ?_ ?_ ?_ ?_ ?_); (focus omega); (focus omega); (focus omega); (focus omega))
  | (with_reducible refine eq_ii ?_)
  | (with_reducible refine ne_ii ?_)
  | (with_reducible refine lt_ii ?_)
  | (with_reducible refine le_ii ?_)
  | (with_reducible refine gt_ii ?_)
  | (with_reducible refine ge_ii ?_)
  | (with_reducible refine add_ii ?_)
  | (with_reducible refine sub_ii ?_)
  | (with_reducible refine int_i ?_)
  | (with_reducible refine max_ii ?_)
  | (with_reducible refine min_ii ?_)
  | (with_reducible refine tuple_k ?_)
  | ((with_reducible apply is_non); (focus (first | rfl | assumption)))
  | ((with_reducible apply isnot_non); (focus (first | rfl | assumption)))
  | ((with_reducible apply isi_of); (focus (first | rfl | assumption)))
  | ((with_reducible refine And.intro ?_ ?_); (first | decide | (focus (simp [sizeLine]; done))); (intro _ he; (first | simp only [List.set, List.map_cons, List.map_nil, ro_int, ro_bl, ro_str, ro_non, ro_undef, ro_tup, ro_ktup, ro_lst, ro_tmp, ro_scr, ro_loc, ro_fn, hro, hro2] at he | simp only [List.set, List.map_cons, List.map_nil, ro_int, ro_bl, ro_str, ro_non, ro_undef, ro_tup, ro_ktup, ro_lst, ro_tmp, ro_scr, ro_loc, ro_fn, hro] at he | simp only [List.set, List.map_cons, List.map_nil, ro_int, ro_bl, ro_str, ro_non, ro_undef, ro_tup, ro_ktup, ro_lst, ro_tmp, ro_scr, ro_loc, ro_fn] at he | skip); subst he))
  | ((with_reducible intro _ he); (first | simp only [List.set, List.map_cons, List.map_nil, ro_int, ro_bl, ro_str, ro_non, ro_undef, ro_tup, ro_ktup, ro_lst, ro_tmp, ro_scr, ro_loc, ro_fn, hro, hro2] at he | simp only [List.set, List.map_cons, List.map_nil, ro_int, ro_bl, ro_str, ro_non, ro_undef, ro_tup, ro_ktup, ro_lst, ro_tmp, ro_scr, ro_loc, ro_fn, hro] at he | simp only [List.set, List.map_cons, List.map_nil, ro_int, ro_bl, ro_str, ro_non, ro_undef, ro_tup, ro_ktup, ro_lst, ro_tmp, ro_scr, ro_loc, ro_fn] at he | skip); subst he)
  | ((with_reducible apply bind_of); (focus ((first | simp only [bindT, bindTs, seqW, isScr, ro_int, ro_bl, ro_str, ro_non, ro_undef, ro_tup, ro_ktup, ro_lst, ro_tmp, ro_scr, ro_loc, ro_fn, hro, hro2, wipeW, List.set, List.length_cons, List.length_nil, Bool.false_eq_true, if_false, if_true, Nat.reduceAdd, Nat.reduceLT, ↓reduceIte] | simp only [bindT, bindTs, seqW, isScr, ro_int, ro_bl, ro_str, ro_non, ro_undef, ro_tup, ro_ktup, ro_lst, ro_tmp, ro_scr, ro_loc, ro_fn, hro, wipeW, List.set, List.length_cons, List.length_nil, Bool.false_eq_true, if_false, if_true, Nat.reduceAdd, Nat.reduceLT, ↓reduceIte] | simp only [bindT, bindTs, seqW, isScr, ro_int, ro_bl, ro_str, ro_non, ro_undef, ro_tup, ro_ktup, ro_lst, ro_tmp, ro_scr, ro_loc, ro_fn, wipeW, List.set, List.length_cons, List.length_nil, Bool.false_eq_true, if_false, if_true, Nat.reduceAdd, Nat.reduceLT, ↓reduceIte]); rfl)))
  | ((with_reducible apply binds_of); (focus ((first | simp only [List.map_cons, List.map_nil, bindT, bindTs, seqW, isScr, ro_int, ro_bl, ro_str, ro_non, ro_undef, ro_tup, ro_ktup, ro_lst, ro_tmp, ro_scr, ro_loc, ro_fn, hro, hro2, wipeW, List.set, List.length_cons, List.length_nil, Bool.false_eq_true, if_false, if_true, Nat.reduceAdd, Nat.reduceLT, ↓reduceIte] | simp only [List.map_cons, List.map_nil, bindT, bindTs, seqW, isScr, ro_int, ro_bl, ro_str, ro_non, ro_undef, ro_tup, ro_ktup, ro_lst, ro_tmp, ro_scr, ro_loc, ro_fn, hro, wipeW, List.set, List.length_cons, List.length_nil, Bool.false_eq_true, if_false, if_true, Nat.reduceAdd, Nat.reduceLT, ↓reduceIte] | simp only [List.map_cons, List.map_nil, bindT, bindTs, seqW, isScr, ro_int, ro_bl, ro_str, ro_non, ro_undef, ro_tup, ro_ktup, ro_lst, ro_tmp, ro_scr, ro_loc, ro_fn, wipeW, List.set, List.length_cons, List.length_nil, Bool.false_eq_true, if_false, if_true, Nat.reduceAdd, Nat.reduceLT, ↓reduceIte]); rfl))))
theorem q_int {Q : Post} {st : Store} {i j : Int} (q : Q (.int i) st) (h : i = j) : Q (.int j) st := h ▸ q
theorem q_bl {Q : Post} {st : Store} {i j : Bool} (q : Q (.bl i) st) (h : i = j) : Q (.bl j) st := h ▸ q
/-- it is no whole number of lo to hi -/
def badB : W → Int → Int → Bool
  | .int i, lo, hi => !decide (lo ≤ i ∧ i ≤ hi)
  | .bl _, _, _ => true
  | .non, _, _ => true
  | .str _, _, _ => true
  | .tup _, _, _ => true
  | _, _, _ => false
section
variable {d : Nat} {st : Store} {Q : Post} {X : XPost}
theorem sp20x {w : W} {lo hi : Int} (h : badB w lo hi = true) (q : Q (.bl false) st) : (callW P (d + 1)).fn 20 none [w, .int lo, .int hi] st Q X := by
  cases w with
  | int i =>
    refine sp_wholein (g := 20) rfl (q_bl q ?_)
    simp only [badB, Bool.not_eq_true'] at h
    exact h.symm
  | bl b =>
    refine fn_in (env := [.bl b, .int lo, .int hi]) (f := f20) rfl rfl rfl rfl ?_
    dsimp only [f20]
    repeat' sizeOf_list_dec
    exact q
  | non =>
    refine fn_in (env := [.non, .int lo, .int hi]) (f := f20) rfl rfl rfl rfl ?_
    dsimp only [f20]
    repeat' sizeOf_list_dec
    exact q
  | str x =>
    refine fn_in (env := [.str x, .int lo, .int hi]) (f := f20) rfl rfl rfl rfl ?_
    dsimp only [f20]
    repeat' sizeOf_list_dec
    exact q
  | tup ws =>
    refine fn_in (env := [.tup ws, .int lo, .int hi]) (f := f20) rfl rfl rfl rfl ?_
    dsimp only [f20]
    repeat' sizeOf_list_dec
    exact q
  | _ => cases h
theorem bad_ro {w : W} {lo hi : Int} (h : badB w lo hi = true) : ro w = w ∧ w ≠ .undef := by
  refine ⟨?_, ?_⟩
  · cases w <;> first | rfl | cases h
  · rintro rfl
    cases h
theorem sp21 {i lo hi : Int} (h : lo ≤ i ∧ i ≤ hi) (q : Q (.int i) st) : (callW P (d + 2)).fn 21 none [.int i, .int lo, .int hi] st Q X := by
  refine fn_in (env := [.int i, .int lo, .int hi]) (f := f21) rfl rfl rfl rfl ?_
  dsimp only [f21]
  repeat' sizeOf_list_dec
  refine sp_wholein (g := 20) rfl ?_
  rw [decide_eq_true h]
  repeat' sizeOf_list_dec
  exact q
theorem sp21x {w : W} {lo hi : Int} (h : badB w lo hi = true) (x : X 1 w st) : (callW P (d + 2)).fn 21 none [w, .int lo, .int hi] st Q X := by
  obtain ⟨hro, hu⟩ := bad_ro h
  refine fn_in (env := [w, .int lo, .int hi]) (f := f21) rfl rfl rfl rfl ?_
  dsimp only [f21]
  repeat' sizeOf_list_dec
  refine sp20x h ?_
  repeat' sizeOf_list_dec
  refine wpS_raise ?_
  repeat' sizeOf_list_dec
  exact .inl x
/-! ### lots told apart by a test -/
theorem sp31 {m kf : Nat} {p : Nat → Nat → Nat → Bool} (hm : m ≤ 100) (hlt : kf < P.fns.length) (hp : ∀ a < m, ∀ b < m, ∀ c < m, ∀ {Q : Post} {X : XPost}, Q (.bl (p a b c)) st → (callW P d).fn kf none [nW a, nW b, nW c] st Q X)
    (q : Q (bookW (List.range m) (lotsOf p m)) st) : (callW P (d + 1)).fn 31 none [nW m, .fn kf] st Q X := by
  refine fn_in (env := [nW m, .fn kf, .undef, .undef, .undef, .undef]) (f := f31) rfl rfl rfl rfl ?_
  dsimp only [f31]
  have h5 : m ≤ sizeLine := Nat.le_trans hm (by decide)
  have hl5 : (List.range m).length ≤ sizeLine := by rw [List.length_range]; exact h5
  repeat' sizeOf_list_dec
  refine lrange_n (by omega) ?_
  repeat' sizeOf_list_dec
  refine tuple_w rfl trivial ?_
  repeat' sizeOf_list_dec
  refine comp_all (List.range m) nW (fun a => rowW ((List.range m).map fun b => (List.range m).filter fun c => p a b c)) rfl rfl hl5 (fun a ha => ⟨[_, _, _, nW a, .undef, .undef], rfl, fun K q => ?_⟩) ?_
  · have ha := List.mem_range.mp ha
    repeat' sizeOf_list_dec
    refine comp_all (List.range m) nW (fun b => lotW ((List.range m).filter fun c => p a b c)) rfl rfl hl5 (fun b hb => ⟨[_, _, _, nW a, nW b, .undef], rfl, fun K q => ?_⟩) ?_
    · have hb := List.mem_range.mp hb
      repeat' sizeOf_list_dec
      refine comp_ty (List.range m) nW (fun c => p a b c) nW rfl rfl hl5 (fun c hc => ⟨[_, _, _, nW a, nW b, nW c], rfl, fun K q => ?_, fun _ K q => ?_⟩) ?_
      · have hc := List.mem_range.mp hc
        repeat' sizeOf_list_dec
        refine hp a ha b hb c hc ?_
        repeat' sizeOf_list_dec
        exact q
      · repeat' sizeOf_list_dec
        exact q _ rfl
      repeat' sizeOf_list_dec
      refine tuple_w rfl trivial ?_
      exact q _ rfl
    repeat' sizeOf_list_dec
    refine tuple_w rfl trivial ?_
    refine q _ ?_
    show W.tup _ = W.tup _
    rw [List.map_map]
    rfl
  repeat' sizeOf_list_dec
  refine tuple_w rfl trivial ?_
  repeat' sizeOf_list_dec
  have e : (List.range m).map (fun a => rowW ((List.range m).map fun b => (List.range m).filter fun c => p a b c)) = (lotsOf p m).map rowW := by
    unfold lotsOf
    rw [List.map_map]
    rfl
  rw [e]
  exact q
theorem sp34 {a b c : Nat} (q : Q (.bl (farP a b c)) st) : (callW P (d + 1)).fn 34 none [nW a, nW b, nW c] st Q X := by
  refine fn_in (env := [nW a, nW b, nW c]) (f := f34) rfl rfl rfl rfl ?_
  dsimp only [f34]
  repeat' sizeOf_list_dec
  refine max3_w (m := ((max a (max b c) : Nat) : Int)) (by omega) (by omega) (by omega) (by omega) ?_
  refine mul_ii ?_ ?_
  · exact .inl (.inl ⟨by decide, by decide⟩)
  repeat' sizeOf_list_dec
  refine q_bl q ?_
  unfold farP
  rw [Bool.eq_iff_iff]
  simp only [decide_eq_true_eq]
  omega
/-- three in order -/
def ord3 (a b c : Nat) : List Nat := if a ≤ b then (if b ≤ c then [a, b, c] else if a ≤ c then [a, c, b] else [c, a, b]) else (if a ≤ c then [b, a, c] else if b ≤ c then [b, c, a] else [c, b, a])
theorem ord3_perm (a b c : Nat) : ((ord3 a b c).map fun (k : Nat) => (k : Int)).Perm [(a : Int), (b : Int), (c : Int)] := by
  refine List.Perm.map (l₂ := [a, b, c]) _ ?_
  unfold ord3
  repeat' split
  · exact List.Perm.refl _
  · exact (List.Perm.swap b c []).cons a
  · exact ((List.Perm.swap a c [b]).trans ((List.Perm.swap b c []).cons a))
  · exact List.Perm.swap a b [c]
  · exact ((List.Perm.swap a c []).cons b).trans (List.Perm.swap a b [c])
  · exact (List.Perm.swap b c [a]).trans (((List.Perm.swap a c []).cons b).trans (List.Perm.swap a b [c]))
theorem ord3_sort (a b c : Nat) : ((ord3 a b c).map fun (k : Nat) => (k : Int)).Pairwise (· ≤ ·) := by
  unfold ord3
  repeat' split
  all_goals simp <;> omega
theorem ord3_at (a b c : Nat) : ∃ x y z, ord3 a b c = [x, y, z] ∧ rankP a b c = decide (y = z) := by
  unfold ord3 rankP
  repeat' split
  all_goals refine ⟨_, _, _, rfl, ?_⟩; rw [Bool.eq_iff_iff]; simp only [decide_eq_true_eq]; omega
theorem sort3 {a b c : Nat} (q : Q (.tmp ((ord3 a b c).map nW)) st) : biW st .sorted [.tmp [nW a, nW b, nW c]] Q := by
  refine sorted_w rfl rfl (ord3_perm a b c) (ord3_sort a b c) ?_
  rw [List.map_map]
  exact q
theorem sp32 {a b c : Nat} (q : Q (.bl (rankP a b c)) st) : (callW P (d + 1)).fn 32 none [nW a, nW b, nW c] st Q X := by
  refine fn_in (env := [nW a, nW b, nW c, .undef, .undef, .undef]) (f := f32) rfl rfl rfl rfl ?_
  dsimp only [f32]
  repeat' sizeOf_list_dec
  refine sort3 ?_
  obtain ⟨x, y, z, e, er⟩ := ord3_at a b c
  rw [e]
  repeat' sizeOf_list_dec
  refine ret_same (q_bl q ?_)
  rw [er, Bool.eq_iff_iff]
  simp only [decide_eq_true_eq]
  omega
theorem sp35 {t : Nat} (h1 : 1 ≤ t) (h2 : t ≤ 12) (q : Q (bookW (List.range (t + 1)) (farB t)) st) : (callW P (d + 3)).fn 35 none [nW t] st Q X := by
  refine fn_in (env := [nW t]) (f := f35) rfl rfl rfl rfl ?_
  dsimp only [f35]
  repeat' sizeOf_list_dec
  refine sp21 (by omega) ?_
  repeat' sizeOf_list_dec
  refine sp31 (d := d + 1) (m := t + 1) (p := farP) (by omega) (by decide) (fun a _ b _ c _ _ _ q => sp34 q) ?_
  exact ret_same q
theorem sp35x {w : W} (h : badB w 1 12 = true) (x : X 1 w st) : (callW P (d + 3)).fn 35 none [w] st Q X := by
  obtain ⟨hro, hu⟩ := bad_ro h
  refine fn_in (env := [w]) (f := f35) rfl rfl rfl rfl ?_
  dsimp only [f35]
  repeat' sizeOf_list_dec
  exact sp21x h (.inl x)
theorem sp33 {t : Nat} (h1 : 1 ≤ t) (h2 : t ≤ 12) (q : Q (bookW (List.range (t + 1)) (rankB t)) st) : (callW P (d + 3)).fn 33 none [nW t] st Q X := by
  refine fn_in (env := [nW t]) (f := f33) rfl rfl rfl rfl ?_
  dsimp only [f33]
  repeat' sizeOf_list_dec
  refine sp21 (by omega) ?_
  repeat' sizeOf_list_dec
  refine sp31 (d := d + 1) (m := t + 1) (p := rankP) (by omega) (by decide) (fun a _ b _ c _ _ _ q => sp32 q) ?_
  exact ret_same q
theorem sp33x {w : W} (h : badB w 1 12 = true) (x : X 1 w st) : (callW P (d + 3)).fn 33 none [w] st Q X := by
  obtain ⟨hro, hu⟩ := bad_ro h
  refine fn_in (env := [w]) (f := f33) rfl rfl rfl rfl ?_
  dsimp only [f33]
  repeat' sizeOf_list_dec
  exact sp21x h (.inl x)
theorem sp22x {w : W} (h : badB w 1 13 = true) (x : X 1 w st) : (callW P (d + 3)).fn 22 none [w] st Q X := by
  obtain ⟨hro, hu⟩ := bad_ro h
  refine fn_in (env := [w, .undef, .undef, .undef]) (f := f22) rfl rfl rfl rfl ?_
  dsimp only [f22]
  repeat' sizeOf_list_dec
  exact sp21x h (.inl x)
theorem dialB_eq {t : Nat} : dialB t = (List.range t).map fun a => (List.range t).map fun b => [(a + b) % t] := by
  unfold dialB lotsOf
  refine List.map_congr_left fun a ha => List.map_congr_left fun b hb => ?_
  have ha := List.mem_range.mp ha
  have hk : (a + b) % t < t := Nat.mod_lt _ (by omega)
  unfold dialP
  have : ∀ n k, k < n → (List.range n).filter (fun c => decide (c = k)) = [k] := by
    intro n k
    induction n with
    | zero => intro h; omega
    | succ n ih =>
      intro h
      rw [List.range_succ, List.filter_append]
      by_cases e : k = n
      · subst e
        have e2 : (List.range k).filter (fun c => decide (c = k)) = [] := by
          rw [List.filter_eq_nil_iff]
          intro a ha
          have := List.mem_range.mp ha
          simp; omega
        rw [e2]
        simp
      · rw [ih (by omega)]
        have : decide (n = k) = false := by simp; omega
        simp [this]
  exact this t _ hk
theorem mod_nn {x t : Nat} {K : W → Prop} (h : 0 < t) (q : K (nW (x % t))) : binW st .Mod (nW x) (nW t) K := by
  refine mod_ii (by omega) ?_
  rw [← Int.natCast_emod]
  exact q
theorem neg_mod {a t : Nat} (h : a < t) : (-(a : Int)) % (t : Int) = (((t - a) % t : Nat) : Int) := by
  rw [Int.natCast_emod, Int.natCast_sub (by omega)]
  rw [show ((t : Int) - (a : Int)) = -(a : Int) + t * 1 by omega, Int.add_mul_emod_self_left]
theorem sp22 {t : Nat} (h1 : 1 ≤ t) (h2 : t ≤ 13) (q : Q (bookW (dialT t) (dialB t)) st) : (callW P (d + 3)).fn 22 none [nW t] st Q X := by
  refine fn_in (env := [nW t, .undef, .undef, .undef]) (f := f22) rfl rfl rfl rfl ?_
  dsimp only [f22]
  have hl5 : (List.range t).length ≤ sizeLine := by rw [List.length_range]; exact Nat.le_trans h2 (by decide)
  repeat' sizeOf_list_dec
  refine sp21 (by omega) ?_
  repeat' sizeOf_list_dec
  refine lrange_n (by omega) ?_
  repeat' sizeOf_list_dec
  refine comp_all (List.range t) nW (fun a => nW ((t - a) % t)) rfl rfl hl5 (fun a ha => ⟨[_, _, nW a, .undef], rfl, fun K q => ?_⟩) ?_
  · have ha := List.mem_range.mp ha
    repeat' sizeOf_list_dec
    refine mod_ii (by omega) ?_
    rw [neg_mod ha]
    exact q _ rfl
  repeat' sizeOf_list_dec
  refine tuple_w rfl trivial ?_
  repeat' sizeOf_list_dec
  refine comp_all (List.range t) nW (fun a => rowW ((List.range t).map fun b => [(a + b) % t])) rfl rfl hl5 (fun a ha => ⟨[_, _, nW a, .undef], rfl, fun K q => ?_⟩) ?_
  · have ha := List.mem_range.mp ha
    repeat' sizeOf_list_dec
    refine comp_all (List.range t) nW (fun b => lotW [(a + b) % t]) rfl rfl hl5 (fun b hb => ⟨[_, _, nW a, nW b], rfl, fun K q => ?_⟩) ?_
    · repeat' sizeOf_list_dec
      refine mod_nn (x := a + b) (by omega) ?_
      repeat' sizeOf_list_dec
      exact q _ rfl
    repeat' sizeOf_list_dec
    refine tuple_w rfl trivial ?_
    refine q _ ?_
    show W.tup _ = W.tup _
    rw [List.map_map]
    rfl
  repeat' sizeOf_list_dec
  refine tuple_w rfl trivial ?_
  repeat' sizeOf_list_dec
  have e1 : (List.range t).map (fun a => nW ((t - a) % t)) = (dialT t).map nW := by
    unfold dialT
    rw [List.map_map]
    rfl
  have e2 : (List.range t).map (fun a => rowW ((List.range t).map fun b => [(a + b) % t])) = (dialB t).map rowW := by
    rw [dialB_eq, List.map_map]
    rfl
  rw [e1, e2]
  exact q
end
end K02

set_option maxRecDepth 100000
set_option maxHeartbeats 4000000
namespace K02
open PySem L2 Ev
set_option hygiene false
local macro_rules | `(tactic| array_mem_dec) => `(tactic| first | rfl | assumption | decide | omega | (focus (simp; done)))
local macro_rules | `(tactic| sizeOf_list_dec) => `(tactic| first
  | ((with_reducible apply wp_var); rfl; (first | assumption | (focus (intro h; cases h; done))))
  | (with_reducible refine wp_int ?_)
  | (with_reducible refine wpSs_cons ?_)
  | (with_reducible refine wpEs_cons ?_)
  | (with_reducible refine wpEs_nil ?_)
  | (with_reducible refine wpS_asg ?_)
  | (with_reducible refine wpS_ret ?_)
  | (with_reducible refine wpS_ite ?_)
  | (with_reducible refine wpS_for' ?_)
  | (with_reducible refine wpS_ex ?_)
  | (with_reducible refine wp_sub ?_)
  | (with_reducible refine wp_cmp ?_)
  | (with_reducible refine wp_bi ?_)
  | (with_reducible refine wp_call ?_)
  | (with_reducible refine wp_bin ?_)
  | (with_reducible refine wp_not ?_)
  | (with_reducible refine wp_isi ?_)
  | (with_reducible refine wp_meth ?_)
  | (with_reducible refine wp_tup ?_)
  | (with_reducible refine wp_lst ?_)
  | (with_reducible refine wp_band ?_)
  | (with_reducible refine wp_bor ?_)
  | (with_reducible refine wp_and1 ?_)
  | (with_reducible refine wp_and2 ?_)
  | (with_reducible refine wp_or1 ?_)
  | (with_reducible refine wp_or2 ?_)
  | (with_reducible refine wpS_asgT ?_)
  | (with_reducible refine wpS_asgS ?_)
  | (with_reducible refine wpSs_nil ?_)
  | (with_reducible refine ret_same ?_)
  | (with_reducible refine tru_bl ?_)
  | (with_reducible refine bl_of ?_)
  | ((with_reducible refine br_t ?_ ?_); (focus (first | exact rfl | assumption | (simp only [Bool.not_eq_true', Bool.not_eq_false', decide_eq_true_eq, decide_eq_false_iff_not, List.length_cons, List.length_nil, List.length_map, List.length_range]; omega))))
  | ((with_reducible refine br_f ?_ ?_); (focus (first | exact rfl | assumption | (simp only [Bool.not_eq_true', Bool.not_eq_false', decide_eq_true_eq, decide_eq_false_iff_not, List.length_cons, List.length_nil, List.length_map, List.length_range]; omega))))
  | (with_reducible refine wp_non ?_)
  | (with_reducible refine wp_bl ?_)
  | (with_reducible refine wp_str ?_)
  | (with_reducible refine wp_gfn ?_)
  | ((with_reducible apply wp_gcon); rfl)
  | (with_reducible refine wp_alloc ?_)
  | ((with_reducible refine alloc_tmp ?_); (intro _ _ hen hes; (try simp only [List.length_append, List.length_set, List.length_cons, List.length_nil, Nat.zero_add, Nat.add_assoc, Nat.reduceAdd] at hen); (try simp only [List.append_assoc, List.cons_append, List.nil_append] at hes); subst hen; subst hes))
  | ((with_reducible refine wp_dnewT ?_); (intro _ _ hen hes; (try simp only [List.length_append, List.length_set, List.length_cons, List.length_nil, Nat.zero_add, Nat.add_assoc, Nat.reduceAdd] at hen); (try simp only [List.append_assoc, List.cons_append, List.nil_append] at hes); subst hen; subst hes))
  | ((with_reducible refine wp_dnewK ?_); (intro _ _ hen hes; (try simp only [List.length_append, List.length_set, List.length_cons, List.length_nil, Nat.zero_add, Nat.add_assoc, Nat.reduceAdd] at hen); (try simp only [List.append_assoc, List.cons_append, List.nil_append] at hes); subst hen; subst hes))
  | (with_reducible refine wp_ife ?_)
  | (with_reducible refine wp_comp ?_)
  | (with_reducible refine wp_comp2 ?_)
  | (with_reducible refine wp_cmp2 ?_)
  | (with_reducible refine wp_neg ?_)
  | (with_reducible refine neg_int ?_)
  | (with_reducible refine wp_slice ?_)
  | (with_reducible refine wpO_none ?_)
  | (with_reducible refine wpO_some ?_)
  | (with_reducible refine opt_int ?_)
  | (with_reducible refine wp_rev ?_)
  | (with_reducible refine wpI_seq ?_)
  | (with_reducible refine wpI_rng1 ?_)
  | (with_reducible refine wpI_rng2 ?_)
  | (with_reducible refine wpI_enum ?_)
  | (with_reducible refine wpTs_nil ?_)
  | (with_reducible refine wpTs_one ?_)
  | (with_reducible refine wpS_par ?_)
  | (with_reducible refine wpS_pass ?_)
  | (with_reducible refine wpS_brk ?_)
  | (with_reducible refine wpS_cont ?_)
  | (with_reducible refine wpS_retN ?_)
  | (with_reducible refine wpS_tryN ?_)
  | (with_reducible refine wp_callL ?_)
  | ((with_reducible apply wp_callv); rfl; (focus (first | assumption | decide)))
  | ((with_reducible apply wp_callc); rfl)
  | ((with_reducible apply wp_callP); rfl)
  | ((with_reducible apply len_map); (focus assumption))
  | ((with_reducible apply len_w); (focus (first | rfl | assumption)))
  | ((with_reducible apply it_of); (focus (first | assumption | apply hth | rfl)); (focus (first | assumption | rfl)))
  | ((with_reducible apply eq_nil); (focus (first | rfl | assumption)))
  | ((with_reducible apply ne_nil); (focus (first | rfl | assumption)))
  | ((with_reducible refine rng1_int ?_ ?_ ?_); (focus omega); (focus omega))
  | ((with_reducible refine rng2_int ?_ ?_ ?_ ?_ ?_); (focus omega); (focus omega); (focus omega); (focus omega))
  | (with_reducible refine eq_ii ?_)
  | (with_reducible refine ne_ii ?_)
  | (with_reducible refine lt_ii ?_)
  | (with_reducible refine le_ii ?_)
  | (with_reducible refine gt_ii ?_)
  | (with_reducible refine ge_ii ?_)
  | (with_reducible refine add_ii ?_)
  | (with_reducible refine sub_ii ?_)
  | (with_reducible refine int_i ?_)
  | (with_reducible refine max_ii ?_)
  | (with_reducible refine min_ii ?_)
  | (with_reducible refine tuple_k ?_)
  | ((with_reducible apply is_non); (focus (first | rfl | assumption)))
  | ((with_reducible apply isnot_non); (focus (first | rfl | assumption)))
  | ((with_reducible apply isi_of); (focus (first | rfl | assumption)))
  | ((with_reducible refine And.intro ?_ ?_); (first | decide | (focus (simp [sizeLine]; done))); (intro _ he; (first | simp only [List.set, List.map_cons, List.map_nil, ro_int, ro_bl, ro_str, ro_non, ro_undef, ro_tup, ro_ktup, ro_lst, ro_tmp, ro_scr, ro_loc, ro_fn, hro, hro2] at he | simp only [List.set, List.map_cons, List.map_nil, ro_int, ro_bl, ro_str, ro_non, ro_undef, ro_tup, ro_ktup, ro_lst, ro_tmp, ro_scr, ro_loc, ro_fn, hro] at he | simp only [List.set, List.map_cons, List.map_nil, ro_int, ro_bl, ro_str, ro_non, ro_undef, ro_tup, ro_ktup, ro_lst, ro_tmp, ro_scr, ro_loc, ro_fn] at he | skip); subst he))
  | ((with_reducible intro _ he); (first | simp only [List.set, List.map_cons, List.map_nil, ro_int, ro_bl, ro_str, ro_non, ro_undef, ro_tup, ro_ktup, ro_lst, ro_tmp, ro_scr, ro_loc, ro_fn, hro, hro2] at he | simp only [List.set, List.map_cons, List.map_nil, ro_int, ro_bl, ro_str, ro_non, ro_undef, ro_tup, ro_ktup, ro_lst, ro_tmp, ro_scr, ro_loc, ro_fn, hro] at he | simp only [List.set, List.map_cons, List.map_nil, ro_int, ro_bl, ro_str, ro_non, ro_undef, ro_tup, ro_ktup, ro_lst, ro_tmp, ro_scr, ro_loc, ro_fn] at he | skip); subst he)
  | ((with_reducible apply bind_of); (focus ((first | simp only [bindT, bindTs, seqW, isScr, ro_int, ro_bl, ro_str, ro_non, ro_undef, ro_tup, ro_ktup, ro_lst, ro_tmp, ro_scr, ro_loc, ro_fn, hro, hro2, wipeW, List.set, List.length_cons, List.length_nil, Bool.false_eq_true, if_false, if_true, Nat.reduceAdd, Nat.reduceLT, ↓reduceIte] | simp only [bindT, bindTs, seqW, isScr, ro_int, ro_bl, ro_str, ro_non, ro_undef, ro_tup, ro_ktup, ro_lst, ro_tmp, ro_scr, ro_loc, ro_fn, hro, wipeW, List.set, List.length_cons, List.length_nil, Bool.false_eq_true, if_false, if_true, Nat.reduceAdd, Nat.reduceLT, ↓reduceIte] | simp only [bindT, bindTs, seqW, isScr, ro_int, ro_bl, ro_str, ro_non, ro_undef, ro_tup, ro_ktup, ro_lst, ro_tmp, ro_scr, ro_loc, ro_fn, wipeW, List.set, List.length_cons, List.length_nil, Bool.false_eq_true, if_false, if_true, Nat.reduceAdd, Nat.reduceLT, ↓reduceIte]); rfl)))
  | ((with_reducible apply binds_of); (focus ((first | simp only [List.map_cons, List.map_nil, bindT, bindTs, seqW, isScr, ro_int, ro_bl, ro_str, ro_non, ro_undef, ro_tup, ro_ktup, ro_lst, ro_tmp, ro_scr, ro_loc, ro_fn, hro, hro2, wipeW, List.set, List.length_cons, List.length_nil, Bool.false_eq_true, if_false, if_true, Nat.reduceAdd, Nat.reduceLT, ↓reduceIte] | simp only [List.map_cons, List.map_nil, bindT, bindTs, seqW, isScr, ro_int, ro_bl, ro_str, ro_non, ro_undef, ro_tup, ro_ktup, ro_lst, ro_tmp, ro_scr, ro_loc, ro_fn, hro, wipeW, List.set, List.length_cons, List.length_nil, Bool.false_eq_true, if_false, if_true, Nat.reduceAdd, Nat.reduceLT, ↓reduceIte] | simp only [List.map_cons, List.map_nil, bindT, bindTs, seqW, isScr, ro_int, ro_bl, ro_str, ro_non, ro_undef, ro_tup, ro_ktup, ro_lst, ro_tmp, ro_scr, ro_loc, ro_fn, wipeW, List.set, List.length_cons, List.length_nil, Bool.false_eq_true, if_false, if_true, Nat.reduceAdd, Nat.reduceLT, ↓reduceIte]); rfl))))
local macro_rules | `(tactic| array_get_dec) => `(tactic| first
  | ((with_reducible apply wp_var); rfl; (first | assumption | (focus (intro h; cases h; done))))
  | (with_reducible refine wp_int ?_)
  | (with_reducible refine wpSs_cons ?_)
  | (with_reducible refine wpEs_cons ?_)
  | (with_reducible refine wpEs_nil ?_)
  | (with_reducible refine wpS_asg ?_)
  | (with_reducible refine wpS_ret ?_)
  | (with_reducible refine wpS_ite ?_)
  | (with_reducible refine wpS_for' ?_)
  | (with_reducible refine wpS_ex ?_)
  | (with_reducible refine wp_sub ?_)
  | (with_reducible refine wp_cmp ?_)
  | (with_reducible refine wp_bi ?_)
  | (with_reducible refine wp_call ?_)
  | (with_reducible refine wp_bin ?_)
  | (with_reducible refine wp_not ?_)
  | (with_reducible refine wp_isi ?_)
  | (with_reducible refine wp_meth ?_)
  | (with_reducible refine wp_tup ?_)
  | (with_reducible refine wp_lst ?_)
  | (with_reducible refine wp_and1 ?_)
  | (with_reducible refine wp_and2 ?_)
  | (with_reducible refine wp_or1 ?_)
  | (with_reducible refine wp_or2 ?_)
  | (with_reducible refine wpS_asgT ?_)
  | (with_reducible refine wpS_asgS ?_)
  | (with_reducible refine wpSs_nil ?_)
  | (with_reducible refine ret_same ?_)
  | (with_reducible refine tru_bl ?_)
  | (with_reducible refine bl_of ?_)
  | ((with_reducible refine br_t ?_ ?_); (focus (first | exact rfl | assumption | (simp only [Bool.not_eq_true', Bool.not_eq_false', decide_eq_true_eq, decide_eq_false_iff_not, List.length_cons, List.length_nil, List.length_map, List.length_range]; omega))))
  | ((with_reducible refine br_f ?_ ?_); (focus (first | exact rfl | assumption | (simp only [Bool.not_eq_true', Bool.not_eq_false', decide_eq_true_eq, decide_eq_false_iff_not, List.length_cons, List.length_nil, List.length_map, List.length_range]; omega))))
  | (with_reducible refine wp_non ?_)
  | (with_reducible refine wp_bl ?_)
  | (with_reducible refine wp_str ?_)
  | (with_reducible refine wp_gfn ?_)
  | ((with_reducible apply wp_gcon); rfl)
  | (with_reducible refine wp_alloc ?_)
  | ((with_reducible refine alloc_tmp ?_); (intro _ _ hen hes; (try simp only [List.length_append, List.length_set, List.length_cons, List.length_nil, Nat.zero_add, Nat.add_assoc, Nat.reduceAdd] at hen); (try simp only [List.append_assoc, List.cons_append, List.nil_append] at hes); subst hen; subst hes))
  | ((with_reducible refine wp_dnewT ?_); (intro _ _ hen hes; (try simp only [List.length_append, List.length_set, List.length_cons, List.length_nil, Nat.zero_add, Nat.add_assoc, Nat.reduceAdd] at hen); (try simp only [List.append_assoc, List.cons_append, List.nil_append] at hes); subst hen; subst hes))
  | ((with_reducible refine wp_dnewK ?_); (intro _ _ hen hes; (try simp only [List.length_append, List.length_set, List.length_cons, List.length_nil, Nat.zero_add, Nat.add_assoc, Nat.reduceAdd] at hen); (try simp only [List.append_assoc, List.cons_append, List.nil_append] at hes); subst hen; subst hes))
  | (with_reducible refine wp_ife ?_)
  | (with_reducible refine wp_comp ?_)
  | (with_reducible refine wp_comp2 ?_)
  | (with_reducible refine wp_cmp2 ?_)
  | (with_reducible refine wp_neg ?_)
  | (with_reducible refine neg_int ?_)
  | (with_reducible refine wp_slice ?_)
  | (with_reducible refine wpO_none ?_)
  | (with_reducible refine wpO_some ?_)
  | (with_reducible refine opt_int ?_)
  | (with_reducible refine wp_rev ?_)
  | (with_reducible refine wpI_seq ?_)
  | (with_reducible refine wpI_rng1 ?_)
  | (with_reducible refine wpI_rng2 ?_)
  | (with_reducible refine wpI_enum ?_)
  | (with_reducible refine wpTs_nil ?_)
  | (with_reducible refine wpTs_one ?_)
  | (with_reducible refine wpS_par ?_)
  | (with_reducible refine wpS_pass ?_)
  | (with_reducible refine wpS_brk ?_)
  | (with_reducible refine wpS_cont ?_)
  | (with_reducible refine wpS_retN ?_)
  | (with_reducible refine wpS_tryN ?_)
  | (with_reducible refine wp_callL ?_)
  | ((with_reducible apply wp_callv); rfl; (focus (first | assumption | decide)))
  | ((with_reducible apply wp_callc); rfl)
  | ((with_reducible apply wp_callP); rfl)
  | ((with_reducible apply len_map); (focus assumption))
  | ((with_reducible apply len_w); (focus (first | rfl | assumption)))
  | ((with_reducible apply it_of); (focus (first | assumption | apply hth | rfl)); (focus (first | assumption | rfl)))
  | ((with_reducible apply eq_nil); (focus (first | rfl | assumption)))
  | ((with_reducible apply ne_nil); (focus (first | rfl | assumption)))
  | ((with_reducible refine rng1_int ?_ ?_ ?_); (focus omega); (focus omega))
  | ((with_reducible refine rng2_int ?_ ?_ ?_ ?_ ?_); (focus omega); (focus omega); (focus omega); (focus omega))
  | (with_reducible refine eq_ii ?_)
  | (with_reducible refine ne_ii ?_)
  | (with_reducible refine lt_ii ?_)
  | (with_reducible refine le_ii ?_)
  | (with_reducible refine gt_ii ?_)
  | (with_reducible refine ge_ii ?_)
  | (with_reducible refine add_ii ?_)
  | (with_reducible refine sub_ii ?_)
  | (with_reducible refine int_i ?_)
  | (with_reducible refine max_ii ?_)
  | (with_reducible refine min_ii ?_)
  | (with_reducible refine tuple_k ?_)
  | ((with_reducible apply is_non); (focus (first | rfl | assumption)))
  | ((with_reducible apply isnot_non); (focus (first | rfl | assumption)))
  | ((with_reducible apply isi_of); (focus (first | rfl | assumption)))
  | ((with_reducible refine And.intro ?_ ?_); (first | decide | (focus (simp [sizeLine]; done))); (intro _ he; (first | simp only [List.set, List.map_cons, List.map_nil, ro_int, ro_bl, ro_str, ro_non, ro_undef, ro_tup, ro_ktup, ro_lst, ro_tmp, ro_scr, ro_loc, ro_fn, hro, hro2] at he | simp only [List.set, List.map_cons, List.map_nil, ro_int, ro_bl, ro_str, ro_non, ro_undef, ro_tup, ro_ktup, ro_lst, ro_tmp, ro_scr, ro_loc, ro_fn, hro] at he | simp only [List.set, List.map_cons, List.map_nil, ro_int, ro_bl, ro_str, ro_non, ro_undef, ro_tup, ro_ktup, ro_lst, ro_tmp, ro_scr, ro_loc, ro_fn] at he | skip); subst he))
  | ((with_reducible intro _ he); (first | simp only [List.set, List.map_cons, List.map_nil, ro_int, ro_bl, ro_str, ro_non, ro_undef, ro_tup, ro_ktup, ro_lst, ro_tmp, ro_scr, ro_loc, ro_fn, hro, hro2] at he | simp only [List.set, List.map_cons, List.map_nil, ro_int, ro_bl, ro_str, ro_non, ro_undef, ro_tup, ro_ktup, ro_lst, ro_tmp, ro_scr, ro_loc, ro_fn, hro] at he | simp only [List.set, List.map_cons, List.map_nil, ro_int, ro_bl, ro_str, ro_non, ro_undef, ro_tup, ro_ktup, ro_lst, ro_tmp, ro_scr, ro_loc, ro_fn] at he | skip); subst he)
  | ((with_reducible apply bind_of); (focus ((first | simp only [bindT, bindTs, seqW, isScr, ro_int, ro_bl, ro_str, ro_non, ro_undef, ro_tup, ro_ktup, ro_lst, ro_tmp, ro_scr, ro_loc, ro_fn, hro, hro2, wipeW, List.set, List.length_cons, List.length_nil, Bool.false_eq_true, if_false, if_true, Nat.reduceAdd, Nat.reduceLT, ↓reduceIte] | simp only [bindT, bindTs, seqW, isScr, ro_int, ro_bl, ro_str, ro_non, ro_undef, ro_tup, ro_ktup, ro_lst, ro_tmp, ro_scr, ro_loc, ro_fn, hro, wipeW, List.set, List.length_cons, List.length_nil, Bool.false_eq_true, if_false, if_true, Nat.reduceAdd, Nat.reduceLT, ↓reduceIte] | simp only [bindT, bindTs, seqW, isScr, ro_int, ro_bl, ro_str, ro_non, ro_undef, ro_tup, ro_ktup, ro_lst, ro_tmp, ro_scr, ro_loc, ro_fn, wipeW, List.set, List.length_cons, List.length_nil, Bool.false_eq_true, if_false, if_true, Nat.reduceAdd, Nat.reduceLT, ↓reduceIte]); rfl)))
  | ((with_reducible apply binds_of); (focus ((first | simp only [List.map_cons, List.map_nil, bindT, bindTs, seqW, isScr, ro_int, ro_bl, ro_str, ro_non, ro_undef, ro_tup, ro_ktup, ro_lst, ro_tmp, ro_scr, ro_loc, ro_fn, hro, hro2, wipeW, List.set, List.length_cons, List.length_nil, Bool.false_eq_true, if_false, if_true, Nat.reduceAdd, Nat.reduceLT, ↓reduceIte] | simp only [List.map_cons, List.map_nil, bindT, bindTs, seqW, isScr, ro_int, ro_bl, ro_str, ro_non, ro_undef, ro_tup, ro_ktup, ro_lst, ro_tmp, ro_scr, ro_loc, ro_fn, hro, wipeW, List.set, List.length_cons, List.length_nil, Bool.false_eq_true, if_false, if_true, Nat.reduceAdd, Nat.reduceLT, ↓reduceIte] | simp only [List.map_cons, List.map_nil, bindT, bindTs, seqW, isScr, ro_int, ro_bl, ro_str, ro_non, ro_undef, ro_tup, ro_ktup, ro_lst, ro_tmp, ro_scr, ro_loc, ro_fn, wipeW, List.set, List.length_cons, List.length_nil, Bool.false_eq_true, if_false, if_true, Nat.reduceAdd, Nat.reduceLT, ↓reduceIte]); rfl))))
/-- a dict of threes: how many at most, which -/
structure Fill (kvs : List (List L2.Key × W)) (n : Nat) (S : Nat → Nat → Nat → Prop) : Prop where
  len : kvs.length ≤ n
  ok : okVs 0 (kvs.map (·.2)) = true
  at_ : ∀ a b c, (lookK (key3 a b c) kvs).isSome = true ↔ S a b c
theorem Fill.nil {S : Nat → Nat → Nat → Prop} (h : ∀ a b c, ¬S a b c) : Fill [] 0 S := ⟨Nat.le_refl _, rfl, fun a b c => by simpa [lookK] using h a b c⟩
theorem Fill.to {kvs : List (List L2.Key × W)} {n m : Nat} {S T : Nat → Nat → Nat → Prop} (f : Fill kvs n S) (h : n ≤ m) (e : ∀ a b c, S a b c ↔ T a b c) : Fill kvs m T := ⟨Nat.le_trans f.len h, f.ok, fun a b c => (f.at_ a b c).trans (e a b c)⟩
theorem Fill.put {kvs : List (List L2.Key × W)} {n : Nat} {S T : Nat → Nat → Nat → Prop} {a b c : Nat} (f : Fill kvs n S) (e : ∀ a' b' c', (S a' b' c' ∨ (a' = a ∧ b' = b ∧ c' = c)) ↔ T a' b' c') : Fill (putK (key3 a b c) (.bl true) kvs) (n + 1) T := by
  refine ⟨Nat.le_trans put_len (by have := f.len; omega), put_ok f.ok rfl, fun a' b' c' => ?_⟩
  rw [look_put, Bool.or_eq_true, decide_eq_true_eq, key3_inj, f.at_, ← e]
  constructor
  · rintro (⟨h1, h2, h3⟩ | h)
    · exact .inr ⟨h1.symm, h2.symm, h3.symm⟩
    · exact .inl h
  · rintro (h | ⟨h1, h2, h3⟩)
    · exact .inr h
    · exact .inl ⟨h1.symm, h2.symm, h3.symm⟩
theorem Fill.st {kvs : List (List L2.Key × W)} {n : Nat} {S : Nat → Nat → Nat → Prop} {st : Store} (f : Fill kvs n S) (h : okSt st) : okSt (st ++ [.dT kvs]) := by
  refine okSt_app h fun c hc => ?_
  obtain rfl : c = .dT kvs := by simpa using hc
  exact okVs_mono (Nat.zero_le _) _ f.ok
theorem range'_at {s n i x : Nat} (h : (List.range' s n)[i]? = some x) : x = s + i ∧ i < n := by
  obtain ⟨hi, e⟩ := List.getElem?_eq_some_iff.mp h
  rw [List.getElem_range'] at e
  rw [List.length_range'] at hi
  exact ⟨by omega, hi⟩
section
variable {d : Nat} {st : Store} {Q : Post} {X : XPost}
/-- the book of a dict of threes -/
theorem made_q {g : Nat} {m n : Nat} {kvs : List (List L2.Key × W)} {S : Nat → Nat → Nat → Prop} {p : Nat → Nat → Nat → Bool} {ts : List Nat} {tw : W} (hf : P.fns[g]? = some fMade) (hs : ∀ cs, seqW (st ++ cs) tw = some (ts.map nW)) (hk : match tw with | .ktup _ => False | .scr _ => False | .undef => False | .tmp _ => False | _ => True) (hd : st[n]? = some (.dT kvs)) (hl : ts.length = m) (hm : m ≤ 100) (hst : okSt st)
    (hF : ∀ a b c, (lookK (key3 a b c) kvs).isSome = true ↔ S a b c) (hp : ∀ a < m, ∀ b < m, ∀ c < m, S a b c ↔ p a b c = true) (q : Q (bookW ts (lotsOf p m)) st) : (callW P (d + 1)).fn g none [tw, .loc n] st Q X := by
  refine sp_made hf hs hk hd (by omega) hst ?_
  rw [hl, lots_congr (q := p) fun a ha b hb c hc => by rw [Bool.eq_iff_iff, hF, hp a ha b hb c hc]]
  exact q
theorem sp12 {t : Nat} (h2 : t ≤ 12) (hst : okSt st) (q : Q (bookW (List.range (t + 1)) (farB t)) st) : (callW P (d + 2)).fn 12 none [nW t] st Q X := by
  refine fn_in (env := [nW t, .undef, .undef, .undef, .undef, .undef]) (f := f12) rfl rfl rfl rfl ?_
  dsimp only [f12]
  repeat' sizeOf_list_dec
  have em : W.int ((t : Int) + 1) = nW (t + 1) := rfl
  refine for_ty (List.range (t + 1)) nW (rangeW_nat (t + 1)) (fun i env s => ∃ v1 v4 v5 kvs, env = [nW t, v1, .loc st.length, nW (t + 1), v4, v5] ∧ s = st ++ [.dT kvs] ∧ Fill kvs (i * 200) fun a b c => a < i ∧ b < t + 1 ∧ (a - b) + (b - a) ≤ c ∧ c ≤ min t (a + b)) ⟨_, _, _, [], rfl, rfl, Fill.to (.nil fun a b c h => by omega) (by omega) fun a b c => Iff.rfl⟩ ?_ ?_
  · rintro i x env s nx' hx ⟨v1, v4, v5, kvs, rfl, rfl, hF⟩ hn
    obtain ⟨rfl, hi⟩ := range_at hx
    refine ⟨trivial, ?_⟩
    repeat' sizeOf_list_dec
    refine for_ty (List.range (t + 1)) nW (rangeW_nat (t + 1)) (fun j env s => ∃ v4 v5 kvs, env = [nW t, nW x, .loc st.length, nW (t + 1), v4, v5] ∧ s = st ++ [.dT kvs] ∧ Fill kvs (x * 200 + j * 14) fun a b c => (a < x ∧ b < t + 1 ∨ a = x ∧ b < j) ∧ (a - b) + (b - a) ≤ c ∧ c ≤ min t (a + b)) ⟨_, _, kvs, rfl, rfl, hF.to (by omega) fun a b c => by omega⟩ ?_ ?_
    · rintro j y env s nx2 hy ⟨v4, v5, kvs, rfl, rfl, hF⟩ hn2
      obtain ⟨rfl, hj⟩ := range_at hy
      refine ⟨trivial, ?_⟩
      repeat' sizeOf_list_dec
      have e1 : max ((x : Int) - (y : Int)) ((y : Int) - (x : Int)) = (((x - y) + (y - x) : Nat) : Int) := by omega
      have e2 : min (t : Int) ((x : Int) + (y : Int)) + 1 = ((min t (x + y) + 1 : Nat) : Int) := by omega
      rw [e1, e2]
      refine for_ty (List.range' ((x - y) + (y - x)) (min t (x + y) + 1 - ((x - y) + (y - x)))) nW (rangeW_from _ _) (fun k env s => ∃ v5 kvs, env = [nW t, nW x, .loc st.length, nW (t + 1), nW y, v5] ∧ s = st ++ [.dT kvs] ∧ Fill kvs (x * 200 + y * 14 + k) fun a b c => ((a < x ∧ b < t + 1 ∨ a = x ∧ b < y) ∧ (a - b) + (b - a) ≤ c ∧ c ≤ min t (a + b)) ∨ (a = x ∧ b = y ∧ (a - b) + (b - a) ≤ c ∧ c < (a - b) + (b - a) + k)) ⟨_, kvs, rfl, rfl, hF.to (by omega) fun a b c => by omega⟩ ?_ ?_
      · rintro k z env s nx3 hz ⟨v5, kvs, rfl, rfl, hF⟩ hn3
        obtain ⟨rfl, hk⟩ := range'_at hz
        refine ⟨trivial, ?_⟩
        repeat' sizeOf_list_dec
        refine set_dT get_app0 (Nat.lt_of_lt_of_le (show kvs.length < 2000000 by have := hF.len; omega) (by decide)) ?_
        rw [set_app0]
        repeat' sizeOf_list_dec
        refine hn3 _ _ ⟨_, _, rfl, rfl, hF.put fun a' b' c' => ?_⟩
        omega
      · rintro env s ⟨v5, kvs, rfl, rfl, hF⟩
        refine ⟨trivial, ?_⟩
        repeat' sizeOf_list_dec
        rw [List.length_range'] at hF
        refine hn2 _ _ ⟨_, _, _, rfl, rfl, hF.to (by omega) fun a b c => ?_⟩
        omega
    · rintro env s ⟨v4, v5, kvs, rfl, rfl, hF⟩
      refine ⟨trivial, ?_⟩
      repeat' sizeOf_list_dec
      rw [List.length_range] at hF
      refine hn _ _ ⟨_, _, _, _, rfl, rfl, hF.to (by omega) fun a b c => ?_⟩
      omega
  · rintro env s ⟨v1, v4, v5, kvs, rfl, rfl, hF⟩
    refine ⟨trivial, ?_⟩
    repeat' sizeOf_list_dec
    refine lrange_n (n := t + 1) (by omega) ?_
    repeat' sizeOf_list_dec
    rw [List.length_range] at hF
    refine made_q (m := t + 1) (p := farP) (ts := List.range (t + 1)) rfl (fun cs => rfl) trivial get_app0 List.length_range (by omega) (hF.st hst) hF.at_ (fun a ha b hb c hc => ?_) ?_
    · unfold farP
      simp only [decide_eq_true_eq]
      omega
    · refine ret_app ?_ hst q
      exact okV_book _ _ _
theorem sp19 {t : Nat} (h2 : t ≤ 12) (hst : okSt st) (q : Q (bookW (List.range (t + 1)) (rankB t)) st) : (callW P (d + 2)).fn 19 none [nW t] st Q X := by
  refine fn_in (env := [nW t, .undef, .undef, .undef, .undef, .undef, .undef]) (f := f19) rfl rfl rfl rfl ?_
  dsimp only [f19]
  repeat' sizeOf_list_dec
  refine for_ty (List.range (t + 1)) nW (rangeW_nat (t + 1)) (fun i env s => ∃ v1 v4 v5 v6 kvs, env = [nW t, v1, .loc st.length, nW (t + 1), v4, v5, v6] ∧ s = st ++ [.dT kvs] ∧ Fill kvs (i * 200) fun a b c => (a < i ∧ b < t + 1 ∧ c < t + 1) ∧ rankP a b c = true) ⟨_, _, _, _, [], rfl, rfl, Fill.to (.nil fun a b c h => by omega) (by omega) fun a b c => Iff.rfl⟩ ?_ ?_
  · rintro i x env s nx' hx ⟨v1, v4, v5, v6, kvs, rfl, rfl, hF⟩ hn
    obtain ⟨rfl, hi⟩ := range_at hx
    refine ⟨trivial, ?_⟩
    repeat' sizeOf_list_dec
    refine for_ty (List.range (t + 1)) nW (rangeW_nat (t + 1)) (fun j env s => ∃ v4 v5 v6 kvs, env = [nW t, nW x, .loc st.length, nW (t + 1), v4, v5, v6] ∧ s = st ++ [.dT kvs] ∧ Fill kvs (x * 200 + j * 14) fun a b c => ((a < x ∧ b < t + 1 ∨ a = x ∧ b < j) ∧ c < t + 1) ∧ rankP a b c = true) ⟨_, _, _, kvs, rfl, rfl, hF.to (by omega) fun a b c => and_congr_left fun _ => by omega⟩ ?_ ?_
    · rintro j y env s nx2 hy ⟨v4, v5, v6, kvs, rfl, rfl, hF⟩ hn2
      obtain ⟨rfl, hj⟩ := range_at hy
      refine ⟨trivial, ?_⟩
      repeat' sizeOf_list_dec
      refine for_ty (List.range (t + 1)) nW (rangeW_nat (t + 1)) (fun k env s => ∃ v5 v6 kvs, env = [nW t, nW x, .loc st.length, nW (t + 1), nW y, v5, v6] ∧ s = st ++ [.dT kvs] ∧ Fill kvs (x * 200 + y * 14 + k) fun a b c => ((a < x ∧ b < t + 1 ∨ a = x ∧ b < y) ∧ c < t + 1 ∨ a = x ∧ b = y ∧ c < k) ∧ rankP a b c = true) ⟨_, _, kvs, rfl, rfl, hF.to (by omega) fun a b c => and_congr_left fun _ => by omega⟩ ?_ ?_
      · rintro k z env s nx3 hz ⟨v5, v6, kvs, rfl, rfl, hF⟩ hn3
        obtain ⟨rfl, hk⟩ := range_at hz
        refine ⟨trivial, ?_⟩
        repeat' sizeOf_list_dec
        refine sort3 ?_
        obtain ⟨u, v, w, e, er⟩ := ord3_at x y z
        rw [e]
        repeat' sizeOf_list_dec
        refine sub_lit (j := 1) rfl rfl rfl ?_
        repeat' sizeOf_list_dec
        refine sub_lit (j := 2) rfl rfl rfl ?_
        repeat' (first | sizeOf_list_dec | (with_reducible refine br (fun h => ?_) (fun h => ?_)))
        · refine set_dT get_app0 (Nat.lt_of_lt_of_le (show kvs.length < 2000000 by have := hF.len; omega) (by decide)) ?_
          rw [set_app0]
          repeat' sizeOf_list_dec
          have hR : rankP x y z = true := by
            simp only [decide_eq_true_eq] at h
            rw [er, decide_eq_true_eq]
            omega
          refine hn3 _ _ ⟨_, _, _, rfl, rfl, hF.put fun a' b' c' => ?_⟩
          constructor
          · rintro (⟨l, r⟩ | ⟨rfl, rfl, rfl⟩)
            · exact ⟨by omega, r⟩
            · exact ⟨by omega, hR⟩
          · rintro ⟨l, r⟩
            by_cases e : a' = x ∧ b' = y ∧ c' = z
            · exact .inr e
            · exact .inl ⟨by omega, r⟩
        · have hR : rankP x y z = false := by
            simp only [decide_eq_false_iff_not] at h
            rw [er, decide_eq_false_iff_not]
            omega
          refine hn3 _ _ ⟨_, _, _, rfl, rfl, hF.to (by omega) fun a b c => ?_⟩
          constructor
          · rintro ⟨l, r⟩
            exact ⟨by omega, r⟩
          · rintro ⟨l, r⟩
            by_cases e : a = x ∧ b = y ∧ c = z
            · obtain ⟨rfl, rfl, rfl⟩ := e
              rw [hR] at r
              cases r
            · exact ⟨by omega, r⟩
      · rintro env s ⟨v5, v6, kvs, rfl, rfl, hF⟩
        refine ⟨trivial, ?_⟩
        repeat' sizeOf_list_dec
        rw [List.length_range] at hF
        refine hn2 _ _ ⟨_, _, _, _, rfl, rfl, hF.to (by omega) fun a b c => and_congr_left fun _ => ?_⟩
        omega
    · rintro env s ⟨v4, v5, v6, kvs, rfl, rfl, hF⟩
      refine ⟨trivial, ?_⟩
      repeat' sizeOf_list_dec
      rw [List.length_range] at hF
      refine hn _ _ ⟨_, _, _, _, _, rfl, rfl, hF.to (by omega) fun a b c => and_congr_left fun _ => ?_⟩
      omega
  · rintro env s ⟨v1, v4, v5, v6, kvs, rfl, rfl, hF⟩
    refine ⟨trivial, ?_⟩
    repeat' sizeOf_list_dec
    refine lrange_n (n := t + 1) (by omega) ?_
    repeat' sizeOf_list_dec
    rw [List.length_range] at hF
    refine made_q (m := t + 1) (p := rankP) (ts := List.range (t + 1)) rfl (fun cs => rfl) trivial get_app0 List.length_range (by omega) (hF.st hst) hF.at_ (fun a ha b hb c hc => ?_) ?_
    · exact ⟨fun h => h.2, fun h => ⟨⟨ha, hb, hc⟩, h⟩⟩
    · refine ret_app ?_ hst q
      exact okV_book _ _ _
theorem sp13 {t : Nat} (h1 : 1 ≤ t) (h2 : t ≤ 13) (hst : okSt st) (q : Q (bookW (dialT t) (dialB t)) st) : (callW P (d + 2)).fn 13 none [nW t] st Q X := by
  refine fn_in (env := [nW t, .undef, .undef, .undef]) (f := f13) rfl rfl rfl rfl ?_
  dsimp only [f13]
  have hl5 : (List.range t).length ≤ sizeLine := by rw [List.length_range]; exact Nat.le_trans h2 (by decide)
  repeat' sizeOf_list_dec
  refine for_ty (List.range t) nW (rangeW_nat t) (fun i env s => ∃ v2 v3 kvs, env = [nW t, .loc st.length, v2, v3] ∧ s = st ++ [.dT kvs] ∧ Fill kvs (i * 20) fun a b c => a < i ∧ b < t ∧ c = (a + b) % t) ⟨_, _, [], rfl, rfl, Fill.to (.nil fun a b c h => by omega) (by omega) fun a b c => Iff.rfl⟩ ?_ ?_
  · rintro i x env s nx' hx ⟨v2, v3, kvs, rfl, rfl, hF⟩ hn
    obtain ⟨rfl, hi⟩ := range_at hx
    refine ⟨trivial, ?_⟩
    repeat' sizeOf_list_dec
    refine for_ty (List.range t) nW (rangeW_nat t) (fun j env s => ∃ v3 kvs, env = [nW t, .loc st.length, nW x, v3] ∧ s = st ++ [.dT kvs] ∧ Fill kvs (x * 20 + j) fun a b c => (a < x ∧ b < t ∨ a = x ∧ b < j) ∧ c = (a + b) % t) ⟨_, kvs, rfl, rfl, hF.to (by omega) fun a b c => by omega⟩ ?_ ?_
    · rintro j y env s nx2 hy ⟨v3, kvs, rfl, rfl, hF⟩ hn2
      obtain ⟨rfl, hj⟩ := range_at hy
      refine ⟨trivial, ?_⟩
      repeat' sizeOf_list_dec
      refine mod_nn (x := x + y) (by omega) ?_
      repeat' sizeOf_list_dec
      refine set_dT get_app0 (Nat.lt_of_lt_of_le (show kvs.length < 2000000 by have := hF.len; omega) (by decide)) ?_
      rw [set_app0]
      repeat' sizeOf_list_dec
      refine hn2 _ _ ⟨_, _, rfl, rfl, hF.put fun a' b' c' => ?_⟩
      constructor
      · rintro (⟨h, rfl⟩ | ⟨rfl, rfl, rfl⟩)
        · exact ⟨by omega, rfl⟩
        · exact ⟨by omega, rfl⟩
      · rintro ⟨h, rfl⟩
        by_cases e : a' = x ∧ b' = y
        · obtain ⟨rfl, rfl⟩ := e
          exact .inr ⟨rfl, rfl, rfl⟩
        · exact .inl ⟨by omega, rfl⟩
    · rintro env s ⟨v3, kvs, rfl, rfl, hF⟩
      refine ⟨trivial, ?_⟩
      repeat' sizeOf_list_dec
      rw [List.length_range] at hF
      refine hn _ _ ⟨_, _, _, rfl, rfl, hF.to (by omega) fun a b c => ?_⟩
      constructor
      · rintro ⟨h, e⟩
        exact ⟨by omega, by omega, e⟩
      · rintro ⟨h, h2, e⟩
        exact ⟨by omega, e⟩
  · rintro env s ⟨v2, v3, kvs, rfl, rfl, hF⟩
    refine ⟨trivial, ?_⟩
    repeat' sizeOf_list_dec
    rw [List.length_range] at hF
    refine comp_all (List.range t) nW (fun a => nW ((t - a) % t)) (rangeW_nat t) trivial hl5 (fun a ha => ⟨[_, _, nW a, _], rfl, fun K q => ?_⟩) ?_
    · have ha := List.mem_range.mp ha
      repeat' sizeOf_list_dec
      rw [show (t : Int) - (a : Int) = ((t - a : Nat) : Int) by omega]
      refine mod_nn (x := t - a) (by omega) ?_
      exact q _ rfl
    repeat' sizeOf_list_dec
    refine made_q (m := t) (p := dialP t) (ts := dialT t) rfl (fun cs => ?_) trivial get_app0 (by unfold dialT; simp) (by omega) (hF.st hst) hF.at_ (fun a ha b hb c hc => ?_) ?_
    · unfold dialT
      rw [List.map_map]
      rfl
    · unfold dialP
      simp only [decide_eq_true_eq]
      exact ⟨fun h => h.2.2, fun h => ⟨ha, hb, h⟩⟩
    · refine ret_app ?_ hst q
      exact okV_book _ _ _
end
end K02

set_option maxRecDepth 100000
set_option maxHeartbeats 4000000
namespace K02
open PySem L2 Ev
set_option hygiene false
local macro_rules | `(tactic| array_mem_dec) => `(tactic| first | rfl | assumption | decide | omega | (focus (simp; done)))
local macro_rules | `(tactic| sizeOf_list_dec) => `(tactic| first
  | ((with_reducible apply wp_var); rfl; (first | assumption | (focus (intro h; cases h; done))))
  | (with_reducible refine wp_int ?_)
  | (with_reducible refine wpSs_cons ?_)
  | (with_reducible refine wpEs_cons ?_)
  | (with_reducible refine wpEs_nil ?_)
  | (with_reducible refine wpS_asg ?_)
  | (with_reducible refine wpS_ret ?_)
  | (with_reducible refine wpS_ite ?_)
  | (with_reducible refine wpS_for' ?_)
  | (with_reducible refine wpS_ex ?_)
  | (with_reducible refine wp_sub ?_)
  | (with_reducible refine wp_cmp ?_)
  | (with_reducible refine wp_bi ?_)
  | (with_reducible refine wp_call ?_)
  | (with_reducible refine wp_bin ?_)
  | (with_reducible refine wp_not ?_)
  | (with_reducible refine wp_isi ?_)
  | (with_reducible refine wp_meth ?_)
  | (with_reducible refine wp_tup ?_)
  | (with_reducible refine wp_lst ?_)
  | (with_reducible refine wp_band ?_)
  | (with_reducible refine wp_bor ?_)
  | (with_reducible refine wp_and1 ?_)
  | (with_reducible refine wp_and2 ?_)
  | (with_reducible refine wp_or1 ?_)
  | (with_reducible refine wp_or2 ?_)
  | (with_reducible refine wpS_asgT ?_)
  | (with_reducible refine wpS_asgS ?_)
  | (with_reducible refine wpSs_nil ?_)
  | (with_reducible refine ret_same ?_)
  | (with_reducible refine tru_bl ?_)
  | (with_reducible refine bl_of ?_)
  | ((with_reducible refine br_t ?_ ?_); (focus (first | exact rfl | assumption | (simp only [Bool.not_eq_true', Bool.not_eq_false', decide_eq_true_eq, decide_eq_false_iff_not, List.length_cons, List.length_nil, List.length_map, List.length_range]; omega))))
  | ((with_reducible refine br_f ?_ ?_); (focus (first | exact rfl | assumption | (simp only [Bool.not_eq_true', Bool.not_eq_false', decide_eq_true_eq, decide_eq_false_iff_not, List.length_cons, List.length_nil, List.length_map, List.length_range]; omega))))
  | (with_reducible refine wp_non ?_)
  | (with_reducible refine wp_bl ?_)
  | (with_reducible refine wp_str ?_)
  | (with_reducible refine wp_gfn ?_)
  | ((with_reducible apply wp_gcon); rfl)
  | (with_reducible refine wp_alloc ?_)
  | ((with_reducible refine alloc_tmp ?_); (intro _ _ hen hes; (try simp only [List.length_append, List.length_set, List.length_cons, List.length_nil, Nat.zero_add, Nat.add_assoc, Nat.reduceAdd] at hen); (try simp only [List.append_assoc, List.cons_append, List.nil_append] at hes); subst hen; subst hes))
  | ((with_reducible refine wp_dnewT ?_); (intro _ _ hen hes; (try simp only [List.length_append, List.length_set, List.length_cons, List.length_nil, Nat.zero_add, Nat.add_assoc, Nat.reduceAdd] at hen); (try simp only [List.append_assoc, List.cons_append, List.nil_append] at hes); subst hen; subst hes))
  | ((with_reducible refine wp_dnewK ?_); (intro _ _ hen hes; (try simp only [List.length_append, List.length_set, List.length_cons, List.length_nil, Nat.zero_add, Nat.add_assoc, Nat.reduceAdd] at hen); (try simp only [List.append_assoc, List.cons_append, List.nil_append] at hes); subst hen; subst hes))
  | (with_reducible refine wp_ife ?_)
  | (with_reducible refine wp_comp ?_)
  | (with_reducible refine wp_comp2 ?_)
  | (with_reducible refine wp_cmp2 ?_)
  | (with_reducible refine wp_neg ?_)
  | (with_reducible refine neg_int ?_)
  | (with_reducible refine wp_slice ?_)
  | (with_reducible refine wpO_none ?_)
  | (with_reducible refine wpO_some ?_)
  | (with_reducible refine opt_int ?_)
  | (with_reducible refine wp_rev ?_)
  | (with_reducible refine wpI_seq ?_)
  | (with_reducible refine wpI_rng1 ?_)
  | (with_reducible refine wpI_rng2 ?_)
  | (with_reducible refine wpI_enum ?_)
  | (with_reducible refine wpTs_nil ?_)
  | (with_reducible refine wpTs_one ?_)
  | (with_reducible refine wpS_par ?_)
  | (with_reducible refine wpS_pass ?_)
  | (with_reducible refine wpS_brk ?_)
  | (with_reducible refine wpS_cont ?_)
  | (with_reducible refine wpS_retN ?_)
  | (with_reducible refine wpS_tryN ?_)
  | (with_reducible refine wp_callL ?_)
  | ((with_reducible apply wp_callv); rfl; (focus (first | assumption | decide)))
  | ((with_reducible apply wp_callc); rfl)
  | ((with_reducible apply wp_callP); rfl)
  | ((with_reducible apply len_map); (focus assumption))
  | ((with_reducible apply len_w); (focus (first | rfl | assumption)))
  | ((with_reducible apply it_of); (focus (first | assumption | apply hth | rfl)); (focus (first | assumption | rfl)))
  | ((with_reducible apply eq_nil); (focus (first | rfl | assumption)))
  | ((with_reducible apply ne_nil); (focus (first | rfl | assumption)))
  | ((with_reducible refine rng1_int ?_ ?_ ?_); (focus omega); (focus omega))
  | ((with_reducible refine rng2_int ?_ ?_ ?_ ?_ ?_); (focus omega); (focus omega); (focus omega); (focus omega))
  | (with_reducible refine eq_ii ?_)
  | (with_reducible refine ne_ii ?_)
  | (with_reducible refine lt_ii ?_)
  | (with_reducible refine le_ii ?_)
  | (with_reducible refine gt_ii ?_)
  | (with_reducible refine ge_ii ?_)
  | (with_reducible refine add_ii ?_)
  | (with_reducible refine sub_ii ?_)
  | (with_reducible refine int_i ?_)
  | (with_reducible refine max_ii ?_)
  | (with_reducible refine min_ii ?_)
  | (with_reducible refine tuple_k ?_)
  | ((with_reducible apply is_non); (focus (first | rfl | assumption)))
  | ((with_reducible apply isnot_non); (focus (first | rfl | assumption)))
  | ((with_reducible apply isi_of); (focus (first | rfl | assumption)))
  | ((with_reducible refine And.intro ?_ ?_); (first | decide | (focus (simp [sizeLine]; done))); (intro _ he; (first | simp only [List.set, List.map_cons, List.map_nil, ro_int, ro_bl, ro_str, ro_non, ro_undef, ro_tup, ro_ktup, ro_lst, ro_tmp, ro_scr, ro_loc, ro_fn, hro, hro2] at he | simp only [List.set, List.map_cons, List.map_nil, ro_int, ro_bl, ro_str, ro_non, ro_undef, ro_tup, ro_ktup, ro_lst, ro_tmp, ro_scr, ro_loc, ro_fn, hro] at he | simp only [List.set, List.map_cons, List.map_nil, ro_int, ro_bl, ro_str, ro_non, ro_undef, ro_tup, ro_ktup, ro_lst, ro_tmp, ro_scr, ro_loc, ro_fn] at he | skip); subst he))
  | ((with_reducible intro _ he); (first | simp only [List.set, List.map_cons, List.map_nil, ro_int, ro_bl, ro_str, ro_non, ro_undef, ro_tup, ro_ktup, ro_lst, ro_tmp, ro_scr, ro_loc, ro_fn, hro, hro2] at he | simp only [List.set, List.map_cons, List.map_nil, ro_int, ro_bl, ro_str, ro_non, ro_undef, ro_tup, ro_ktup, ro_lst, ro_tmp, ro_scr, ro_loc, ro_fn, hro] at he | simp only [List.set, List.map_cons, List.map_nil, ro_int, ro_bl, ro_str, ro_non, ro_undef, ro_tup, ro_ktup, ro_lst, ro_tmp, ro_scr, ro_loc, ro_fn] at he | skip); subst he)
  | ((with_reducible apply bind_of); (focus ((first | simp only [bindT, bindTs, seqW, isScr, ro_int, ro_bl, ro_str, ro_non, ro_undef, ro_tup, ro_ktup, ro_lst, ro_tmp, ro_scr, ro_loc, ro_fn, hro, hro2, wipeW, List.set, List.length_cons, List.length_nil, Bool.false_eq_true, if_false, if_true, Nat.reduceAdd, Nat.reduceLT, ↓reduceIte] | simp only [bindT, bindTs, seqW, isScr, ro_int, ro_bl, ro_str, ro_non, ro_undef, ro_tup, ro_ktup, ro_lst, ro_tmp, ro_scr, ro_loc, ro_fn, hro, wipeW, List.set, List.length_cons, List.length_nil, Bool.false_eq_true, if_false, if_true, Nat.reduceAdd, Nat.reduceLT, ↓reduceIte] | simp only [bindT, bindTs, seqW, isScr, ro_int, ro_bl, ro_str, ro_non, ro_undef, ro_tup, ro_ktup, ro_lst, ro_tmp, ro_scr, ro_loc, ro_fn, wipeW, List.set, List.length_cons, List.length_nil, Bool.false_eq_true, if_false, if_true, Nat.reduceAdd, Nat.reduceLT, ↓reduceIte]); rfl)))
  | ((with_reducible apply binds_of); (focus ((first | simp only [List.map_cons, List.map_nil, bindT, bindTs, seqW, isScr, ro_int, ro_bl, ro_str, ro_non, ro_undef, ro_tup, ro_ktup, ro_lst, ro_tmp, ro_scr, ro_loc, ro_fn, hro, hro2, wipeW, List.set, List.length_cons, List.length_nil, Bool.false_eq_true, if_false, if_true, Nat.reduceAdd, Nat.reduceLT, ↓reduceIte] | simp only [List.map_cons, List.map_nil, bindT, bindTs, seqW, isScr, ro_int, ro_bl, ro_str, ro_non, ro_undef, ro_tup, ro_ktup, ro_lst, ro_tmp, ro_scr, ro_loc, ro_fn, hro, wipeW, List.set, List.length_cons, List.length_nil, Bool.false_eq_true, if_false, if_true, Nat.reduceAdd, Nat.reduceLT, ↓reduceIte] | simp only [List.map_cons, List.map_nil, bindT, bindTs, seqW, isScr, ro_int, ro_bl, ro_str, ro_non, ro_undef, ro_tup, ro_ktup, ro_lst, ro_tmp, ro_scr, ro_loc, ro_fn, wipeW, List.set, List.length_cons, List.length_nil, Bool.false_eq_true, if_false, if_true, Nat.reduceAdd, Nat.reduceLT, ↓reduceIte]); rfl))))
local macro_rules | `(tactic| array_get_dec) => `(tactic| first
  | ((with_reducible apply wp_var); rfl; (first | assumption | (focus (intro h; cases h; done))))
  | (with_reducible refine wp_int ?_)
  | (with_reducible refine wpSs_cons ?_)
  | (with_reducible refine wpEs_cons ?_)
  | (with_reducible refine wpEs_nil ?_)
  | (with_reducible refine wpS_asg ?_)
  | (with_reducible refine wpS_ret ?_)
  | (with_reducible refine wpS_ite ?_)
  | (with_reducible refine wpS_for' ?_)
  | (with_reducible refine wpS_ex ?_)
  | (with_reducible refine wp_sub ?_)
  | (with_reducible refine wp_cmp ?_)
  | (with_reducible refine wp_bi ?_)
  | (with_reducible refine wp_call ?_)
  | (with_reducible refine wp_bin ?_)
  | (with_reducible refine wp_not ?_)
  | (with_reducible refine wp_isi ?_)
  | (with_reducible refine wp_meth ?_)
  | (with_reducible refine wp_tup ?_)
  | (with_reducible refine wp_lst ?_)
  | (with_reducible refine wp_and1 ?_)
  | (with_reducible refine wp_and2 ?_)
  | (with_reducible refine wp_or1 ?_)
  | (with_reducible refine wp_or2 ?_)
  | (with_reducible refine wpS_asgT ?_)
  | (with_reducible refine wpS_asgS ?_)
  | (with_reducible refine wpSs_nil ?_)
  | (with_reducible refine ret_same ?_)
  | (with_reducible refine tru_bl ?_)
  | (with_reducible refine bl_of ?_)
  | ((with_reducible refine br_t ?_ ?_); (focus (first | exact rfl | assumption | (simp only [Bool.not_eq_true', Bool.not_eq_false', decide_eq_true_eq, decide_eq_false_iff_not, List.length_cons, List.length_nil, List.length_map, List.length_range]; omega))))
  | ((with_reducible refine br_f ?_ ?_); (focus (first | exact rfl | assumption | (simp only [Bool.not_eq_true', Bool.not_eq_false', decide_eq_true_eq, decide_eq_false_iff_not, List.length_cons, List.length_nil, List.length_map, List.length_range]; omega))))
  | (with_reducible refine wp_non ?_)
  | (with_reducible refine wp_bl ?_)
  | (with_reducible refine wp_str ?_)
  | (with_reducible refine wp_gfn ?_)
  | ((with_reducible apply wp_gcon); rfl)
  | (with_reducible refine wp_alloc ?_)
  | ((with_reducible refine alloc_tmp ?_); (intro _ _ hen hes; (try simp only [List.length_append, List.length_set, List.length_cons, List.length_nil, Nat.zero_add, Nat.add_assoc, Nat.reduceAdd] at hen); (try simp only [List.append_assoc, List.cons_append, List.nil_append] at hes); subst hen; subst hes))
  | ((with_reducible refine wp_dnewT ?_); (intro _ _ hen hes; (try simp only [List.length_append, List.length_set, List.length_cons, List.length_nil, Nat.zero_add, Nat.add_assoc, Nat.reduceAdd] at hen); (try simp only [List.append_assoc, List.cons_append, List.nil_append] at hes); subst hen; subst hes))
  | ((with_reducible refine wp_dnewK ?_); (intro _ _ hen hes; (try simp only [List.length_append, List.length_set, List.length_cons, List.length_nil, Nat.zero_add, Nat.add_assoc, Nat.reduceAdd] at hen); (try simp only [List.append_assoc, List.cons_append, List.nil_append] at hes); subst hen; subst hes))
  | (with_reducible refine wp_ife ?_)
  | (with_reducible refine wp_comp ?_)
  | (with_reducible refine wp_comp2 ?_)
  | (with_reducible refine wp_cmp2 ?_)
  | (with_reducible refine wp_neg ?_)
  | (with_reducible refine neg_int ?_)
  | (with_reducible refine wp_slice ?_)
  | (with_reducible refine wpO_none ?_)
  | (with_reducible refine wpO_some ?_)
  | (with_reducible refine opt_int ?_)
  | (with_reducible refine wp_rev ?_)
  | (with_reducible refine wpI_seq ?_)
  | (with_reducible refine wpI_rng1 ?_)
  | (with_reducible refine wpI_rng2 ?_)
  | (with_reducible refine wpI_enum ?_)
  | (with_reducible refine wpTs_nil ?_)
  | (with_reducible refine wpTs_one ?_)
  | (with_reducible refine wpS_par ?_)
  | (with_reducible refine wpS_pass ?_)
  | (with_reducible refine wpS_brk ?_)
  | (with_reducible refine wpS_cont ?_)
  | (with_reducible refine wpS_retN ?_)
  | (with_reducible refine wpS_tryN ?_)
  | (with_reducible refine wp_callL ?_)
  | ((with_reducible apply wp_callv); rfl; (focus (first | assumption | decide)))
  | ((with_reducible apply wp_callc); rfl)
  | ((with_reducible apply wp_callP); rfl)
  | ((with_reducible apply len_map); (focus assumption))
  | ((with_reducible apply len_w); (focus (first | rfl | assumption)))
  | ((with_reducible apply it_of); (focus (first | assumption | apply hth | rfl)); (focus (first | assumption | rfl)))
  | ((with_reducible apply eq_nil); (focus (first | rfl | assumption)))
  | ((with_reducible apply ne_nil); (focus (first | rfl | assumption)))
  | ((with_reducible refine rng1_int ?_ ?_ ?_); (focus omega); (focus omega))
  | ((with_reducible refine rng2_int ?_ ?_ ?_ ?_ ?_); (focus omega); (focus omega); (focus omega); (focus omega))
  | (with_reducible refine eq_ii ?_)
  | (with_reducible refine ne_ii ?_)
  | (with_reducible refine lt_ii ?_)
  | (with_reducible refine le_ii ?_)
  | (with_reducible refine gt_ii ?_)
  | (with_reducible refine ge_ii ?_)
  | (with_reducible refine add_ii ?_)
  | (with_reducible refine sub_ii ?_)
  | (with_reducible refine int_i ?_)
  | (with_reducible refine max_ii ?_)
  | (with_reducible refine min_ii ?_)
  | (with_reducible refine tuple_k ?_)
  | ((with_reducible apply is_non); (focus (first | rfl | assumption)))
  | ((with_reducible apply isnot_non); (focus (first | rfl | assumption)))
  | ((with_reducible apply isi_of); (focus (first | rfl | assumption)))
  | ((with_reducible refine And.intro ?_ ?_); (first | decide | (focus (simp [sizeLine]; done))); (intro _ he; (first | simp only [List.set, List.map_cons, List.map_nil, ro_int, ro_bl, ro_str, ro_non, ro_undef, ro_tup, ro_ktup, ro_lst, ro_tmp, ro_scr, ro_loc, ro_fn, hro, hro2] at he | simp only [List.set, List.map_cons, List.map_nil, ro_int, ro_bl, ro_str, ro_non, ro_undef, ro_tup, ro_ktup, ro_lst, ro_tmp, ro_scr, ro_loc, ro_fn, hro] at he | simp only [List.set, List.map_cons, List.map_nil, ro_int, ro_bl, ro_str, ro_non, ro_undef, ro_tup, ro_ktup, ro_lst, ro_tmp, ro_scr, ro_loc, ro_fn] at he | skip); subst he))
  | ((with_reducible intro _ he); (first | simp only [List.set, List.map_cons, List.map_nil, ro_int, ro_bl, ro_str, ro_non, ro_undef, ro_tup, ro_ktup, ro_lst, ro_tmp, ro_scr, ro_loc, ro_fn, hro, hro2] at he | simp only [List.set, List.map_cons, List.map_nil, ro_int, ro_bl, ro_str, ro_non, ro_undef, ro_tup, ro_ktup, ro_lst, ro_tmp, ro_scr, ro_loc, ro_fn, hro] at he | simp only [List.set, List.map_cons, List.map_nil, ro_int, ro_bl, ro_str, ro_non, ro_undef, ro_tup, ro_ktup, ro_lst, ro_tmp, ro_scr, ro_loc, ro_fn] at he | skip); subst he)
  | ((with_reducible apply bind_of); (focus ((first | simp only [bindT, bindTs, seqW, isScr, ro_int, ro_bl, ro_str, ro_non, ro_undef, ro_tup, ro_ktup, ro_lst, ro_tmp, ro_scr, ro_loc, ro_fn, hro, hro2, wipeW, List.set, List.length_cons, List.length_nil, Bool.false_eq_true, if_false, if_true, Nat.reduceAdd, Nat.reduceLT, ↓reduceIte] | simp only [bindT, bindTs, seqW, isScr, ro_int, ro_bl, ro_str, ro_non, ro_undef, ro_tup, ro_ktup, ro_lst, ro_tmp, ro_scr, ro_loc, ro_fn, hro, wipeW, List.set, List.length_cons, List.length_nil, Bool.false_eq_true, if_false, if_true, Nat.reduceAdd, Nat.reduceLT, ↓reduceIte] | simp only [bindT, bindTs, seqW, isScr, ro_int, ro_bl, ro_str, ro_non, ro_undef, ro_tup, ro_ktup, ro_lst, ro_tmp, ro_scr, ro_loc, ro_fn, wipeW, List.set, List.length_cons, List.length_nil, Bool.false_eq_true, if_false, if_true, Nat.reduceAdd, Nat.reduceLT, ↓reduceIte]); rfl)))
  | ((with_reducible apply binds_of); (focus ((first | simp only [List.map_cons, List.map_nil, bindT, bindTs, seqW, isScr, ro_int, ro_bl, ro_str, ro_non, ro_undef, ro_tup, ro_ktup, ro_lst, ro_tmp, ro_scr, ro_loc, ro_fn, hro, hro2, wipeW, List.set, List.length_cons, List.length_nil, Bool.false_eq_true, if_false, if_true, Nat.reduceAdd, Nat.reduceLT, ↓reduceIte] | simp only [List.map_cons, List.map_nil, bindT, bindTs, seqW, isScr, ro_int, ro_bl, ro_str, ro_non, ro_undef, ro_tup, ro_ktup, ro_lst, ro_tmp, ro_scr, ro_loc, ro_fn, hro, wipeW, List.set, List.length_cons, List.length_nil, Bool.false_eq_true, if_false, if_true, Nat.reduceAdd, Nat.reduceLT, ↓reduceIte] | simp only [List.map_cons, List.map_nil, bindT, bindTs, seqW, isScr, ro_int, ro_bl, ro_str, ro_non, ro_undef, ro_tup, ro_ktup, ro_lst, ro_tmp, ro_scr, ro_loc, ro_fn, wipeW, List.set, List.length_cons, List.length_nil, Bool.false_eq_true, if_false, if_true, Nat.reduceAdd, Nat.reduceLT, ↓reduceIte]); rfl))))
theorem wts_le {α : Type} {f : α → W} {B : Nat} : ∀ {xs : List α}, (∀ x ∈ xs, wt (f x) ≤ B) → wts (xs.map f) ≤ xs.length * B
  | [], _ => by simp [wts]
  | x :: xs, h => by
    simp only [List.map_cons, wts, List.length_cons]
    have h1 := h x (List.mem_cons_self ..)
    have h2 := wts_le (xs := xs) fun y hy => h y (List.mem_cons_of_mem _ hy)
    rw [Nat.succ_mul]
    omega
theorem wt_lot (l : List Nat) : wt (lotW l) ≤ 1 + l.length := by
  simp only [wt]
  have := wts_le (f := nW) (B := 1) (xs := l) fun x _ => by simp [wt]
  omega
theorem wt_book {ts : List Nat} {p : Nat → Nat → Nat → Bool} {m : Nat} (h1 : ts.length ≤ 13) (h2 : m ≤ 13) : wt (bookW ts (lotsOf p m)) ≤ 10000 := by
  have h3 := wt_lot ts
  have h4 : ∀ r ∈ lotsOf p m, wt (rowW r) ≤ 183 := by
    intro r hr
    unfold lotsOf at hr
    obtain ⟨a, _, rfl⟩ := List.mem_map.mp hr
    simp only [wt]
    have := wts_le (f := lotW) (B := 14) (xs := (List.range m).map fun b => (List.range m).filter fun c => p a b c) fun l hl => by
      obtain ⟨b, _, rfl⟩ := List.mem_map.mp hl
      have e1 := wt_lot ((List.range m).filter fun c => p a b c)
      have e2 := List.length_filter_le (fun c => p a b c) (List.range m)
      rw [List.length_range] at e2
      omega
    rw [List.length_map, List.length_range] at this
    have : m * 14 ≤ 13 * 14 := Nat.mul_le_mul_right _ h2
    omega
  have h5 := wts_le (f := rowW) (B := 183) h4
  rw [lots_len] at h5
  have h6 : m * 183 ≤ 13 * 183 := Nat.mul_le_mul_right _ h2
  show wt (.tup [lotW ts, .tup ((lotsOf p m).map rowW)]) ≤ _
  have e : wt (.tup [lotW ts, .tup ((lotsOf p m).map rowW)]) = 1 + (wt (lotW ts) + ((1 + wts ((lotsOf p m).map rowW)) + 0)) := by simp [wt, wts]
  rw [e]
  omega
section
variable {d : Nat} {st : Store} {Q : Post} {X : XPost}
theorem sp3 {env : Ev.Env} {l : Nat} {w : W} (hro : ro w = w) (hc : ∀ (K : Post) (X : XPost), K w st → (callW P d).clo ⟨env, l⟩ st K X) (q : Q (.tup [.str "told", w]) st) : (callW P (d + 1)).fn 3 (some ⟨env, l⟩) [] st Q X := by
  refine fn_in (env := [.undef, .undef, .undef, .undef, .undef]) (f := f3) rfl rfl rfl rfl ?_
  dsimp only [f3]
  repeat' sizeOf_list_dec
  refine wpS_try ?_
  repeat' sizeOf_list_dec
  refine hc _ _ ?_
  repeat' sizeOf_list_dec
  exact q
theorem join_bm : Txt.join " " ["BadMany"] = "BadMany" := by decide +kernel
theorem sp3x {env : Ev.Env} {l : Nat} {w : W} (hro : ro w = w) (hc : ∀ (K : Post) (X : XPost), X 1 w st → (callW P d).clo ⟨env, l⟩ st K X) (q : Q (.tup [.str "BadMany", w]) st) : (callW P (d + 1)).fn 3 (some ⟨env, l⟩) [] st Q X := by
  refine fn_in (env := [.undef, .undef, .undef, .undef, .undef]) (f := f3) rfl rfl rfl rfl ?_
  dsimp only [f3]
  repeat' sizeOf_list_dec
  refine wpS_try ?_
  repeat' sizeOf_list_dec
  refine hc _ _ ?_
  rw [if_pos (show P.sub 1 0 = true from rfl)]
  repeat' sizeOf_list_dec
  refine wp_isx rfl ?_
  rw [show P.sub 1 1 = true from rfl]
  repeat' sizeOf_list_dec
  refine ⟨⟨_, rfl⟩, ?_⟩
  repeat' sizeOf_list_dec
  refine comp_ty [()] (fun _ => .tup [.str "BadMany", .bl true]) (fun _ => true) (fun _ => .str "BadMany") rfl rfl (show 1 ≤ sizeLine by decide) (fun p hp => ⟨[_, _, _, .str "BadMany", .bl true], rfl, fun K q => ?_, fun _ K q => ?_⟩) ?_
  · repeat' sizeOf_list_dec
    exact q
  · repeat' sizeOf_list_dec
    exact q _ rfl
  repeat' sizeOf_list_dec
  refine ⟨[.str "BadMany"], ["BadMany"], rfl, rfl, by decide +kernel, ?_⟩
  rw [join_bm]
  repeat' sizeOf_list_dec
  refine wp_what rfl ?_
  repeat' sizeOf_list_dec
  exact q
theorem same_strs (st : Store) : same st (.str "told") (.str "told") = true := by
  simp only [same]
  decide +kernel
theorem sp4 {env : Ev.Env} {l : Nat} {w o : W} (hro : ro w = w) (hro2 : ro o = o) (hu : o ≠ .undef) (hc : ∀ (K : Post) (X : XPost), K w st → (callW P (d + 2)).clo ⟨env, l⟩ st K X) (hs : same st o w = true) (hz : wt o ≤ 90000) (hst : okSt st) (q : Q (.bl true) st) :
    (callW P (d + 4)).fn 4 (some ⟨env, l⟩) [o] st Q X := by
  refine fn_in (env := [.undef, o]) (f := f4) rfl rfl rfl rfl ?_
  dsimp only [f4]
  repeat' sizeOf_list_dec
  refine sp3 hro hc ?_
  repeat' sizeOf_list_dec
  refine sp_same (w := 1) rfl rfl (same_told st (same_strs st) hs) ?_ rfl hst ?_
  · simp only [wt, wts]
    omega
  · exact .inl q
theorem bookF : BookFns0 P 1 20 26 27 24 25 28 23 29 := ⟨⟨_, rfl⟩, rfl, rfl, rfl, rfl, rfl, rfl, rfl, rfl⟩
theorem sp18 {ts : List Nat} {tb : List (List (List Nat))} (B : IsBook ts tb) (q : Q .non st) : (callW P (d + 4)).fn 18 none [bookW ts tb] st Q X :=
  sp_fault (w := 1) (i := 14) (t := 15) (s := 16) (l := 17) rfl rfl rfl rfl rfl rfl rfl B q
theorem sp30 {ts : List Nat} {tb : List (List (List Nat))} (B : IsBook ts tb) (q : Q (bookW ts tb) st) : (callW P (d + 6)).fn 30 none [bookW ts tb] st Q X := by
  refine fn_in (env := [bookW ts tb, .undef]) (f := f30) rfl rfl rfl rfl ?_
  dsimp only [f30]
  repeat' sizeOf_list_dec
  refine sp_gwrong bookF (tw := lotW ts) rfl B ?_
  repeat' sizeOf_list_dec
  exact q
theorem sp38 {ts : List Nat} {tb : List (List (List Nat))} {a b c : Nat} (B : IsBook ts tb) (ha : a < ts.length) (hb : b < ts.length) (hc : c ∈ (tb.getD a []).getD b []) (q : Q (.bl true) st) : (callW P (d + 5)).fn 38 none [bookW ts tb, nW a, nW b, nW c] st Q X := by
  refine fn_in (env := [bookW ts tb, nW a, nW b, nW c]) (f := f38) rfl rfl rfl rfl ?_
  dsimp only [f38]
  repeat' sizeOf_list_dec
  refine sp18 B ?_
  repeat' sizeOf_list_dec
  refine sub_lit (j := 1) rfl rfl rfl ?_
  repeat' sizeOf_list_dec
  refine sub_map (f := rowW) (xs := tb) [] rfl (by rw [B.rows]; exact ha) ?_
  repeat' sizeOf_list_dec
  refine sub_map (f := lotW) (xs := tb.getD a []) [] rfl (by rw [B.row a ha]; exact hb) ?_
  refine in_lot ?_
  rw [decide_eq_true hc]
  repeat' sizeOf_list_dec
  exact q
theorem sp36 {t : Nat} (h1 : 1 ≤ t) (h2 : t ≤ 12) (hst : okSt st) (q : Q (.bl true) st) : (callW P (d + 12)).fn 36 none [nW t] st Q X := by
  refine fn_in (env := [nW t, .undef]) (f := f36) rfl rfl rfl rfl ?_
  dsimp only [f36]
  have hl : (List.range (t + 1)).length = t + 1 := List.length_range
  have hdl : (dialT t).length = t := by unfold dialT; simp
  repeat' sizeOf_list_dec
  refine sp12 h2 hst ?_
  repeat' sizeOf_list_dec
  refine sp4 (w := bookW (List.range (t + 1)) (farB t)) rfl rfl (by intro h; cases h) (fun K X q => ?_) (same_book _ _ _) (Nat.le_trans (wt_book (by omega) (by omega)) (by decide)) hst ?_
  · refine clo_in (l := l0) rfl ?_
    dsimp only [l0]
    repeat' sizeOf_list_dec
    exact sp35 h1 h2 q
  repeat' sizeOf_list_dec
  refine sp18 (far_book h1 h2) ?_
  repeat' sizeOf_list_dec
  refine sp4 (w := bookW (List.range (t + 1)) (farB t)) rfl rfl (by intro h; cases h) (fun K X q => ?_) (same_book _ _ _) (Nat.le_trans (wt_book (by omega) (by omega)) (by decide)) hst ?_
  · refine clo_in (l := l1) rfl ?_
    dsimp only [l1]
    repeat' sizeOf_list_dec
    exact sp30 (far_book h1 h2) q
  repeat' sizeOf_list_dec
  refine sp19 h2 hst ?_
  repeat' sizeOf_list_dec
  refine sp4 (w := bookW (List.range (t + 1)) (rankB t)) rfl rfl (by intro h; cases h) (fun K X q => ?_) (same_book _ _ _) (Nat.le_trans (wt_book (by omega) (by omega)) (by decide)) hst ?_
  · refine clo_in (l := l2) rfl ?_
    dsimp only [l2]
    repeat' sizeOf_list_dec
    exact sp33 h1 h2 q
  repeat' sizeOf_list_dec
  refine sp13 h1 (by omega) hst ?_
  repeat' sizeOf_list_dec
  refine sp4 (w := bookW (dialT t) (dialB t)) rfl rfl (by intro h; cases h) (fun K X q => ?_) (same_book _ _ _) (Nat.le_trans (wt_book (by omega) (by omega)) (by decide)) hst ?_
  · refine clo_in (l := l3) rfl ?_
    dsimp only [l3]
    repeat' sizeOf_list_dec
    exact sp22 h1 (by omega) q
  exact ret_same q
end
end K02

set_option maxRecDepth 100000
set_option maxHeartbeats 4000000
namespace K02
open PySem L2 Ev
set_option hygiene false
local macro_rules | `(tactic| array_mem_dec) => `(tactic| first | rfl | assumption | decide | omega | (focus (simp; done)))
local macro_rules | `(tactic| sizeOf_list_dec) => `(tactic| first
  | ((with_reducible apply wp_var); rfl; (first | assumption | (focus (intro h; cases h; done))))
  | (with_reducible refine wp_int ?_)
  | (with_reducible refine wpSs_cons ?_)
  | (with_reducible refine wpEs_cons ?_)
  | (with_reducible refine wpEs_nil ?_)
  | (with_reducible refine wpS_asg ?_)
  | (with_reducible refine wpS_ret ?_)
  | (with_reducible refine wpS_ite ?_)
  | (with_reducible refine wpS_for' ?_)
  | (with_reducible refine wpS_ex ?_)
  | (with_reducible refine wp_sub ?_)
  | (with_reducible refine wp_cmp ?_)
  | (with_reducible refine wp_bi ?_)
  | (with_reducible refine wp_call ?_)
  | (with_reducible refine wp_bin ?_)
  | (with_reducible refine wp_not ?_)
  | (with_reducible refine wp_isi ?_)
  | (with_reducible refine wp_meth ?_)
  | (with_reducible refine wp_tup ?_)
  | (with_reducible refine wp_lst ?_)
  | (with_reducible refine wp_band ?_)
  | (with_reducible refine wp_bor ?_)
  | (with_reducible refine wp_and1 ?_)
  | (with_reducible refine wp_and2 ?_)
  | (with_reducible refine wp_or1 ?_)
  | (with_reducible refine wp_or2 ?_)
  | (with_reducible refine wpS_asgT ?_)
  | (with_reducible refine wpS_asgS ?_)
  | (with_reducible refine wpSs_nil ?_)
  | (with_reducible refine ret_same ?_)
  | (with_reducible refine tru_bl ?_)
  | (with_reducible refine bl_of ?_)
  | ((with_reducible refine br_t ?_ ?_); (focus (first | exact rfl | assumption | (simp only [Bool.not_eq_true', Bool.not_eq_false', decide_eq_true_eq, decide_eq_false_iff_not, List.length_cons, List.length_nil, List.length_map, List.length_range]; omega))))
  | ((with_reducible refine br_f ?_ ?_); (focus (first | exact rfl | assumption | (simp only [Bool.not_eq_true', Bool.not_eq_false', decide_eq_true_eq, decide_eq_false_iff_not, List.length_cons, List.length_nil, List.length_map, List.length_range]; omega))))
  | (with_reducible refine wp_non ?_)
  | (with_reducible refine wp_bl ?_)
  | (with_reducible refine wp_str ?_)
  | (with_reducible refine wp_gfn ?_)
  | ((with_reducible apply wp_gcon); rfl)
  | (with_reducible refine wp_alloc ?_)
  | ((with_reducible refine alloc_tmp ?_); (intro _ _ hen hes; (try simp only [List.length_append, List.length_set, List.length_cons, List.length_nil, Nat.zero_add, Nat.add_assoc, Nat.reduceAdd] at hen); (try simp only [List.append_assoc, List.cons_append, List.nil_append] at hes); subst hen; subst hes))
  | ((with_reducible refine wp_dnewT ?_); (intro _ _ hen hes; (try simp only [List.length_append, List.length_set, List.length_cons, List.length_nil, Nat.zero_add, Nat.add_assoc, Nat.reduceAdd] at hen); (try simp only [List.append_assoc, List.cons_append, List.nil_append] at hes); subst hen; subst hes))
  | ((with_reducible refine wp_dnewK ?_); (intro _ _ hen hes; (try simp only [List.length_append, List.length_set, List.length_cons, List.length_nil, Nat.zero_add, Nat.add_assoc, Nat.reduceAdd] at hen); (try simp only [List.append_assoc, List.cons_append, List.nil_append] at hes); subst hen; subst hes))
  | (with_reducible refine wp_ife ?_)
  | (with_reducible refine wp_comp ?_)
  | (with_reducible refine wp_comp2 ?_)
  | (with_reducible refine wp_cmp2 ?_)
  | (with_reducible refine wp_neg ?_)
  | (with_reducible refine neg_int ?_)
  | (with_reducible refine wp_slice ?_)
  | (with_reducible refine wpO_none ?_)
  | (with_reducible refine wpO_some ?_)
  | (with_reducible refine opt_int ?_)
  | (with_reducible refine wp_rev ?_)
  | (with_reducible refine wpI_seq ?_)
  | (with_reducible refine wpI_rng1 ?_)
  | (with_reducible refine wpI_rng2 ?_)
  | (with_reducible refine wpI_enum ?_)
  | (with_reducible refine wpTs_nil ?_)
  | (with_reducible refine wpTs_one ?_)
  | (with_reducible refine wpS_par ?_)
  | (with_reducible refine wpS_pass ?_)
  | (with_reducible refine wpS_brk ?_)
  | (with_reducible refine wpS_cont ?_)
  | (with_reducible refine wpS_retN ?_)
  | (with_reducible refine wpS_tryN ?_)
  | (with_reducible refine wp_callL ?_)
  | ((with_reducible apply wp_callv); rfl; (focus (first | assumption | decide)))
  | ((with_reducible apply wp_callc); rfl)
  | ((with_reducible apply wp_callP); rfl)
  | ((with_reducible apply len_map); (focus assumption))
  | ((with_reducible apply len_w); (focus (first | rfl | assumption)))
  | ((with_reducible apply it_of); (focus (first | assumption | apply hth | rfl)); (focus (first | assumption | rfl)))
  | ((with_reducible apply eq_nil); (focus (first | rfl | assumption)))
  | ((with_reducible apply ne_nil); (focus (first | rfl | assumption)))
  | ((with_reducible refine rng1_int ?_ ?_ ?_); (focus omega); (focus omega))
  | ((with_reducible refine rng2_int ?_ ?_ ?_ ?_ ?_); (focus omega); (focus omega); (focus omega); (focus omega))
  | (with_reducible refine eq_ii ?_)
  | (with_reducible refine ne_ii ?_)
  | (with_reducible refine lt_ii ?_)
  | (with_reducible refine le_ii ?_)
  | (with_reducible refine gt_ii ?_)
  | (with_reducible refine ge_ii ?_)
  | (with_reducible refine add_ii ?_)
  | (with_reducible refine sub_ii ?_)
  | (with_reducible refine int_i ?_)
  | (with_reducible refine max_ii ?_)
  | (with_reducible refine min_ii ?_)
  | (with_reducible refine tuple_k ?_)
  | ((with_reducible apply is_non); (focus (first | rfl | assumption)))
  | ((with_reducible apply isnot_non); (focus (first | rfl | assumption)))
  | ((with_reducible apply isi_of); (focus (first | rfl | assumption)))
  | ((with_reducible refine And.intro ?_ ?_); (first | decide | (focus (simp [sizeLine]; done))); (intro _ he; (first | simp only [List.set, List.map_cons, List.map_nil, ro_int, ro_bl, ro_str, ro_non, ro_undef, ro_tup, ro_ktup, ro_lst, ro_tmp, ro_scr, ro_loc, ro_fn, hro, hro2] at he | simp only [List.set, List.map_cons, List.map_nil, ro_int, ro_bl, ro_str, ro_non, ro_undef, ro_tup, ro_ktup, ro_lst, ro_tmp, ro_scr, ro_loc, ro_fn, hro] at he | simp only [List.set, List.map_cons, List.map_nil, ro_int, ro_bl, ro_str, ro_non, ro_undef, ro_tup, ro_ktup, ro_lst, ro_tmp, ro_scr, ro_loc, ro_fn] at he | skip); subst he))
  | ((with_reducible intro _ he); (first | simp only [List.set, List.map_cons, List.map_nil, ro_int, ro_bl, ro_str, ro_non, ro_undef, ro_tup, ro_ktup, ro_lst, ro_tmp, ro_scr, ro_loc, ro_fn, hro, hro2] at he | simp only [List.set, List.map_cons, List.map_nil, ro_int, ro_bl, ro_str, ro_non, ro_undef, ro_tup, ro_ktup, ro_lst, ro_tmp, ro_scr, ro_loc, ro_fn, hro] at he | simp only [List.set, List.map_cons, List.map_nil, ro_int, ro_bl, ro_str, ro_non, ro_undef, ro_tup, ro_ktup, ro_lst, ro_tmp, ro_scr, ro_loc, ro_fn] at he | skip); subst he)
  | ((with_reducible apply bind_of); (focus ((first | simp only [bindT, bindTs, seqW, isScr, ro_int, ro_bl, ro_str, ro_non, ro_undef, ro_tup, ro_ktup, ro_lst, ro_tmp, ro_scr, ro_loc, ro_fn, hro, hro2, wipeW, List.set, List.length_cons, List.length_nil, Bool.false_eq_true, if_false, if_true, Nat.reduceAdd, Nat.reduceLT, ↓reduceIte] | simp only [bindT, bindTs, seqW, isScr, ro_int, ro_bl, ro_str, ro_non, ro_undef, ro_tup, ro_ktup, ro_lst, ro_tmp, ro_scr, ro_loc, ro_fn, hro, wipeW, List.set, List.length_cons, List.length_nil, Bool.false_eq_true, if_false, if_true, Nat.reduceAdd, Nat.reduceLT, ↓reduceIte] | simp only [bindT, bindTs, seqW, isScr, ro_int, ro_bl, ro_str, ro_non, ro_undef, ro_tup, ro_ktup, ro_lst, ro_tmp, ro_scr, ro_loc, ro_fn, wipeW, List.set, List.length_cons, List.length_nil, Bool.false_eq_true, if_false, if_true, Nat.reduceAdd, Nat.reduceLT, ↓reduceIte]); rfl)))
  | ((with_reducible apply binds_of); (focus ((first | simp only [List.map_cons, List.map_nil, bindT, bindTs, seqW, isScr, ro_int, ro_bl, ro_str, ro_non, ro_undef, ro_tup, ro_ktup, ro_lst, ro_tmp, ro_scr, ro_loc, ro_fn, hro, hro2, wipeW, List.set, List.length_cons, List.length_nil, Bool.false_eq_true, if_false, if_true, Nat.reduceAdd, Nat.reduceLT, ↓reduceIte] | simp only [List.map_cons, List.map_nil, bindT, bindTs, seqW, isScr, ro_int, ro_bl, ro_str, ro_non, ro_undef, ro_tup, ro_ktup, ro_lst, ro_tmp, ro_scr, ro_loc, ro_fn, hro, wipeW, List.set, List.length_cons, List.length_nil, Bool.false_eq_true, if_false, if_true, Nat.reduceAdd, Nat.reduceLT, ↓reduceIte] | simp only [List.map_cons, List.map_nil, bindT, bindTs, seqW, isScr, ro_int, ro_bl, ro_str, ro_non, ro_undef, ro_tup, ro_ktup, ro_lst, ro_tmp, ro_scr, ro_loc, ro_fn, wipeW, List.set, List.length_cons, List.length_nil, Bool.false_eq_true, if_false, if_true, Nat.reduceAdd, Nat.reduceLT, ↓reduceIte]); rfl))))
local macro_rules | `(tactic| array_get_dec) => `(tactic| first
  | ((with_reducible apply wp_var); rfl; (first | assumption | (focus (intro h; cases h; done))))
  | (with_reducible refine wp_int ?_)
  | (with_reducible refine wpSs_cons ?_)
  | (with_reducible refine wpEs_cons ?_)
  | (with_reducible refine wpEs_nil ?_)
  | (with_reducible refine wpS_asg ?_)
  | (with_reducible refine wpS_ret ?_)
  | (with_reducible refine wpS_ite ?_)
  | (with_reducible refine wpS_for' ?_)
  | (with_reducible refine wpS_ex ?_)
  | (with_reducible refine wp_sub ?_)
  | (with_reducible refine wp_cmp ?_)
  | (with_reducible refine wp_bi ?_)
  | (with_reducible refine wp_call ?_)
  | (with_reducible refine wp_bin ?_)
  | (with_reducible refine wp_not ?_)
  | (with_reducible refine wp_isi ?_)
  | (with_reducible refine wp_meth ?_)
  | (with_reducible refine wp_tup ?_)
  | (with_reducible refine wp_lst ?_)
  | (with_reducible refine wp_and1 ?_)
  | (with_reducible refine wp_and2 ?_)
  | (with_reducible refine wp_or1 ?_)
  | (with_reducible refine wp_or2 ?_)
  | (with_reducible refine wpS_asgT ?_)
  | (with_reducible refine wpS_asgS ?_)
  | (with_reducible refine wpSs_nil ?_)
  | (with_reducible refine ret_same ?_)
  | (with_reducible refine tru_bl ?_)
  | (with_reducible refine bl_of ?_)
  | ((with_reducible refine br_t ?_ ?_); (focus (first | exact rfl | assumption | (simp only [Bool.not_eq_true', Bool.not_eq_false', decide_eq_true_eq, decide_eq_false_iff_not, List.length_cons, List.length_nil, List.length_map, List.length_range]; omega))))
  | ((with_reducible refine br_f ?_ ?_); (focus (first | exact rfl | assumption | (simp only [Bool.not_eq_true', Bool.not_eq_false', decide_eq_true_eq, decide_eq_false_iff_not, List.length_cons, List.length_nil, List.length_map, List.length_range]; omega))))
  | (with_reducible refine wp_non ?_)
  | (with_reducible refine wp_bl ?_)
  | (with_reducible refine wp_str ?_)
  | (with_reducible refine wp_gfn ?_)
  | ((with_reducible apply wp_gcon); rfl)
  | (with_reducible refine wp_alloc ?_)
  | ((with_reducible refine alloc_tmp ?_); (intro _ _ hen hes; (try simp only [List.length_append, List.length_set, List.length_cons, List.length_nil, Nat.zero_add, Nat.add_assoc, Nat.reduceAdd] at hen); (try simp only [List.append_assoc, List.cons_append, List.nil_append] at hes); subst hen; subst hes))
  | ((with_reducible refine wp_dnewT ?_); (intro _ _ hen hes; (try simp only [List.length_append, List.length_set, List.length_cons, List.length_nil, Nat.zero_add, Nat.add_assoc, Nat.reduceAdd] at hen); (try simp only [List.append_assoc, List.cons_append, List.nil_append] at hes); subst hen; subst hes))
  | ((with_reducible refine wp_dnewK ?_); (intro _ _ hen hes; (try simp only [List.length_append, List.length_set, List.length_cons, List.length_nil, Nat.zero_add, Nat.add_assoc, Nat.reduceAdd] at hen); (try simp only [List.append_assoc, List.cons_append, List.nil_append] at hes); subst hen; subst hes))
  | (with_reducible refine wp_ife ?_)
  | (with_reducible refine wp_comp ?_)
  | (with_reducible refine wp_comp2 ?_)
  | (with_reducible refine wp_cmp2 ?_)
  | (with_reducible refine wp_neg ?_)
  | (with_reducible refine neg_int ?_)
  | (with_reducible refine wp_slice ?_)
  | (with_reducible refine wpO_none ?_)
  | (with_reducible refine wpO_some ?_)
  | (with_reducible refine opt_int ?_)
  | (with_reducible refine wp_rev ?_)
  | (with_reducible refine wpI_seq ?_)
  | (with_reducible refine wpI_rng1 ?_)
  | (with_reducible refine wpI_rng2 ?_)
  | (with_reducible refine wpI_enum ?_)
  | (with_reducible refine wpTs_nil ?_)
  | (with_reducible refine wpTs_one ?_)
  | (with_reducible refine wpS_par ?_)
  | (with_reducible refine wpS_pass ?_)
  | (with_reducible refine wpS_brk ?_)
  | (with_reducible refine wpS_cont ?_)
  | (with_reducible refine wpS_retN ?_)
  | (with_reducible refine wpS_tryN ?_)
  | (with_reducible refine wp_callL ?_)
  | ((with_reducible apply wp_callv); rfl; (focus (first | assumption | decide)))
  | ((with_reducible apply wp_callc); rfl)
  | ((with_reducible apply wp_callP); rfl)
  | ((with_reducible apply len_map); (focus assumption))
  | ((with_reducible apply len_w); (focus (first | rfl | assumption)))
  | ((with_reducible apply it_of); (focus (first | assumption | apply hth | rfl)); (focus (first | assumption | rfl)))
  | ((with_reducible apply eq_nil); (focus (first | rfl | assumption)))
  | ((with_reducible apply ne_nil); (focus (first | rfl | assumption)))
  | ((with_reducible refine rng1_int ?_ ?_ ?_); (focus omega); (focus omega))
  | ((with_reducible refine rng2_int ?_ ?_ ?_ ?_ ?_); (focus omega); (focus omega); (focus omega); (focus omega))
  | (with_reducible refine eq_ii ?_)
  | (with_reducible refine ne_ii ?_)
  | (with_reducible refine lt_ii ?_)
  | (with_reducible refine le_ii ?_)
  | (with_reducible refine gt_ii ?_)
  | (with_reducible refine ge_ii ?_)
  | (with_reducible refine add_ii ?_)
  | (with_reducible refine sub_ii ?_)
  | (with_reducible refine int_i ?_)
  | (with_reducible refine max_ii ?_)
  | (with_reducible refine min_ii ?_)
  | (with_reducible refine tuple_k ?_)
  | ((with_reducible apply is_non); (focus (first | rfl | assumption)))
  | ((with_reducible apply isnot_non); (focus (first | rfl | assumption)))
  | ((with_reducible apply isi_of); (focus (first | rfl | assumption)))
  | ((with_reducible refine And.intro ?_ ?_); (first | decide | (focus (simp [sizeLine]; done))); (intro _ he; (first | simp only [List.set, List.map_cons, List.map_nil, ro_int, ro_bl, ro_str, ro_non, ro_undef, ro_tup, ro_ktup, ro_lst, ro_tmp, ro_scr, ro_loc, ro_fn, hro, hro2] at he | simp only [List.set, List.map_cons, List.map_nil, ro_int, ro_bl, ro_str, ro_non, ro_undef, ro_tup, ro_ktup, ro_lst, ro_tmp, ro_scr, ro_loc, ro_fn, hro] at he | simp only [List.set, List.map_cons, List.map_nil, ro_int, ro_bl, ro_str, ro_non, ro_undef, ro_tup, ro_ktup, ro_lst, ro_tmp, ro_scr, ro_loc, ro_fn] at he | skip); subst he))
  | ((with_reducible intro _ he); (first | simp only [List.set, List.map_cons, List.map_nil, ro_int, ro_bl, ro_str, ro_non, ro_undef, ro_tup, ro_ktup, ro_lst, ro_tmp, ro_scr, ro_loc, ro_fn, hro, hro2] at he | simp only [List.set, List.map_cons, List.map_nil, ro_int, ro_bl, ro_str, ro_non, ro_undef, ro_tup, ro_ktup, ro_lst, ro_tmp, ro_scr, ro_loc, ro_fn, hro] at he | simp only [List.set, List.map_cons, List.map_nil, ro_int, ro_bl, ro_str, ro_non, ro_undef, ro_tup, ro_ktup, ro_lst, ro_tmp, ro_scr, ro_loc, ro_fn] at he | skip); subst he)
  | ((with_reducible apply bind_of); (focus ((first | simp only [bindT, bindTs, seqW, isScr, ro_int, ro_bl, ro_str, ro_non, ro_undef, ro_tup, ro_ktup, ro_lst, ro_tmp, ro_scr, ro_loc, ro_fn, hro, hro2, wipeW, List.set, List.length_cons, List.length_nil, Bool.false_eq_true, if_false, if_true, Nat.reduceAdd, Nat.reduceLT, ↓reduceIte] | simp only [bindT, bindTs, seqW, isScr, ro_int, ro_bl, ro_str, ro_non, ro_undef, ro_tup, ro_ktup, ro_lst, ro_tmp, ro_scr, ro_loc, ro_fn, hro, wipeW, List.set, List.length_cons, List.length_nil, Bool.false_eq_true, if_false, if_true, Nat.reduceAdd, Nat.reduceLT, ↓reduceIte] | simp only [bindT, bindTs, seqW, isScr, ro_int, ro_bl, ro_str, ro_non, ro_undef, ro_tup, ro_ktup, ro_lst, ro_tmp, ro_scr, ro_loc, ro_fn, wipeW, List.set, List.length_cons, List.length_nil, Bool.false_eq_true, if_false, if_true, Nat.reduceAdd, Nat.reduceLT, ↓reduceIte]); rfl)))
  | ((with_reducible apply binds_of); (focus ((first | simp only [List.map_cons, List.map_nil, bindT, bindTs, seqW, isScr, ro_int, ro_bl, ro_str, ro_non, ro_undef, ro_tup, ro_ktup, ro_lst, ro_tmp, ro_scr, ro_loc, ro_fn, hro, hro2, wipeW, List.set, List.length_cons, List.length_nil, Bool.false_eq_true, if_false, if_true, Nat.reduceAdd, Nat.reduceLT, ↓reduceIte] | simp only [List.map_cons, List.map_nil, bindT, bindTs, seqW, isScr, ro_int, ro_bl, ro_str, ro_non, ro_undef, ro_tup, ro_ktup, ro_lst, ro_tmp, ro_scr, ro_loc, ro_fn, hro, wipeW, List.set, List.length_cons, List.length_nil, Bool.false_eq_true, if_false, if_true, Nat.reduceAdd, Nat.reduceLT, ↓reduceIte] | simp only [List.map_cons, List.map_nil, bindT, bindTs, seqW, isScr, ro_int, ro_bl, ro_str, ro_non, ro_undef, ro_tup, ro_ktup, ro_lst, ro_tmp, ro_scr, ro_loc, ro_fn, wipeW, List.set, List.length_cons, List.length_nil, Bool.false_eq_true, if_false, if_true, Nat.reduceAdd, Nat.reduceLT, ↓reduceIte]); rfl))))
theorem pow_ii {st : Store} {i j : Int} {K : W → Prop} (h : L2.CPow i j) (q : K (.int (i ^ j.toNat))) : binW st .Pow (.int i) (.int j) K := ⟨h, q⟩
def odds : List W := [.int 0, .int 13, .int 14, .int (-1), .bl true, .non, .str "1", .tup [.int 1], .int ((10 : Int) ^ (20 : Int).toNat)]
/-- what is asked of an odd thing -/
structure Odd (w : W) : Prop where
  bad : badB w 1 12 = true
  same_ : ∀ st, same st w w = true
  wt_ : wt w ≤ 10
  ok : ∀ n, okV n w = true
  at13 : w = .int 13 ∨ (badB w 1 13 = true ∧ ∀ {st : Store} {B : Bool → Prop}, B false → cmpW st .Eq w (.int 13) B)
theorem eq_far {w : W} {i : Int} {st : Store} {B : Bool → Prop} (h : isD w = true) (h2 : SeqAt.shaped (toD w) = true) (h3 : PyData.eqv (toD w) (toD (.int i)) = false) (hw : ∀ j, w ≠ .int j) (q : B false) : cmpW st .Eq w (.int i) B := by
  have : eqW st w (.int i) B := .inl ⟨_, _, datW_of h, rfl, h2, shaped_of rfl (Nat.zero_le _), by rw [h3]; exact q⟩
  cases w with
  | int j => exact absurd rfl (hw j)
  | _ => exact this
theorem odds_ok : ∀ w ∈ odds, Odd w := by
  intro w hw
  simp only [odds, List.mem_cons, List.not_mem_nil, or_false] at hw
  have ne : ∀ {i : Int}, decide (i = 13) = false → ∀ {st : Store} {B : Bool → Prop}, B false → cmpW st .Eq (.int i) (.int 13) B := fun h st B q => eq_ii (by rw [h]; exact q)
  rcases hw with rfl | rfl | rfl | rfl | rfl | rfl | rfl | rfl | rfl
  · exact ⟨by decide, fun st => by simp [same], by simp [wt], fun n => rfl, .inr ⟨by decide, ne (by decide)⟩⟩
  · exact ⟨by decide, fun st => by simp [same], by simp [wt], fun n => rfl, .inl rfl⟩
  · exact ⟨by decide, fun st => by simp [same], by simp [wt], fun n => rfl, .inr ⟨by decide, ne (by decide)⟩⟩
  · exact ⟨by decide, fun st => by simp [same], by simp [wt], fun n => rfl, .inr ⟨by decide, ne (by decide)⟩⟩
  · exact ⟨rfl, fun st => by simp [same], by simp [wt], fun n => rfl, .inr ⟨rfl, fun q => eq_far rfl (by decide +kernel) (by decide +kernel) (fun j z => by cases z) q⟩⟩
  · exact ⟨rfl, fun st => by simp [same], by simp [wt], fun n => rfl, .inr ⟨rfl, fun q => eq_far rfl (by decide +kernel) (by decide +kernel) (fun j z => by cases z) q⟩⟩
  · exact ⟨rfl, fun st => by simp only [same]; decide +kernel, by simp [wt], fun n => rfl, .inr ⟨rfl, fun q => eq_far rfl (by decide +kernel) (by decide +kernel) (fun j z => by cases z) q⟩⟩
  · exact ⟨rfl, fun st => by simp [same, sames, tupW], by simp [wt, wts], fun n => rfl, .inr ⟨rfl, fun q => eq_far rfl (by decide +kernel) (by decide +kernel) (fun j z => by cases z) q⟩⟩
  · exact ⟨by decide +kernel, fun st => by simp [same], by simp [wt], fun n => rfl, .inr ⟨by decide +kernel, ne (by decide +kernel)⟩⟩
theorem same_bm (st : Store) : same st (.str "BadMany") (.str "BadMany") = true := by
  simp only [same]
  decide +kernel
section
variable {d : Nat} {st : Store} {Q : Post} {X : XPost}
theorem sp37 (hst : okSt st) (q : Q (.bl true) st) : (callW P (d + 12)).fn 37 none [] st Q X := by
  refine fn_in (env := [.undef, .undef, .undef]) (f := f37) rfl rfl rfl rfl ?_
  dsimp only [f37]
  repeat' sizeOf_list_dec
  refine pow_ii ⟨by decide, by decide, by decide⟩ ?_
  repeat' sizeOf_list_dec
  refine for_ty odds (fun w => w) rfl (fun i env s => ∃ v0 v1 v2 cs, env = [v0, v1, v2] ∧ s = st ++ cs ∧ okSt s) ⟨_, _, _, [], rfl, (List.append_nil _).symm, hst⟩ ?_ ?_
  · rintro i w env s nx' hx ⟨v0, v1, v2, cs, rfl, hs, hss⟩ hn
    have O := odds_ok w (List.mem_of_getElem? hx)
    obtain ⟨hro, hu⟩ := bad_ro O.bad
    refine ⟨rfl, ?_⟩
    show ∃ env3, bindT s (Tg.nm 0) w _ = some env3 ∧ _
    repeat' sizeOf_list_dec
    refine sp3x hro (fun K X x => ?_) ?_
    · refine clo_in (l := l4) rfl ?_
      dsimp only [l4]
      repeat' sizeOf_list_dec
      exact sp35x O.bad x
    repeat' sizeOf_list_dec
    refine ⟨meTy_lst get_app0 (by simp), ?_⟩
    repeat' sizeOf_list_dec
    have okA : ∀ n, okV n (.tup [.str "BadMany", w]) = true := fun n => by simp [okV, okVs, O.ok]
    have ok1 : okSt (s ++ [.lst [.tup [.str "BadMany", w]]]) := okSt_app hss (by
      intro c hc
      obtain rfl : c = .lst [.tup [.str "BadMany", w]] := by simpa using hc
      show okVs _ _ = true
      rw [okVs_mem]
      intro z hz
      obtain rfl : z = .tup [.str "BadMany", w] := by simpa using hz
      exact okA _)
    refine sp3x hro (fun K X x => ?_) ?_
    · refine clo_in (l := l5) rfl ?_
      dsimp only [l5]
      repeat' sizeOf_list_dec
      exact sp33x O.bad x
    repeat' sizeOf_list_dec
    refine append_w get_app0 (by simp [sizeLine]) ?_
    rw [set_app0]
    dsimp only [List.cons_append, List.nil_append, ro_tup]
    have ok2 : okSt (s ++ [.lst [.tup [.str "BadMany", w], .tup [.str "BadMany", w]]]) := okSt_app hss (by
      intro c hc
      obtain rfl : c = .lst [.tup [.str "BadMany", w], .tup [.str "BadMany", w]] := by simpa using hc
      show okVs _ _ = true
      rw [okVs_mem]
      intro z hz
      obtain rfl : z = .tup [.str "BadMany", w] := by simpa using hz
      exact okA _)
    generalize hs2 : s ++ [Cell.lst [.tup [.str "BadMany", w], .tup [.str "BadMany", w]]] = s2 at ok2
    have hg : s2[s.length]? = some (.lst [.tup [.str "BadMany", w], .tup [.str "BadMany", w]]) := by rw [← hs2]; exact get_app0
    have hsA : same s2 (.tup [.str "BadMany", w]) (.tup [.str "BadMany", w]) = true := same_told s2 (same_bm _) (O.same_ _)
    repeat' sizeOf_list_dec
    refine rep_w (m := 2) (by decide) ?_
    repeat' sizeOf_list_dec
    refine sp_same (w := 1) (o := .lst [.tup [.str "BadMany", w], .tup [.str "BadMany", w]]) rfl rfl ?_ ?_ rfl ok2 ?_
    · simp only [same, lstW, hg, sames]
      have := hsA
      simp only [same] at this
      simp only [this, Bool.and_self]
    · have := O.wt_
      simp only [wt, wts]
      omega
    repeat' sizeOf_list_dec
    have hl13 : (dialT 13).length = 13 := by unfold dialT; simp
    have nxt : ∀ v2, nx' [w, .loc s.length, v2] s2 := fun v2 => hn _ _ ⟨_, _, _, cs ++ [_], rfl, by rw [← hs2, hs, List.append_assoc], ok2⟩
    rcases O.at13 with h13 | ⟨hb, h13⟩
    · subst h13
      repeat' sizeOf_list_dec
      refine sp13 (t := 13) (by decide) (by decide) ok2 ?_
      repeat' sizeOf_list_dec
      refine sp3 (w := bookW (dialT 13) (dialB 13)) rfl (fun K X q => ?_) ?_
      · refine clo_in (l := l6) rfl ?_
        dsimp only [l6]
        repeat' sizeOf_list_dec
        exact sp22 (t := 13) (by decide) (by decide) q
      repeat' sizeOf_list_dec
      refine sp_same (w := 1) rfl rfl (same_told s2 (same_strs s2) (same_book s2 _ _)) ?_ rfl ok2 ?_
      · have := wt_book (ts := dialT 13) (p := dialP 13) (m := 13) (by omega) (by omega)
        simp only [wt, wts] at this ⊢
        unfold dialB
        omega
      repeat' sizeOf_list_dec
      exact nxt _
    · refine h13 ?_
      repeat' sizeOf_list_dec
      refine sp3x hro (fun K X x => ?_) ?_
      · refine clo_in (l := l6) rfl ?_
        dsimp only [l6]
        repeat' sizeOf_list_dec
        exact sp22x hb x
      repeat' sizeOf_list_dec
      refine sp_same (w := 1) rfl rfl hsA ?_ rfl ok2 ?_
      · have := O.wt_
        simp only [wt, wts]
        omega
      repeat' sizeOf_list_dec
      exact nxt _
  · rintro env s ⟨v0, v1, v2, cs, rfl, rfl, hss⟩
    refine ⟨rfl, ?_⟩
    repeat' sizeOf_list_dec
    exact ret_app rfl hst q
end
end K02

set_option maxRecDepth 100000
set_option maxHeartbeats 4000000
namespace K02
open PySem L2 Ev
set_option hygiene false
local macro_rules | `(tactic| array_mem_dec) => `(tactic| first | rfl | assumption | decide | omega | (focus (simp; done)))
local macro_rules | `(tactic| sizeOf_list_dec) => `(tactic| first
  | ((with_reducible apply wp_var); rfl; (first | assumption | (focus (intro h; cases h; done))))
  | (with_reducible refine wp_int ?_)
  | (with_reducible refine wpSs_cons ?_)
  | (with_reducible refine wpEs_cons ?_)
  | (with_reducible refine wpEs_nil ?_)
  | (with_reducible refine wpS_asg ?_)
  | (with_reducible refine wpS_ret ?_)
  | (with_reducible refine wpS_ite ?_)
  | (with_reducible refine wpS_for' ?_)
  | (with_reducible refine wpS_ex ?_)
  | (with_reducible refine wp_sub ?_)
  | (with_reducible refine wp_cmp ?_)
  | (with_reducible refine wp_bi ?_)
  | (with_reducible refine wp_call ?_)
  | (with_reducible refine wp_bin ?_)
  | (with_reducible refine wp_not ?_)
  | (with_reducible refine wp_isi ?_)
  | (with_reducible refine wp_meth ?_)
  | (with_reducible refine wp_tup ?_)
  | (with_reducible refine wp_lst ?_)
  | (with_reducible refine wp_band ?_)
  | (with_reducible refine wp_bor ?_)
  | (with_reducible refine wp_and1 ?_)
  | (with_reducible refine wp_and2 ?_)
  | (with_reducible refine wp_or1 ?_)
  | (with_reducible refine wp_or2 ?_)
  | (with_reducible refine wpS_asgT ?_)
  | (with_reducible refine wpS_asgS ?_)
  | (with_reducible refine wpSs_nil ?_)
  | (with_reducible refine ret_same ?_)
  | (with_reducible refine tru_bl ?_)
  | (with_reducible refine bl_of ?_)
  | ((with_reducible refine br_t ?_ ?_); (focus (first | exact rfl | assumption | (simp only [Bool.not_eq_true', Bool.not_eq_false', decide_eq_true_eq, decide_eq_false_iff_not, List.length_cons, List.length_nil, List.length_map, List.length_range]; omega))))
  | ((with_reducible refine br_f ?_ ?_); (focus (first | exact rfl | assumption | (simp only [Bool.not_eq_true', Bool.not_eq_false', decide_eq_true_eq, decide_eq_false_iff_not, List.length_cons, List.length_nil, List.length_map, List.length_range]; omega))))
  | (with_reducible refine wp_non ?_)
  | (with_reducible refine wp_bl ?_)
  | (with_reducible refine wp_str ?_)
  | (with_reducible refine wp_gfn ?_)
  | ((with_reducible apply wp_gcon); rfl)
  | (with_reducible refine wp_alloc ?_)
  | ((with_reducible refine alloc_tmp ?_); (intro _ _ hen hes; (try simp only [List.length_append, List.length_set, List.length_cons, List.length_nil, Nat.zero_add, Nat.add_assoc, Nat.reduceAdd] at hen); (try simp only [List.append_assoc, List.cons_append, List.nil_append] at hes); subst hen; subst hes))
  | ((with_reducible refine wp_dnewT ?_); (intro _ _ hen hes; (try simp only [List.length_append, List.length_set, List.length_cons, List.length_nil, Nat.zero_add, Nat.add_assoc, Nat.reduceAdd] at hen); (try simp only [List.append_assoc, List.cons_append, List.nil_append] at hes); subst hen; subst hes))
  | ((with_reducible refine wp_dnewK ?_); (intro _ _ hen hes; (try simp only [List.length_append, List.length_set, List.length_cons, List.length_nil, Nat.zero_add, Nat.add_assoc, Nat.reduceAdd] at hen); (try simp only [List.append_assoc, List.cons_append, List.nil_append] at hes); subst hen; subst hes))
  | (with_reducible refine wp_ife ?_)
  | (with_reducible refine wp_comp ?_)
  | (with_reducible refine wp_comp2 ?_)
  | (with_reducible refine wp_cmp2 ?_)
  | (with_reducible refine wp_neg ?_)
  | (with_reducible refine neg_int ?_)
  | (with_reducible refine wp_slice ?_)
  | (with_reducible refine wpO_none ?_)
  | (with_reducible refine wpO_some ?_)
  | (with_reducible refine opt_int ?_)
  | (with_reducible refine wp_rev ?_)
  | (with_reducible refine wpI_seq ?_)
  | (with_reducible refine wpI_rng1 ?_)
  | (with_reducible refine wpI_rng2 ?_)
  | (with_reducible refine wpI_enum ?_)
  | (with_reducible refine wpTs_nil ?_)
  | (with_reducible refine wpTs_one ?_)
  | (with_reducible refine wpS_par ?_)
  | (with_reducible refine wpS_pass ?_)
  | (with_reducible refine wpS_brk ?_)
  | (with_reducible refine wpS_cont ?_)
  | (with_reducible refine wpS_retN ?_)
  | (with_reducible refine wpS_tryN ?_)
  | (with_reducible refine wp_callL ?_)
  | ((with_reducible apply wp_callv); rfl; (focus (first | assumption | decide)))
  | ((with_reducible apply wp_callc); rfl)
  | ((with_reducible apply wp_callP); rfl)
  | ((with_reducible apply len_map); (focus assumption))
  | ((with_reducible apply len_w); (focus (first | rfl | assumption)))
  | ((with_reducible apply it_of); (focus (first | assumption | apply hth | rfl)); (focus (first | assumption | rfl)))
  | ((with_reducible apply eq_nil); (focus (first | rfl | assumption)))
  | ((with_reducible apply ne_nil); (focus (first | rfl | assumption)))
  | ((with_reducible refine rng1_int ?_ ?_ ?_); (focus omega); (focus omega))
  | ((with_reducible refine rng2_int ?_ ?_ ?_ ?_ ?_); (focus omega); (focus omega); (focus omega); (focus omega))
  | (with_reducible refine eq_ii ?_)
  | (with_reducible refine ne_ii ?_)
  | (with_reducible refine lt_ii ?_)
  | (with_reducible refine le_ii ?_)
  | (with_reducible refine gt_ii ?_)
  | (with_reducible refine ge_ii ?_)
  | (with_reducible refine add_ii ?_)
  | (with_reducible refine sub_ii ?_)
  | (with_reducible refine int_i ?_)
  | (with_reducible refine max_ii ?_)
  | (with_reducible refine min_ii ?_)
  | (with_reducible refine tuple_k ?_)
  | ((with_reducible apply is_non); (focus (first | rfl | assumption)))
  | ((with_reducible apply isnot_non); (focus (first | rfl | assumption)))
  | ((with_reducible apply isi_of); (focus (first | rfl | assumption)))
  | ((with_reducible refine And.intro ?_ ?_); (first | decide | (focus (simp [sizeLine]; done))); (intro _ he; (first | simp only [List.set, List.map_cons, List.map_nil, ro_int, ro_bl, ro_str, ro_non, ro_undef, ro_tup, ro_ktup, ro_lst, ro_tmp, ro_scr, ro_loc, ro_fn, hro, hro2] at he | simp only [List.set, List.map_cons, List.map_nil, ro_int, ro_bl, ro_str, ro_non, ro_undef, ro_tup, ro_ktup, ro_lst, ro_tmp, ro_scr, ro_loc, ro_fn, hro] at he | simp only [List.set, List.map_cons, List.map_nil, ro_int, ro_bl, ro_str, ro_non, ro_undef, ro_tup, ro_ktup, ro_lst, ro_tmp, ro_scr, ro_loc, ro_fn] at he | skip); subst he))
  | ((with_reducible intro _ he); (first | simp only [List.set, List.map_cons, List.map_nil, ro_int, ro_bl, ro_str, ro_non, ro_undef, ro_tup, ro_ktup, ro_lst, ro_tmp, ro_scr, ro_loc, ro_fn, hro, hro2] at he | simp only [List.set, List.map_cons, List.map_nil, ro_int, ro_bl, ro_str, ro_non, ro_undef, ro_tup, ro_ktup, ro_lst, ro_tmp, ro_scr, ro_loc, ro_fn, hro] at he | simp only [List.set, List.map_cons, List.map_nil, ro_int, ro_bl, ro_str, ro_non, ro_undef, ro_tup, ro_ktup, ro_lst, ro_tmp, ro_scr, ro_loc, ro_fn] at he | skip); subst he)
  | ((with_reducible apply bind_of); (focus ((first | simp only [bindT, bindTs, seqW, isScr, ro_int, ro_bl, ro_str, ro_non, ro_undef, ro_tup, ro_ktup, ro_lst, ro_tmp, ro_scr, ro_loc, ro_fn, hro, hro2, wipeW, List.set, List.length_cons, List.length_nil, Bool.false_eq_true, if_false, if_true, Nat.reduceAdd, Nat.reduceLT, ↓reduceIte] | simp only [bindT, bindTs, seqW, isScr, ro_int, ro_bl, ro_str, ro_non, ro_undef, ro_tup, ro_ktup, ro_lst, ro_tmp, ro_scr, ro_loc, ro_fn, hro, wipeW, List.set, List.length_cons, List.length_nil, Bool.false_eq_true, if_false, if_true, Nat.reduceAdd, Nat.reduceLT, ↓reduceIte] | simp only [bindT, bindTs, seqW, isScr, ro_int, ro_bl, ro_str, ro_non, ro_undef, ro_tup, ro_ktup, ro_lst, ro_tmp, ro_scr, ro_loc, ro_fn, wipeW, List.set, List.length_cons, List.length_nil, Bool.false_eq_true, if_false, if_true, Nat.reduceAdd, Nat.reduceLT, ↓reduceIte]); rfl)))
  | ((with_reducible apply binds_of); (focus ((first | simp only [List.map_cons, List.map_nil, bindT, bindTs, seqW, isScr, ro_int, ro_bl, ro_str, ro_non, ro_undef, ro_tup, ro_ktup, ro_lst, ro_tmp, ro_scr, ro_loc, ro_fn, hro, hro2, wipeW, List.set, List.length_cons, List.length_nil, Bool.false_eq_true, if_false, if_true, Nat.reduceAdd, Nat.reduceLT, ↓reduceIte] | simp only [List.map_cons, List.map_nil, bindT, bindTs, seqW, isScr, ro_int, ro_bl, ro_str, ro_non, ro_undef, ro_tup, ro_ktup, ro_lst, ro_tmp, ro_scr, ro_loc, ro_fn, hro, wipeW, List.set, List.length_cons, List.length_nil, Bool.false_eq_true, if_false, if_true, Nat.reduceAdd, Nat.reduceLT, ↓reduceIte] | simp only [List.map_cons, List.map_nil, bindT, bindTs, seqW, isScr, ro_int, ro_bl, ro_str, ro_non, ro_undef, ro_tup, ro_ktup, ro_lst, ro_tmp, ro_scr, ro_loc, ro_fn, wipeW, List.set, List.length_cons, List.length_nil, Bool.false_eq_true, if_false, if_true, Nat.reduceAdd, Nat.reduceLT, ↓reduceIte]); rfl))))
local macro_rules | `(tactic| array_get_dec) => `(tactic| first
  | ((with_reducible apply wp_var); rfl; (first | assumption | (focus (intro h; cases h; done))))
  | (with_reducible refine wp_int ?_)
  | (with_reducible refine wpSs_cons ?_)
  | (with_reducible refine wpEs_cons ?_)
  | (with_reducible refine wpEs_nil ?_)
  | (with_reducible refine wpS_asg ?_)
  | (with_reducible refine wpS_ret ?_)
  | (with_reducible refine wpS_ite ?_)
  | (with_reducible refine wpS_for' ?_)
  | (with_reducible refine wpS_ex ?_)
  | (with_reducible refine wp_sub ?_)
  | (with_reducible refine wp_cmp ?_)
  | (with_reducible refine wp_bi ?_)
  | (with_reducible refine wp_call ?_)
  | (with_reducible refine wp_bin ?_)
  | (with_reducible refine wp_not ?_)
  | (with_reducible refine wp_isi ?_)
  | (with_reducible refine wp_meth ?_)
  | (with_reducible refine wp_tup ?_)
  | (with_reducible refine wp_lst ?_)
  | (with_reducible refine wp_and1 ?_)
  | (with_reducible refine wp_and2 ?_)
  | (with_reducible refine wp_or1 ?_)
  | (with_reducible refine wp_or2 ?_)
  | (with_reducible refine wpS_asgT ?_)
  | (with_reducible refine wpS_asgS ?_)
  | (with_reducible refine wpSs_nil ?_)
  | (with_reducible refine ret_same ?_)
  | (with_reducible refine tru_bl ?_)
  | (with_reducible refine bl_of ?_)
  | ((with_reducible refine br_t ?_ ?_); (focus (first | exact rfl | assumption | (simp only [Bool.not_eq_true', Bool.not_eq_false', decide_eq_true_eq, decide_eq_false_iff_not, List.length_cons, List.length_nil, List.length_map, List.length_range]; omega))))
  | ((with_reducible refine br_f ?_ ?_); (focus (first | exact rfl | assumption | (simp only [Bool.not_eq_true', Bool.not_eq_false', decide_eq_true_eq, decide_eq_false_iff_not, List.length_cons, List.length_nil, List.length_map, List.length_range]; omega))))
  | (with_reducible refine wp_non ?_)
  | (with_reducible refine wp_bl ?_)
  | (with_reducible refine wp_str ?_)
  | (with_reducible refine wp_gfn ?_)
  | ((with_reducible apply wp_gcon); rfl)
  | (with_reducible refine wp_alloc ?_)
  | ((with_reducible refine alloc_tmp ?_); (intro _ _ hen hes; (try simp only [List.length_append, List.length_set, List.length_cons, List.length_nil, Nat.zero_add, Nat.add_assoc, Nat.reduceAdd] at hen); (try simp only [List.append_assoc, List.cons_append, List.nil_append] at hes); subst hen; subst hes))
  | ((with_reducible refine wp_dnewT ?_); (intro _ _ hen hes; (try simp only [List.length_append, List.length_set, List.length_cons, List.length_nil, Nat.zero_add, Nat.add_assoc, Nat.reduceAdd] at hen); (try simp only [List.append_assoc, List.cons_append, List.nil_append] at hes); subst hen; subst hes))
  | ((with_reducible refine wp_dnewK ?_); (intro _ _ hen hes; (try simp only [List.length_append, List.length_set, List.length_cons, List.length_nil, Nat.zero_add, Nat.add_assoc, Nat.reduceAdd] at hen); (try simp only [List.append_assoc, List.cons_append, List.nil_append] at hes); subst hen; subst hes))
  | (with_reducible refine wp_ife ?_)
  | (with_reducible refine wp_comp ?_)
  | (with_reducible refine wp_comp2 ?_)
  | (with_reducible refine wp_cmp2 ?_)
  | (with_reducible refine wp_neg ?_)
  | (with_reducible refine neg_int ?_)
  | (with_reducible refine wp_slice ?_)
  | (with_reducible refine wpO_none ?_)
  | (with_reducible refine wpO_some ?_)
  | (with_reducible refine opt_int ?_)
  | (with_reducible refine wp_rev ?_)
  | (with_reducible refine wpI_seq ?_)
  | (with_reducible refine wpI_rng1 ?_)
  | (with_reducible refine wpI_rng2 ?_)
  | (with_reducible refine wpI_enum ?_)
  | (with_reducible refine wpTs_nil ?_)
  | (with_reducible refine wpTs_one ?_)
  | (with_reducible refine wpS_par ?_)
  | (with_reducible refine wpS_pass ?_)
  | (with_reducible refine wpS_brk ?_)
  | (with_reducible refine wpS_cont ?_)
  | (with_reducible refine wpS_retN ?_)
  | (with_reducible refine wpS_tryN ?_)
  | (with_reducible refine wp_callL ?_)
  | ((with_reducible apply wp_callv); rfl; (focus (first | assumption | decide)))
  | ((with_reducible apply wp_callc); rfl)
  | ((with_reducible apply wp_callP); rfl)
  | ((with_reducible apply len_map); (focus assumption))
  | ((with_reducible apply len_w); (focus (first | rfl | assumption)))
  | ((with_reducible apply it_of); (focus (first | assumption | apply hth | rfl)); (focus (first | assumption | rfl)))
  | ((with_reducible apply eq_nil); (focus (first | rfl | assumption)))
  | ((with_reducible apply ne_nil); (focus (first | rfl | assumption)))
  | ((with_reducible refine rng1_int ?_ ?_ ?_); (focus omega); (focus omega))
  | ((with_reducible refine rng2_int ?_ ?_ ?_ ?_ ?_); (focus omega); (focus omega); (focus omega); (focus omega))
  | (with_reducible refine eq_ii ?_)
  | (with_reducible refine ne_ii ?_)
  | (with_reducible refine lt_ii ?_)
  | (with_reducible refine le_ii ?_)
  | (with_reducible refine gt_ii ?_)
  | (with_reducible refine ge_ii ?_)
  | (with_reducible refine add_ii ?_)
  | (with_reducible refine sub_ii ?_)
  | (with_reducible refine int_i ?_)
  | (with_reducible refine max_ii ?_)
  | (with_reducible refine min_ii ?_)
  | (with_reducible refine tuple_k ?_)
  | ((with_reducible apply is_non); (focus (first | rfl | assumption)))
  | ((with_reducible apply isnot_non); (focus (first | rfl | assumption)))
  | ((with_reducible apply isi_of); (focus (first | rfl | assumption)))
  | ((with_reducible refine And.intro ?_ ?_); (first | decide | (focus (simp [sizeLine]; done))); (intro _ he; (first | simp only [List.set, List.map_cons, List.map_nil, ro_int, ro_bl, ro_str, ro_non, ro_undef, ro_tup, ro_ktup, ro_lst, ro_tmp, ro_scr, ro_loc, ro_fn, hro, hro2] at he | simp only [List.set, List.map_cons, List.map_nil, ro_int, ro_bl, ro_str, ro_non, ro_undef, ro_tup, ro_ktup, ro_lst, ro_tmp, ro_scr, ro_loc, ro_fn, hro] at he | simp only [List.set, List.map_cons, List.map_nil, ro_int, ro_bl, ro_str, ro_non, ro_undef, ro_tup, ro_ktup, ro_lst, ro_tmp, ro_scr, ro_loc, ro_fn] at he | skip); subst he))
  | ((with_reducible intro _ he); (first | simp only [List.set, List.map_cons, List.map_nil, ro_int, ro_bl, ro_str, ro_non, ro_undef, ro_tup, ro_ktup, ro_lst, ro_tmp, ro_scr, ro_loc, ro_fn, hro, hro2] at he | simp only [List.set, List.map_cons, List.map_nil, ro_int, ro_bl, ro_str, ro_non, ro_undef, ro_tup, ro_ktup, ro_lst, ro_tmp, ro_scr, ro_loc, ro_fn, hro] at he | simp only [List.set, List.map_cons, List.map_nil, ro_int, ro_bl, ro_str, ro_non, ro_undef, ro_tup, ro_ktup, ro_lst, ro_tmp, ro_scr, ro_loc, ro_fn] at he | skip); subst he)
  | ((with_reducible apply bind_of); (focus ((first | simp only [bindT, bindTs, seqW, isScr, ro_int, ro_bl, ro_str, ro_non, ro_undef, ro_tup, ro_ktup, ro_lst, ro_tmp, ro_scr, ro_loc, ro_fn, hro, hro2, wipeW, List.set, List.length_cons, List.length_nil, Bool.false_eq_true, if_false, if_true, Nat.reduceAdd, Nat.reduceLT, ↓reduceIte] | simp only [bindT, bindTs, seqW, isScr, ro_int, ro_bl, ro_str, ro_non, ro_undef, ro_tup, ro_ktup, ro_lst, ro_tmp, ro_scr, ro_loc, ro_fn, hro, wipeW, List.set, List.length_cons, List.length_nil, Bool.false_eq_true, if_false, if_true, Nat.reduceAdd, Nat.reduceLT, ↓reduceIte] | simp only [bindT, bindTs, seqW, isScr, ro_int, ro_bl, ro_str, ro_non, ro_undef, ro_tup, ro_ktup, ro_lst, ro_tmp, ro_scr, ro_loc, ro_fn, wipeW, List.set, List.length_cons, List.length_nil, Bool.false_eq_true, if_false, if_true, Nat.reduceAdd, Nat.reduceLT, ↓reduceIte]); rfl)))
  | ((with_reducible apply binds_of); (focus ((first | simp only [List.map_cons, List.map_nil, bindT, bindTs, seqW, isScr, ro_int, ro_bl, ro_str, ro_non, ro_undef, ro_tup, ro_ktup, ro_lst, ro_tmp, ro_scr, ro_loc, ro_fn, hro, hro2, wipeW, List.set, List.length_cons, List.length_nil, Bool.false_eq_true, if_false, if_true, Nat.reduceAdd, Nat.reduceLT, ↓reduceIte] | simp only [List.map_cons, List.map_nil, bindT, bindTs, seqW, isScr, ro_int, ro_bl, ro_str, ro_non, ro_undef, ro_tup, ro_ktup, ro_lst, ro_tmp, ro_scr, ro_loc, ro_fn, hro, wipeW, List.set, List.length_cons, List.length_nil, Bool.false_eq_true, if_false, if_true, Nat.reduceAdd, Nat.reduceLT, ↓reduceIte] | simp only [List.map_cons, List.map_nil, bindT, bindTs, seqW, isScr, ro_int, ro_bl, ro_str, ro_non, ro_undef, ro_tup, ro_ktup, ro_lst, ro_tmp, ro_scr, ro_loc, ro_fn, wipeW, List.set, List.length_cons, List.length_nil, Bool.false_eq_true, if_false, if_true, Nat.reduceAdd, Nat.reduceLT, ↓reduceIte]); rfl))))
theorem ne_told {st : Store} {B : Bool → Prop} (q : B false) : cmpW st .NotEq (.str "told") (.str "told") B := .inl ⟨_, _, rfl, rfl, by decide +kernel, by decide +kernel, by rw [show PyData.eqv (toD (.str "told")) (toD (.str "told")) = true from by decide +kernel]; exact q⟩
/-- the jar's cell -/
abbrev jarC (a b c : Int) : Cell := .lst [.int a, .int b, .int c]
section
variable {d : Nat} {st : Store} {Q : Post} {X : XPost}
theorem take_n {n m : Nat} {a b c : Int} (hj : st[n]? = some (jarC a b c)) (hm : 0 < m) (hm2 : m ≤ 1000) (q : ∀ (r : Nat) (a' b' c' : Int), r < m → Q (nW r) (st.set n (jarC a' b' c'))) : (callW P (d + 1)).fn 11 none [.loc n, nW m] st Q X := by
  refine sp_take (t := 11) rfl hj (by omega) (by omega) fun r a' b' c' h0 h1 => ?_
  have := q r.toNat a' b' c' (by omega)
  have e : nW r.toNat = .int r := by
    show W.int _ = _
    rw [Int.toNat_of_nonneg h0]
  rwa [e] at this
/-- so many are drawn, a comprehension -/
theorem draws_w {C : CallSem} {own : List (Str × Nat)} {elt : E} {tg : Tg} {env : Ev.Env} {n k m : Nat} {a b c : Int} {guard : Store → Prop} {K : List W → Store → Prop} {items : List W} (hi : items = (List.range k).map nW) (hj : st[n]? = some (jarC a b c)) (hk : k ≤ 1000) (hg : ∀ s, guard s)
    (ht : ∀ (i : Nat) (a b c : Int) (Q : Post), (∀ (r : Nat) (a' b' c' : Int) (w : W), r < m → ro w = nW r → Q w (st.set n (jarC a' b' c'))) → ∃ env2, bindT (st.set n (jarC a b c)) tg (nW i) (wipeW env (own.map (·.2))) = some env2 ∧ wpE C P ⟨none, none⟩ elt env2 (st.set n (jarC a b c)) Q noX)
    (q : ∀ (rs : List Nat) (a' b' c' : Int), rs.length = k → (∀ r ∈ rs, r < m) → K (rs.map nW) (st.set n (jarC a' b' c'))) : wpComp (compT C P own elt tg [] env) guard items [] st K := by
  subst hi
  have h0 : st = st.set n (jarC a b c) := by
    obtain ⟨hl, e⟩ := List.getElem?_eq_some_iff.mp hj
    refine List.ext_getElem? fun i => ?_
    by_cases h : n = i
    · subst h; rw [List.getElem?_set_self hl, hj]
    · rw [List.getElem?_set_ne h]
  refine comp_inv ((List.range k).map nW) (fun i acc s => ∃ (rs : List Nat) (a b c : Int), acc = rs.map nW ∧ rs.length = i ∧ (∀ r ∈ rs, r < m) ∧ s = st.set n (jarC a b c)) ?_ ?_ ⟨[], a, b, c, rfl, rfl, by simp, h0⟩
  · rintro i x acc s K ht2 ⟨rs, a, b, c, rfl, hl, hr, rfl⟩ hK
    rw [List.getElem?_map] at ht2
    obtain ⟨y, hy, rfl⟩ := Option.map_eq_some_iff.mp ht2
    have hi := (range_at hy).2
    obtain ⟨env2, e1, e2⟩ := ht y a b c (fun w st7 => (rs.map nW).length < sizeLine ∧ K ((rs.map nW) ++ [ro w]) st7) fun r a' b' c' w hr' hw => by
      refine ⟨by rw [List.length_map, hl]; exact Nat.lt_of_lt_of_le (show i < 1001 by omega) (by decide), ?_⟩
      rw [hw]
      refine hK _ _ ⟨rs ++ [r], a', b', c', by rw [List.map_append]; rfl, by simp [hl], ?_, rfl⟩
      intro z hz
      rcases List.mem_append.mp hz with hz | hz
      · exact hr z hz
      · obtain rfl : z = r := by simpa using hz
        exact hr'
    refine ⟨hg _, env2, e1, wpTs_nil ?_⟩
    rw [if_pos rfl]
    exact e2
  · rintro acc s ⟨rs, a, b, c, rfl, hl, hr, rfl⟩
    refine ⟨hg _, q rs a b c (by simpa using hl) hr⟩
theorem emod_nat {x : Int} {t : Nat} (ht : 0 < t) : ∃ k : Nat, x % (t : Int) = (k : Int) ∧ k < t := by
  have h1 := Int.emod_nonneg x (show (t : Int) ≠ 0 by omega)
  have h2 := Int.emod_lt_of_pos x (show (0 : Int) < t by omega)
  exact ⟨(x % (t : Int)).toNat, (Int.toNat_of_nonneg h1).symm, by omega⟩
theorem dial_in {t i j k : Nat} {x y z : Nat} (h1 : ((y : Int) - x) % (t : Int) = (i : Int)) (h2 : ((z : Int) - y) % (t : Int) = (j : Int)) (h3 : ((z : Int) - x) % (t : Int) = (k : Int)) : dialP t i j k = true := by
  unfold dialP
  simp only [decide_eq_true_eq]
  have : ((k : Nat) : Int) = (((i + j) % t : Nat) : Int) := by
    rw [Int.natCast_emod, Int.natCast_add, ← h1, ← h2, ← h3, ← Int.add_emod]
    congr 1
    omega
  omega
theorem sp39 {n t : Nat} {a b c : Int} (h1 : 1 ≤ t) (h2 : t ≤ 12) (hj : st[n]? = some (jarC a b c)) (hst : okSt st) (q : ∀ a' b' c' : Int, Q (.bl true) (st.set n (jarC a' b' c'))) : (callW P (d + 12)).fn 39 none [.loc n, nW t] st Q X := by
  refine fn_in (env := [.loc n, nW t, .undef, .undef, .undef, .undef, .undef, .undef, .undef, .undef, .undef]) (f := f39) rfl rfl rfl rfl ?_
  dsimp only [f39]
  have hl : (List.range (t + 1)).length = t + 1 := List.length_range
  have hdl : (dialT t).length = t := by unfold dialT; simp
  repeat' sizeOf_list_dec
  refine sp3 (w := bookW (List.range (t + 1)) (farB t)) rfl (fun K X q => ?_) ?_
  · refine clo_in (l := l7) rfl ?_
    dsimp only [l7]
    repeat' sizeOf_list_dec
    exact sp35 h1 h2 q
  repeat' sizeOf_list_dec
  refine sp3 (w := bookW (dialT t) (dialB t)) rfl (fun K X q => ?_) ?_
  · refine clo_in (l := l8) rfl ?_
    dsimp only [l8]
    repeat' sizeOf_list_dec
    exact sp22 h1 (by omega) q
  repeat' sizeOf_list_dec
  refine ne_told ?_
  repeat' sizeOf_list_dec
  refine ne_told ?_
  repeat' sizeOf_list_dec
  have h0 : st = st.set n (jarC a b c) := by
    obtain ⟨hl, e⟩ := List.getElem?_eq_some_iff.mp hj
    refine List.ext_getElem? fun i => ?_
    by_cases h : n = i
    · subst h; rw [List.getElem?_set_self hl, hj]
    · rw [List.getElem?_set_ne h]
  generalize hbf : W.tup [lotW (List.range (t + 1)), W.tup (List.map rowW (farB t))] = bf
  generalize hbd : W.tup [lotW (dialT t), W.tup (List.map rowW (dialB t))] = bd
  have uf : bf ≠ .undef := by rw [← hbf]; intro h; cases h
  have ud : bd ≠ .undef := by rw [← hbd]; intro h; cases h
  have hro : ro bf = bf := by rw [← hbf]; rfl
  have hro2 : ro bd = bd := by rw [← hbd]; rfl
  refine for_ty (List.range 6) nW (rangeW_nat 6) (fun i env s => ∃ v2 v7 v8 v9 a b c, env = [.loc n, nW t, v2, .str "told", bf, .str "told", bd, v7, v8, v9, .undef] ∧ s = st.set n (jarC a b c)) ⟨_, _, _, _, a, b, c, rfl, h0⟩ ?_ ?_
  · rintro i x env s nx' hx ⟨v2, v7, v8, v9, a, b, c, rfl, rfl⟩ hn
    refine ⟨trivial, ?_⟩
    repeat' sizeOf_list_dec
    refine draws_w (n := n) (k := 3) (m := t + 1) (a := a) (b := b) (c := c) (rangeW_nat 3) (set_get hj) (by decide) (fun _ => trivial) (fun i a b c Q hQ => ⟨_, rfl, ?_⟩) fun rs a' b' c' hrl hr => ?_
    · rw [List.set_set]
      repeat' sizeOf_list_dec
      refine take_n (m := t + 1) (set_get hj) (by omega) (by omega) fun r a' b' c' hr => ?_
      rw [List.set_set]
      have := hQ r a' b' c' (nW r) hr rfl
      rwa [List.set_set] at this
    rw [List.set_set]
    match rs, hrl with
    | [x, y, z], _ =>
    have hx := hr x (by simp)
    have hy := hr y (by simp)
    have hz := hr z (by simp)
    simp only [List.map_cons, List.map_nil]
    repeat' sizeOf_list_dec
    have e : ∀ u v : Nat, max ((u : Int) - (v : Int)) ((v : Int) - (u : Int)) = (((u - v) + (v - u) : Nat) : Int) := fun u v => by omega
    rw [e x y, e y z, e x z]
    rw [← hbf]
    refine sp38 (a := (x - y) + (y - x)) (b := (y - z) + (z - y)) (c := (x - z) + (z - x)) (far_book h1 h2) (by omega) (by omega) ((mem_lots (by omega) (by omega)).mpr ⟨by omega, ?_⟩) ?_
    · unfold farP
      simp only [decide_eq_true_eq]
      omega
    rw [hbf]
    repeat' sizeOf_list_dec
    refine mod_ii (by omega) ?_
    repeat' sizeOf_list_dec
    refine mod_ii (by omega) ?_
    repeat' sizeOf_list_dec
    refine mod_ii (by omega) ?_
    repeat' sizeOf_list_dec
    obtain ⟨i1, g1, l1⟩ := emod_nat (x := (y : Int) - x) (t := t) (by omega)
    obtain ⟨i2, g2, l2⟩ := emod_nat (x := (z : Int) - y) (t := t) (by omega)
    obtain ⟨i3, g3, l3⟩ := emod_nat (x := (z : Int) - x) (t := t) (by omega)
    rw [g1, g2, g3, ← hbd]
    refine sp38 (dial_book h1 (by omega)) (by omega) (by omega) ((mem_lots l1 l2).mpr ⟨l3, dial_in g1 g2 g3⟩) ?_
    rw [hbd]
    repeat' sizeOf_list_dec
    exact hn _ _ ⟨_, _, _, _, _, _, _, rfl, rfl⟩
  · rintro env s ⟨v2, v7, v8, v9, a, b, c, rfl, rfl⟩
    refine ⟨trivial, ?_⟩
    repeat' sizeOf_list_dec
    exact .inl (q _ _ _)
end
end K02

set_option maxRecDepth 100000
set_option maxHeartbeats 4000000
namespace K02
open PySem L2 Ev
set_option hygiene false
local macro_rules | `(tactic| array_mem_dec) => `(tactic| first | rfl | assumption | decide | omega | (focus (simp; done)))
local macro_rules | `(tactic| sizeOf_list_dec) => `(tactic| first
  | ((with_reducible apply wp_var); rfl; (first | assumption | (focus (intro h; cases h; done))))
  | (with_reducible refine wp_int ?_)
  | (with_reducible refine wpSs_cons ?_)
  | (with_reducible refine wpEs_cons ?_)
  | (with_reducible refine wpEs_nil ?_)
  | (with_reducible refine wpS_asg ?_)
  | (with_reducible refine wpS_ret ?_)
  | (with_reducible refine wpS_ite ?_)
  | (with_reducible refine wpS_for' ?_)
  | (with_reducible refine wpS_ex ?_)
  | (with_reducible refine wp_sub ?_)
  | (with_reducible refine wp_cmp ?_)
  | (with_reducible refine wp_bi ?_)
  | (with_reducible refine wp_call ?_)
  | (with_reducible refine wp_bin ?_)
  | (with_reducible refine wp_not ?_)
  | (with_reducible refine wp_isi ?_)
  | (with_reducible refine wp_meth ?_)
  | (with_reducible refine wp_tup ?_)
  | (with_reducible refine wp_lst ?_)
  | (with_reducible refine wp_band ?_)
  | (with_reducible refine wp_bor ?_)
  | (with_reducible refine wp_and1 ?_)
  | (with_reducible refine wp_and2 ?_)
  | (with_reducible refine wp_or1 ?_)
  | (with_reducible refine wp_or2 ?_)
  | (with_reducible refine wpS_asgT ?_)
  | (with_reducible refine wpS_asgS ?_)
  | (with_reducible refine wpSs_nil ?_)
  | (with_reducible refine ret_same ?_)
  | (with_reducible refine tru_bl ?_)
  | (with_reducible refine bl_of ?_)
  | ((with_reducible refine br_t ?_ ?_); (focus (first | exact rfl | assumption | (simp only [Bool.not_eq_true', Bool.not_eq_false', decide_eq_true_eq, decide_eq_false_iff_not, List.length_cons, List.length_nil, List.length_map, List.length_range]; omega))))
  | ((with_reducible refine br_f ?_ ?_); (focus (first | exact rfl | assumption | (simp only [Bool.not_eq_true', Bool.not_eq_false', decide_eq_true_eq, decide_eq_false_iff_not, List.length_cons, List.length_nil, List.length_map, List.length_range]; omega))))
  | (with_reducible refine wp_non ?_)
  | (with_reducible refine wp_bl ?_)
  | (with_reducible refine wp_str ?_)
  | (with_reducible refine wp_gfn ?_)
  | ((with_reducible apply wp_gcon); rfl)
  | (with_reducible refine wp_alloc ?_)
  | ((with_reducible refine alloc_tmp ?_); (intro _ _ hen hes; (try simp only [List.length_append, List.length_set, List.length_cons, List.length_nil, Nat.zero_add, Nat.add_assoc, Nat.reduceAdd] at hen); (try simp only [List.append_assoc, List.cons_append, List.nil_append] at hes); subst hen; subst hes))
  | ((with_reducible refine wp_dnewT ?_); (intro _ _ hen hes; (try simp only [List.length_append, List.length_set, List.length_cons, List.length_nil, Nat.zero_add, Nat.add_assoc, Nat.reduceAdd] at hen); (try simp only [List.append_assoc, List.cons_append, List.nil_append] at hes); subst hen; subst hes))
  | ((with_reducible refine wp_dnewK ?_); (intro _ _ hen hes; (try simp only [List.length_append, List.length_set, List.length_cons, List.length_nil, Nat.zero_add, Nat.add_assoc, Nat.reduceAdd] at hen); (try simp only [List.append_assoc, List.cons_append, List.nil_append] at hes); subst hen; subst hes))
  | (with_reducible refine wp_ife ?_)
  | (with_reducible refine wp_comp ?_)
  | (with_reducible refine wp_comp2 ?_)
  | (with_reducible refine wp_cmp2 ?_)
  | (with_reducible refine wp_neg ?_)
  | (with_reducible refine neg_int ?_)
  | (with_reducible refine wp_slice ?_)
  | (with_reducible refine wpO_none ?_)
  | (with_reducible refine wpO_some ?_)
  | (with_reducible refine opt_int ?_)
  | (with_reducible refine wp_rev ?_)
  | (with_reducible refine wpI_seq ?_)
  | (with_reducible refine wpI_rng1 ?_)
  | (with_reducible refine wpI_rng2 ?_)
  | (with_reducible refine wpI_enum ?_)
  | (with_reducible refine wpTs_nil ?_)
  | (with_reducible refine wpTs_one ?_)
  | (with_reducible refine wpS_par ?_)
  | (with_reducible refine wpS_pass ?_)
  | (with_reducible refine wpS_brk ?_)
  | (with_reducible refine wpS_cont ?_)
  | (with_reducible refine wpS_retN ?_)
  | (with_reducible refine wpS_tryN ?_)
  | (with_reducible refine wp_callL ?_)
  | ((with_reducible apply wp_callv); rfl; (focus (first | assumption | decide)))
  | ((with_reducible apply wp_callc); rfl)
  | ((with_reducible apply wp_callP); rfl)
  | ((with_reducible apply len_map); (focus assumption))
  | ((with_reducible apply len_w); (focus (first | rfl | assumption)))
  | ((with_reducible apply it_of); (focus (first | assumption | apply hth | rfl)); (focus (first | assumption | rfl)))
  | ((with_reducible apply eq_nil); (focus (first | rfl | assumption)))
  | ((with_reducible apply ne_nil); (focus (first | rfl | assumption)))
  | ((with_reducible refine rng1_int ?_ ?_ ?_); (focus omega); (focus omega))
  | ((with_reducible refine rng2_int ?_ ?_ ?_ ?_ ?_); (focus omega); (focus omega); (focus omega); (focus omega))
  | (with_reducible refine eq_ii ?_)
  | (with_reducible refine ne_ii ?_)
  | (with_reducible refine lt_ii ?_)
  | (with_reducible refine le_ii ?_)
  | (with_reducible refine gt_ii ?_)
  | (with_reducible refine ge_ii ?_)
  | (with_reducible refine add_ii ?_)
  | (with_reducible refine sub_ii ?_)
  | (with_reducible refine int_i ?_)
  | (with_reducible refine max_ii ?_)
  | (with_reducible refine min_ii ?_)
  | (with_reducible refine tuple_k ?_)
  | ((with_reducible apply is_non); (focus (first | rfl | assumption)))
  | ((with_reducible apply isnot_non); (focus (first | rfl | assumption)))
  | ((with_reducible apply isi_of); (focus (first | rfl | assumption)))
  | ((with_reducible refine And.intro ?_ ?_); (first | decide | (focus (simp [sizeLine]; done))); (intro _ he; (first | simp only [List.set, List.map_cons, List.map_nil, ro_int, ro_bl, ro_str, ro_non, ro_undef, ro_tup, ro_ktup, ro_lst, ro_tmp, ro_scr, ro_loc, ro_fn, hro, hro2] at he | simp only [List.set, List.map_cons, List.map_nil, ro_int, ro_bl, ro_str, ro_non, ro_undef, ro_tup, ro_ktup, ro_lst, ro_tmp, ro_scr, ro_loc, ro_fn, hro] at he | simp only [List.set, List.map_cons, List.map_nil, ro_int, ro_bl, ro_str, ro_non, ro_undef, ro_tup, ro_ktup, ro_lst, ro_tmp, ro_scr, ro_loc, ro_fn] at he | skip); subst he))
  | ((with_reducible intro _ he); (first | simp only [List.set, List.map_cons, List.map_nil, ro_int, ro_bl, ro_str, ro_non, ro_undef, ro_tup, ro_ktup, ro_lst, ro_tmp, ro_scr, ro_loc, ro_fn, hro, hro2] at he | simp only [List.set, List.map_cons, List.map_nil, ro_int, ro_bl, ro_str, ro_non, ro_undef, ro_tup, ro_ktup, ro_lst, ro_tmp, ro_scr, ro_loc, ro_fn, hro] at he | simp only [List.set, List.map_cons, List.map_nil, ro_int, ro_bl, ro_str, ro_non, ro_undef, ro_tup, ro_ktup, ro_lst, ro_tmp, ro_scr, ro_loc, ro_fn] at he | skip); subst he)
  | ((with_reducible apply bind_of); (focus ((first | simp only [bindT, bindTs, seqW, isScr, ro_int, ro_bl, ro_str, ro_non, ro_undef, ro_tup, ro_ktup, ro_lst, ro_tmp, ro_scr, ro_loc, ro_fn, hro, hro2, wipeW, List.set, List.length_cons, List.length_nil, Bool.false_eq_true, if_false, if_true, Nat.reduceAdd, Nat.reduceLT, ↓reduceIte] | simp only [bindT, bindTs, seqW, isScr, ro_int, ro_bl, ro_str, ro_non, ro_undef, ro_tup, ro_ktup, ro_lst, ro_tmp, ro_scr, ro_loc, ro_fn, hro, wipeW, List.set, List.length_cons, List.length_nil, Bool.false_eq_true, if_false, if_true, Nat.reduceAdd, Nat.reduceLT, ↓reduceIte] | simp only [bindT, bindTs, seqW, isScr, ro_int, ro_bl, ro_str, ro_non, ro_undef, ro_tup, ro_ktup, ro_lst, ro_tmp, ro_scr, ro_loc, ro_fn, wipeW, List.set, List.length_cons, List.length_nil, Bool.false_eq_true, if_false, if_true, Nat.reduceAdd, Nat.reduceLT, ↓reduceIte]); rfl)))
  | ((with_reducible apply binds_of); (focus ((first | simp only [List.map_cons, List.map_nil, bindT, bindTs, seqW, isScr, ro_int, ro_bl, ro_str, ro_non, ro_undef, ro_tup, ro_ktup, ro_lst, ro_tmp, ro_scr, ro_loc, ro_fn, hro, hro2, wipeW, List.set, List.length_cons, List.length_nil, Bool.false_eq_true, if_false, if_true, Nat.reduceAdd, Nat.reduceLT, ↓reduceIte] | simp only [List.map_cons, List.map_nil, bindT, bindTs, seqW, isScr, ro_int, ro_bl, ro_str, ro_non, ro_undef, ro_tup, ro_ktup, ro_lst, ro_tmp, ro_scr, ro_loc, ro_fn, hro, wipeW, List.set, List.length_cons, List.length_nil, Bool.false_eq_true, if_false, if_true, Nat.reduceAdd, Nat.reduceLT, ↓reduceIte] | simp only [List.map_cons, List.map_nil, bindT, bindTs, seqW, isScr, ro_int, ro_bl, ro_str, ro_non, ro_undef, ro_tup, ro_ktup, ro_lst, ro_tmp, ro_scr, ro_loc, ro_fn, wipeW, List.set, List.length_cons, List.length_nil, Bool.false_eq_true, if_false, if_true, Nat.reduceAdd, Nat.reduceLT, ↓reduceIte]); rfl))))
local macro_rules | `(tactic| array_get_dec) => `(tactic| first
  | ((with_reducible apply wp_var); rfl; (first | assumption | (focus (intro h; cases h; done))))
  | (with_reducible refine wp_int ?_)
  | (with_reducible refine wpSs_cons ?_)
  | (with_reducible refine wpEs_cons ?_)
  | (with_reducible refine wpEs_nil ?_)
  | (with_reducible refine wpS_asg ?_)
  | (with_reducible refine wpS_ret ?_)
  | (with_reducible refine wpS_ite ?_)
  | (with_reducible refine wpS_for' ?_)
  | (with_reducible refine wpS_ex ?_)
  | (with_reducible refine wp_sub ?_)
  | (with_reducible refine wp_cmp ?_)
  | (with_reducible refine wp_bi ?_)
  | (with_reducible refine wp_call ?_)
  | (with_reducible refine wp_bin ?_)
  | (with_reducible refine wp_not ?_)
  | (with_reducible refine wp_isi ?_)
  | (with_reducible refine wp_meth ?_)
  | (with_reducible refine wp_tup ?_)
  | (with_reducible refine wp_lst ?_)
  | (with_reducible refine wp_and1 ?_)
  | (with_reducible refine wp_and2 ?_)
  | (with_reducible refine wp_or1 ?_)
  | (with_reducible refine wp_or2 ?_)
  | (with_reducible refine wpS_asgT ?_)
  | (with_reducible refine wpS_asgS ?_)
  | (with_reducible refine wpSs_nil ?_)
  | (with_reducible refine ret_same ?_)
  | (with_reducible refine tru_bl ?_)
  | (with_reducible refine bl_of ?_)
  | ((with_reducible refine br_t ?_ ?_); (focus (first | exact rfl | assumption | (simp only [Bool.not_eq_true', Bool.not_eq_false', decide_eq_true_eq, decide_eq_false_iff_not, List.length_cons, List.length_nil, List.length_map, List.length_range]; omega))))
  | ((with_reducible refine br_f ?_ ?_); (focus (first | exact rfl | assumption | (simp only [Bool.not_eq_true', Bool.not_eq_false', decide_eq_true_eq, decide_eq_false_iff_not, List.length_cons, List.length_nil, List.length_map, List.length_range]; omega))))
  | (with_reducible refine wp_non ?_)
  | (with_reducible refine wp_bl ?_)
  | (with_reducible refine wp_str ?_)
  | (with_reducible refine wp_gfn ?_)
  | ((with_reducible apply wp_gcon); rfl)
  | (with_reducible refine wp_alloc ?_)
  | ((with_reducible refine alloc_tmp ?_); (intro _ _ hen hes; (try simp only [List.length_append, List.length_set, List.length_cons, List.length_nil, Nat.zero_add, Nat.add_assoc, Nat.reduceAdd] at hen); (try simp only [List.append_assoc, List.cons_append, List.nil_append] at hes); subst hen; subst hes))
  | ((with_reducible refine wp_dnewT ?_); (intro _ _ hen hes; (try simp only [List.length_append, List.length_set, List.length_cons, List.length_nil, Nat.zero_add, Nat.add_assoc, Nat.reduceAdd] at hen); (try simp only [List.append_assoc, List.cons_append, List.nil_append] at hes); subst hen; subst hes))
  | ((with_reducible refine wp_dnewK ?_); (intro _ _ hen hes; (try simp only [List.length_append, List.length_set, List.length_cons, List.length_nil, Nat.zero_add, Nat.add_assoc, Nat.reduceAdd] at hen); (try simp only [List.append_assoc, List.cons_append, List.nil_append] at hes); subst hen; subst hes))
  | (with_reducible refine wp_ife ?_)
  | (with_reducible refine wp_comp ?_)
  | (with_reducible refine wp_comp2 ?_)
  | (with_reducible refine wp_cmp2 ?_)
  | (with_reducible refine wp_neg ?_)
  | (with_reducible refine neg_int ?_)
  | (with_reducible refine wp_slice ?_)
  | (with_reducible refine wpO_none ?_)
  | (with_reducible refine wpO_some ?_)
  | (with_reducible refine opt_int ?_)
  | (with_reducible refine wp_rev ?_)
  | (with_reducible refine wpI_seq ?_)
  | (with_reducible refine wpI_rng1 ?_)
  | (with_reducible refine wpI_rng2 ?_)
  | (with_reducible refine wpI_enum ?_)
  | (with_reducible refine wpTs_nil ?_)
  | (with_reducible refine wpTs_one ?_)
  | (with_reducible refine wpS_par ?_)
  | (with_reducible refine wpS_pass ?_)
  | (with_reducible refine wpS_brk ?_)
  | (with_reducible refine wpS_cont ?_)
  | (with_reducible refine wpS_retN ?_)
  | (with_reducible refine wpS_tryN ?_)
  | (with_reducible refine wp_callL ?_)
  | ((with_reducible apply wp_callv); rfl; (focus (first | assumption | decide)))
  | ((with_reducible apply wp_callc); rfl)
  | ((with_reducible apply wp_callP); rfl)
  | ((with_reducible apply len_map); (focus assumption))
  | ((with_reducible apply len_w); (focus (first | rfl | assumption)))
  | ((with_reducible apply it_of); (focus (first | assumption | apply hth | rfl)); (focus (first | assumption | rfl)))
  | ((with_reducible apply eq_nil); (focus (first | rfl | assumption)))
  | ((with_reducible apply ne_nil); (focus (first | rfl | assumption)))
  | ((with_reducible refine rng1_int ?_ ?_ ?_); (focus omega); (focus omega))
  | ((with_reducible refine rng2_int ?_ ?_ ?_ ?_ ?_); (focus omega); (focus omega); (focus omega); (focus omega))
  | (with_reducible refine eq_ii ?_)
  | (with_reducible refine ne_ii ?_)
  | (with_reducible refine lt_ii ?_)
  | (with_reducible refine le_ii ?_)
  | (with_reducible refine gt_ii ?_)
  | (with_reducible refine ge_ii ?_)
  | (with_reducible refine add_ii ?_)
  | (with_reducible refine sub_ii ?_)
  | (with_reducible refine int_i ?_)
  | (with_reducible refine max_ii ?_)
  | (with_reducible refine min_ii ?_)
  | (with_reducible refine tuple_k ?_)
  | ((with_reducible apply is_non); (focus (first | rfl | assumption)))
  | ((with_reducible apply isnot_non); (focus (first | rfl | assumption)))
  | ((with_reducible apply isi_of); (focus (first | rfl | assumption)))
  | ((with_reducible refine And.intro ?_ ?_); (first | decide | (focus (simp [sizeLine]; done))); (intro _ he; (first | simp only [List.set, List.map_cons, List.map_nil, ro_int, ro_bl, ro_str, ro_non, ro_undef, ro_tup, ro_ktup, ro_lst, ro_tmp, ro_scr, ro_loc, ro_fn, hro, hro2] at he | simp only [List.set, List.map_cons, List.map_nil, ro_int, ro_bl, ro_str, ro_non, ro_undef, ro_tup, ro_ktup, ro_lst, ro_tmp, ro_scr, ro_loc, ro_fn, hro] at he | simp only [List.set, List.map_cons, List.map_nil, ro_int, ro_bl, ro_str, ro_non, ro_undef, ro_tup, ro_ktup, ro_lst, ro_tmp, ro_scr, ro_loc, ro_fn] at he | skip); subst he))
  | ((with_reducible intro _ he); (first | simp only [List.set, List.map_cons, List.map_nil, ro_int, ro_bl, ro_str, ro_non, ro_undef, ro_tup, ro_ktup, ro_lst, ro_tmp, ro_scr, ro_loc, ro_fn, hro, hro2] at he | simp only [List.set, List.map_cons, List.map_nil, ro_int, ro_bl, ro_str, ro_non, ro_undef, ro_tup, ro_ktup, ro_lst, ro_tmp, ro_scr, ro_loc, ro_fn, hro] at he | simp only [List.set, List.map_cons, List.map_nil, ro_int, ro_bl, ro_str, ro_non, ro_undef, ro_tup, ro_ktup, ro_lst, ro_tmp, ro_scr, ro_loc, ro_fn] at he | skip); subst he)
  | ((with_reducible apply bind_of); (focus ((first | simp only [bindT, bindTs, seqW, isScr, ro_int, ro_bl, ro_str, ro_non, ro_undef, ro_tup, ro_ktup, ro_lst, ro_tmp, ro_scr, ro_loc, ro_fn, hro, hro2, wipeW, List.set, List.length_cons, List.length_nil, Bool.false_eq_true, if_false, if_true, Nat.reduceAdd, Nat.reduceLT, ↓reduceIte] | simp only [bindT, bindTs, seqW, isScr, ro_int, ro_bl, ro_str, ro_non, ro_undef, ro_tup, ro_ktup, ro_lst, ro_tmp, ro_scr, ro_loc, ro_fn, hro, wipeW, List.set, List.length_cons, List.length_nil, Bool.false_eq_true, if_false, if_true, Nat.reduceAdd, Nat.reduceLT, ↓reduceIte] | simp only [bindT, bindTs, seqW, isScr, ro_int, ro_bl, ro_str, ro_non, ro_undef, ro_tup, ro_ktup, ro_lst, ro_tmp, ro_scr, ro_loc, ro_fn, wipeW, List.set, List.length_cons, List.length_nil, Bool.false_eq_true, if_false, if_true, Nat.reduceAdd, Nat.reduceLT, ↓reduceIte]); rfl)))
  | ((with_reducible apply binds_of); (focus ((first | simp only [List.map_cons, List.map_nil, bindT, bindTs, seqW, isScr, ro_int, ro_bl, ro_str, ro_non, ro_undef, ro_tup, ro_ktup, ro_lst, ro_tmp, ro_scr, ro_loc, ro_fn, hro, hro2, wipeW, List.set, List.length_cons, List.length_nil, Bool.false_eq_true, if_false, if_true, Nat.reduceAdd, Nat.reduceLT, ↓reduceIte] | simp only [List.map_cons, List.map_nil, bindT, bindTs, seqW, isScr, ro_int, ro_bl, ro_str, ro_non, ro_undef, ro_tup, ro_ktup, ro_lst, ro_tmp, ro_scr, ro_loc, ro_fn, hro, wipeW, List.set, List.length_cons, List.length_nil, Bool.false_eq_true, if_false, if_true, Nat.reduceAdd, Nat.reduceLT, ↓reduceIte] | simp only [List.map_cons, List.map_nil, bindT, bindTs, seqW, isScr, ro_int, ro_bl, ro_str, ro_non, ro_undef, ro_tup, ro_ktup, ro_lst, ro_tmp, ro_scr, ro_loc, ro_fn, wipeW, List.set, List.length_cons, List.length_nil, Bool.false_eq_true, if_false, if_true, Nat.reduceAdd, Nat.reduceLT, ↓reduceIte]); rfl))))
theorem cut_to {α : Type} {xs : List α} {s : Nat} (h : s ≤ xs.length) : cutL xs none (some (s : Nat)) = xs.take s := by
  unfold cutL
  have e1 : HT.sIx xs.length 0 none = 0 := rfl
  have e2 : HT.sIx xs.length xs.length (some (s : Nat)) = s := by
    rw [HT.sIx_nat]
    exact Nat.min_eq_left h
  rw [e1, e2, List.drop_zero, Nat.sub_zero]
theorem allInt_nW : ∀ l : List Nat, allInt (l.map nW) = some (l.map fun (k : Nat) => (k : Int))
  | [] => rfl
  | k :: l => by
    simp only [List.map_cons, allInt, allInt_nW l, Option.map_some]
theorem max_l {st : Store} {l : List Nat} {Q : Post} (hn : l ≠ []) (q : ∀ m ∈ l, (∀ y ∈ l, y ≤ m) → Q (nW m) st) : biW st .max [.lst (l.map nW)] Q := by
  refine ⟨_, _, rfl, allInt_nW l, ?_, fun m hm hle => ?_⟩
  · rw [List.length_map]
    exact List.length_pos_iff.mpr hn
  · obtain ⟨k, hk, rfl⟩ := List.mem_map.mp hm
    refine q k hk fun y hy => ?_
    have := hle _ (List.mem_map.mpr ⟨y, hy, rfl⟩)
    omega
theorem slice_t {st : Store} {l : List Nat} {s : Nat} {K : W → Prop} (h : s ≤ l.length) (q : K (lotW (l.take s))) : sliceW st (lotW l) none (some (s : Nat)) K := by
  show K (.tup (cutL (l.map nW) none (some (s : Nat))))
  rw [cut_to (by rw [List.length_map]; exact h), ← List.map_take]
  exact q
/-- how far two go together -/
structure Goes (t : Nat) (x y : List Nat) (m : Nat) : Prop where
  le : m ≤ t
  eq : x.take m = y.take m
  top : ∀ s ≤ t, x.take s = y.take s → s ≤ m
theorem take_le {x y : List Nat} {m s : Nat} (h : x.take m = y.take m) (hs : s ≤ m) : x.take s = y.take s := by
  have := congrArg (List.take s) h
  rwa [List.take_take, List.take_take, Nat.min_eq_left hs] at this
theorem goes_rank {t m1 m2 m3 : Nat} {x y z : List Nat} (h1 : Goes t x y m1) (h2 : Goes t y z m2) (h3 : Goes t x z m3) : rankP (t - m1) (t - m2) (t - m3) = true := by
  have a := h3.top (min m1 m2) (by have := h1.le; omega) ((take_le h1.eq (Nat.min_le_left ..)).trans (take_le h2.eq (Nat.min_le_right ..)))
  have b := h2.top (min m1 m3) (by have := h1.le; omega) ((take_le h1.eq (Nat.min_le_left ..)).symm.trans (take_le h3.eq (Nat.min_le_right ..)))
  have c := h1.top (min m2 m3) (by have := h2.le; omega) ((take_le h3.eq (Nat.min_le_right ..)).trans (take_le h2.eq (Nat.min_le_left ..)).symm)
  have := h1.le
  have := h2.le
  have := h3.le
  unfold rankP
  simp only [decide_eq_true_eq]
  omega
theorem set_app {α : Type} {s t : List α} {n : Nat} {c : α} (h : n < s.length) : (s ++ t).set n c = s.set n c ++ t := List.set_append_left n c h
section
variable {d : Nat} {st : Store} {Q : Post} {X : XPost}
theorem ret_app' {s0 cs : Store} {w : W} (hl : s0.length = st.length) (hw : okV s0.length w = true) (hst : okSt s0) (q : Q w s0) : retW st.length (s0 ++ cs) w Q := by
  rw [← hl]
  exact ret_app hw hst q
def prs : List (Nat × Nat) := [(0, 1), (1, 2), (0, 2)]
theorem sp40 {n t : Nat} {a b c : Int} (h1 : 1 ≤ t) (h2 : t ≤ 12) (hj : st[n]? = some (jarC a b c)) (hst : okSt st) (q : ∀ a' b' c' : Int, Q (.bl true) (st.set n (jarC a' b' c'))) : (callW P (d + 12)).fn 40 none [.loc n, nW t] st Q X := by
  refine fn_in (env := [.loc n, nW t, .undef, .undef, .undef, .undef, .undef, .undef, .undef, .undef, .undef, .undef]) (f := f40) rfl rfl rfl rfl ?_
  dsimp only [f40]
  have hl : (List.range (t + 1)).length = t + 1 := List.length_range
  have hnl := (List.getElem?_eq_some_iff.mp hj).1
  have hl5 : (List.range (t + 1)).length ≤ sizeLine := by rw [List.length_range]; exact Nat.le_trans (show t + 1 ≤ 13 by omega) (by decide)
  repeat' sizeOf_list_dec
  refine sp3 (w := bookW (List.range (t + 1)) (rankB t)) rfl (fun K X q => ?_) ?_
  · refine clo_in (l := l9) rfl ?_
    dsimp only [l9]
    repeat' sizeOf_list_dec
    exact sp33 h1 h2 q
  repeat' sizeOf_list_dec
  refine ne_told ?_
  repeat' sizeOf_list_dec
  have h0 : st = st.set n (jarC a b c) := by
    obtain ⟨hl, e⟩ := List.getElem?_eq_some_iff.mp hj
    refine List.ext_getElem? fun i => ?_
    by_cases h : n = i
    · subst h; rw [List.getElem?_set_self hl, hj]
    · rw [List.getElem?_set_ne h]
  generalize hbf : W.tup [lotW (List.range (t + 1)), W.tup (List.map rowW (rankB t))] = bf
  have uf : bf ≠ .undef := by rw [← hbf]; intro h; cases h
  have hro : ro bf = bf := by rw [← hbf]; rfl
  refine for_ty (List.range 6) nW (rangeW_nat 6) (fun i env s => ∃ v2 v5 v6 v7 v8 v9 a b c cs, env = [.loc n, nW t, v2, .str "told", bf, v5, v6, v7, v8, v9, .undef, .undef] ∧ s = st.set n (jarC a b c) ++ cs ∧ okSt s) ⟨_, _, _, _, _, _, a, b, c, [], rfl, by rw [List.append_nil]; exact h0, hst⟩ ?_ ?_
  · rintro i x env s nx' hx ⟨v2, v5, v6, v7, v8, v9, a, b, c, cs, rfl, hs, hss⟩ hn
    have hjs : s[n]? = some (jarC a b c) := by
      rw [hs, List.getElem?_append_left (by rw [List.length_set]; exact hnl)]
      exact set_get hj
    refine ⟨trivial, ?_⟩
    repeat' sizeOf_list_dec
    have h0s : s = s.set n (jarC a b c) := by
      obtain ⟨hl, e⟩ := List.getElem?_eq_some_iff.mp hjs
      refine List.ext_getElem? fun i => ?_
      by_cases h : n = i
      · subst h; rw [List.getElem?_set_self hl, hjs]
      · rw [List.getElem?_set_ne h]
    refine comp_inv ((List.range 3).map nW) (fun i acc s' => ∃ (ls : List (List Nat)) (a b c : Int), acc = ls.map lotW ∧ ls.length = i ∧ (∀ l ∈ ls, l.length = t) ∧ s' = s.set n (jarC a b c)) ?_ ?_ ⟨[], a, b, c, rfl, rfl, by simp, h0s⟩
    · rintro i y acc s' K hy ⟨ls, a, b, c, rfl, hll, hlt, rfl⟩ hK
      rw [List.getElem?_map] at hy
      obtain ⟨y2, hy2, rfl⟩ := Option.map_eq_some_iff.mp hy
      have hi := (range_at hy2).2
      refine ⟨trivial, _, rfl, wpTs_nil ?_⟩
      rw [if_pos rfl]
      repeat' sizeOf_list_dec
      refine draws_w (n := n) (k := t) (m := 2) (a := a) (b := b) (c := c) (rangeW_nat t) (set_get hjs) (by omega) (fun _ => trivial) (fun i a b c Q hQ => ⟨_, rfl, ?_⟩) fun rs a' b' c' hrl hr => ?_
      · rw [List.set_set]
        repeat' sizeOf_list_dec
        refine take_n (m := 2) (set_get hjs) (by omega) (by omega) fun r a' b' c' hr => ?_
        rw [List.set_set]
        have := hQ r a' b' c' (nW r) hr rfl
        rwa [List.set_set] at this
      rw [List.set_set]
      repeat' sizeOf_list_dec
      refine tuple_w rfl trivial ?_
      refine ⟨by rw [List.length_map, hll]; exact Nat.lt_of_lt_of_le (show i < 1001 by omega) (by decide), ?_⟩
      refine hK _ _ ⟨ls ++ [rs], a', b', c', by rw [List.map_append]; rfl, by simp [hll], ?_, rfl⟩
      intro z hz
      rcases List.mem_append.mp hz with hz | hz
      · exact hlt z hz
      · obtain rfl : z = rs := by simpa using hz
        exact hrl
    · rintro acc s' ⟨ls, a, b, c, rfl, hll, hlt, rfl⟩
      refine ⟨trivial, ?_⟩
      have hll : ls.length = 3 := by simpa using hll
      have hss2 : okSt (s.set n (jarC a b c)) := jar_ok hss
      have hs3 : s.set n (jarC a b c) = st.set n (jarC a b c) ++ cs := by rw [hs, set_app (by rw [List.length_set]; exact hnl), List.set_set]
      generalize s.set n (jarC a b c) = s1 at hss2 hs3
      repeat' sizeOf_list_dec
      have hup : ∀ p ∈ prs, p.1 < 3 ∧ p.2 < 3 := by decide
      have okU : ∀ us : List Nat, okSt (s1 ++ [.lst (us.map nW)]) := fun us => okSt_app hss2 (by
        intro c hc
        obtain rfl : c = .lst (us.map nW) := by simpa using hc
        show okVs _ _ = true
        rw [okVs_mem]
        intro w hw
        obtain ⟨p, _, rfl⟩ := List.mem_map.mp hw
        rfl)
      refine for_ty prs (fun p => .tup [nW p.1, nW p.2]) rfl (fun k env s => ∃ v7 v8 v9 us, env = [.loc n, nW t, nW x, .str "told", bf, .lst (ls.map lotW), .loc s1.length, v7, v8, v9, .undef, .undef] ∧ s = s1 ++ [.lst (us.map nW)] ∧ us.length = k ∧ ∀ j < k, ∀ p, prs[j]? = some p → ∃ m, us[j]? = some (t - m) ∧ Goes t (ls.getD p.1 []) (ls.getD p.2 []) m) ⟨_, _, _, [], rfl, rfl, rfl, by intro j hj; omega⟩ ?_ ?_
      · rintro k p env s nx2 hp ⟨v7, v8, v9, us, rfl, rfl, hul, hus⟩ hn2
        have hpm := List.mem_of_getElem? hp
        obtain ⟨hp1, hp2⟩ := hup p hpm
        have hk3 : k < 3 := (List.getElem?_eq_some_iff.mp hp).1
        have len : ∀ j < 3, (ls.getD j []).length = t := fun j hj => by
          rw [List.getD_eq_getElem?_getD, List.getElem?_eq_getElem (by omega)]
          exact hlt _ (List.getElem_mem _)
        refine ⟨rfl, ?_⟩
        repeat' sizeOf_list_dec
        refine comp_ty (List.range (t + 1)) nW (fun s => decide ((ls.getD p.1 []).take s = (ls.getD p.2 []).take s)) nW (rangeW_nat (t + 1)) trivial hl5 (fun s hs => ⟨[_, _, _, _, _, _, _, nW p.1, nW p.2, _, _, nW s], rfl, fun K q => ?_, fun _ K q => ?_⟩) ?_
        · have hs := List.mem_range.mp hs
          repeat' sizeOf_list_dec
          refine sub_map (f := lotW) (xs := ls) [] rfl (by omega) ?_
          repeat' sizeOf_list_dec
          refine slice_t (by rw [len _ hp1]; omega) ?_
          repeat' sizeOf_list_dec
          refine sub_map (f := lotW) (xs := ls) [] rfl (by omega) ?_
          repeat' sizeOf_list_dec
          refine slice_t (by rw [len _ hp2]; omega) ?_
          refine eq_lot ?_
          repeat' sizeOf_list_dec
          exact q
        · repeat' sizeOf_list_dec
          exact q _ rfl
        repeat' sizeOf_list_dec
        refine ⟨meTy_lst get_app0 (by simp), ?_⟩
        repeat' sizeOf_list_dec
        refine max_l (fun e => ?_) fun m hm hle => ?_
        · have : 0 ∈ (List.range (t + 1)).filter (fun s => decide ((ls.getD p.1 []).take s = (ls.getD p.2 []).take s)) := by
            rw [List.mem_filter]
            exact ⟨List.mem_range.mpr (by omega), by simp⟩
          rw [e] at this
          cases this
        rw [List.mem_filter, List.mem_range, decide_eq_true_eq] at hm
        repeat' sizeOf_list_dec
        refine append_w get_app0 (by rw [List.length_map, hul]; exact Nat.lt_of_lt_of_le (show k < 1001 by omega) (by decide)) ?_
        rw [set_app0]
        have e : ro (W.int ((t : Int) - (m : Int))) = nW (t - m) := by
          show W.int _ = W.int _
          congr 1
          omega
        rw [e, show us.map nW ++ [nW (t - m)] = (us ++ [t - m]).map nW by rw [List.map_append]; rfl]
        repeat' sizeOf_list_dec
        refine hn2 _ _ ⟨_, _, _, _, rfl, rfl, by simp [hul], fun j hj p' hp' => ?_⟩
        by_cases e2 : j < k
        · obtain ⟨m', e3, g⟩ := hus j e2 p' hp'
          exact ⟨m', by rw [List.getElem?_append_left (by omega)]; exact e3, g⟩
        · obtain rfl : j = k := by omega
          rw [hp] at hp'
          cases hp'
          refine ⟨m, by rw [List.getElem?_append_right (by omega), hul, Nat.sub_self]; rfl, ⟨by omega, hm.2, fun s hs he => hle s ?_⟩⟩
          rw [List.mem_filter, List.mem_range, decide_eq_true_eq]
          exact ⟨by omega, he⟩
      · rintro env s ⟨v7, v8, v9, us, rfl, rfl, hul, hus⟩
        refine ⟨rfl, ?_⟩
        repeat' sizeOf_list_dec
        obtain ⟨m1, u1, g1⟩ := hus 0 (by rw [show prs.length = 3 from rfl]; omega) (0, 1) rfl
        obtain ⟨m2, u2, g2⟩ := hus 1 (by rw [show prs.length = 3 from rfl]; omega) (1, 2) rfl
        obtain ⟨m3, u3, g3⟩ := hus 2 (by rw [show prs.length = 3 from rfl]; omega) (0, 2) rfl
        have hsq : seqW (s1 ++ [.lst (us.map nW)]) (.loc s1.length) = some (us.map nW) := by simp only [seqW, get_app0]
        refine sub_w (r := 0) hsq (x := nW (t - m1)) (by rw [List.getElem?_map, u1]; rfl) ?_
        repeat' sizeOf_list_dec
        refine sub_w (r := 1) hsq (x := nW (t - m2)) (by rw [List.getElem?_map, u2]; rfl) ?_
        repeat' sizeOf_list_dec
        refine sub_w (r := 2) hsq (x := nW (t - m3)) (by rw [List.getElem?_map, u3]; rfl) ?_
        repeat' sizeOf_list_dec
        rw [← hbf]
        refine sp38 (rank_book h1 h2) (by omega) (by omega) ((mem_lots (by omega) (by omega)).mpr ⟨by omega, goes_rank g1 g2 g3⟩) ?_
        rw [hbf]
        repeat' sizeOf_list_dec
        exact hn _ _ ⟨_, _, _, _, _, _, a, b, c, cs ++ [_], rfl, by rw [hs3, List.append_assoc], okU us⟩
  · rintro env s ⟨v2, v5, v6, v7, v8, v9, a, b, c, cs, rfl, rfl, hss⟩
    refine ⟨trivial, ?_⟩
    repeat' sizeOf_list_dec
    exact ret_app' List.length_set rfl (jar_ok hst) (q _ _ _)
end
end K02

set_option maxRecDepth 100000
set_option maxHeartbeats 4000000
namespace K02
open PySem L2 Ev
set_option hygiene false
local macro_rules | `(tactic| array_mem_dec) => `(tactic| first | rfl | assumption | decide | omega | (focus (simp; done)))
local macro_rules | `(tactic| sizeOf_list_dec) => `(tactic| first
  | ((with_reducible apply wp_var); rfl; (first | assumption | (focus (intro h; cases h; done))))
  | (with_reducible refine wp_int ?_)
  | (with_reducible refine wpSs_cons ?_)
  | (with_reducible refine wpEs_cons ?_)
  | (with_reducible refine wpEs_nil ?_)
  | (with_reducible refine wpS_asg ?_)
  | (with_reducible refine wpS_ret ?_)
  | (with_reducible refine wpS_ite ?_)
  | (with_reducible refine wpS_for' ?_)
  | (with_reducible refine wpS_ex ?_)
  | (with_reducible refine wp_sub ?_)
  | (with_reducible refine wp_cmp ?_)
  | (with_reducible refine wp_bi ?_)
  | (with_reducible refine wp_call ?_)
  | (with_reducible refine wp_bin ?_)
  | (with_reducible refine wp_not ?_)
  | (with_reducible refine wp_isi ?_)
  | (with_reducible refine wp_meth ?_)
  | (with_reducible refine wp_tup ?_)
  | (with_reducible refine wp_lst ?_)
  | (with_reducible refine wp_band ?_)
  | (with_reducible refine wp_bor ?_)
  | (with_reducible refine wp_and1 ?_)
  | (with_reducible refine wp_and2 ?_)
  | (with_reducible refine wp_or1 ?_)
  | (with_reducible refine wp_or2 ?_)
  | (with_reducible refine wpS_asgT ?_)
  | (with_reducible refine wpS_asgS ?_)
  | (with_reducible refine wpSs_nil ?_)
  | (with_reducible refine ret_same ?_)
  | (with_reducible refine tru_bl ?_)
  | (with_reducible refine bl_of ?_)
  | ((with_reducible refine br_t ?_ ?_); (focus (first | exact rfl | assumption | (simp only [Bool.not_eq_true', Bool.not_eq_false', decide_eq_true_eq, decide_eq_false_iff_not, List.length_cons, List.length_nil, List.length_map, List.length_range]; omega))))
  | ((with_reducible refine br_f ?_ ?_); (focus (first | exact rfl | assumption | (simp only [Bool.not_eq_true', Bool.not_eq_false', decide_eq_true_eq, decide_eq_false_iff_not, List.length_cons, List.length_nil, List.length_map, List.length_range]; omega))))
  | (with_reducible refine wp_non ?_)
  | (with_reducible refine wp_bl ?_)
  | (with_reducible refine wp_str ?_)
  | (with_reducible refine wp_gfn ?_)
  | ((with_reducible apply wp_gcon); rfl)
  | (with_reducible refine wp_alloc ?_)
  | ((with_reducible refine alloc_tmp ?_); (intro _ _ hen hes; (try simp only [List.length_append, List.length_set, List.length_cons, List.length_nil, Nat.zero_add, Nat.add_assoc, Nat.reduceAdd] at hen); (try simp only [List.append_assoc, List.cons_append, List.nil_append] at hes); subst hen; subst hes))
  | ((with_reducible refine wp_dnewT ?_); (intro _ _ hen hes; (try simp only [List.length_append, List.length_set, List.length_cons, List.length_nil, Nat.zero_add, Nat.add_assoc, Nat.reduceAdd] at hen); (try simp only [List.append_assoc, List.cons_append, List.nil_append] at hes); subst hen; subst hes))
  | ((with_reducible refine wp_dnewK ?_); (intro _ _ hen hes; (try simp only [List.length_append, List.length_set, List.length_cons, List.length_nil, Nat.zero_add, Nat.add_assoc, Nat.reduceAdd] at hen); (try simp only [List.append_assoc, List.cons_append, List.nil_append] at hes); subst hen; subst hes))
  | (with_reducible refine wp_ife ?_)
  | (with_reducible refine wp_comp ?_)
  | (with_reducible refine wp_comp2 ?_)
  | (with_reducible refine wp_cmp2 ?_)
  | (with_reducible refine wp_neg ?_)
  | (with_reducible refine neg_int ?_)
  | (with_reducible refine wp_slice ?_)
  | (with_reducible refine wpO_none ?_)
  | (with_reducible refine wpO_some ?_)
  | (with_reducible refine opt_int ?_)
  | (with_reducible refine wp_rev ?_)
  | (with_reducible refine wpI_seq ?_)
  | (with_reducible refine wpI_rng1 ?_)
  | (with_reducible refine wpI_rng2 ?_)
  | (with_reducible refine wpI_enum ?_)
  | (with_reducible refine wpTs_nil ?_)
  | (with_reducible refine wpTs_one ?_)
  | (with_reducible refine wpS_par ?_)
  | (with_reducible refine wpS_pass ?_)
  | (with_reducible refine wpS_brk ?_)
  | (with_reducible refine wpS_cont ?_)
  | (with_reducible refine wpS_retN ?_)
  | (with_reducible refine wpS_tryN ?_)
  | (with_reducible refine wp_callL ?_)
  | ((with_reducible apply wp_callv); rfl; (focus (first | assumption | decide)))
  | ((with_reducible apply wp_callc); rfl)
  | ((with_reducible apply wp_callP); rfl)
  | ((with_reducible apply len_map); (focus assumption))
  | ((with_reducible apply len_w); (focus (first | rfl | assumption)))
  | ((with_reducible apply it_of); (focus (first | assumption | apply hth | rfl)); (focus (first | assumption | rfl)))
  | ((with_reducible apply eq_nil); (focus (first | rfl | assumption)))
  | ((with_reducible apply ne_nil); (focus (first | rfl | assumption)))
  | ((with_reducible refine rng1_int ?_ ?_ ?_); (focus omega); (focus omega))
  | ((with_reducible refine rng2_int ?_ ?_ ?_ ?_ ?_); (focus omega); (focus omega); (focus omega); (focus omega))
  | (with_reducible refine eq_ii ?_)
  | (with_reducible refine ne_ii ?_)
  | (with_reducible refine lt_ii ?_)
  | (with_reducible refine le_ii ?_)
  | (with_reducible refine gt_ii ?_)
  | (with_reducible refine ge_ii ?_)
  | (with_reducible refine add_ii ?_)
  | (with_reducible refine sub_ii ?_)
  | (with_reducible refine int_i ?_)
  | (with_reducible refine max_ii ?_)
  | (with_reducible refine min_ii ?_)
  | (with_reducible refine tuple_k ?_)
  | ((with_reducible apply is_non); (focus (first | rfl | assumption)))
  | ((with_reducible apply isnot_non); (focus (first | rfl | assumption)))
  | ((with_reducible apply isi_of); (focus (first | rfl | assumption)))
  | ((with_reducible refine And.intro ?_ ?_); (first | decide | (focus (simp [sizeLine]; done))); (intro _ he; (first | simp only [List.set, List.map_cons, List.map_nil, ro_int, ro_bl, ro_str, ro_non, ro_undef, ro_tup, ro_ktup, ro_lst, ro_tmp, ro_scr, ro_loc, ro_fn, hro, hro2] at he | simp only [List.set, List.map_cons, List.map_nil, ro_int, ro_bl, ro_str, ro_non, ro_undef, ro_tup, ro_ktup, ro_lst, ro_tmp, ro_scr, ro_loc, ro_fn, hro] at he | simp only [List.set, List.map_cons, List.map_nil, ro_int, ro_bl, ro_str, ro_non, ro_undef, ro_tup, ro_ktup, ro_lst, ro_tmp, ro_scr, ro_loc, ro_fn] at he | skip); subst he))
  | ((with_reducible intro _ he); (first | simp only [List.set, List.map_cons, List.map_nil, ro_int, ro_bl, ro_str, ro_non, ro_undef, ro_tup, ro_ktup, ro_lst, ro_tmp, ro_scr, ro_loc, ro_fn, hro, hro2] at he | simp only [List.set, List.map_cons, List.map_nil, ro_int, ro_bl, ro_str, ro_non, ro_undef, ro_tup, ro_ktup, ro_lst, ro_tmp, ro_scr, ro_loc, ro_fn, hro] at he | simp only [List.set, List.map_cons, List.map_nil, ro_int, ro_bl, ro_str, ro_non, ro_undef, ro_tup, ro_ktup, ro_lst, ro_tmp, ro_scr, ro_loc, ro_fn] at he | skip); subst he)
  | ((with_reducible apply bind_of); (focus ((first | simp only [bindT, bindTs, seqW, isScr, ro_int, ro_bl, ro_str, ro_non, ro_undef, ro_tup, ro_ktup, ro_lst, ro_tmp, ro_scr, ro_loc, ro_fn, hro, hro2, wipeW, List.set, List.length_cons, List.length_nil, Bool.false_eq_true, if_false, if_true, Nat.reduceAdd, Nat.reduceLT, ↓reduceIte] | simp only [bindT, bindTs, seqW, isScr, ro_int, ro_bl, ro_str, ro_non, ro_undef, ro_tup, ro_ktup, ro_lst, ro_tmp, ro_scr, ro_loc, ro_fn, hro, wipeW, List.set, List.length_cons, List.length_nil, Bool.false_eq_true, if_false, if_true, Nat.reduceAdd, Nat.reduceLT, ↓reduceIte] | simp only [bindT, bindTs, seqW, isScr, ro_int, ro_bl, ro_str, ro_non, ro_undef, ro_tup, ro_ktup, ro_lst, ro_tmp, ro_scr, ro_loc, ro_fn, wipeW, List.set, List.length_cons, List.length_nil, Bool.false_eq_true, if_false, if_true, Nat.reduceAdd, Nat.reduceLT, ↓reduceIte]); rfl)))
  | ((with_reducible apply binds_of); (focus ((first | simp only [List.map_cons, List.map_nil, bindT, bindTs, seqW, isScr, ro_int, ro_bl, ro_str, ro_non, ro_undef, ro_tup, ro_ktup, ro_lst, ro_tmp, ro_scr, ro_loc, ro_fn, hro, hro2, wipeW, List.set, List.length_cons, List.length_nil, Bool.false_eq_true, if_false, if_true, Nat.reduceAdd, Nat.reduceLT, ↓reduceIte] | simp only [List.map_cons, List.map_nil, bindT, bindTs, seqW, isScr, ro_int, ro_bl, ro_str, ro_non, ro_undef, ro_tup, ro_ktup, ro_lst, ro_tmp, ro_scr, ro_loc, ro_fn, hro, wipeW, List.set, List.length_cons, List.length_nil, Bool.false_eq_true, if_false, if_true, Nat.reduceAdd, Nat.reduceLT, ↓reduceIte] | simp only [List.map_cons, List.map_nil, bindT, bindTs, seqW, isScr, ro_int, ro_bl, ro_str, ro_non, ro_undef, ro_tup, ro_ktup, ro_lst, ro_tmp, ro_scr, ro_loc, ro_fn, wipeW, List.set, List.length_cons, List.length_nil, Bool.false_eq_true, if_false, if_true, Nat.reduceAdd, Nat.reduceLT, ↓reduceIte]); rfl))))
local macro_rules | `(tactic| array_get_dec) => `(tactic| first
  | ((with_reducible apply wp_var); rfl; (first | assumption | (focus (intro h; cases h; done))))
  | (with_reducible refine wp_int ?_)
  | (with_reducible refine wpSs_cons ?_)
  | (with_reducible refine wpEs_cons ?_)
  | (with_reducible refine wpEs_nil ?_)
  | (with_reducible refine wpS_asg ?_)
  | (with_reducible refine wpS_ret ?_)
  | (with_reducible refine wpS_ite ?_)
  | (with_reducible refine wpS_for' ?_)
  | (with_reducible refine wpS_ex ?_)
  | (with_reducible refine wp_sub ?_)
  | (with_reducible refine wp_cmp ?_)
  | (with_reducible refine wp_bi ?_)
  | (with_reducible refine wp_call ?_)
  | (with_reducible refine wp_bin ?_)
  | (with_reducible refine wp_not ?_)
  | (with_reducible refine wp_isi ?_)
  | (with_reducible refine wp_meth ?_)
  | (with_reducible refine wp_tup ?_)
  | (with_reducible refine wp_lst ?_)
  | (with_reducible refine wp_and1 ?_)
  | (with_reducible refine wp_and2 ?_)
  | (with_reducible refine wp_or1 ?_)
  | (with_reducible refine wp_or2 ?_)
  | (with_reducible refine wpS_asgT ?_)
  | (with_reducible refine wpS_asgS ?_)
  | (with_reducible refine wpSs_nil ?_)
  | (with_reducible refine ret_same ?_)
  | (with_reducible refine tru_bl ?_)
  | (with_reducible refine bl_of ?_)
  | ((with_reducible refine br_t ?_ ?_); (focus (first | exact rfl | assumption | (simp only [Bool.not_eq_true', Bool.not_eq_false', decide_eq_true_eq, decide_eq_false_iff_not, List.length_cons, List.length_nil, List.length_map, List.length_range]; omega))))
  | ((with_reducible refine br_f ?_ ?_); (focus (first | exact rfl | assumption | (simp only [Bool.not_eq_true', Bool.not_eq_false', decide_eq_true_eq, decide_eq_false_iff_not, List.length_cons, List.length_nil, List.length_map, List.length_range]; omega))))
  | (with_reducible refine wp_non ?_)
  | (with_reducible refine wp_bl ?_)
  | (with_reducible refine wp_str ?_)
  | (with_reducible refine wp_gfn ?_)
  | ((with_reducible apply wp_gcon); rfl)
  | (with_reducible refine wp_alloc ?_)
  | ((with_reducible refine alloc_tmp ?_); (intro _ _ hen hes; (try simp only [List.length_append, List.length_set, List.length_cons, List.length_nil, Nat.zero_add, Nat.add_assoc, Nat.reduceAdd] at hen); (try simp only [List.append_assoc, List.cons_append, List.nil_append] at hes); subst hen; subst hes))
  | ((with_reducible refine wp_dnewT ?_); (intro _ _ hen hes; (try simp only [List.length_append, List.length_set, List.length_cons, List.length_nil, Nat.zero_add, Nat.add_assoc, Nat.reduceAdd] at hen); (try simp only [List.append_assoc, List.cons_append, List.nil_append] at hes); subst hen; subst hes))
  | ((with_reducible refine wp_dnewK ?_); (intro _ _ hen hes; (try simp only [List.length_append, List.length_set, List.length_cons, List.length_nil, Nat.zero_add, Nat.add_assoc, Nat.reduceAdd] at hen); (try simp only [List.append_assoc, List.cons_append, List.nil_append] at hes); subst hen; subst hes))
  | (with_reducible refine wp_ife ?_)
  | (with_reducible refine wp_comp ?_)
  | (with_reducible refine wp_comp2 ?_)
  | (with_reducible refine wp_cmp2 ?_)
  | (with_reducible refine wp_neg ?_)
  | (with_reducible refine neg_int ?_)
  | (with_reducible refine wp_slice ?_)
  | (with_reducible refine wpO_none ?_)
  | (with_reducible refine wpO_some ?_)
  | (with_reducible refine opt_int ?_)
  | (with_reducible refine wp_rev ?_)
  | (with_reducible refine wpI_seq ?_)
  | (with_reducible refine wpI_rng1 ?_)
  | (with_reducible refine wpI_rng2 ?_)
  | (with_reducible refine wpI_enum ?_)
  | (with_reducible refine wpTs_nil ?_)
  | (with_reducible refine wpTs_one ?_)
  | (with_reducible refine wpS_par ?_)
  | (with_reducible refine wpS_pass ?_)
  | (with_reducible refine wpS_brk ?_)
  | (with_reducible refine wpS_cont ?_)
  | (with_reducible refine wpS_retN ?_)
  | (with_reducible refine wpS_tryN ?_)
  | (with_reducible refine wp_callL ?_)
  | ((with_reducible apply wp_callv); rfl; (focus (first | assumption | decide)))
  | ((with_reducible apply wp_callc); rfl)
  | ((with_reducible apply wp_callP); rfl)
  | ((with_reducible apply len_map); (focus assumption))
  | ((with_reducible apply len_w); (focus (first | rfl | assumption)))
  | ((with_reducible apply it_of); (focus (first | assumption | apply hth | rfl)); (focus (first | assumption | rfl)))
  | ((with_reducible apply eq_nil); (focus (first | rfl | assumption)))
  | ((with_reducible apply ne_nil); (focus (first | rfl | assumption)))
  | ((with_reducible refine rng1_int ?_ ?_ ?_); (focus omega); (focus omega))
  | ((with_reducible refine rng2_int ?_ ?_ ?_ ?_ ?_); (focus omega); (focus omega); (focus omega); (focus omega))
  | (with_reducible refine eq_ii ?_)
  | (with_reducible refine ne_ii ?_)
  | (with_reducible refine lt_ii ?_)
  | (with_reducible refine le_ii ?_)
  | (with_reducible refine gt_ii ?_)
  | (with_reducible refine ge_ii ?_)
  | (with_reducible refine add_ii ?_)
  | (with_reducible refine sub_ii ?_)
  | (with_reducible refine int_i ?_)
  | (with_reducible refine max_ii ?_)
  | (with_reducible refine min_ii ?_)
  | (with_reducible refine tuple_k ?_)
  | ((with_reducible apply is_non); (focus (first | rfl | assumption)))
  | ((with_reducible apply isnot_non); (focus (first | rfl | assumption)))
  | ((with_reducible apply isi_of); (focus (first | rfl | assumption)))
  | ((with_reducible refine And.intro ?_ ?_); (first | decide | (focus (simp [sizeLine]; done))); (intro _ he; (first | simp only [List.set, List.map_cons, List.map_nil, ro_int, ro_bl, ro_str, ro_non, ro_undef, ro_tup, ro_ktup, ro_lst, ro_tmp, ro_scr, ro_loc, ro_fn, hro, hro2] at he | simp only [List.set, List.map_cons, List.map_nil, ro_int, ro_bl, ro_str, ro_non, ro_undef, ro_tup, ro_ktup, ro_lst, ro_tmp, ro_scr, ro_loc, ro_fn, hro] at he | simp only [List.set, List.map_cons, List.map_nil, ro_int, ro_bl, ro_str, ro_non, ro_undef, ro_tup, ro_ktup, ro_lst, ro_tmp, ro_scr, ro_loc, ro_fn] at he | skip); subst he))
  | ((with_reducible intro _ he); (first | simp only [List.set, List.map_cons, List.map_nil, ro_int, ro_bl, ro_str, ro_non, ro_undef, ro_tup, ro_ktup, ro_lst, ro_tmp, ro_scr, ro_loc, ro_fn, hro, hro2] at he | simp only [List.set, List.map_cons, List.map_nil, ro_int, ro_bl, ro_str, ro_non, ro_undef, ro_tup, ro_ktup, ro_lst, ro_tmp, ro_scr, ro_loc, ro_fn, hro] at he | simp only [List.set, List.map_cons, List.map_nil, ro_int, ro_bl, ro_str, ro_non, ro_undef, ro_tup, ro_ktup, ro_lst, ro_tmp, ro_scr, ro_loc, ro_fn] at he | skip); subst he)
  | ((with_reducible apply bind_of); (focus ((first | simp only [bindT, bindTs, seqW, isScr, ro_int, ro_bl, ro_str, ro_non, ro_undef, ro_tup, ro_ktup, ro_lst, ro_tmp, ro_scr, ro_loc, ro_fn, hro, hro2, wipeW, List.set, List.length_cons, List.length_nil, Bool.false_eq_true, if_false, if_true, Nat.reduceAdd, Nat.reduceLT, ↓reduceIte] | simp only [bindT, bindTs, seqW, isScr, ro_int, ro_bl, ro_str, ro_non, ro_undef, ro_tup, ro_ktup, ro_lst, ro_tmp, ro_scr, ro_loc, ro_fn, hro, wipeW, List.set, List.length_cons, List.length_nil, Bool.false_eq_true, if_false, if_true, Nat.reduceAdd, Nat.reduceLT, ↓reduceIte] | simp only [bindT, bindTs, seqW, isScr, ro_int, ro_bl, ro_str, ro_non, ro_undef, ro_tup, ro_ktup, ro_lst, ro_tmp, ro_scr, ro_loc, ro_fn, wipeW, List.set, List.length_cons, List.length_nil, Bool.false_eq_true, if_false, if_true, Nat.reduceAdd, Nat.reduceLT, ↓reduceIte]); rfl)))
  | ((with_reducible apply binds_of); (focus ((first | simp only [List.map_cons, List.map_nil, bindT, bindTs, seqW, isScr, ro_int, ro_bl, ro_str, ro_non, ro_undef, ro_tup, ro_ktup, ro_lst, ro_tmp, ro_scr, ro_loc, ro_fn, hro, hro2, wipeW, List.set, List.length_cons, List.length_nil, Bool.false_eq_true, if_false, if_true, Nat.reduceAdd, Nat.reduceLT, ↓reduceIte] | simp only [List.map_cons, List.map_nil, bindT, bindTs, seqW, isScr, ro_int, ro_bl, ro_str, ro_non, ro_undef, ro_tup, ro_ktup, ro_lst, ro_tmp, ro_scr, ro_loc, ro_fn, hro, wipeW, List.set, List.length_cons, List.length_nil, Bool.false_eq_true, if_false, if_true, Nat.reduceAdd, Nat.reduceLT, ↓reduceIte] | simp only [List.map_cons, List.map_nil, bindT, bindTs, seqW, isScr, ro_int, ro_bl, ro_str, ro_non, ro_undef, ro_tup, ro_ktup, ro_lst, ro_tmp, ro_scr, ro_loc, ro_fn, wipeW, List.set, List.length_cons, List.length_nil, Bool.false_eq_true, if_false, if_true, Nat.reduceAdd, Nat.reduceLT, ↓reduceIte]); rfl))))
def ordK (x y : Nat) : Nat := if x = y then 0 else if x < y then 1 else 2
def ordB : List (List (List Nat)) := [[[0], [1], [2]], [[1], [1], [0, 1, 2]], [[2], [0, 1, 2], [2]]]
def ordT : List Nat := [0, 2, 1]
theorem ord_lots : lotsOf (fun a b c => decide (∃ x ∈ List.range 3, ∃ y ∈ List.range 3, ∃ z ∈ List.range 3, ordK x y = a ∧ ordK y z = b ∧ ordK x z = c)) 3 = ordB := by decide +kernel
def isB (ts : List Nat) (tb : List (List (List Nat))) : Prop := IsBook ts tb
theorem ord_book : IsBook ordT ordB where
  len1 := by decide
  len2 := by decide
  kinds := by decide
  zero := by decide
  back := by decide +kernel
  rows := by decide +kernel
  row := by decide +kernel
  ne := by decide +kernel
  lt := by decide +kernel
  up := by decide +kernel
  left := by decide +kernel
  right := by decide +kernel
  turn := by decide +kernel
/-! ### words -/
def exts (l : List Str) : List Str := l.flatMap fun w => [w ++ "a", w ++ "b"]
def nextW (ws : List Str) (i : Nat) : List Str := exts (ws.filter fun w => decide (w.length = i))
theorem exts_len (l : List Str) : (exts l).length = l.length * 2 := by
  unfold exts
  induction l with
  | nil => rfl
  | cons a l ih => simp only [List.flatMap_cons, List.length_append, ih, List.length_cons, List.length_nil]; omega
theorem exts_app (l : List Str) (w : Str) : exts (l ++ [w]) = exts l ++ [w ++ "a", w ++ "b"] := by
  unfold exts
  rw [List.flatMap_append]
  simp
def someW : Nat → List Str
  | 0 => [""]
  | i + 1 => someW i ++ nextW (someW i) i
def wordAt (i : Nat) : Str := (someW 3).getD i ""
def nestTab : List (List Nat) := [[0, 2, 2, 2, 2, 2, 2, 2, 2, 2, 2, 2, 2, 2, 2], [1, 0, 3, 2, 2, 3, 3, 2, 2, 2, 2, 3, 3, 3, 3], [1, 3, 0, 3, 3, 2, 2, 3, 3, 3, 3, 2, 2, 2, 2], [1, 1, 3, 0, 3, 3, 3, 2, 2, 3, 3, 3, 3, 3, 3], [1, 1, 3, 3, 0, 3, 3, 3, 3, 2, 2, 3, 3, 3, 3], [1, 3, 1, 3, 3, 0, 3, 3, 3, 3, 3, 2, 2, 3, 3], [1, 3, 1, 3, 3, 3, 0, 3, 3, 3, 3, 3, 3, 2, 2], [1, 1, 3, 1, 3, 3, 3, 0, 3, 3, 3, 3, 3, 3, 3], [1, 1, 3, 1, 3, 3, 3, 3, 0, 3, 3, 3, 3, 3, 3], [1, 1, 3, 3, 1, 3, 3, 3, 3, 0, 3, 3, 3, 3, 3], [1, 1, 3, 3, 1, 3, 3, 3, 3, 3, 0, 3, 3, 3, 3], [1, 3, 1, 3, 3, 1, 3, 3, 3, 3, 3, 0, 3, 3, 3], [1, 3, 1, 3, 3, 1, 3, 3, 3, 3, 3, 3, 0, 3, 3], [1, 3, 1, 3, 3, 3, 1, 3, 3, 3, 3, 3, 3, 0, 3], [1, 3, 1, 3, 3, 3, 1, 3, 3, 3, 3, 3, 3, 3, 0]]
def nestK (i j : Nat) : Nat := (nestTab.getD i []).getD j 0
def nestT : List Nat := [0, 2, 1, 3]
def nestB : List (List (List Nat)) := [[[0], [1], [2], [3]], [[1], [1], [0, 1, 2, 3], [3]], [[2], [0, 1, 2], [2], [2, 3]], [[3], [1, 3], [3], [0, 1, 2, 3]]]
theorem nest_book : IsBook nestT nestB where
  len1 := by decide
  len2 := by decide
  kinds := by decide
  zero := by decide
  back := by decide +kernel
  rows := by decide +kernel
  row := by decide +kernel
  ne := by decide +kernel
  lt := by decide +kernel
  up := by decide +kernel
  left := by decide +kernel
  right := by decide +kernel
  turn := by decide +kernel
theorem words_at : (List.range 15).map wordAt = someW 3 := by decide +kernel
theorem nest_all : ∀ i < 15, ∀ j < 15, ∀ k < 15, nestK i k ∈ (nestB.getD (nestK i j) []).getD (nestK j k) [] := by decide +kernel
theorem nest_wit : ∀ a < 4, ∀ b < 4, ∀ c ∈ (nestB.getD a []).getD b [], ∃ i < 15, ∃ j < 15, ∃ k < 15, nestK i j = a ∧ nestK j k = b ∧ nestK i k = c := by decide +kernel
theorem nest_filter : nestB = lotsOf (fun a b c => decide (c ∈ (nestB.getD a []).getD b [])) 4 := by decide +kernel
theorem nest_lt : ∀ i < 15, ∀ j < 15, nestK i j < 4 := by decide +kernel
theorem nest_turn : ∀ i < 15, ∀ j < 15, nestT.getD (nestK i j) 0 = nestK j i := by decide +kernel
theorem nest_hit : ∀ k < 4, ∃ i < 15, ∃ j < 15, nestK i j = k := by decide +kernel
/-- a word as data -/
def strD (x : Str) : PyData := toD (.str x)
def kindW (x y : Str) : Nat := if PyData.eqv (strD x) (strD y) = true then 0 else if PyData.eqv (strD (Txt.slice x none (some (y.length : Nat)))) (strD y) = true then 1 else if PyData.eqv (strD (Txt.slice y none (some (x.length : Nat)))) (strD x) = true then 2 else 3
theorem kind_words : ∀ i < 15, ∀ j < 15, kindW (wordAt i) (wordAt j) = nestK i j := by decide +kernel
theorem word_ok : ∀ i < 15, SeqAt.shaped (strD (wordAt i)) = true ∧ (wordAt i).length ≤ 3 := by decide +kernel
theorem word_cut : ∀ i < 15, ∀ j < 15, SeqAt.shaped (strD (Txt.slice (wordAt i) none (some ((wordAt j).length : Nat)))) = true := by decide +kernel
theorem some_len : ∀ i < 3, ∀ w ∈ someW i, w.length ≤ 2 := by decide +kernel
theorem next_len : ∀ i < 3, (someW i).length ≤ 15 ∧ (nextW (someW i) i).length ≤ 15 := by decide +kernel
theorem eq_str {st : Store} {x y : Str} {B : Bool → Prop} (h1 : SeqAt.shaped (strD x) = true) (h2 : SeqAt.shaped (strD y) = true) (q : B (PyData.eqv (strD x) (strD y))) : cmpW st .Eq (.str x) (.str y) B := .inl ⟨_, _, rfl, rfl, h1, h2, q⟩
theorem len_str {st : Store} {x : Str} {Q : Post} (h : x.length ≤ sizeLine) (q : Q (.int x.length) st) : biW st .len [.str x] Q := ⟨h, q⟩
theorem slice_str {st : Store} {x : Str} {lo hi : Option Int} {K : W → Prop} (h : x.length ≤ sizeLine) (q : K (.str (Txt.slice x lo hi))) : sliceW st (.str x) lo hi K := ⟨h, q⟩
section
variable {d : Nat} {st : Store} {Q : Post} {X : XPost}
theorem sp7 {x y : Nat} (q : Q (nW (ordK x y)) st) : (callW P (d + 1)).fn 7 none [nW x, nW y] st Q X := by
  refine fn_in (env := [nW x, nW y]) (f := f7) rfl rfl rfl rfl ?_
  dsimp only [f7]
  repeat' (first | sizeOf_list_dec | (with_reducible refine br (fun h => ?_) (fun h => ?_)))
  all_goals
    simp only [decide_eq_true_eq, decide_eq_false_iff_not] at *
    refine q_int q ?_
    unfold ordK
    repeat' split
    all_goals omega
theorem sp8 (hst : okSt st) (q : Q (bookW ordT ordB) st) : (callW P (d + 4)).fn 8 none [] st Q X := by
  refine fn_in (env := []) (f := f8) rfl rfl rfl rfl ?_
  dsimp only [f8]
  repeat' sizeOf_list_dec
  refine sp_model (xs := List.range 3) (inj := nW) (kd := ordK) (τ := ordT) (M := 3) (m := 5) (kf := 7) rfl rfl (by decide) (fun x hx y hy _ _ _ q => sp7 q) (fun _ => rfl) (fun _ h => by cases h) (fun cs => rfl) rfl rfl (fun h => by cases h) (by decide) (by decide) (by decide) (by decide) (by decide) (by decide) hst fun p hp => ?_
  rw [lots_congr (q := fun a b c => decide (∃ x ∈ List.range 3, ∃ y ∈ List.range 3, ∃ z ∈ List.range 3, ordK x y = a ∧ ordK y z = b ∧ ordK x z = c)) fun a _ b _ c _ => by rw [Bool.eq_iff_iff, hp]; simp only [decide_eq_true_eq], ord_lots]
  exact ret_same q
theorem sp9 {i j : Nat} (hi : i < 15) (hj : j < 15) (q : Q (nW (nestK i j)) st) : (callW P (d + 1)).fn 9 none [.str (wordAt i), .str (wordAt j)] st Q X := by
  obtain ⟨s1, l1⟩ := word_ok i hi
  obtain ⟨s2, l2⟩ := word_ok j hj
  have s3 := word_cut i hi j hj
  have s4 := word_cut j hj i hi
  have l3 : (wordAt i).length ≤ sizeLine := Nat.le_trans l1 (by decide)
  have l4 : (wordAt j).length ≤ sizeLine := Nat.le_trans l2 (by decide)
  have e := kind_words i hi j hj
  unfold kindW at e
  refine fn_in (env := [.str (wordAt i), .str (wordAt j)]) (f := f9) rfl rfl rfl rfl ?_
  dsimp only [f9]
  repeat' array_get_dec
  refine eq_str s1 s2 ?_
  repeat' (first | sizeOf_list_dec | (with_reducible refine br (fun h => ?_) (fun h => ?_)))
  · rw [if_pos h] at e
    rw [← e] at q
    exact q
  · rw [if_neg (by rw [h]; simp)] at e
    refine len_str l4 ?_
    repeat' sizeOf_list_dec
    refine slice_str l3 ?_
    repeat' sizeOf_list_dec
    refine eq_str s3 s2 ?_
    repeat' (first | sizeOf_list_dec | (with_reducible refine br (fun h2 => ?_) (fun h2 => ?_)))
    · rw [if_pos h2] at e
      rw [← e] at q
      exact q
    · rw [if_neg (by rw [h2]; simp)] at e
      refine len_str l3 ?_
      repeat' sizeOf_list_dec
      refine slice_str l4 ?_
      repeat' sizeOf_list_dec
      refine eq_str s4 s1 ?_
      repeat' (first | sizeOf_list_dec | (with_reducible refine br (fun h3 => ?_) (fun h3 => ?_)))
      · rw [if_pos h3] at e
        rw [← e] at q
        exact q
      · rw [if_neg (by rw [h3]; simp)] at e
        rw [← e] at q
        exact q
theorem sp10 (hst : okSt st) (q : Q (bookW nestT nestB) st) : (callW P (d + 4)).fn 10 none [] st Q X := by
  refine fn_in (env := [.undef, .undef, .undef, .undef]) (f := f10) rfl rfl rfl rfl ?_
  dsimp only [f10]
  repeat' sizeOf_list_dec
  refine for_ty (List.range 3) nW (rangeW_nat 3) (fun i env s => ∃ v1 v2 v3 cs, env = [.lst ((someW i).map W.str), v1, v2, v3] ∧ s = st ++ cs ∧ okSt s) ⟨_, _, _, [], rfl, (List.append_nil _).symm, hst⟩ ?_ ?_
  · rintro i x env s nx' hx ⟨v1, v2, v3, cs, rfl, hs, hss⟩ hn
    obtain ⟨rfl, hi⟩ := range_at hx
    obtain ⟨n1, n2⟩ := next_len x hi
    have sl := some_len x hi
    refine ⟨trivial, ?_⟩
    repeat' sizeOf_list_dec
    refine comp_ty (someW x) W.str (fun w => decide (w.length = x)) W.str rfl rfl (Nat.le_trans n1 (by decide)) (fun w hw => ⟨[_, _, _, .str w], rfl, fun K q => ?_, fun _ K q => ?_⟩) ?_
    · have hw2 : w.length ≤ sizeLine := Nat.le_trans (sl w hw) (by decide)
      repeat' sizeOf_list_dec
      refine len_str hw2 ?_
      repeat' sizeOf_list_dec
      rw [show decide (((w.length : Nat) : Int) = (x : Int)) = decide (w.length = x) by rw [Bool.eq_iff_iff]; simp only [decide_eq_true_eq]; omega]
      exact q
    · repeat' sizeOf_list_dec
      exact q _ rfl
    repeat' sizeOf_list_dec
    refine for_ty ((someW x).filter fun w => decide (w.length = x)) W.str rfl (fun k env s' => ∃ v3, env = [.lst ((someW x).map W.str), nW x, .loc s.length, v3] ∧ s' = s ++ [.lst ((exts (((someW x).filter fun w => decide (w.length = x)).take k)).map W.str)]) ⟨_, rfl, rfl⟩ ?_ ?_
    · rintro k w env s' nx2 hw ⟨v3, rfl, rfl⟩ hn2
      have hwm := (List.mem_filter.mp (List.mem_of_getElem? hw)).1
      have hw2 := sl w hwm
      have hk := (List.getElem?_eq_some_iff.mp hw).1
      have hk2 : k < 15 := by
        have := List.length_filter_le (fun w => decide (w.length = x)) (someW x)
        omega
      refine ⟨rfl, ?_⟩
      repeat' sizeOf_list_dec
      refine ⟨meTy_lst get_app0 (by simp), ?_⟩
      repeat' sizeOf_list_dec
      refine add_ss (Nat.le_trans (show w.length + 1 ≤ 10 by omega) (by decide)) ?_
      repeat' sizeOf_list_dec
      refine add_ss (Nat.le_trans (show w.length + 1 ≤ 10 by omega) (by decide)) ?_
      repeat' sizeOf_list_dec
      refine extend_w get_app0 rfl ?_ ?_
      · rw [List.length_map]
        rw [exts_len, List.length_take]
        exact Nat.le_trans (show _ + 2 ≤ 100 by omega) (by decide)
      rw [set_app0]
      repeat' sizeOf_list_dec
      refine hn2 _ _ ⟨_, rfl, ?_⟩
      rw [take_at hw, exts_app, List.map_append]
      rfl
    · rintro env s' ⟨v3, rfl, rfl⟩
      refine ⟨rfl, ?_⟩
      repeat' sizeOf_list_dec
      rw [List.take_of_length_le (Nat.le_refl _)]
      refine add_ll (y := (nextW (someW x) x).map W.str) rfl (by simp only [lstW, get_app0]; rfl) ?_ ?_
      · rw [List.length_map, List.length_map]
        exact Nat.le_trans (show _ ≤ 100 by omega) (by decide)
      repeat' sizeOf_list_dec
      refine hn _ _ ⟨nW x, .loc s.length, v3, cs ++ [.lst ((nextW (someW x) x).map W.str)], ?_, by rw [hs, List.append_assoc]; rfl, okSt_app hss fun c hc => ?_⟩
      · rw [← List.map_append]
        rfl
      · obtain rfl : c = .lst ((nextW (someW x) x).map W.str) := by simpa [nextW] using hc
        show okVs _ _ = true
        rw [okVs_mem]
        intro w hw
        obtain ⟨p, _, rfl⟩ := List.mem_map.mp hw
        rfl
  · rintro env s ⟨v1, v2, v3, cs, rfl, rfl, hss⟩
    refine ⟨trivial, ?_⟩
    repeat' sizeOf_list_dec
    have mr : ∀ x, x ∈ List.range 15 → x < 15 := fun x => List.mem_range.mp
    refine sp_model (xs := List.range 15) (inj := fun i => .str (wordAt i)) (kd := nestK) (τ := nestT) (M := 4) (m := 5) (kf := 9) rfl rfl (by decide) (fun x hx y hy _ _ _ q => sp9 (mr x hx) (mr y hy) q) (fun _ => rfl) (fun _ h => by cases h) (fun cs => ?_) rfl rfl (fun h => by cases h) (by decide) (by decide) (by decide) (fun x hx y hy => nest_lt x (mr x hx) y (mr y hy)) (fun x hx y hy => nest_turn x (mr x hx) y (mr y hy)) (fun k hk => ?_) hss fun p hp => ?_
    · show some ((someW 3).map W.str) = _
      rw [← words_at, List.map_map]
      rfl
    · obtain ⟨i, hi, j, hj, e⟩ := nest_hit k hk
      exact ⟨i, List.mem_range.mpr hi, j, List.mem_range.mpr hj, e⟩
    rw [lots_congr (q := fun a b c => decide (c ∈ (nestB.getD a []).getD b [])) fun a ha b hb c _ => by
      rw [Bool.eq_iff_iff, hp]
      simp only [decide_eq_true_eq]
      constructor
      · rintro ⟨i, hi, j, hj, k, hk, rfl, rfl, rfl⟩
        exact nest_all i (mr i hi) j (mr j hj) k (mr k hk)
      · intro hc
        obtain ⟨i, hi, j, hj, k, hk, e⟩ := nest_wit a ha b hb c hc
        exact ⟨i, List.mem_range.mpr hi, j, List.mem_range.mpr hj, k, List.mem_range.mpr hk, e⟩, ← nest_filter]
    refine ret_app ?_ hst q
    exact okV_book _ _ _
end
end K02

set_option maxRecDepth 100000
set_option maxHeartbeats 4000000
namespace K02
open PySem L2 Ev
set_option hygiene false
local macro_rules | `(tactic| array_mem_dec) => `(tactic| first | rfl | assumption | decide | omega | (focus (simp; done)))
local macro_rules | `(tactic| sizeOf_list_dec) => `(tactic| first
  | ((with_reducible apply wp_var); rfl; (first | assumption | (focus (intro h; cases h; done))))
  | (with_reducible refine wp_int ?_)
  | (with_reducible refine wpSs_cons ?_)
  | (with_reducible refine wpEs_cons ?_)
  | (with_reducible refine wpEs_nil ?_)
  | (with_reducible refine wpS_asg ?_)
  | (with_reducible refine wpS_ret ?_)
  | (with_reducible refine wpS_ite ?_)
  | (with_reducible refine wpS_for' ?_)
  | (with_reducible refine wpS_ex ?_)
  | (with_reducible refine wp_sub ?_)
  | (with_reducible refine wp_cmp ?_)
  | (with_reducible refine wp_bi ?_)
  | (with_reducible refine wp_call ?_)
  | (with_reducible refine wp_bin ?_)
  | (with_reducible refine wp_not ?_)
  | (with_reducible refine wp_isi ?_)
  | (with_reducible refine wp_meth ?_)
  | (with_reducible refine wp_tup ?_)
  | (with_reducible refine wp_lst ?_)
  | (with_reducible refine wp_band ?_)
  | (with_reducible refine wp_bor ?_)
  | (with_reducible refine wp_and1 ?_)
  | (with_reducible refine wp_and2 ?_)
  | (with_reducible refine wp_or1 ?_)
  | (with_reducible refine wp_or2 ?_)
  | (with_reducible refine wpS_asgT ?_)
  | (with_reducible refine wpS_asgS ?_)
  | (with_reducible refine wpSs_nil ?_)
  | (with_reducible refine ret_same ?_)
  | (with_reducible refine tru_bl ?_)
  | (with_reducible refine bl_of ?_)
  | ((with_reducible refine br_t ?_ ?_); (focus (first | exact rfl | assumption | (simp only [Bool.not_eq_true', Bool.not_eq_false', decide_eq_true_eq, decide_eq_false_iff_not, List.length_cons, List.length_nil, List.length_map, List.length_range]; omega))))
  | ((with_reducible refine br_f ?_ ?_); (focus (first | exact rfl | assumption | (simp only [Bool.not_eq_true', Bool.not_eq_false', decide_eq_true_eq, decide_eq_false_iff_not, List.length_cons, List.length_nil, List.length_map, List.length_range]; omega))))
  | (with_reducible refine wp_non ?_)
  | (with_reducible refine wp_bl ?_)
  | (with_reducible refine wp_str ?_)
  | (with_reducible refine wp_gfn ?_)
  | ((with_reducible apply wp_gcon); rfl)
  | (with_reducible refine wp_alloc ?_)
  | ((with_reducible refine alloc_tmp ?_); (intro _ _ hen hes; (try simp only [List.length_append, List.length_set, List.length_cons, List.length_nil, Nat.zero_add, Nat.add_assoc, Nat.reduceAdd] at hen); (try simp only [List.append_assoc, List.cons_append, List.nil_append] at hes); subst hen; subst hes))
  | ((with_reducible refine wp_dnewT ?_); (intro _ _ hen hes; (try simp only [List.length_append, List.length_set, List.length_cons, List.length_nil, Nat.zero_add, Nat.add_assoc, Nat.reduceAdd] at hen); (try simp only [List.append_assoc, List.cons_append, List.nil_append] at hes); subst hen; subst hes))
  | ((with_reducible refine wp_dnewK ?_); (intro _ _ hen hes; (try simp only [List.length_append, List.length_set, List.length_cons, List.length_nil, Nat.zero_add, Nat.add_assoc, Nat.reduceAdd] at hen); (try simp only [List.append_assoc, List.cons_append, List.nil_append] at hes); subst hen; subst hes))
  | (with_reducible refine wp_ife ?_)
  | (with_reducible refine wp_comp ?_)
  | (with_reducible refine wp_comp2 ?_)
  | (with_reducible refine wp_cmp2 ?_)
  | (with_reducible refine wp_neg ?_)
  | (with_reducible refine neg_int ?_)
  | (with_reducible refine wp_slice ?_)
  | (with_reducible refine wpO_none ?_)
  | (with_reducible refine wpO_some ?_)
  | (with_reducible refine opt_int ?_)
  | (with_reducible refine wp_rev ?_)
  | (with_reducible refine wpI_seq ?_)
  | (with_reducible refine wpI_rng1 ?_)
  | (with_reducible refine wpI_rng2 ?_)
  | (with_reducible refine wpI_enum ?_)
  | (with_reducible refine wpTs_nil ?_)
  | (with_reducible refine wpTs_one ?_)
  | (with_reducible refine wpS_par ?_)
  | (with_reducible refine wpS_pass ?_)
  | (with_reducible refine wpS_brk ?_)
  | (with_reducible refine wpS_cont ?_)
  | (with_reducible refine wpS_retN ?_)
  | (with_reducible refine wpS_tryN ?_)
  | (with_reducible refine wp_callL ?_)
  | ((with_reducible apply wp_callv); rfl; (focus (first | assumption | decide)))
  | ((with_reducible apply wp_callc); rfl)
  | ((with_reducible apply wp_callP); rfl)
  | ((with_reducible apply len_map); (focus assumption))
  | ((with_reducible apply len_w); (focus (first | rfl | assumption)))
  | ((with_reducible apply it_of); (focus (first | assumption | apply hth | rfl)); (focus (first | assumption | rfl)))
  | ((with_reducible apply eq_nil); (focus (first | rfl | assumption)))
  | ((with_reducible apply ne_nil); (focus (first | rfl | assumption)))
  | ((with_reducible refine rng1_int ?_ ?_ ?_); (focus omega); (focus omega))
  | ((with_reducible refine rng2_int ?_ ?_ ?_ ?_ ?_); (focus omega); (focus omega); (focus omega); (focus omega))
  | (with_reducible refine eq_ii ?_)
  | (with_reducible refine ne_ii ?_)
  | (with_reducible refine lt_ii ?_)
  | (with_reducible refine le_ii ?_)
  | (with_reducible refine gt_ii ?_)
  | (with_reducible refine ge_ii ?_)
  | (with_reducible refine add_ii ?_)
  | (with_reducible refine sub_ii ?_)
  | (with_reducible refine int_i ?_)
  | (with_reducible refine max_ii ?_)
  | (with_reducible refine min_ii ?_)
  | (with_reducible refine tuple_k ?_)
  | ((with_reducible apply is_non); (focus (first | rfl | assumption)))
  | ((with_reducible apply isnot_non); (focus (first | rfl | assumption)))
  | ((with_reducible apply isi_of); (focus (first | rfl | assumption)))
  | ((with_reducible refine And.intro ?_ ?_); (first | decide | (focus (simp [sizeLine]; done))); (intro _ he; (first | simp only [List.set, List.map_cons, List.map_nil, ro_int, ro_bl, ro_str, ro_non, ro_undef, ro_tup, ro_ktup, ro_lst, ro_tmp, ro_scr, ro_loc, ro_fn, hro, hro2] at he | simp only [List.set, List.map_cons, List.map_nil, ro_int, ro_bl, ro_str, ro_non, ro_undef, ro_tup, ro_ktup, ro_lst, ro_tmp, ro_scr, ro_loc, ro_fn, hro] at he | simp only [List.set, List.map_cons, List.map_nil, ro_int, ro_bl, ro_str, ro_non, ro_undef, ro_tup, ro_ktup, ro_lst, ro_tmp, ro_scr, ro_loc, ro_fn] at he | skip); subst he))
  | ((with_reducible intro _ he); (first | simp only [List.set, List.map_cons, List.map_nil, ro_int, ro_bl, ro_str, ro_non, ro_undef, ro_tup, ro_ktup, ro_lst, ro_tmp, ro_scr, ro_loc, ro_fn, hro, hro2] at he | simp only [List.set, List.map_cons, List.map_nil, ro_int, ro_bl, ro_str, ro_non, ro_undef, ro_tup, ro_ktup, ro_lst, ro_tmp, ro_scr, ro_loc, ro_fn, hro] at he | simp only [List.set, List.map_cons, List.map_nil, ro_int, ro_bl, ro_str, ro_non, ro_undef, ro_tup, ro_ktup, ro_lst, ro_tmp, ro_scr, ro_loc, ro_fn] at he | skip); subst he)
  | ((with_reducible apply bind_of); (focus ((first | simp only [bindT, bindTs, seqW, isScr, ro_int, ro_bl, ro_str, ro_non, ro_undef, ro_tup, ro_ktup, ro_lst, ro_tmp, ro_scr, ro_loc, ro_fn, hro, hro2, wipeW, List.set, List.length_cons, List.length_nil, Bool.false_eq_true, if_false, if_true, Nat.reduceAdd, Nat.reduceLT, ↓reduceIte] | simp only [bindT, bindTs, seqW, isScr, ro_int, ro_bl, ro_str, ro_non, ro_undef, ro_tup, ro_ktup, ro_lst, ro_tmp, ro_scr, ro_loc, ro_fn, hro, wipeW, List.set, List.length_cons, List.length_nil, Bool.false_eq_true, if_false, if_true, Nat.reduceAdd, Nat.reduceLT, ↓reduceIte] | simp only [bindT, bindTs, seqW, isScr, ro_int, ro_bl, ro_str, ro_non, ro_undef, ro_tup, ro_ktup, ro_lst, ro_tmp, ro_scr, ro_loc, ro_fn, wipeW, List.set, List.length_cons, List.length_nil, Bool.false_eq_true, if_false, if_true, Nat.reduceAdd, Nat.reduceLT, ↓reduceIte]); rfl)))
  | ((with_reducible apply binds_of); (focus ((first | simp only [List.map_cons, List.map_nil, bindT, bindTs, seqW, isScr, ro_int, ro_bl, ro_str, ro_non, ro_undef, ro_tup, ro_ktup, ro_lst, ro_tmp, ro_scr, ro_loc, ro_fn, hro, hro2, wipeW, List.set, List.length_cons, List.length_nil, Bool.false_eq_true, if_false, if_true, Nat.reduceAdd, Nat.reduceLT, ↓reduceIte] | simp only [List.map_cons, List.map_nil, bindT, bindTs, seqW, isScr, ro_int, ro_bl, ro_str, ro_non, ro_undef, ro_tup, ro_ktup, ro_lst, ro_tmp, ro_scr, ro_loc, ro_fn, hro, wipeW, List.set, List.length_cons, List.length_nil, Bool.false_eq_true, if_false, if_true, Nat.reduceAdd, Nat.reduceLT, ↓reduceIte] | simp only [List.map_cons, List.map_nil, bindT, bindTs, seqW, isScr, ro_int, ro_bl, ro_str, ro_non, ro_undef, ro_tup, ro_ktup, ro_lst, ro_tmp, ro_scr, ro_loc, ro_fn, wipeW, List.set, List.length_cons, List.length_nil, Bool.false_eq_true, if_false, if_true, Nat.reduceAdd, Nat.reduceLT, ↓reduceIte]); rfl))))
local macro_rules | `(tactic| array_get_dec) => `(tactic| first
  | ((with_reducible apply wp_var); rfl; (first | assumption | (focus (intro h; cases h; done))))
  | (with_reducible refine wp_int ?_)
  | (with_reducible refine wpSs_cons ?_)
  | (with_reducible refine wpEs_cons ?_)
  | (with_reducible refine wpEs_nil ?_)
  | (with_reducible refine wpS_asg ?_)
  | (with_reducible refine wpS_ret ?_)
  | (with_reducible refine wpS_ite ?_)
  | (with_reducible refine wpS_for' ?_)
  | (with_reducible refine wpS_ex ?_)
  | (with_reducible refine wp_sub ?_)
  | (with_reducible refine wp_cmp ?_)
  | (with_reducible refine wp_bi ?_)
  | (with_reducible refine wp_call ?_)
  | (with_reducible refine wp_bin ?_)
  | (with_reducible refine wp_not ?_)
  | (with_reducible refine wp_isi ?_)
  | (with_reducible refine wp_meth ?_)
  | (with_reducible refine wp_tup ?_)
  | (with_reducible refine wp_lst ?_)
  | (with_reducible refine wp_and1 ?_)
  | (with_reducible refine wp_and2 ?_)
  | (with_reducible refine wp_or1 ?_)
  | (with_reducible refine wp_or2 ?_)
  | (with_reducible refine wpS_asgT ?_)
  | (with_reducible refine wpS_asgS ?_)
  | (with_reducible refine wpSs_nil ?_)
  | (with_reducible refine ret_same ?_)
  | (with_reducible refine tru_bl ?_)
  | (with_reducible refine bl_of ?_)
  | ((with_reducible refine br_t ?_ ?_); (focus (first | exact rfl | assumption | (simp only [Bool.not_eq_true', Bool.not_eq_false', decide_eq_true_eq, decide_eq_false_iff_not, List.length_cons, List.length_nil, List.length_map, List.length_range]; omega))))
  | ((with_reducible refine br_f ?_ ?_); (focus (first | exact rfl | assumption | (simp only [Bool.not_eq_true', Bool.not_eq_false', decide_eq_true_eq, decide_eq_false_iff_not, List.length_cons, List.length_nil, List.length_map, List.length_range]; omega))))
  | (with_reducible refine wp_non ?_)
  | (with_reducible refine wp_bl ?_)
  | (with_reducible refine wp_str ?_)
  | (with_reducible refine wp_gfn ?_)
  | ((with_reducible apply wp_gcon); rfl)
  | (with_reducible refine wp_alloc ?_)
  | ((with_reducible refine alloc_tmp ?_); (intro _ _ hen hes; (try simp only [List.length_append, List.length_set, List.length_cons, List.length_nil, Nat.zero_add, Nat.add_assoc, Nat.reduceAdd] at hen); (try simp only [List.append_assoc, List.cons_append, List.nil_append] at hes); subst hen; subst hes))
  | ((with_reducible refine wp_dnewT ?_); (intro _ _ hen hes; (try simp only [List.length_append, List.length_set, List.length_cons, List.length_nil, Nat.zero_add, Nat.add_assoc, Nat.reduceAdd] at hen); (try simp only [List.append_assoc, List.cons_append, List.nil_append] at hes); subst hen; subst hes))
  | ((with_reducible refine wp_dnewK ?_); (intro _ _ hen hes; (try simp only [List.length_append, List.length_set, List.length_cons, List.length_nil, Nat.zero_add, Nat.add_assoc, Nat.reduceAdd] at hen); (try simp only [List.append_assoc, List.cons_append, List.nil_append] at hes); subst hen; subst hes))
  | (with_reducible refine wp_ife ?_)
  | (with_reducible refine wp_comp ?_)
  | (with_reducible refine wp_comp2 ?_)
  | (with_reducible refine wp_cmp2 ?_)
  | (with_reducible refine wp_neg ?_)
  | (with_reducible refine neg_int ?_)
  | (with_reducible refine wp_slice ?_)
  | (with_reducible refine wpO_none ?_)
  | (with_reducible refine wpO_some ?_)
  | (with_reducible refine opt_int ?_)
  | (with_reducible refine wp_rev ?_)
  | (with_reducible refine wpI_seq ?_)
  | (with_reducible refine wpI_rng1 ?_)
  | (with_reducible refine wpI_rng2 ?_)
  | (with_reducible refine wpI_enum ?_)
  | (with_reducible refine wpTs_nil ?_)
  | (with_reducible refine wpTs_one ?_)
  | (with_reducible refine wpS_par ?_)
  | (with_reducible refine wpS_pass ?_)
  | (with_reducible refine wpS_brk ?_)
  | (with_reducible refine wpS_cont ?_)
  | (with_reducible refine wpS_retN ?_)
  | (with_reducible refine wpS_tryN ?_)
  | (with_reducible refine wp_callL ?_)
  | ((with_reducible apply wp_callv); rfl; (focus (first | assumption | decide)))
  | ((with_reducible apply wp_callc); rfl)
  | ((with_reducible apply wp_callP); rfl)
  | ((with_reducible apply len_map); (focus assumption))
  | ((with_reducible apply len_w); (focus (first | rfl | assumption)))
  | ((with_reducible apply it_of); (focus (first | assumption | apply hth | rfl)); (focus (first | assumption | rfl)))
  | ((with_reducible apply eq_nil); (focus (first | rfl | assumption)))
  | ((with_reducible apply ne_nil); (focus (first | rfl | assumption)))
  | ((with_reducible refine rng1_int ?_ ?_ ?_); (focus omega); (focus omega))
  | ((with_reducible refine rng2_int ?_ ?_ ?_ ?_ ?_); (focus omega); (focus omega); (focus omega); (focus omega))
  | (with_reducible refine eq_ii ?_)
  | (with_reducible refine ne_ii ?_)
  | (with_reducible refine lt_ii ?_)
  | (with_reducible refine le_ii ?_)
  | (with_reducible refine gt_ii ?_)
  | (with_reducible refine ge_ii ?_)
  | (with_reducible refine add_ii ?_)
  | (with_reducible refine sub_ii ?_)
  | (with_reducible refine int_i ?_)
  | (with_reducible refine max_ii ?_)
  | (with_reducible refine min_ii ?_)
  | (with_reducible refine tuple_k ?_)
  | ((with_reducible apply is_non); (focus (first | rfl | assumption)))
  | ((with_reducible apply isnot_non); (focus (first | rfl | assumption)))
  | ((with_reducible apply isi_of); (focus (first | rfl | assumption)))
  | ((with_reducible refine And.intro ?_ ?_); (first | decide | (focus (simp [sizeLine]; done))); (intro _ he; (first | simp only [List.set, List.map_cons, List.map_nil, ro_int, ro_bl, ro_str, ro_non, ro_undef, ro_tup, ro_ktup, ro_lst, ro_tmp, ro_scr, ro_loc, ro_fn, hro, hro2] at he | simp only [List.set, List.map_cons, List.map_nil, ro_int, ro_bl, ro_str, ro_non, ro_undef, ro_tup, ro_ktup, ro_lst, ro_tmp, ro_scr, ro_loc, ro_fn, hro] at he | simp only [List.set, List.map_cons, List.map_nil, ro_int, ro_bl, ro_str, ro_non, ro_undef, ro_tup, ro_ktup, ro_lst, ro_tmp, ro_scr, ro_loc, ro_fn] at he | skip); subst he))
  | ((with_reducible intro _ he); (first | simp only [List.set, List.map_cons, List.map_nil, ro_int, ro_bl, ro_str, ro_non, ro_undef, ro_tup, ro_ktup, ro_lst, ro_tmp, ro_scr, ro_loc, ro_fn, hro, hro2] at he | simp only [List.set, List.map_cons, List.map_nil, ro_int, ro_bl, ro_str, ro_non, ro_undef, ro_tup, ro_ktup, ro_lst, ro_tmp, ro_scr, ro_loc, ro_fn, hro] at he | simp only [List.set, List.map_cons, List.map_nil, ro_int, ro_bl, ro_str, ro_non, ro_undef, ro_tup, ro_ktup, ro_lst, ro_tmp, ro_scr, ro_loc, ro_fn] at he | skip); subst he)
  | ((with_reducible apply bind_of); (focus ((first | simp only [bindT, bindTs, seqW, isScr, ro_int, ro_bl, ro_str, ro_non, ro_undef, ro_tup, ro_ktup, ro_lst, ro_tmp, ro_scr, ro_loc, ro_fn, hro, hro2, wipeW, List.set, List.length_cons, List.length_nil, Bool.false_eq_true, if_false, if_true, Nat.reduceAdd, Nat.reduceLT, ↓reduceIte] | simp only [bindT, bindTs, seqW, isScr, ro_int, ro_bl, ro_str, ro_non, ro_undef, ro_tup, ro_ktup, ro_lst, ro_tmp, ro_scr, ro_loc, ro_fn, hro, wipeW, List.set, List.length_cons, List.length_nil, Bool.false_eq_true, if_false, if_true, Nat.reduceAdd, Nat.reduceLT, ↓reduceIte] | simp only [bindT, bindTs, seqW, isScr, ro_int, ro_bl, ro_str, ro_non, ro_undef, ro_tup, ro_ktup, ro_lst, ro_tmp, ro_scr, ro_loc, ro_fn, wipeW, List.set, List.length_cons, List.length_nil, Bool.false_eq_true, if_false, if_true, Nat.reduceAdd, Nat.reduceLT, ↓reduceIte]); rfl)))
  | ((with_reducible apply binds_of); (focus ((first | simp only [List.map_cons, List.map_nil, bindT, bindTs, seqW, isScr, ro_int, ro_bl, ro_str, ro_non, ro_undef, ro_tup, ro_ktup, ro_lst, ro_tmp, ro_scr, ro_loc, ro_fn, hro, hro2, wipeW, List.set, List.length_cons, List.length_nil, Bool.false_eq_true, if_false, if_true, Nat.reduceAdd, Nat.reduceLT, ↓reduceIte] | simp only [List.map_cons, List.map_nil, bindT, bindTs, seqW, isScr, ro_int, ro_bl, ro_str, ro_non, ro_undef, ro_tup, ro_ktup, ro_lst, ro_tmp, ro_scr, ro_loc, ro_fn, hro, wipeW, List.set, List.length_cons, List.length_nil, Bool.false_eq_true, if_false, if_true, Nat.reduceAdd, Nat.reduceLT, ↓reduceIte] | simp only [List.map_cons, List.map_nil, bindT, bindTs, seqW, isScr, ro_int, ro_bl, ro_str, ro_non, ro_undef, ro_tup, ro_ktup, ro_lst, ro_tmp, ro_scr, ro_loc, ro_fn, wipeW, List.set, List.length_cons, List.length_nil, Bool.false_eq_true, if_false, if_true, Nat.reduceAdd, Nat.reduceLT, ↓reduceIte]); rfl))))
section
variable {d : Nat} {st : Store} {Q : Post} {X : XPost}
theorem sp41 (q : Q (bookW ordT ordB) st) : (callW P (d + 1)).fn 41 none [] st Q X := by
  refine fn_in (env := [.undef]) (f := f41) rfl rfl rfl rfl ?_
  dsimp only [f41]
  repeat' sizeOf_list_dec
  exact q
theorem sp42 (q : Q (bookW nestT nestB) st) : (callW P (d + 1)).fn 42 none [] st Q X := by
  refine fn_in (env := [.undef, .undef]) (f := f42) rfl rfl rfl rfl ?_
  dsimp only [f42]
  repeat' sizeOf_list_dec
  exact q
theorem okSt_of {st : Store} (h : st.all (okC st.length) = true) : okSt st := fun c hc => List.all_eq_true.mp h c hc
theorem same_all (a b c : Int) : same [jarC a b c, .lst [.tup [.str "told", bookW ordT ordB], .tup [.str "told", bookW nestT nestB]]] (.lst [.tup [.str "told", bookW ordT ordB], .tup [.str "told", bookW nestT nestB]]) (.loc 1) = true := by
  kernel_rfl
theorem wt_all : wt (.lst [.tup [.str "told", bookW ordT ordB], .tup [.str "told", bookW nestT nestB]]) ≤ 100000 := by decide +kernel
theorem one_far : same st (bookW (List.range 2) (farB 1)) (bookW (List.range 2) (rankB 1)) = true := by
  rw [show farB 1 = rankB 1 by decide +kernel]
  exact same_book _ _ _
theorem plain (ns : List Int) (hl : ns.length ≤ 63) : (callW P 20).fn 43 none [.scr ns] [] (fun v _ => v = .bl true) noX := by
  refine fn_in (env := [.scr ns, .undef, .undef, .undef, .undef, .undef]) (f := f43) (d := 19) rfl rfl rfl rfl ?_
  dsimp only [f43]
  repeat' sizeOf_list_dec
  refine sp_pool rfl hl fun a b => ?_
  repeat' sizeOf_list_dec
  refine take_n (n := 0) (m := 12) (d := 18) rfl (by decide) (by decide) fun r1 a1 b1 c1 h1 => ?_
  repeat' sizeOf_list_dec
  refine take_n (n := 0) (m := 12) (d := 18) rfl (by decide) (by decide) fun r2 a2 b2 c2 h2 => ?_
  repeat' sizeOf_list_dec
  dsimp only [List.set_cons_zero]
  refine for_ty [1, 2, 3, 12, 1 + r1, 1 + r2] nW rfl (fun i env s => ∃ v2 a b c, env = [.scr ns, .loc 0, v2, .undef, .undef, .undef] ∧ s = [jarC a b c]) ⟨_, _, _, _, rfl, rfl⟩ ?_ ?_
  · rintro i t env s nx' hx ⟨v2, a, b, c, rfl, rfl⟩ hn
    have ht : 1 ≤ t ∧ t ≤ 12 := by
      have := List.mem_of_getElem? hx
      simp only [List.mem_cons, List.not_mem_nil, or_false] at this
      omega
    refine ⟨rfl, ?_⟩
    repeat' sizeOf_list_dec
    refine sp36 (d := 7) ht.1 ht.2 (okSt_of rfl) ?_
    repeat' sizeOf_list_dec
    refine sp39 (d := 7) (n := 0) ht.1 ht.2 rfl (okSt_of rfl) fun a' b' c' => ?_
    repeat' sizeOf_list_dec
    refine sp40 (d := 7) (n := 0) ht.1 ht.2 rfl (okSt_of rfl) fun a' b' c' => ?_
    repeat' sizeOf_list_dec
    exact hn _ _ ⟨_, _, _, _, rfl, rfl⟩
  · rintro env s ⟨v2, a, b, c, rfl, rfl⟩
    refine ⟨rfl, ?_⟩
    repeat' sizeOf_list_dec
    refine sp3 (w := bookW ordT ordB) rfl (fun K X q => ?_) ?_
    · refine clo_in (d := 17) (l := l10) rfl ?_
      dsimp only [l10]
      repeat' sizeOf_list_dec
      exact sp41 (d := 16) q
    repeat' sizeOf_list_dec
    refine ⟨meTy_lst (ws := _) rfl (by simp), ?_⟩
    repeat' sizeOf_list_dec
    refine sp3 (w := bookW nestT nestB) rfl (fun K X q => ?_) ?_
    · refine clo_in (d := 17) (l := l11) rfl ?_
      dsimp only [l11]
      repeat' sizeOf_list_dec
      exact sp42 (d := 16) q
    repeat' sizeOf_list_dec
    refine append_w (xs := [.tup [.str "told", bookW ordT ordB]]) rfl (by decide) ?_
    dsimp only [List.set_cons_succ, List.set_cons_zero, List.cons_append, List.nil_append, ro_tup]
    repeat' sizeOf_list_dec
    refine sp8 (d := 15) (okSt_of rfl) ?_
    repeat' sizeOf_list_dec
    refine sp10 (d := 15) (okSt_of rfl) ?_
    repeat' sizeOf_list_dec
    refine sp_same (w := 1) (d := 17) rfl rfl (same_all a b c) wt_all rfl (okSt_of rfl) ?_
    repeat' sizeOf_list_dec
    refine sp8 (d := 15) (okSt_of rfl) ?_
    repeat' sizeOf_list_dec
    refine sp10 (d := 15) (okSt_of rfl) ?_
    repeat' sizeOf_list_dec
    refine sp18 (d := 15) ord_book ?_
    repeat' sizeOf_list_dec
    refine sp18 (d := 15) nest_book ?_
    repeat' sizeOf_list_dec
    refine sub_lit (j := 1) rfl rfl rfl ?_
    repeat' sizeOf_list_dec
    refine sub_lit (j := 1) rfl rfl rfl ?_
    repeat' sizeOf_list_dec
    refine sub_lit (j := 2) rfl rfl rfl ?_
    repeat' sizeOf_list_dec
    refine ne_lot (l := [0, 1, 2]) (m := [0, 1, 2]) ?_
    repeat' sizeOf_list_dec
    refine sub_lit (j := 1) rfl rfl rfl ?_
    repeat' sizeOf_list_dec
    refine sub_lit (j := 2) rfl rfl rfl ?_
    repeat' sizeOf_list_dec
    refine sub_lit (j := 1) rfl rfl rfl ?_
    repeat' sizeOf_list_dec
    refine ne_lot (l := [0, 1, 2]) (m := [0, 1, 2]) ?_
    repeat' sizeOf_list_dec
    refine sub_lit (j := 1) rfl rfl rfl ?_
    repeat' sizeOf_list_dec
    refine sub_lit (j := 1) rfl rfl rfl ?_
    repeat' sizeOf_list_dec
    refine sub_lit (j := 2) rfl rfl rfl ?_
    repeat' sizeOf_list_dec
    refine ne_lot (l := [0, 1, 2, 3]) (m := [0, 1, 2, 3]) ?_
    repeat' sizeOf_list_dec
    refine sp12 (d := 17) (t := 1) (by decide) (okSt_of rfl) ?_
    repeat' sizeOf_list_dec
    refine sp4 (d := 15) (w := bookW (List.range 2) (rankB 1)) rfl rfl (by intro h; cases h) (fun K X q => ?_) one_far (Nat.le_trans (wt_book (by decide) (by decide)) (by decide)) (okSt_of rfl) ?_
    · refine clo_in (l := l12) rfl ?_
      dsimp only [l12]
      repeat' sizeOf_list_dec
      exact sp33 (t := 1) (d := 13) (by decide) (by decide) q
    repeat' sizeOf_list_dec
    refine sp37 (d := 7) (okSt_of rfl) ?_
    repeat' sizeOf_list_dec
    refine sp4 (d := 15) (w := bookW (dialT 1) (dialB 1)) rfl rfl (by intro h; cases h) (fun K X q => ?_) (same_book _ [0] [[[0]]]) (by decide +kernel) (okSt_of rfl) ?_
    · refine clo_in (l := l13) rfl ?_
      dsimp only [l13]
      repeat' sizeOf_list_dec
      exact sp22 (t := 1) (d := 13) (by decide) (by decide) q
    exact .inl rfl
end
end K02

theorem PySem.Challenge.cw_toldties_k02_given_books_by_models_holds : PySem.Challenge.rw_toldties_k02_given_books_by_models.Holds := by
  exact K02.holds fun ns h _ => K02.plain ns h
