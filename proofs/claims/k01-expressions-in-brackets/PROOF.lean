import PyProof.Rows.All
import Wide.All
import OpenK.AllK
import Wide.FinOn
import HandS.ForMost
import HandS.Conv
import HandS.IsInst
import HandS.Defaults
import HandS.TupAny
import HandS.Zip
import HandS.Rev
import HandS.Deep
import HandS.Style
import HandS.EndBits
import HandS.WordsExc
import HandS.CallSlots
import HandS.TupLe
import KE.KDictPairs
import HandS.RaiseMore
import KE.KDictSum
import HandS.Small
import HandS.Exc
import HandS.ExcInit
import HandS.ExcField
import HandS.TryMany
import HandS.ClsMeth
import KE.KExcSuper
import KE.KSuper
import HandS.HeadWalk
import HandS.TryOnly
import HandS.HeadHook4
import HandS.ExcIs
import HandS.Codes
import HandS.Head0
import HandS.Head1
import HandS.Head2
import HandS.HeadEnd
import HandS.HeadHook1
import HandS.HeadHook2
import HandS.HeadHook3
import HandS.ReplaceLit
import HandS.ReplaceDef
import PyProof.StrLawsReplace
import PySem.Challenge.RW_onetongue_k01_whole_expressions_in_brack
set_option Elab.async false
set_option linter.all false
set_option maxRecDepth 100000
/-! Ev1: a small language of values and a store of cells; its evaluator. No model in sight. -/
namespace MP
open PySem
abbrev D := PyData
/-- a value: data that never changes, the script, a cell of the store -/
inductive W where
  | d (x : D)
  | fz (xs : List D)
  | ref (i : Nat)
def W.pur : W → Bool
  | .ref _ => false
  | _ => true
def W.data : W → Option D
  | .d x => some x
  | _ => none
inductive Cell where
  | dead
  | lst (xs : List W)
  | dct (kvs : List (D × W))
  | obj (c : Nat) (fs : List (Str × W))
abbrev Sto := List Cell
/-- what an expression gives: a value, or a list or dict that nobody else holds -/
inductive Val where
  | w (x : W)
  | fl (xs : List W)
  | fd (kvs : List (D × W))
inductive Out (α : Type) where
  | ok (a : α) (st : Sto)
  | exc (c : Nat) (p : D) (st : Sto)
  | bad
def Out.bind {α β : Type} (o : Out α) (f : α → Sto → Out β) : Out β :=
  match o with
  | .ok a st => f a st
  | .exc c p st => .exc c p st
  | .bad => .bad
/-- within a comprehension nothing may be raised -/
def Out.noX {α : Type} (o : Out α) : Out α :=
  match o with
  | .exc _ _ _ => .bad
  | o => o
theorem Out.bind_ok {α β : Type} (a : α) (st : Sto) (f : α → Sto → Out β) : (Out.ok a st).bind f = f a st := rfl
theorem Out.bind_exc {α β : Type} (c : Nat) (p : D) (st : Sto) (f : α → Sto → Out β) : (Out.exc c p st : Out α).bind f = .exc c p st := rfl
theorem Out.bind_bad {α β : Type} (f : α → Sto → Out β) : (Out.bad : Out α).bind f = .bad := rfl
def liftO {α : Type} (o : Option α) (st : Sto) : Out α :=
  match o with
  | some a => .ok a st
  | none => .bad
theorem liftO_some {α : Type} (a : α) (st : Sto) : liftO (some a) st = .ok a st := rfl
theorem liftO_none {α : Type} (st : Sto) : liftO (none : Option α) st = .bad := rfl
/-! ### the language -/
inductive Tg where
  | nm (i : Nat)
  | tp (ts : List Tg)
inductive Blt where
  | len | abs | int | str | tuple | list | any | all | sum | min | max | sorted | dict
  deriving DecidableEq
inductive Mth where
  | append | pop | extend | join | split | replace | get | startswith | setdefault
  deriving DecidableEq
inductive Ty where
  | int | str | bool | tuple | list | dict
  deriving DecidableEq
mutual
inductive E where
  | var (i : Nat)
  | cst (x : D)
  | bin (op : Operator) (a b : E)
  | neg (a : E)
  | nt (a : E)
  | an (a b : E)
  | orr (a b : E)
  | ife (c a b : E)
  | cmp (op : CmpOp) (a b : E)
  | cmp2 (o1 o2 : CmpOp) (a b c : E)
  | tup (es : List E)
  | lst (own : Bool) (es : List E)
  | dis (kvs : List (D × E))
  | ix (a b : E)
  | sl (a : E) (lo hi : Option E)
  | call (f : Nat) (es : List E) (dfl : List D)
  | blt (b : Blt) (es : List E)
  | mth (m : Mth) (o : E) (es : List E)
  | isi (a : E) (ts : List Ty)
  | lc (own : List Nat) (t : Tg) (s : Src) (cs : List E) (e : E)
  | cel (e : E)
inductive Src where
  | it (e : E)
  | rng1 (es : List E)
  | rng2 (es : List E)
  | enm (es : List E)
  | zp (es : List E)
  | rv (e : E)
end
/-- what yields tuples that are taken apart at once -/
def Src.isW : Src → Bool
  | .enm _ => true
  | .zp _ => true
  | _ => false
def Tg.isTp : Tg → Bool
  | .tp _ => true
  | _ => false
inductive S where
  | asg (own : Bool) (i : Nat) (e : E)
  | unp (ts : List Tg) (e : E)
  | par (i j : Nat) (a b : E)
  | setI (o i e : E)
  | aug (i : Nat) (op : Operator) (e : E)
  | ex (e : E)
  | iff (c : E) (a b : List S)
  | fr (t : Tg) (s : Src) (b : List S)
  | wh (c : E) (b : List S)
  | ret (e : Option E)
  | brk
  | cnt
  | pss
  | rse (c : Nat) (e : E)
  | tr (xn : List Str) (s : S) (hs : List (Nat × Option Nat × List S))
/-! ### values -/
abbrev line : Nat := 16777216
def listOf (st : Sto) : Val → Option (List W)
  | .w (.d (.list xs)) => some (xs.map .d)
  | .w (.ref i) => match st[i]? with
    | some (.lst xs) => some xs
    | _ => none
  | .fl xs => some xs
  | _ => none
/-- also what may only be read -/
def listOf' (st : Sto) : Val → Option (List W)
  | .w (.fz xs) => some (xs.map .d)
  | v => listOf st v
def datas : List W → Option (List D)
  | [] => some []
  | .d x :: r => (datas r).map (x :: ·)
  | _ :: _ => none
/-- the data that a value is at hand -/
def dataOf (st : Sto) : Val → Option D
  | .w (.d x) => some x
  | .w (.fz _) => none
  | .w (.ref i) => match st[i]? with
    | some (.lst xs) => (datas xs).map .list
    | _ => none
  | .fl xs => (datas xs).map .list
  | .fd _ => none
def scalD : D → D → Bool
  | .none, .none => true | .none, .int _ => true | .int _, .none => true | .none, .bool _ => true | .bool _, .none => true | .none, .str _ => true | .str _, .none => true
  | .int _, .int _ => true | .bool _, .bool _ => true | .str _, .str _ => true
  | .int _, .str _ => true | .str _, .int _ => true | .bool _, .str _ => true | .str _, .bool _ => true
  | _, _ => false
def flatD : D → Bool
  | .none => true | .bool _ => true | .int _ => true | .str _ => true
  | _ => false
def eqD (x y : D) : Option Bool := if scalD x y || (SeqAt.shaped x && SeqAt.shaped y) then some (PyData.eqv x y) else none
def isStr1 : Str → Option Nat
  | ⟨⟨[c]⟩⟩ => some c
  | _ => none
/-- x in a row of data -/
def inRow (x : D) (ys : List D) : Option Bool :=
  if flatD x && ys.all flatD then some (ys.any fun y => PyData.eqv y x)
  else none
def inList (x : D) (ys : List D) : Option Bool :=
  if flatD x && ys.all flatD then some (ys.any fun y => PyData.eqv y x)
  else if SeqAt.shaped x && SeqAt.shaped (.list ys) then some (ys.any fun y => PyData.eqv y x)
  else none
def keyOf : D → Option (Sum Int Str)
  | .int i => some (.inl i)
  | .str x => some (.inr x)
  | _ => none
def keyD : Sum Int Str → D
  | .inl i => .int i
  | .inr x => .str x
def dLook : List (D × D) → D → Option D
  | [], _ => none
  | (k, v) :: r, x => if PyData.eqv k x then some v else dLook r x
def inV (st : Sto) (x y : Val) : Option Bool :=
  match y with
  | .w (.d (.str z)) => match x with
    | .w (.d (.str a)) => (isStr1 a).map fun c => decide (c ∈ z.cps.toList)
    | _ => none
  | .w (.d (.tuple ys)) => (dataOf st x).bind fun d => inRow d ys
  | .w (.d (.dict kvs)) => (dataOf st x).bind fun d => (keyOf d).map fun _ => (dLook kvs d).isSome
  | y => (listOf st y).bind fun ws => (datas ws).bind fun ys => (dataOf st x).bind fun d => inList d ys
def ltStr (a b : Str) : Bool := decide (a.cps.toList < b.cps.toList)
def cmpV (op : CmpOp) (st : Sto) (x y : Val) : Option Bool :=
  match op with
  | .Eq => (dataOf st x).bind fun d => (dataOf st y).bind fun e => eqD d e
  | .NotEq => (dataOf st x).bind fun d => (dataOf st y).bind fun e => (eqD d e).map (!·)
  | .Is => match x, y with
    | .w (.d .none), .w (.d .none) => some true
    | .w (.d (.bool a)), .w (.d (.bool b)) => some (a == b)
    | _, .w (.d .none) => some false
    | _, _ => none
  | .IsNot => match x, y with
    | .w (.d .none), .w (.d .none) => some false
    | .w (.d (.bool a)), .w (.d (.bool b)) => some (!(a == b))
    | _, .w (.d .none) => some true
    | _, _ => none
  | .In => inV st x y
  | .NotIn => (inV st x y).map (!·)
  | .Lt => match x, y with
    | .w (.d (.int i)), .w (.d (.int j)) => some (decide (i < j))
    | .w (.d (.str a)), .w (.d (.str b)) => some (ltStr a b)
    | _, _ => none
  | .LtE => match x, y with
    | .w (.d (.int i)), .w (.d (.int j)) => some (decide (i ≤ j))
    | .w (.d (.str a)), .w (.d (.str b)) => some (!ltStr b a)
    | _, _ => none
  | .Gt => match x, y with
    | .w (.d (.int i)), .w (.d (.int j)) => some (decide (j < i))
    | .w (.d (.str a)), .w (.d (.str b)) => some (ltStr b a)
    | _, _ => none
  | .GtE => match x, y with
    | .w (.d (.int i)), .w (.d (.int j)) => some (decide (j ≤ i))
    | .w (.d (.str a)), .w (.d (.str b)) => some (!ltStr a b)
    | _, _ => none
abbrev vInt (i : Int) : Val := .w (.d (.int i))
abbrev vStr (x : Str) : Val := .w (.d (.str x))
abbrev vBool (b : Bool) : Val := .w (.d (.bool b))
abbrev vNone : Val := .w (.d .none)
abbrev vTup (xs : List D) : Val := .w (.d (.tuple xs))
def mulOk (i j : Int) : Bool := decide ((-(2 ^ 64) < i ∧ i < 2 ^ 64) ∨ (-(2 ^ 64) < j ∧ j < 2 ^ 64))
def binV (op : Operator) (st : Sto) (x y : Val) : Option Val :=
  match op with
  | .Add => match x, y with
    | .w (.d (.int i)), .w (.d (.int j)) => some (vInt (i + j))
    | .w (.d (.str a)), .w (.d (.str b)) => if a.length + b.length ≤ line then some (vStr (a ++ b)) else none
    | .w (.d (.tuple xs)), .w (.d (.tuple ys)) => if xs.length + ys.length ≤ line then some (vTup (xs ++ ys)) else none
    | x, y => (listOf st x).bind fun xs => (listOf st y).bind fun ys => if xs.length + ys.length ≤ line then some (.fl (xs ++ ys)) else none
  | .Sub => match x, y with
    | .w (.d (.int i)), .w (.d (.int j)) => some (vInt (i - j))
    | _, _ => none
  | .Mult => match x, y with
    | .w (.d (.int i)), .w (.d (.int j)) => if mulOk i j then some (vInt (i * j)) else none
    | x, .w (.d (.int k)) => (listOf st x).bind fun xs => if 0 ≤ k ∧ k ≤ 1000 ∧ xs.length ≤ 1000 then some (.fl (List.replicate k.toNat xs).flatten) else none
    | _, _ => none
  | .FloorDiv => match x, y with
    | .w (.d (.int i)), .w (.d (.int j)) => if 0 < j ∧ j < 1073741824 then some (vInt (i / j)) else none
    | _, _ => none
  | .Mod => match x, y with
    | .w (.d (.int i)), .w (.d (.int j)) => if 0 < j then some (vInt (i % j)) else none
    | _, _ => none
  | .Pow => match x, y with
    | .w (.d (.int i)), .w (.d (.int j)) => if 0 ≤ j ∧ j ≤ 1000000 ∧ i.natAbs < 2 ^ 64 then some (vInt (i ^ j.toNat)) else none
    | _, _ => none
  | _ => none
def negV : Val → Option Val
  | .w (.d (.int i)) => some (vInt (-i))
  | _ => none
def bool? : Val → Option Bool
  | .w (.d (.bool b)) => some b
  | _ => none
def int? : Val → Option Int
  | .w (.d (.int i)) => some i
  | _ => none
def tyOf (st : Sto) : Val → Option Ty
  | .w (.d (.int _)) => some .int
  | .w (.d (.str _)) => some .str
  | .w (.d (.bool _)) => some .bool
  | .w (.d (.tuple _)) => some .tuple
  | .w (.d (.list _)) => some .list
  | .w (.d (.dict _)) => some .dict
  | .w (.fz _) => some .list
  | .w (.ref i) => match st[i]? with
    | some (.lst _) => some .list
    | some (.dct _) => some .dict
    | _ => none
  | .fl _ => some .list
  | .fd _ => some .dict
  | .w (.d .none) => none
def isTy (st : Sto) (v : Val) (t : Ty) : Option Bool :=
  match v with
  | .w (.d .none) => some false
  | v => (tyOf st v).map fun u => match u, t with
    | .bool, .int => true
    | u, t => u == t
def isTys (st : Sto) (v : Val) : List Ty → Option Bool
  | [] => some false
  | t :: ts => (isTy st v t).bind fun b => (isTys st v ts).map fun c => b || c
def cutL {α : Type} (xs : List α) (lo hi : Option Int) : List α := (xs.drop (HT.sIx xs.length 0 lo)).take (HT.sIx xs.length xs.length hi - HT.sIx xs.length 0 lo)
def ixV (st : Sto) (a b : Val) : Option Val :=
  match a with
  | .w (.d (.tuple xs)) => (int? b).bind fun i => (L2.atI xs i).map fun x => .w (.d x)
  | .w (.d (.str z)) => (int? b).bind fun i => if z.length ≤ line then (L2.atI z.cps.toList i).map fun c => vStr ⟨#[c]⟩ else none
  | .w (.d (.dict kvs)) => (dataOf st b).bind fun k => (keyOf k).bind fun _ => (dLook kvs k).map fun x => .w (.d x)
  | a => (listOf' st a).bind fun xs => (int? b).bind fun i => (L2.atI xs i).map .w
def slV (st : Sto) (a : Val) (lo hi : Option Int) : Option Val :=
  match a with
  | .w (.d (.tuple xs)) => some (vTup (cutL xs lo hi))
  | .w (.d (.str z)) => if z.length ≤ line then some (vStr (L2.cutS z lo hi)) else none
  | a => (listOf' st a).map fun xs => .fl (cutL xs lo hi)
def bools : List W → Option (List Bool)
  | [] => some []
  | .d (.bool b) :: r => (bools r).map (b :: ·)
  | _ :: _ => none
def intsOf : List W → Option (List Int)
  | [] => some []
  | .d (.int b) :: r => (intsOf r).map (b :: ·)
  | _ :: _ => none
def strsOf : List W → Option (List Str)
  | [] => some []
  | .d (.str b) :: r => (strsOf r).map (b :: ·)
  | _ :: _ => none
def maxI : Int → List Int → Int
  | m, [] => m
  | m, x :: r => maxI (if m < x then x else m) r
def minI : Int → List Int → Int
  | m, [] => m
  | m, x :: r => minI (if x < m then x else m) r
def pairD : W → Option (D × W)
  | .d (.tuple [k, v]) => (keyOf k).map fun _ => (k, .d v)
  | _ => none
def pairsD : List W → Option (List (D × W))
  | [] => some []
  | x :: r => (pairD x).bind fun p => (pairsD r).map (p :: ·)
def putD {β : Type} (kvs : List (D × β)) (k : D) (v : β) : List (D × β) :=
  if (kvs.any fun kv => PyData.eqv kv.1 k) = true then kvs.map (fun kv => if PyData.eqv kv.1 k = true then (kv.1, v) else kv) else kvs ++ [(k, v)]
def mergeD {β : Type} (kvs more : List (D × β)) : List (D × β) := more.foldl (fun acc kv => putD acc kv.1 kv.2) kvs
def lenOf (st : Sto) (v : Val) : Option Nat :=
  match v with
  | .w (.d (.str z)) => if z.length ≤ line then some z.length else none
  | .w (.d (.tuple xs)) => some xs.length
  | .w (.d (.dict kvs)) => some kvs.length
  | .fd kvs => some kvs.length
  | .w (.ref i) => match st[i]? with
    | some (.lst xs) => some xs.length
    | some (.dct kvs) => some kvs.length
    | _ => none
  | v => (listOf' st v).map List.length
def bltV (b : Blt) (st : Sto) (vs : List Val) : Option Val :=
  match b, vs with
  | .len, [v] => (lenOf st v).map fun n => vInt n
  | .abs, [v] => (int? v).map fun i => vInt (if i < 0 then -i else i)
  | .int, [.w (.d (.int i))] => some (vInt i)
  | .int, [.w (.d (.bool b))] => some (vInt (if b then 1 else 0))
  | .str, [.w (.d (.int i))] => if i.natAbs.log2 < 1920 then some (vStr (toString i : String)) else none
  | .str, [.w (.d (.str z))] => some (vStr z)
  | .tuple, [.w (.d (.tuple xs))] => some (vTup xs)
  | .tuple, [.w (.d (.dict kvs))] => none
  | .tuple, [.w (.ref i)] => match st[i]? with
    | some (.lst xs) => (datas xs).map vTup
    | some (.dct kvs) => some (vTup (kvs.map (·.1)))
    | _ => none
  | .tuple, [v] => (listOf' st v).bind fun xs => (datas xs).map vTup
  | .list, [.w (.d (.tuple xs))] => some (.fl (xs.map .d))
  | .list, [v] => (listOf' st v).map .fl
  | .any, [v] => (listOf st v).bind fun xs => (bools xs).map fun bs => vBool (bs.any id)
  | .all, [v] => (listOf st v).bind fun xs => (bools xs).map fun bs => vBool (bs.all id)
  | .sum, [v] => (listOf st v).bind fun xs => (intsOf xs).map fun is => vInt is.sum
  | .max, [.w (.d (.int i)), .w (.d (.int j))] => some (vInt (if j > i then j else i))
  | .min, [.w (.d (.int i)), .w (.d (.int j))] => some (vInt (if j < i then j else i))
  | .max, [v] => (listOf st v).bind fun xs => (intsOf xs).bind fun is => match is with
    | [] => none
    | m :: r => some (vInt (maxI m r))
  | .min, [v] => (listOf st v).bind fun xs => (intsOf xs).bind fun is => match is with
    | [] => none
    | m :: r => some (vInt (minI m r))
  | .dict, [.w (.d (.tuple xs))] => (pairsD (xs.map .d)).map fun kvs => .fd (mergeD [] kvs)
  | .dict, [v] => (listOf st v).bind fun xs => (pairsD xs).map fun kvs => .fd (mergeD [] kvs)
  | _, _ => none
/-- the built-in methods: the value and the store behind -/
def mthV (m : Mth) (st : Sto) (o : Val) (vs : List Val) : Option (Val × Sto) :=
  match m, o, vs with
  | .append, .w (.ref i), [.w x] => match st[i]? with
    | some (.lst xs) => if xs.length < line then some (vNone, st.set i (.lst (xs ++ [x]))) else none
    | _ => none
  | .pop, .w (.ref i), [] => match st[i]? with
    | some (.lst xs) => xs.getLast?.map fun x => (.w x, st.set i (.lst xs.dropLast))
    | _ => none
  | .join, .w (.d (.str a)), [v] => (listOf st v).bind fun xs => (strsOf xs).bind fun ys =>
      if (ys.map (·.length)).sum + ys.length * a.length ≤ 16777216 then some (vStr (Txt.join a ys), st) else none
  | .replace, .w (.d (.str x)), [.w (.d (.str y)), .w (.d (.str _))] => if (Builtin.Str.occurrences x y 0 x.length (x.length + 1)).isEmpty = true then some (vStr x, st) else none
  | .split, .w (.d (.str x)), [.w (.d (.str y))] => if (y.length == 0) = false ∧ x.length + 2 ≤ line then some (.fl ((Txt.split x y).map fun z => .d (.str z)), st) else none
  | _, _, _ => none
/-- what a method is called of -/
def recvOk (m : Mth) (st : Sto) (o : Val) : Bool :=
  match m, o with
  | .append, .w (.ref i) => match st[i]? with
    | some (.lst _) => true
    | _ => false
  | .pop, .w (.ref i) => match st[i]? with
    | some (.lst _) => true
    | _ => false
  | .join, .w (.d (.str _)) => true
  | .replace, .w (.d (.str _)) => true
  | .split, .w (.d (.str _)) => true
  | _, _ => false
/-! ### stores at a call's end -/
def W.below (n : Nat) : W → Bool
  | .ref i => decide (i < n)
  | _ => true
def Cell.below (n : Nat) : Cell → Bool
  | .dead => true
  | .lst xs => xs.all (W.below n)
  | .dct kvs => kvs.all fun kv => kv.2.below n
  | .obj _ fs => fs.all fun kv => kv.2.below n
/-- a call's value told without the cells from n on -/
def valBelow (n : Nat) (st : Sto) : Val → Option Val
  | .w (.ref i) => if i < n then some (.w (.ref i)) else match st[i]? with
    | some (.lst xs) => if xs.all (W.below n) then some (.fl xs) else none
    | some (.dct kvs) => if kvs.all (fun kv => kv.2.below n) then some (.fd kvs) else none
    | _ => none
  | .w x => some (.w x)
  | .fl xs => if xs.all (W.below n) then some (.fl xs) else none
  | .fd kvs => if kvs.all (fun kv => kv.2.below n) then some (.fd kvs) else none
def gcAt (n : Nat) : Out Val → Out Val
  | .ok v st => if (st.take n).all (Cell.below n) then (match valBelow n st v with
    | some v' => .ok v' (st.take n)
    | none => .bad) else .bad
  | .exc c p st => if (st.take n).all (Cell.below n) then .exc c p (st.take n) else .bad
  | .bad => .bad
/-- from the empty store to another one -/
def onto (st : Sto) : Out Val → Out Val
  | .ok v _ => .ok v st
  | .exc c p _ => .exc c p st
  | .bad => .bad
/-! ### the evaluator -/
abbrev Env := List (Option W)
structure CE where
  run : Nat → List W → Sto → Out Val
  lf : Nat
/-- a call: arguments without cells run over the empty store -/
def callV (C : CE) (f : Nat) (ws : List W) (st : Sto) : Out Val :=
  match ws.all W.pur with
  | true => onto st (gcAt 0 (C.run f ws []))
  | false => gcAt st.length (C.run f ws st)
def wOf : Val → Option W
  | .w x => some x
  | .fl xs => (datas xs).map fun ds => .d (.list ds)
  | .fd kvs => (datas (kvs.map (·.2))).map fun ds => .d (.dict ((kvs.map (·.1)).zip ds))
def wsOf : List Val → Option (List W)
  | [] => some []
  | v :: r => (wOf v).bind fun x => (wsOf r).map (x :: ·)
def dsOf (vs : List Val) : Option (List D) := (wsOf vs).bind datas
mutual
def bindT : Tg → W → Env → Option Env
  | .nm i, x, σ => some (σ.set i (some x))
  | .tp ts, x, σ => match x with
    | .d (.tuple xs) => bindTs ts xs σ
    | _ => none
def bindTs : List Tg → List D → Env → Option Env
  | [], [], σ => some σ
  | t :: ts, x :: xs, σ => (bindT t (.d x) σ).bind fun σ' => bindTs ts xs σ'
  | _, _, _ => none
end
def wipeE (σ : Env) : List Nat → Env
  | [] => σ
  | i :: r => (wipeE σ r).set i none
def gath (f : W → Sto → Out (Option W)) : List W → List W → Sto → Out (List W)
  | [], acc, st => .ok acc st
  | x :: r, acc, st => (f x st).bind fun y st => match y with
    | some y => if acc.length < line then gath f r (acc ++ [y]) st else .bad
    | none => gath f r acc st
/-- over a list in the store, as it stands at each turn -/
def gathL (f : W → Sto → Out (Option W)) (r : Nat) : Nat → Nat → List W → Sto → Out (List W)
  | 0, _, _, _ => .bad
  | n + 1, k, acc, st => match st[r]? with
    | some (.lst xs) => match xs[k]? with
      | none => .ok acc st
      | some x => (f x st).bind fun y st => match y with
        | some y => if acc.length < line then gathL f r n (k + 1) (acc ++ [y]) st else .bad
        | none => gathL f r n (k + 1) acc st
    | _ => .bad
/-- what is walked: items, or the list at a cell -/
inductive Itx where
  | items (xs : List W)
  | live (r : Nat)
def itOf (st : Sto) : Val → Option Itx
  | .w (.ref i) => match st[i]? with
    | some (.lst _) => some (.live i)
    | _ => none
  | .w (.d (.tuple xs)) => some (.items (xs.map .d))
  | .w (.d (.str z)) => some (.items (z.cps.toList.map fun c => .d (.str ⟨#[c]⟩)))
  | v => (listOf' st v).map .items
/-- a tuple (true) or a list of data, that nobody changes -/
def seqOf : Val → Option (Bool × List D)
  | .w (.d (.tuple xs)) => some (true, xs)
  | .w (.d (.list xs)) => some (false, xs)
  | .w (.fz xs) => some (false, xs)
  | .fl xs => (datas xs).map (false, ·)
  | _ => none
def rngOk (i : Int) : Bool := decide (-(2 ^ 62) ≤ i ∧ i < 2 ^ 62)
def rngW (lo hi : Int) : List W := (List.range (hi - lo).toNat).map fun (k : Nat) => W.d (.int (lo + (k : Int)))
def enumW : Nat → List D → List W
  | _, [] => []
  | k, x :: r => .d (.tuple [.int k, x]) :: enumW (k + 1) r
def zipW : List D → List D → List W
  | x :: xs, y :: ys => .d (.tuple [x, y]) :: zipW xs ys
  | _, _ => []
def rng1V : List Val → Option (List W)
  | [v] => (int? v).bind fun j => if rngOk j then some (rngW 0 j) else none
  | _ => none
def rng2V : List Val → Option (List W)
  | [v, u] => (int? v).bind fun i => (int? u).bind fun j => if rngOk i && rngOk j then some (rngW i j) else none
  | _ => none
def enmV : List Val → Option (List W)
  | [v] => (seqOf v).bind fun d => match d with
    | (false, xs) => some (enumW 0 xs)
    | _ => none
  | _ => none
def zpV : List Val → Option (List W)
  | [v, u] => (seqOf v).bind fun d => (seqOf u).bind fun e => if d.1 = e.1 then some (zipW d.2 e.2) else none
  | _ => none
def cmpB (op : CmpOp) (st : Sto) (x y : Val) : Out Bool := liftO (cmpV op st x y) st
/-- the i-th thing that is walked -/
def itAt (it : Itx) (k : Nat) (st : Sto) : Option (Option W) :=
  match it with
  | .items xs => some xs[k]?
  | .live r => match st[r]? with
    | some (.lst xs) => some xs[k]?
    | _ => none
def gathI (f : W → Sto → Out (Option W)) (it : Itx) : Nat → Nat → List W → Sto → Out (List W)
  | 0, _, _, _ => .bad
  | n + 1, k, acc, st => match itAt it k st with
    | none => .bad
    | some none => .ok acc st
    | some (some x) => (f x st).bind fun y st => match y with
      | some y => if acc.length < line then gathI f it n (k + 1) (acc ++ [y]) st else .bad
      | none => gathI f it n (k + 1) acc st
theorem gath_items (f : W → Sto → Out (Option W)) (xs : List W) : ∀ (n k : Nat) (acc : List W) (st : Sto), n + k = xs.length → gath f (xs.drop k) acc st = gathI f (.items xs) (n + 1) k acc st
  | 0, k, acc, st, h => by
    rw [List.drop_eq_nil_of_le (by omega)]
    simp only [gath, gathI, itAt]
    rw [List.getElem?_eq_none
          (by omega)]
  | n + 1, k, acc, st, h => by
    have hk : k < xs.length := by omega
    rw [List.drop_eq_getElem_cons
          hk]
    simp only [gath, gathI, itAt]
    rw [List.getElem?_eq_getElem hk]
    dsimp only
    congr 1
    funext y st
    cases y with
    | none => exact gath_items f xs n (k + 1) acc st (by omega)
    | some y => dsimp only; rw [gath_items f xs n (k + 1) (acc ++ [y]) st (by omega)]; rfl
theorem gath_live (f : W → Sto → Out (Option W)) (r : Nat) : ∀ (n k : Nat) (acc : List W) (st : Sto), gathL f r n k acc st = gathI f (.live r) n k acc st
  | 0, _, _, _ => rfl
  | n + 1, k, acc, st => by
    simp only [gathL, gathI, itAt]
    cases q : st[r]? with
    | none => rfl
    | some c =>
      cases c with
      | lst xs =>
        dsimp only
        cases q2 : xs[k]? with
        | none => rfl
        | some x =>
          dsimp only
          congr 1
          funext y st
          cases y with
          | none => exact gath_live f r n (k + 1) acc st
          | some y => dsimp only; rw [gath_live f r n (k + 1) (acc ++ [y]) st]
      | _ => rfl
def gathOf (lf : Nat) (f : W → Sto → Out (Option W)) (it : Itx) (st : Sto) : Out (List W) :=
  match it with
  | .items xs => gath f xs [] st
  | .live r => gathL f r lf 0 [] st
mutual
def evE (C : CE) : E → Env → Sto → Out Val
  | .var i, σ, st => match σ[i]? with
    | some (some w) => .ok (.w w) st
    | _ => .bad
  | .cst x, _, st => .ok (.w (.d x)) st
  | .bin op a b, σ, st => (evE C a σ st).bind fun x st => (evE C b σ st).bind fun y st => liftO (binV op st x y) st
  | .neg a, σ, st => (evE C a σ st).bind fun x st => liftO (negV x) st
  | .nt a, σ, st => (evE C a σ st).bind fun x st => liftO ((bool? x).map fun b => vBool (!b)) st
  | .an a b, σ, st => (evE C a σ st).bind fun x st => match bool? x with
    | some true => evE C b σ st
    | some false => .ok (vBool false) st
    | none => .bad
  | .orr a b, σ, st => (evE C a σ st).bind fun x st => match bool? x with
    | some true => .ok (vBool true) st
    | some false => evE C b σ st
    | none => .bad
  | .ife c a b, σ, st => (evE C c σ st).bind fun x st => match bool? x with
    | some true => evE C a σ st
    | some false => evE C b σ st
    | none => .bad
  | .cmp op a b, σ, st => (evE C a σ st).bind fun x st => (evE C b σ st).bind fun y st => (cmpB op st x y).bind fun r st => .ok (vBool r) st
  | .cmp2 o1 o2 a b c, σ, st => (evE C a σ st).bind fun x st => (evE C b σ st).bind fun y st => (cmpB o1 st x y).bind fun r st => match r with
    | true => (evE C c σ st).bind fun z st => (cmpB o2 st y z).bind fun r st => .ok (vBool r) st
    | false => .ok (vBool false) st
  | .tup es, σ, st => (evEs C es σ st).bind fun vs st => liftO ((dsOf vs).bind fun ds => if ds.length ≤ line then some (vTup ds) else none) st
  | .lst own es, σ, st => (evEs C es σ st).bind fun vs st => (liftO ((wsOf vs).bind fun ws => if ws.length ≤ line then some ws else none) st).bind fun ws st =>
      match own with
      | true => .ok (.w (.ref st.length)) (st ++ [.lst ws])
      | false => .ok (.fl ws) st
  | .dis kvs, σ, st => (evKvs C kvs σ st).bind fun kvs st => .ok (.fd kvs) st
  | .ix a b, σ, st => (evE C a σ st).bind fun x st => (evE C b σ st).bind fun y st => liftO (ixV st x y) st
  | .sl a lo hi, σ, st => (evE C a σ st).bind fun x st => (evO C lo σ st).bind fun l st => (evO C hi σ st).bind fun h st => liftO (slV st x l h) st
  | .call f es dfl, σ, st => (evEs C es σ st).bind fun vs st => (liftO (wsOf vs) st).bind fun ws st => callV C f (ws ++ dfl.map .d) st
  | .blt b es, σ, st => (evEs C es σ st).bind fun vs st => liftO (bltV b st vs) st
  | .mth m o es, σ, st => (evE C o σ st).bind fun x st => match recvOk m st x with
    | true => (evEs C es σ st).bind fun vs st => match mthV m st x vs with
      | some r => .ok r.1 r.2
      | none => .bad
    | false => .bad
  | .isi a ts, σ, st => (evE C a σ st).bind fun x st => liftO ((isTys st x ts).map vBool) st
  | .lc own t s cs e, σ, st => if s.isW && !t.isTp then .bad else (evSrc C s σ st).bind fun it st =>
      let f : W → Sto → Out (Option W) := fun x st => match bindT t x (wipeE σ own) with
        | none => .bad
        | some σ' => (evCs C cs σ' st).noX.bind fun b st => match b with
          | true => (evE C e σ' st).noX.bind fun v st => liftO ((wOf v).map some) st
          | false => .ok none st
      (gathOf C.lf f it st).bind fun ys st => .ok (.fl ys) st
  | .cel e, σ, st => (evE C e σ st).bind fun v st => match v with
    | .fl xs => .ok (.w (.ref st.length)) (st ++ [.lst xs])
    | .fd kvs => .ok (.w (.ref st.length)) (st ++ [.dct kvs])
    | v => .ok v st
def evEs (C : CE) : List E → Env → Sto → Out (List Val)
  | [], _, st => .ok [] st
  | e :: es, σ, st => (evE C e σ st).bind fun v st => (evEs C es σ st).bind fun vs st => .ok (v :: vs) st
def evKvs (C : CE) : List (D × E) → Env → Sto → Out (List (D × W))
  | [], _, st => .ok [] st
  | (k, e) :: es, σ, st => (evE C e σ st).bind fun v st => (liftO (wOf v) st).bind fun w st => (evKvs C es σ st).bind fun vs st => .ok ((k, w) :: vs) st
def evO (C : CE) : Option E → Env → Sto → Out (Option Int)
  | none, _, st => .ok none st
  | some e, σ, st => (evE C e σ st).bind fun v st => liftO ((int? v).map some) st
def evCs (C : CE) : List E → Env → Sto → Out Bool
  | [], _, st => .ok true st
  | e :: es, σ, st => (evE C e σ st).bind fun v st => match bool? v with
    | some true => evCs C es σ st
    | some false => .ok false st
    | none => .bad
def evSrc (C : CE) : Src → Env → Sto → Out Itx
  | .it e, σ, st => (evE C e σ st).bind fun v st => liftO (itOf st v) st
  | .rng1 es, σ, st => (evEs C es σ st).bind fun vs st => liftO ((rng1V vs).map .items) st
  | .rng2 es, σ, st => (evEs C es σ st).bind fun vs st => liftO ((rng2V vs).map .items) st
  | .enm es, σ, st => (evEs C es σ st).bind fun vs st => liftO ((enmV vs).map .items) st
  | .zp es, σ, st => (evEs C es σ st).bind fun vs st => liftO ((zpV vs).map .items) st
  | .rv e, σ, st => (evE C e σ st).bind fun v st => liftO ((seqOf v).map fun d => .items (d.2.reverse.map .d)) st
end
inductive Fl where
  | nx (σ : Env)
  | rt (v : Val)
  | bk (σ : Env)
  | ct (σ : Env)
/-- a loop's turn: on with σ, or out -/
def forItems (f : W → Env → Sto → Out Fl) : List W → Env → Sto → Out Fl
  | [], σ, st => .ok (.nx σ) st
  | x :: r, σ, st => (f x σ st).bind fun fl st => match fl with
    | .nx σ => forItems f r σ st
    | .ct σ => forItems f r σ st
    | .bk σ => .ok (.nx σ) st
    | .rt v => .ok (.rt v) st
def forLive (f : W → Env → Sto → Out Fl) (r : Nat) : Nat → Nat → Env → Sto → Out Fl
  | 0, _, _, _ => .bad
  | n + 1, k, σ, st => match st[r]? with
    | some (.lst xs) => match xs[k]? with
      | none => .ok (.nx σ) st
      | some x => (f x σ st).bind fun fl st => match fl with
        | .nx σ => forLive f r n (k + 1) σ st
        | .ct σ => forLive f r n (k + 1) σ st
        | .bk σ => .ok (.nx σ) st
        | .rt v => .ok (.rt v) st
    | _ => .bad
def forI (f : W → Env → Sto → Out Fl) (it : Itx) : Nat → Nat → Env → Sto → Out Fl
  | 0, _, _, _ => .bad
  | n + 1, k, σ, st => match itAt it k st with
    | none => .bad
    | some none => .ok (.nx σ) st
    | some (some x) => (f x σ st).bind fun fl st => match fl with
      | .nx σ => forI f it n (k + 1) σ st
      | .ct σ => forI f it n (k + 1) σ st
      | .bk σ => .ok (.nx σ) st
      | .rt v => .ok (.rt v) st
theorem for_items (f : W → Env → Sto → Out Fl) (xs : List W) : ∀ (n k : Nat) (σ : Env) (st : Sto), n + k = xs.length → forItems f (xs.drop k) σ st = forI f (.items xs) (n + 1) k σ st
  | 0, k, σ, st, h => by
    rw [List.drop_eq_nil_of_le (by omega)]
    simp only [forItems, forI, itAt]
    rw [List.getElem?_eq_none
          (by omega)]
  | n + 1, k, σ, st, h => by
    have hk : k < xs.length := by omega
    rw [List.drop_eq_getElem_cons
          hk]
    simp only [forItems, forI, itAt]
    rw [List.getElem?_eq_getElem hk]
    dsimp only
    congr 1
    funext y st
    cases y with
    | nx σ => exact for_items f xs n (k + 1) σ st (by omega)
    | ct σ => exact for_items f xs n (k + 1) σ st (by omega)
    | _ => rfl
theorem for_live (f : W → Env → Sto → Out Fl) (r : Nat) : ∀ (n k : Nat) (σ : Env) (st : Sto), forLive f r n k σ st = forI f (.live r) n k σ st
  | 0, _, _, _ => rfl
  | n + 1, k, σ, st => by
    simp only [forLive, forI, itAt]
    cases q : st[r]? with
    | none => rfl
    | some c =>
      cases c with
      | lst xs =>
        dsimp only
        cases q2 : xs[k]? with
        | none => rfl
        | some x =>
          dsimp only
          congr 1
          funext y st
          cases y with
          | nx σ => exact for_live f r n (k + 1) σ st
          | ct σ => exact for_live f r n (k + 1) σ st
          | _ => rfl
      | _ => rfl
def forOf (lf : Nat) (f : W → Env → Sto → Out Fl) (it : Itx) (σ : Env) (st : Sto) : Out Fl :=
  match it with
  | .items xs => forItems f xs σ st
  | .live r => forLive f r lf 0 σ st
def whileL (c : Env → Sto → Out Bool) (f : Env → Sto → Out Fl) : Nat → Env → Sto → Out Fl
  | 0, _, _ => .bad
  | n + 1, σ, st => (c σ st).bind fun b st => match b with
    | false => .ok (.nx σ) st
    | true => (f σ st).bind fun fl st => match fl with
      | .nx σ => whileL c f n σ st
      | .ct σ => whileL c f n σ st
      | .bk σ => .ok (.nx σ) st
      | .rt v => .ok (.rt v) st
def evB (C : CE) (c : E) (σ : Env) (st : Sto) : Out Bool := (evE C c σ st).bind fun v st => liftO (bool? v) st
def augV (op : Operator) (x : W) (y : Val) : Option W :=
  match op, x, y with
  | .Add, .d (.int i), .w (.d (.int j)) => some (.d (.int (i + j)))
  | .Sub, .d (.int i), .w (.d (.int j)) => some (.d (.int (i - j)))
  | _, _, _ => none
def setCell (st : Sto) (o i : Val) (x : W) : Option Sto :=
  match o with
  | .w (.ref r) => match st[r]? with
    | some (.lst xs) => (int? i).bind fun k => (L2.ixN xs.length k).map fun j => st.set r (.lst (xs.set j x))
    | some (.dct kvs) => (dataOf st i).bind fun k => (keyOf k).bind fun _ => if kvs.length < line then some (st.set r (.dct (putD kvs k x))) else none
    | _ => none
  | _ => none
/-- whether a class is caught as another one: itself, or the base of all -/
def subX (c c' : Nat) : Bool := c == c' || c' == 0
def clr {α : Type} (i : Option Nat) (σ : List (Option α)) : List (Option α) := match i with
  | some i => σ.set i none
  | none => σ
theorem clr_len {α : Type} (i : Option Nat) (σ : List (Option α)) : (clr i σ).length = σ.length := by
  cases i with
  | none => rfl
  | some i => exact List.length_set ..
/-- an except suite's slots: the place and the name stand behind all -/
def exEnv (i : Option Nat) (σ : Env) (p : D) (nm : Str) : Env := clr i σ ++ [some (.d p), some (.d (.str nm))]
def nameX (xn : List Str) (c : Nat) : Str := xn.getD c ⟨#[]⟩
def offI (n : Nat) (i : Option Nat) (σ : Env) : Env := clr i (σ.take n)
def cutFl (n : Nat) (i : Option Nat) : Fl → Fl
  | .nx σ => .nx (offI n i σ)
  | .rt v => .rt v
  | .bk σ => .bk (offI n i σ)
  | .ct σ => .ct (offI n i σ)
mutual
def evS (C : CE) : S → Env → Sto → Out Fl
  | .asg own i e, σ, st => (evE C e σ st).bind fun v st => match own, v with
    | true, .fl xs => .ok (.nx (σ.set i (some (.ref st.length)))) (st ++ [.lst xs])
    | true, .fd kvs => .ok (.nx (σ.set i (some (.ref st.length)))) (st ++ [.dct kvs])
    | _, v => match wOf v with
      | some w => .ok (.nx (σ.set i (some w))) st
      | none => .bad
  | .unp ts e, σ, st => (evE C e σ st).bind fun v st => match v with
    | .w w => liftO ((bindT (.tp ts) w σ).map .nx) st
    | _ => .bad
  | .par i j a b, σ, st => (evE C a σ st).bind fun v st => (evE C b σ st).bind fun u st => match wOf v, wOf u with
    | some x, some y => .ok (.nx ((σ.set i (some x)).set j (some y))) st
    | _, _ => .bad
  | .setI o i e, σ, st => (evE C e σ st).bind fun v st => (evE C o σ st).bind fun ov st => (evE C i σ st).bind fun iv st =>
      match (wOf v).bind fun x => setCell st ov iv x with
      | some st' => .ok (.nx σ) st'
      | none => .bad
  | .aug i op e, σ, st => match σ[i]? with
    | some (some w) => (evE C e σ st).bind fun v st => match augV op w v with
      | some x => .ok (.nx (σ.set i (some x))) st
      | none => .bad
    | _ => .bad
  | .ex e, σ, st => (evE C e σ st).bind fun _ st => .ok (.nx σ) st
  | .iff c a b, σ, st => (evB C c σ st).bind fun t st => match t with
    | true => evSs C a σ st
    | false => evSs C b σ st
  | .fr t s b, σ, st => if s.isW && !t.isTp then .bad else (evSrc C s σ st).bind fun it st =>
      let f : W → Env → Sto → Out Fl := fun x σ st => match bindT t x σ with
        | none => .bad
        | some σ' => evSs C b σ' st
      forOf C.lf f it σ st
  | .wh c b, σ, st => whileL (evB C c) (evSs C b) C.lf σ st
  | .ret none, _, st => .ok (.rt vNone) st
  | .ret (some e), σ, st => (evE C e σ st).bind fun v st => .ok (.rt v) st
  | .brk, σ, st => .ok (.bk σ) st
  | .cnt, σ, st => .ok (.ct σ) st
  | .pss, σ, st => .ok (.nx σ) st
  | .rse c e, σ, st => (evE C e σ st).bind fun v st => match v with
    | .w (.d p) => .exc c p st
    | _ => .bad
  | .tr xn s hs, σ, st => match evS C s σ st with
    | .exc c p st' => evHs C xn hs c p σ st'
    | .ok fl st' => .ok fl st'
    | .bad => .bad
def evHs (C : CE) (xn : List Str) : List (Nat × Option Nat × List S) → Nat → D → Env → Sto → Out Fl
  | [], c, p, _, st => .exc c p st
  | (c', i, su) :: r, c, p, σ, st => match subX c c' with
    | true => (evSs C su (exEnv i σ p (nameX xn c)) st).noX.bind fun fl st => .ok (cutFl σ.length i fl) st
    | false => evHs C xn r c p σ st
def evSs (C : CE) : List S → Env → Sto → Out Fl
  | [], σ, st => .ok (.nx σ) st
  | s :: r, σ, st => (evS C s σ st).bind fun fl st => match fl with
    | .nx σ => evSs C r σ st
    | fl => .ok fl st
end
structure Fn where
  np : Nat
  ns : Nat
  body : List S
  /-- a def that is told by hand -/
  pr : Option ((Nat → List W → Sto → Out Val) → List W → Sto → Out Val)
def retOf : Out Fl → Out Val
  | .ok (.rt v) st => .ok v st
  | .ok (.nx _) st => .ok vNone st
  | .ok _ _ => .bad
  | .exc c p st => .exc c p st
  | .bad => .bad
def entry (fn : Fn) (ws : List W) : Env := ws.map some ++ List.replicate (fn.ns - fn.np) none
/-- a def's body, from its arguments -/
def runFn (C : CE) (fn : Fn) (ws : List W) (st : Sto) : Out Val := if ws.length = fn.np then retOf (evSs C fn.body (entry fn ws) st) else .bad
def runAt (T : Nat → Option Fn) (lf : Nat) : Nat → Nat → List W → Sto → Out Val
  | 0, _, _, _ => .bad
  | n + 1, f, ws, st => match T f with
    | none => .bad
    | some fn => match fn.pr with
      | some g => if ws.length = fn.np then g (runAt T lf n) ws st else .bad
      | none => runFn ⟨runAt T lf n, lf⟩ fn ws st
end MP
set_option maxHeartbeats 1000001
/-! EvT: tuples whose object is known: new ones are laid with their object. -/
namespace MP
open PySem PySem.Spec L2
/-- a tuple without a dict of its own -/
def SqN (K : PySem.W.Frag) (H : Hp) (a : Addr) (xs : List V) : Prop :=
  (∃ o, H a = some (.frz o (.tup xs)) ∧ o.dict = none) ∨
    ∃ (o : Obj) (its : Array Value) (n : Nat), K.lookup a = some o ∧ o.cls = .type "tuple" ∧ o.dict = none ∧ o.data = .seq its n ∧ its.size ≤ sizeLine ∧ Vals xs its.toList
theorem SqN.t {K : PySem.W.Frag} {H : Hp} {a : Addr} {xs : List V} (h : SqN K H a xs) : SqT K H a xs := by
  rcases h with ⟨o, h, _⟩ | ⟨o, its, n, h1, h2, h3, h4⟩
  · exact .inl (.inr ⟨o, h⟩)
  · exact .inr ⟨o, its, n, h1, h2, h4⟩
/-- laid at p -/
def TNew (H : Hp) (xs : List V) (Q : VK) : Prop := ∀ p o, H p = none → o.dict = none → Q (.ref p) (upd H p (.frz o (.tup xs)))
section
variable {X : Cx} {pins :
      List (Addr × Obj)} {σ : L2.St} {H : Hp} {s : Shared}
theorem tup_laid {xs : List V} {its : List Value} {Q : VK} (I : Inv X pins σ H s) (r : Vals xs its) (z : xs.length ≤ sizeLine) (q : TNew H xs Q) :
    EP X pins σ Q (.ref s.heap.objs.size) { s with heap := s.heap.push { cls := .type "tuple", data := .seq its.toArray } } := by
  have hf : H s.heap.objs.size
        = none := I.hok.fresh (Nat.le_refl _)
  have hg : (s.heap.push { cls := .type "tuple", data := .seq its.toArray }).get? s.heap.objs.size = some { cls := .type "tuple", data := .seq its.toArray } := Heap.get?_push_size _ rfl
  exact ⟨.ref s.heap.objs.size, _, I.laid (o := .frz { cls := .type "tuple", data := .seq its.toArray } (.tup xs)) (t' := s.toks) (fun b u e => Heap.get?_push_of_some _ e) (Nat.le_refl _) ⟨hg, z, its, r, _, hg, rfl, _, rfl⟩, rfl, q _ _ hf rfl⟩
def tTupN (t : TA) : TE := fun σ H Q => t σ H fun xs H1 => xs.length ≤ sizeLine ∧ TNew H1 xs Q
theorem pe_tupN {es : List Expr} {t : TA} {k : Nat} {pos : Pos} (h : PA X es t) : PE X (.Tuple es k pos) (tTupN t) := by
  refine ⟨fun pn s τ G R I hq => wpAny_Tuple_spliced (thn (h.run pos pn s τ G _ I hq) fun us s1 ⟨xs, H1, I1, r, z, q⟩ => ⟨by rw [← r.length]; exact z, tup_laid I1 r z q⟩)⟩
theorem op_addN : OpR X (binaryOp .Add) (fun x y H Q => ∃ a b xs ys, x = .ref a ∧ y = .ref b ∧ SqT X.K H a xs ∧ SqT X.K H b ys ∧ xs.length + ys.length ≤ sizeLine ∧
    (xs = [] → Q (.ref b) H) ∧ (xs ≠ [] → ys = [] → Q (.ref a) H) ∧ (xs ≠ [] → ys ≠ [] → TNew H (xs ++ ys) Q)) := by
  intro pn s τ G x y v u R I rx ry h
  obtain ⟨a, b, xs, ys, ex, ey, ha, hb, hz, q0, q1, q2⟩ := h
  subst ex ey
  by_cases hx : xs = []
  · exact op_catA pn s τ G _ _ v u R I rx ry ⟨a, b, xs, ys, rfl, rfl, ha, hb, hz, q0, q1, fun n => absurd hx n⟩
  · by_cases hy : ys = []
    · exact op_catA pn s τ G _ _ v u R I rx ry ⟨a, b, xs, ys, rfl, rfl, ha, hb, hz, q0, q1, fun _ n => absurd hy n⟩
    · cases rx; cases ry
      obtain ⟨its, r1,
            p1, _⟩ := I.tuple ha
      obtain ⟨jts, r2, p2, _⟩ := I.tuple hb
      refine HT.cat_tup p1 p2 (fun z => hx (r1.nil_iff.mp z)) (fun z => absurd (r2.nil_iff.mp z) hy) (fun z => ?_) (by rw [← r1.length, ← r2.length]; exact hz)
      exact tup_laid I (r1.append r2) (by rw [List.length_append]; exact hz) (q2 hx hy)
theorem sl_N : SlR X (fun x lo hi H Q => ∃ a xs, x = .ref a ∧ SqT X.K H a xs ∧
    (HT.sIx xs.length 0 lo = 0 ∧ HT.sIx xs.length xs.length hi = xs.length → Q (.ref a) H) ∧ (¬ (HT.sIx xs.length 0 lo = 0 ∧ HT.sIx xs.length xs.length hi = xs.length) → TNew H (cutV xs lo hi) Q)) := by
  intro pn s τ G x v vl vu lo hi sl R I rx hs pl pu h
  obtain ⟨a, xs, ex, hx, q1, q2⟩ := h
  subst ex
  by_cases hw : HT.sIx
        xs.length 0 lo = 0 ∧ HT.sIx xs.length xs.length hi = xs.length
  · exact sl_tupA pn s τ G _ v vl vu lo hi sl R I rx hs pl pu ⟨a, xs, rfl, hx, q1, fun n => absurd hw n⟩
  · cases rx
    obtain ⟨its, r, ht,
          hz⟩ := I.tuple hx
    have hl : its.toArray.size = xs.length := by rw [List.size_toArray]; exact r.length.symm
    refine ⟨"tuple", _, PyProof.Rows.slot_tuple_getitem.lookup, ht.typeIs, HT.getItem_tuple_cut ht hs pl pu (by rw [hl]; exact hw) ?_ (by rw [hl]; exact hz)⟩
    rw [hl]
    exact tup_laid I ((r.drop (HT.sIx xs.length 0 lo)).take (HT.sIx xs.length xs.length hi - HT.sIx xs.length 0 lo)) (Nat.le_trans (cutV_length xs lo hi) hz) (q2 hw)
theorem call_tupleN : CallR X (.type "tuple") (fun xs H Q => ∃ p ys, xs = [.ref p] ∧ ((SqL X.K H p ys ∧ TNew H ys Q) ∨ (SqT X.K H p ys ∧ Q (.ref p) H))) := by
  intro pn s τ G xs us R I r h
  obtain ⟨p, ys, ex, h⟩ := h
  rcases h with ⟨hq, q⟩ | h
  · subst ex
    obtain ⟨u, rfl,
          rx⟩ := vals1 r
    cases rx
    obtain ⟨its, r', pl, hz⟩ := I.list hq
    have hl := r'.length
    refine call_tuple_list pl.isList (fun h' kp => ?_) (by rw [List.size_toArray, ← hl]; exact hz)
    exact tup_laid (I.kept (h' := h') (t' := s.toks) kp) r' hz q
  · exact call_tuple_of pn s τ G xs us R I r ⟨p, ys, ex, .inr h⟩
theorem pairs_two (I : Inv X pins σ H s) : ∀ {ps : List Addr} {kvs : List (Key × V)}, Paired (fun p kv => SqT X.K H p [kV kv.1, kv.2]) ps kvs →
    ∃ (prs : List (Key × Value)) (prV : List (Value × Value)), KV kvs prs ∧ prs.length = ps.length ∧ prV.length = ps.length ∧ ∀ (j : Nat) (k v : Value), prV[j]? = some (k, v) → ∃ (kk : Key) (b : Addr), prs[j]? = some (kk, v) ∧ ps[j]? = some b ∧ PyProof.Rows.IsTup s.heap b #[k, v] ∧ keyIs kk k = true
  | _, _, .nil => ⟨[], [], .nil, rfl, rfl, fun j k v e => by simp at e⟩
  | _, _, .cons (a := p) (b := kv) t r => by
    obtain ⟨prs, prV, h1, h2, h3, h4⟩ := pairs_two I r
    obtain ⟨its, rv, ht, _⟩ := I.tuple t
    obtain ⟨u, y, ei,
          ru, ry⟩ := vals2 rv
    subst ei
    refine ⟨(kv.1, y) :: prs, (u, y) :: prV, .cons ⟨rfl, ry⟩ h1, congrArg Nat.succ h2, congrArg Nat.succ h3, fun j k v e => ?_⟩
    cases j with
    | zero =>
      cases (show some (u, y) = some (k, v) from e)
      exact ⟨kv.1, p, rfl, rfl, ht, kV_is (P := X.prog) (w := X.w) ru⟩
    | succ j =>
      obtain ⟨kk, b, z1, z2, z3, z4⟩ := h4 j k v (by simpa using e)
      exact ⟨kk, b, by simpa using z1, by simpa using z2, z3, z4⟩
theorem SqN.plain {a : Addr} {xs : List V} (I : Inv X pins σ H s) (h : SqN X.K H a xs) : ∃ its : List Value, Vals xs its ∧ xs.length ≤ sizeLine ∧ PlainSeq "tuple" s.heap a its.toArray := by
  rcases h with ⟨o, h, hn⟩ | ⟨o, its, n, hk, hc, hd, hs, hz, r⟩
  · obtain ⟨hg, z, its, r, o', ho', hc, n, hd⟩ := (show ObjOk X.prog X.w H s.heap a (.frz o (.tup xs)) from I.hok a _ h)
    rw [hg] at ho'; cases ho'
    exact ⟨its, r, z, o, n, hg, hc, hn, hd⟩
  · exact ⟨its.toList, r, by rw [r.length, Array.length_toList]; exact hz, o, n, I.kIn a o hk, hc, hd, by simpa using hs⟩
theorem call_dictN (hcalm : X.calm = true) : CallR X (.type "dict") (fun xs H Q => ∃ (a : Addr) (ps : List Addr) (kvs : List (Key × V)), xs = [.ref a] ∧ SqN X.K H a (ps.map V.ref) ∧ Paired (fun p kv => SqT X.K H p [kV kv.1, kv.2]) ps kvs ∧
    ∀ p, H p = none → Q (.ref p)
          (upd H p (.dK (mergeK [] kvs)))) := by
  intro pn s τ G xs us R I r h
  obtain ⟨a, ps, kvs, ex, hq, hp, q⟩ := h
  subst ex
  obtain ⟨u, eu, rx⟩ := vals1 r
  subst eu
  cases rx
  obtain ⟨its, rv, hz, pl⟩ := hq.plain I
  have ei := refs_at rv
  subst ei
  rw [List.length_map] at hz
  obtain ⟨prs, prV, rel, l1, l2, hpr⟩ := pairs_two I hp
  have pa := PairArg.tuple (prog := X.prog) (w := X.w) a (ps.map Value.ref).toArray (fun j => ps.getD j 0) prV
  refine PySem.call_dict_pairs (knd := mixKind X.prog X.w) (kvs := prs) pa (I.ok.hd hcalm) ⟨pl, by simp [l2], fun j k v e => ?_⟩ ⟨by rw [l1, l2], fun i key v e => ?_⟩ (by rw [l2]; exact hz) fun h' tk hd' k => ?_
  · obtain ⟨kk, b, z1, z2, z3, z4⟩ := hpr j k v e
    have hb : ps.getD j 0 = b := by simp [List.getD, z2]
    exact ⟨by simp [z2, List.getD], .inl (by show s.heap.IsTuple (ps.getD j 0) #[k, v]; rw [hb]; exact z3)⟩
  · obtain ⟨kk, b, z1, z2, z3, z4⟩ := hpr i key v e
    exact ⟨kk, z1, z4⟩
  · have hm :
        (s.heap.objs.size == sysModules) = false := beq_eq_false_iff_ne.mpr (Nat.ne_of_gt I.big)
    have hl : (mergeK [] kvs).length ≤ sizeLine := by
      refine Nat.le_trans
            (length_mergeK kvs []) ?_
      rw [List.length_nil, Nat.zero_add, rel.length, l1]
      exact hz
    exact ⟨.ref s.heap.objs.size, upd G s.heap.objs.size (.dK (mergeK [] kvs)), I.laid (t' := tk) (fun b o e => k b o (by simp) e) (Nat.le_refl _) (show ObjOk X.prog X.w _ _ _ (.dK (mergeK [] kvs)) from ⟨hl, hm, merged [] prs, KV.merge rel .nil, hd'⟩), rfl, q _ (I.hok.fresh (Nat.le_refl _))⟩
end
end MP
/-! Ev2: how values and stores lie in the abstract heap. -/
namespace MP
open PySem PySem.Spec L2
abbrev AP := Addr → Prop
def Live (φ : List Addr) (st : Sto) : AP := fun a => ∃ (i : Nat) (c : Cell), φ[i]? = some a ∧ st[i]? = some c ∧ c ≠ .dead
def Or2 (F G : AP) : AP := fun a => F a ∨ G a
def One (p : Addr) : AP := fun a => a = p
mutual
inductive Den (K : PySem.W.Frag) (L : AP) (H : Hp) : V → D → Prop
  | non : Den K L H .non .none
  | bl (b : Bool) : Den K L H (.bl b) (.bool b)
  | int (i : Int) : Den K L H (.int i) (.int i)
  | str (x : Str) : Den K L H (.str x) (.str x)
  | tup {a : Addr} {xs : List V} {ds : List D} : SqN K H a xs → DenAll K L H xs ds → Den K L H (.ref a) (.tuple ds)
  | lst {a : Addr} {xs : List V} {ds : List D} : H a = some (.lst xs) → ¬ L a → DenAll K L H xs ds → Den K L H (.ref a) (.list ds)
  | dct {a : Addr} {ks : List (Key × V)} {ds : List (D × D)} : H a = some (.dK ks) → ¬ L a → DenKv K L H ks ds → Den K L H (.ref a) (.dict ds)
inductive DenAll (K : PySem.W.Frag) (L : AP) (H : Hp) : List V → List D → Prop
  | nil : DenAll K L H [] []
  | cons {v : V} {vs : List V} {d : D} {ds : List D} : Den K L H v d → DenAll K L H vs ds → DenAll K L H (v :: vs) (d :: ds)
inductive DenKv (K : PySem.W.Frag) (L : AP) (H : Hp) : List (Key × V) → List (D × D) → Prop
  | nil : DenKv K L H [] []
  | cons {k : Key} {v : V} {ks : List (Key × V)} {d : D} {ds : List (D × D)} : Den K L H v d → DenKv K L H ks ds → DenKv K L H ((k, v) :: ks) ((keyD k, d) :: ds)
end
/-- the way from (L, H) to (L', H'): what no live cell is stays -/
structure Way (L : AP) (H : Hp) (L' : AP) (H' : Hp) : Prop where
  keep : ∀ a o, H a = some o → ¬ L a → H' a = some o ∧ ¬ L' a
/-- live things are lists, dicts, instances -/
def Cells (L : AP) (H : Hp) : Prop := ∀ a, L a → ∀ o, H a = some o → Mut (some o)
theorem SqT.way {K : PySem.W.Frag} {L L' : AP} {H H' : Hp} {a : Addr} {xs : List V} (w : Way L H L' H') (c : Cells L H) (h : SqT K H a xs) : SqT K H' a xs := by
  rcases h with (h
        | ⟨o, h⟩) | h
  · exact .inl (.inl (w.keep _ _ h fun l => c a l _ h).1)
  · exact .inl (.inr ⟨o, (w.keep _ _ h fun l => c a l _ h).1⟩)
  · exact .inr h
theorem SqN.way {K : PySem.W.Frag} {L L' : AP} {H H' : Hp} {a : Addr} {xs : List V} (w : Way L H L' H') (c : Cells L H) (h : SqN K H a xs) : SqN K H' a xs := by
  rcases h with ⟨o, h, z⟩ | h
  · exact .inl ⟨o, (w.keep _ _ h fun l => c a l _ h).1, z⟩
  · exact .inr h
section
variable {K : PySem.W.Frag} {L L' : AP} {H H' : Hp}
mutual
theorem Den.way (w : Way L H L' H') (c : Cells L H) : ∀ {v : V} {d : D}, Den K L H v d → Den K L' H' v d
  | _, _, .non => .non
  | _, _, .bl b => .bl b
  | _, _, .int i => .int i
  | _, _, .str x => .str x
  | _, _, .tup h a => .tup (SqN.way w c h) (DenAll.way w c a)
  | _, _, .lst h n a => .lst (w.keep _ _ h n).1 (w.keep _ _ h n).2 (DenAll.way w c a)
  | _, _, .dct h n a => .dct (w.keep _ _ h n).1 (w.keep _ _ h n).2 (DenKv.way w c a)
theorem DenAll.way (w : Way L H L' H') (c : Cells L H) : ∀ {v : List V} {d : List D}, DenAll K L H v d → DenAll K L' H' v d
  | _, _, .nil => .nil
  | _, _, .cons a r => .cons (Den.way w c a) (DenAll.way w c r)
theorem DenKv.way (w : Way L H L' H') (c : Cells L H) : ∀ {v : List (Key × V)} {d : List (D × D)}, DenKv K L H v d → DenKv K L' H' v d
  | _, _, .nil => .nil
  | _, _, .cons a r => .cons (Den.way w c a) (DenKv.way w c r)
end
mutual
theorem Den.less (h : ∀ a, L' a → L a) : ∀ {v : V} {d : D}, Den K L H v d → Den K L' H v d
  | _, _, .non => .non
  | _, _, .bl b => .bl b
  | _, _, .int i => .int i
  | _, _, .str x => .str x
  | _, _, .tup h1 a => .tup h1 (DenAll.less h a)
  | _, _, .lst h1 n a => .lst h1 (fun l => n (h _ l)) (DenAll.less h a)
  | _, _, .dct h1 n a => .dct h1 (fun l => n (h _ l)) (DenKv.less h a)
theorem DenAll.less (h : ∀ a, L' a → L a) : ∀ {v : List V} {d : List D}, DenAll K L H v d → DenAll K L' H v d
  | _, _, .nil => .nil
  | _, _, .cons a r => .cons (Den.less h a) (DenAll.less h r)
theorem DenKv.less (h : ∀ a, L' a → L a) : ∀ {v : List (Key × V)} {d : List (D × D)}, DenKv K L H v d → DenKv K L' H v d
  | _, _, .nil => .nil
  | _, _, .cons a r => .cons (Den.less h a) (DenKv.less h r)
end
theorem DenAll.length : ∀ {v : List V} {d : List D}, DenAll K L H v d → v.length = d.length
  | _, _, .nil => rfl
  | _, _, .cons _ r => congrArg Nat.succ (DenAll.length r)
theorem DenAll.get : ∀ {v : List V} {d : List D} {i : Nat} {x : D}, DenAll K L H v d → d[i]? = some x → ∃ u, v[i]? = some u ∧ Den K L H u x
  | _, _, _, _, .nil,
        e => by simp at e
  | _, _, 0, _, .cons a _, e => by simp at e; subst e; exact ⟨_, rfl, a⟩
  | _, _, i + 1, _, .cons _ r, e => by
    obtain ⟨u, h1, h2⟩ := DenAll.get (i := i) r (by simpa using e)
    exact ⟨u, by simpa
          using h1, h2⟩
theorem DenAll.app : ∀ {v v' : List V} {d d' : List D}, DenAll K L H v d → DenAll K L H v' d' → DenAll K L H (v ++ v') (d ++ d')
  | _, _, _, _, .nil, h => h
  | _, _, _, _, .cons a r, h => .cons a (DenAll.app r h)
theorem DenAll.drop : ∀ {v : List V} {d : List D} (n : Nat), DenAll K L H v d → DenAll K L H (v.drop n) (d.drop n)
  | _, _, 0, h => h
  | _, _, _ + 1, .nil => .nil
  | _, _, n + 1, .cons _ r => DenAll.drop n r
theorem DenAll.take : ∀ {v : List V} {d : List D} (n : Nat), DenAll K L H v d → DenAll K L H (v.take n) (d.take n)
  | _, _, 0, _ => .nil
  | _, _, _ + 1, .nil => .nil
  | _, _, n + 1, .cons a r => .cons a (DenAll.take n r)
end
/-- the script: a list that is known to the object, or of the module -/
def SqF (K : PySem.W.Frag) (H : Hp) (a : Addr) (xs : List V) : Prop :=
  (∃ o, H a = some (.frz o (.lst xs))) ∨
    ∃ (o : Obj) (its : Array
          Value) (n : Nat), K.lookup a = some o ∧ o.cls = .type "list" ∧ o.dict = none ∧ o.data = .seq its n ∧ its.size ≤ sizeLine ∧ Vals xs its.toList
theorem SqF.sq {K : PySem.W.Frag} {H : Hp} {a : Addr} {xs : List V} (h : SqF K H a xs) : SqL K H a xs := by
  rcases h with ⟨o, h⟩ | h
  · exact .inl (.inr ⟨o, h⟩)
  · exact .inr h
theorem SqF.way {K : PySem.W.Frag} {L L' : AP} {H H' : Hp} {a : Addr} {xs : List V} (w : Way L H L' H') (c : Cells L H) (h : SqF K H a xs) : SqF K H' a xs := by
  rcases h with ⟨o, h⟩ | h
  · exact .inl ⟨o, (w.keep _ _ h fun l => c a l _ h).1⟩
  · exact .inr h
/-- a value: L the live things, φ the cells' addresses -/
def RW (K : PySem.W.Frag) (L : AP) (H : Hp) (φ : List Addr) (v : V) : W → Prop
  | .d x => Den K L H v x
  | .fz xs => ∃ a vs, v = .ref a ∧ SqF K H a vs ∧ DenAll K L H vs xs
  | .ref i => ∃ a, φ[i]? = some a ∧ v = .ref a
def RKv (K : PySem.W.Frag) (L : AP) (H : Hp) (φ : List Addr) : Key × V → D × W → Prop := fun p q => q.1 = keyD p.1 ∧ RW K L H φ p.2 q.2
abbrev RWs (K : PySem.W.Frag) (L : AP) (H : Hp) (φ : List Addr) : List V → List W → Prop := Paired (RW K L H φ)
def RC (K : PySem.W.Frag) (L : AP) (H : Hp) (φ : List Addr) (a : Addr) : Cell → Prop
  | .dead => True
  | .lst xs => ∃ vs, H a = some (.lst vs) ∧ RWs K L H φ vs xs
  | .dct kvs => ∃ ks, H a = some (.dK ks) ∧ Paired (RKv K L H φ) ks kvs
  | .obj _ _ => False
/-- the store lies in H; F: what others hold -/
structure SC (K : PySem.W.Frag) (F : AP) (φ : List Addr) (st : Sto) (H : Hp) : Prop where
  len : φ.length = st.length
  nd : φ.Nodup
  al : ∀ a ∈ φ, H a ≠ none
  fo : ∀ a, F a → H a ≠ none
  fc : Cells F H
  fd : ∀ a, F a → a ∉ φ
  cell : ∀ (i : Nat) (a : Addr) (c : Cell), φ[i]? = some a → st[i]? = some c → RC K (Or2 F (Live φ st)) H φ a c
structure Step (K : PySem.W.Frag) (F : AP) (φ : List Addr) (st : Sto) (H : Hp) (φ' : List Addr) (st' : Sto) (H' : Hp) : Prop where
  ext : ∃ ψ, φ' = φ ++ ψ ∧ ∀ a ∈ ψ, H a = none
  keep : ∀ a o, H a = some o → ¬ Live φ st a → H' a = some o ∧ ¬ Live φ' st' a
  al : ∀ a, H a ≠ none → H' a ≠ none
  sc : SC K F φ' st' H'
section
variable {K : PySem.W.Frag} {F : AP} {L L' : AP} {H H' H0 H1 H2 : Hp} {φ φ' φ1 φ2 : List Addr} {st st' st1 st2 : Sto}
theorem Live.mem {a : Addr} (h : Live φ st a) : a ∈ φ := let ⟨_, _, e, _⟩ := h; List.mem_of_getElem? e
theorem SC.cells (s : SC K F φ st H) : Cells (Or2 F (Live φ st)) H := by
  rintro a (h | ⟨i, c, e1, e2, n⟩) o ho
  · exact s.fc a h o ho
  · have r := s.cell i a c e1 e2
    cases c with
    | dead => exact absurd rfl n
    | lst xs => obtain ⟨vs, e, _⟩ := r; rw [e] at ho; cases ho; trivial
    | dct kvs => obtain ⟨vs, e, _⟩ := r; rw [e] at ho; cases ho; trivial
    | obj _ _ => exact r.elim
theorem SC.cellsL (s : SC K F φ st H) : Cells (Live φ st) H := fun a h => s.cells a (.inr h)
theorem Step.way (t : Step K F φ st H φ' st' H') : Way (Or2 F (Live φ st)) H (Or2 F (Live φ' st')) H' :=
  ⟨fun a o e n => ⟨(t.keep a o e fun l => n (.inr l)).1, fun l => l.elim (fun f => n (.inl f)) (t.keep a o e fun l => n (.inr l)).2⟩⟩
theorem RW.way {v : V} {w : W} (y : Way L H L' H') (c : Cells L H) (hp : ∃ ψ, φ' = φ ++ ψ) (r : RW K L H φ v w) : RW K L' H' φ' v w := by
  cases w with
  | d x => exact Den.way y c r
  | fz xs => obtain ⟨a, vs, e, h1, h2⟩ := r; exact ⟨a, vs, e, SqF.way y c h1, DenAll.way y c h2⟩
  | ref i =>
    obtain ⟨a, e, h⟩ := r
    obtain ⟨ψ, rfl⟩ := hp
    exact ⟨a, by rw [List.getElem?_append_left (List.getElem?_eq_some_iff.mp e).1]; exact e, h⟩
theorem RW.less {v : V} {w : W} (h : ∀ a, L' a → L a) (r : RW K L H φ v w) : RW K L' H φ v w := by
  cases w with
  | d x => exact Den.less h r
  | fz xs => obtain ⟨a, vs, e, h1, h2⟩ := r; exact ⟨a, vs, e, h1, DenAll.less h h2⟩
  | ref i => exact r
theorem paired_imp {α β : Type} {P Q : α → β → Prop} (h : ∀ a b, P a b → Q a b) : ∀ {xs : List α} {ys : List β}, Paired P xs ys → Paired Q xs ys
  | _, _, .nil => .nil
  | _, _, .cons r t => .cons (h _ _ r) (paired_imp h t)
theorem paired_len {α β : Type} {P : α → β → Prop} : ∀ {xs : List α} {ys : List β}, Paired P xs ys → xs.length = ys.length
  | _, _, .nil => rfl
  | _, _, .cons _ t => congrArg Nat.succ (paired_len t)
theorem paired_get {α β : Type} {P : α → β → Prop} : ∀ {xs : List α} {ys : List β} {i : Nat} {y : β}, Paired P xs ys → ys[i]? = some y → ∃ x, xs[i]? = some x ∧ P x y
  | _, _, _, _, .nil,
        e => by simp at e
  | _, _, 0, _, .cons a _, e => by simp at e; subst e; exact ⟨_, rfl, a⟩
  | _, _, i + 1, _, .cons _ r, e => by
    obtain ⟨u, h1, h2⟩ := paired_get (i := i) r (by simpa using e)
    exact ⟨u, by simpa
          using h1, h2⟩
theorem paired_app {α β : Type} {P : α → β → Prop} : ∀ {xs xs' : List α} {ys ys' : List β}, Paired P xs ys → Paired P xs' ys' → Paired P (xs ++ xs') (ys ++ ys')
  | _, _, _, _, .nil, h => h
  | _, _, _, _, .cons a r, h => .cons a (paired_app r h)
theorem paired_drop {α β : Type} {P : α → β → Prop} : ∀ {xs : List α} {ys : List β} (n : Nat), Paired P xs ys → Paired P (xs.drop n) (ys.drop n)
  | _, _, 0, h => h
  | _, _, _ + 1, .nil => .nil
  | _, _, n + 1, .cons _ r => paired_drop n r
theorem paired_take {α β : Type} {P : α → β → Prop} : ∀ {xs : List α} {ys : List β} (n : Nat), Paired P xs ys → Paired P (xs.take n) (ys.take n)
  | _, _, 0, _ => .nil
  | _, _, _ + 1, .nil => .nil
  | _, _, n + 1, .cons a r => .cons a (paired_take n r)
theorem paired_set {α β : Type} {P : α → β → Prop} {x : α} {y : β} (h : P x y) : ∀ {xs : List α} {ys : List β} (n : Nat), Paired P xs ys → Paired P (xs.set n x) (ys.set n y)
  | _, _, _, .nil => .nil
  | _, _, 0, .cons _ r => .cons h r
  | _, _, n + 1, .cons a r => .cons a (paired_set h n r)
theorem RC.way {a : Addr} {c : Cell} (y : Way L H L' H') (k : Cells L H) (hp : ∃ ψ, φ' = φ ++ ψ) (e : c ≠ .dead → H' a = H a) (r : RC K L H φ a c) : RC K L' H' φ' a c := by
  cases c with
  | dead => trivial
  | lst xs =>
    obtain ⟨vs, e1, h⟩ := r
    exact ⟨vs, (e (by intro z; cases z)).trans e1, paired_imp (fun _ _ q => RW.way y k hp q) h⟩
  | dct kvs =>
    obtain ⟨vs, e1, h⟩ := r
    exact ⟨vs, (e (by intro z; cases z)).trans e1, paired_imp (fun _ _ q => ⟨q.1, RW.way y k hp q.2⟩) h⟩
  | obj _ _ => exact r.elim
theorem Step.refl (s : SC K F φ st H) : Step K F φ st H φ st H := ⟨⟨[], by simp, by simp⟩, fun a o e n => ⟨e, n⟩, fun a h => h, s⟩
theorem Step.trans (s : Step K F φ st H φ1 st1 H1) (t : Step K F φ1 st1 H1 φ2 st2 H2) : Step K F φ st H φ2 st2 H2 := by
  obtain ⟨ψ, e1, n1⟩ := s.ext
  obtain ⟨χ, e2, n2⟩ := t.ext
  refine ⟨⟨ψ ++ χ, by rw [e2, e1, List.append_assoc], fun a ha => ?_⟩, fun a o e n => ?_, fun a h => t.al a (s.al a h), t.sc⟩
  · rcases List.mem_append.mp ha with h | h
    · exact n1 a h
    · cases q : H a with
      | none => rfl
      | some o => exact absurd (n2 a h) (s.al a (by rw [q]; simp))
  · obtain ⟨h1, h2⟩ := s.keep a o e n
    exact t.keep a o h1 h2
theorem Step.pre (s : Step K F φ st H φ1 st1 H1) : ∃ ψ, φ1 = φ ++ ψ := let ⟨ψ, e, _⟩ := s.ext; ⟨ψ, e⟩
theorem Step.rw {v : V} {w : W} (s : SC K F φ st H) (t : Step K F φ st H φ1 st1 H1) (r : RW K (Or2 F (Live φ st)) H φ v w) : RW K (Or2 F (Live φ1 st1)) H1 φ1 v w :=
  RW.way t.way s.cells t.pre r
theorem Step.den {v : V} {w : D} (s : SC K F φ st H) (t : Step K F φ st H φ1 st1 H1) (r : Den K (Or2 F (Live φ st)) H v w) : Den K (Or2 F (Live φ1 st1)) H1 v w :=
  Den.way t.way s.cells r
/-- slots -/
structure Sl (K : PySem.W.Frag) (F : AP) (φ : List Addr) (st : Sto) (H : Hp) (δ : Env) (σ : L2.St) : Prop where
  len : δ.length = σ.length
  slot : ∀ (i : Nat) (w : W), δ[i]? = some (some w) → ∃ v, σ[i]? = some (some v) ∧ RW K (Or2 F (Live φ st)) H φ v w
theorem Sl.step {δ : Env} {σ : L2.St} (s : SC K F φ st H) (t : Step K F φ st H φ1 st1 H1) (h : Sl K F φ st H δ σ) : Sl K F φ1 st1 H1 δ σ :=
  ⟨h.len, fun i w e => let ⟨v, e1, r⟩ := h.slot i w e; ⟨v, e1, t.rw s r⟩⟩
theorem Sl.set {δ : Env} {σ : L2.St} {i : Nat} {w : W} {v : V} (h : Sl K F φ st H δ σ) (r : RW K (Or2 F (Live φ st)) H φ v w) : Sl K F φ st H (δ.set i (some w)) (σ.set i (some v)) := by
  refine ⟨by simpa using h.len, fun j w' e => ?_⟩
  by_cases hj : j = i
  · subst hj
    by_cases hl : j < δ.length
    · rw [List.getElem?_set_self hl] at e; cases e
      exact ⟨v, by rw [List.getElem?_set_self (by rw [← h.len]; exact hl)], r⟩
    · rw [List.getElem?_eq_none (by simpa using hl)] at e; cases e
  · rw [List.getElem?_set_ne (Ne.symm hj)] at e
    obtain ⟨v', e1, r1⟩ := h.slot j w' e
    exact ⟨v', by rw [List.getElem?_set_ne (Ne.symm hj)]; exact e1, r1⟩
theorem Sl.unset {δ : Env} {σ : L2.St} {i : Nat} (h : Sl K F φ st H δ σ) : Sl K F φ st H (δ.set i none) (σ.set i none) := by
  refine ⟨by simpa using h.len, fun j w' e => ?_⟩
  by_cases hj : j = i
  · subst hj
    by_cases hl : j < δ.length
    · rw [List.getElem?_set_self hl] at e; cases e
    · rw [List.getElem?_eq_none (by simpa using hl)] at e; cases e
  · rw [List.getElem?_set_ne (Ne.symm hj)] at e
    obtain ⟨v', e1, r1⟩ := h.slot j w' e
    exact ⟨v', by rw [List.getElem?_set_ne (Ne.symm hj)]; exact e1, r1⟩
theorem Sl.wipe {δ : Env} {σ : L2.St} (h : Sl K F φ st H δ σ) : ∀ own : List Nat, Sl K F φ st H (wipeE δ own) (wipe σ own)
  | [] => h
  | _ :: r => (Sl.wipe h r).unset
/-- what an expression gives, as an operand -/
def RV (K : PySem.W.Frag) (F : AP) (φ : List Addr) (st : Sto) (H : Hp) (v : V) : Val → Prop
  | .w w => RW K (Or2 F (Live φ st)) H φ v w
  | .fl xs => ∃ a vs, v = .ref a ∧ H a = some (.lst vs) ∧ ¬ Or2 F (Live φ st) a ∧ RWs K (Or2 F (Live φ st)) H φ vs xs
  | .fd kvs => ∃ a ks, v = .ref a ∧ H a = some (.dK ks) ∧ ¬ Or2 F (Live φ st) a ∧ Paired (RKv K (Or2 F (Live φ st)) H φ) ks kvs
/-- .. as its end, from the heap H0: nobody else holds a new list -/
def RU (K : PySem.W.Frag) (F : AP) (H0 : Hp) (φ : List Addr) (st : Sto) (H : Hp) (v : V) : Val → Prop
  | .w w => RW K (Or2 F (Live φ st)) H φ v w
  | .fl xs => ∃ a vs, v = .ref a ∧ H a = some (.lst vs) ∧ H0 a = none ∧ a ∉ φ ∧ RWs K (Or2 (Or2 F (One a)) (Live φ st)) H φ vs xs ∧ SC K (Or2 F (One a)) φ st H
  | .fd kvs => ∃ a ks, v = .ref a ∧ H a = some (.dK ks) ∧ H0 a = none ∧ a ∉ φ ∧ Paired (RKv K (Or2 (Or2 F (One a)) (Live φ st)) H φ) ks kvs ∧ SC K (Or2 F (One a)) φ st H
theorem or_more {F G : AP} {p : Addr} : ∀ a, Or2 F G a → Or2 (Or2 F (One p)) G a := fun _ h => h.elim (fun f => .inl (.inl f)) .inr
theorem RU.rv {v : V} {x : Val} (s : SC K F φ st H) (h0 : ∀ a, F a → H0 a ≠ none) (h : RU K F H0 φ st H v x) : RV K F φ st H v x := by
  cases x with
  | w w => exact h
  | fl xs =>
    obtain ⟨a, vs, e, h1, h2, h3, h4, _⟩ := h
    exact ⟨a, vs, e, h1, fun l => l.elim (fun f => h0 a f h2) (fun l => h3 l.mem), paired_imp (fun _ _ q => RW.less or_more q) h4⟩
  | fd kvs =>
    obtain ⟨a, vs, e, h1, h2, h3, h4, _⟩ := h
    exact ⟨a, vs, e, h1, fun l => l.elim (fun f => h0 a f h2) (fun l => h3 l.mem), paired_imp (fun _ _ q => ⟨q.1, RW.less or_more q.2⟩) h4⟩
theorem Step.rv {v : V} {x : Val} (s : SC K F φ st H) (t : Step K F φ st H φ1 st1 H1) (r : RV K F φ st H v x) : RV K F φ1 st1 H1 v x := by
  cases x with
  | w w => exact t.rw s r
  | fl xs =>
    obtain ⟨a, vs, e, h1, h2, h3⟩ := r
    obtain ⟨k1, k2⟩ := t.way.keep a _ h1 h2
    exact ⟨a, vs, e, k1, k2, paired_imp (fun _ _ q => t.rw s q) h3⟩
  | fd xs =>
    obtain ⟨a, vs, e, h1, h2, h3⟩ := r
    obtain ⟨k1, k2⟩ := t.way.keep a _ h1 h2
    exact ⟨a, vs, e, k1, k2, paired_imp (fun _ _ q => ⟨q.1, t.rw s q.2⟩) h3⟩
/-- a new thing is laid beside -/
theorem SC.new {p : Addr} {o : HO} (s : SC K F φ st H) (hp : H p = none) (ho : Mut (some o)) : SC K (Or2 F (One p)) φ st (upd H p o) := by
  have np : p ∉ φ := fun h => s.al p h hp
  have nl : ¬ Live φ st p := fun l => np l.mem
  have w : Way (Or2 F (Live φ st)) H (Or2 (Or2 F (One p)) (Live φ st)) (upd H p o) := ⟨fun a u e n => by
    have ne : a ≠ p := fun z => by rw [z, hp] at e; cases e
    exact ⟨by rw [upd_ne ne]; exact e, fun l => l.elim (fun f => f.elim (fun f => n (.inl f)) ne) fun l => n (.inr l)⟩⟩
  have nn : ∀ a, H a ≠ none → upd H p o a ≠ none := fun a h => by
    by_cases z : a = p
    · rw [z, upd_same]; simp
    · rw [upd_ne z]; exact h
  refine ⟨s.len, s.nd, fun a h => nn a (s.al a h), fun a h => ?_, ?_, fun a h => ?_, fun i a c e1 e2 => RC.way w s.cells ⟨[], by simp⟩ (fun _ => upd_ne fun z => np (z ▸ List.mem_of_getElem? e1)) (s.cell i a c e1 e2)⟩
  · rcases h with h | h
    · exact nn a (s.fo a h)
    · rw [show a = p from h, upd_same]; simp
  · rintro a (h | h) u hu
    · have ne : a ≠ p := fun z => s.fo a h (z ▸ hp)
      rw [upd_ne ne] at hu
      exact s.fc a h u hu
    · rw [show a = p from h, upd_same] at hu
      cases hu
      exact ho
  · rcases h with h | h
    · exact s.fd a h
    · rw [show a = p from h]; exact np
/-- any new thing is laid: nothing that is held changes -/
theorem SC.laid {p : Addr} {o : HO} (s : SC K F φ st H) (hp : H p = none) : SC K F φ st (upd H p o) ∧ Way (Or2 F (Live φ st)) H (Or2 F (Live φ st)) (upd H p o) := by
  have np : p ∉ φ := fun h => s.al p h hp
  have w : Way (Or2 F (Live φ st)) H (Or2 F (Live φ st)) (upd H p o) := ⟨fun a u e n => by
    have ne : a ≠ p := fun z => by rw [z, hp] at e; cases e
    exact ⟨by rw [upd_ne ne]; exact e, n⟩⟩
  have nn : ∀ a, H a ≠ none → upd H p o a ≠ none := fun a h => by
    by_cases z : a = p
    · rw [z, upd_same]; simp
    · rw [upd_ne z]; exact h
  refine ⟨⟨s.len, s.nd, fun a h => nn a (s.al a h), fun a h => nn a (s.fo a h), fun a h u hu => ?_, s.fd, fun i a c e1 e2 => RC.way w s.cells ⟨[], by simp⟩ (fun _ => upd_ne fun z => np (z ▸ List.mem_of_getElem? e1)) (s.cell i a c e1 e2)⟩, w⟩
  have ne : a ≠ p := fun z => s.fo a h (z ▸ hp)
  rw [upd_ne ne] at hu
  exact s.fc a h u hu
theorem Step.laid {p : Addr} {o : HO} (s : SC K F φ st H) (hp : H p = none) : Step K F φ st H φ st (upd H p o) := by
  obtain ⟨s', w⟩ := s.laid (o := o) hp
  refine ⟨⟨[], by simp, by simp⟩, fun a u e n => ⟨?_, n⟩, fun a h => ?_, s'⟩
  · rw [upd_ne (fun z => by rw [z, hp] at e; cases e)]; exact e
  · by_cases z : a = p
    · rw [z, upd_same]; simp
    · rw [upd_ne z]; exact h
/-- less is held by others -/
theorem Live.snoc {a p : Addr} {c : Cell} (hl : φ.length = st.length) (h : Live (φ ++ [p]) (st ++ [c]) a) : Live φ st a ∨ a = p := by
  obtain ⟨i, c', e1, e2, n⟩ := h
  by_cases hi : i < φ.length
  · rw [List.getElem?_append_left hi] at e1
    rw [List.getElem?_append_left (by omega)] at e2
    exact .inl ⟨i, c', e1, e2, n⟩
  · rw [List.getElem?_append_right (by omega)] at e1
    have : i - φ.length = 0 := by
      cases q : i - φ.length with
      | zero => rfl
      | succ k => rw [q] at e1; simp at e1
    rw [this] at e1
    simp at e1
    exact .inr e1.symm
/-- a list or dict that nobody else holds becomes a cell -/
theorem SC.own {a : Addr} {c : Cell} (s : SC K (Or2 F (One a)) φ st H) (ha : a ∉ φ) (hF : ¬ F a) (r : RC K (Or2 (Or2 F (One a)) (Live φ st)) H φ a c) : SC K F (φ ++ [a]) (st ++ [c]) H := by
  have le : ∀ b, Or2 F (Live (φ ++ [a]) (st ++ [c])) b → Or2 (Or2 F (One a)) (Live φ st) b := fun b h => h.elim (fun f => .inl (.inl f)) fun l => (l.snoc s.len).elim .inr fun e => .inl (.inr e)
  have w : Way (Or2 (Or2 F (One a)) (Live φ st)) H (Or2 F (Live (φ ++ [a]) (st ++ [c]))) H := ⟨fun b o e n => ⟨e, fun l => n (le b l)⟩⟩
  refine ⟨by simp [s.len], ?_, fun b hb => ?_, fun b h => s.fo b (.inl h), fun b h => s.fc b (.inl h), fun b h => ?_, fun i b c' e1 e2 => ?_⟩
  · rw [List.nodup_append]
    refine ⟨s.nd, by simp, fun x hx y hy => ?_⟩
    rw [List.mem_singleton.mp hy]
    exact fun z => ha (z ▸ hx)
  · rcases List.mem_append.mp hb with h | h
    · exact s.al b h
    · rw [List.mem_singleton.mp h]
      exact s.fo a (.inr rfl)
  · intro hb
    rcases List.mem_append.mp hb with h' | h'
    · exact s.fd b (.inl h) h'
    · rw [List.mem_singleton.mp h'] at h; exact hF h
  · by_cases hi : i < φ.length
    · rw [List.getElem?_append_left hi] at e1
      rw [List.getElem?_append_left (by rw [← s.len]; exact hi)] at e2
      exact RC.way w s.cells ⟨[a], rfl⟩ (fun _ => rfl) (s.cell i b c' e1 e2)
    · rw [List.getElem?_append_right (by omega)] at e1
      rw [List.getElem?_append_right (by have := s.len; omega)] at e2
      have z : i - φ.length = 0 := by
        cases q : i - φ.length with
        | zero => rfl
        | succ k => rw [q] at e1; simp at e1
      rw [z] at e1
      rw [show i - st.length = 0 by rw [← s.len]; exact z] at e2
      simp at e1 e2
      rw [← e1, ← e2]
      exact RC.way w s.cells ⟨[a], rfl⟩ (fun _ => rfl) r
end
end MP
set_option maxHeartbeats 1000001
/-! Ev3: the judgements of the evaluator over the hand layer; operators. -/
namespace MP
open PySem PySem.Spec L2
/-- what is wished of an exception: its class, its place, the live things, the heap -/
abbrev EX := Nat → D → AP → Hp → Prop
def Post {α : Type} (K : PySem.W.Frag) (F : AP) (ex : EX) (φ : List Addr) (st : Sto) (H : Hp) (o : Out α) (R : α → List Addr → Sto → Hp → Prop) : Prop :=
  match o with
  | .ok a st' => ∀ φ' H', Step K F φ st H φ' st' H' → R a φ' st' H'
  | .exc c p st' => ∀ φ' H', Step K F φ st H φ' st' H' → ex c p (Or2 F (Live φ' st')) H'
  | .bad => False
section
variable {α β : Type} {K : PySem.W.Frag} {F : AP} {ex : EX} {φ φ1 : List Addr} {st st1 : Sto} {H H1 : Hp}
theorem Post.bind {o : Out α} {f : α → Sto → Out β} {R : β → List Addr → Sto → Hp → Prop} (h : Post K F ex φ st H (o.bind f) R) :
    Post K F ex φ st H o (fun a φ1 st1 H1 => Post K F ex φ1 st1 H1 (f a st1) R) := by
  cases o with
  | ok a st1 =>
    intro φ1 H1 t1
    have h' : Post K F ex φ st H (f a st1) R := h
    cases q : f a st1 with
    | ok b st2 => rw [q] at h'; exact fun φ2 H2 t2 => h' φ2 H2 (t1.trans t2)
    | exc c p st2 => rw [q] at h'; exact fun φ2 H2 t2 => h' φ2 H2 (t1.trans t2)
    | bad => rw [q] at h'; exact h'.elim
  | exc c p st1 => exact h
  | bad => exact h
theorem Post.imp {o : Out α} {R R' : α → List Addr → Sto → Hp → Prop} (h : Post K F ex φ st H o R) (k : ∀ a φ' st' H', Step K F φ st H φ' st' H' → R a φ' st' H' → R' a φ' st' H') : Post K F ex φ st H o R' := by
  cases o with
  | ok a st1 => exact fun φ' H' t => k _ _ _ _ t (h φ' H' t)
  | exc c p st1 => exact h
  | bad => exact h
theorem Post.step {o : Out α} {R : α → List Addr → Sto → Hp → Prop} (t : Step K F φ st H φ1 st1 H1) (h : Post K F ex φ st H o R) : Post K F ex φ1 st1 H1 o R := by
  cases o with
  | ok a st2 => exact fun φ' H' t' => h φ' H' (t.trans t')
  | exc c p st2 => exact fun φ' H' t' => h φ' H' (t.trans t')
  | bad => exact h
/-- of an optional value -/
theorem Post.lift {o : Option α} {R : α → List Addr → Sto → Hp → Prop} (h : Post K F ex φ st H (liftO o st1) R) : ∃ a, o = some a ∧ ∀ φ' H', Step K F φ st H φ' st1 H' → R a φ' st1 H' := by
  cases o with
  | none => exact h.elim
  | some a => exact ⟨a, rfl, h⟩
end
/-- how an exception lies: its class's number, its place, the class, its own dict, the live things -/
abbrev XRel := Nat → D → Value → Option Addr → AP → Hp → Prop
def exOf (XR : XRel) (W : WX) (σ : L2.St) : EX := fun c p L H => ∀ cls d, XR c p cls d L H → W cls d σ H
structure Par where
  XR : XRel
  W : WX
def tE (K : PySem.W.Frag) (P : Par) (C : CE) (e : E) : TE := fun σ H Q => ∃ F φ st δ, SC K F φ st H ∧ Sl K F φ st H δ σ ∧
  Post K F (exOf P.XR P.W σ) φ st H (evE C e δ st) fun v φ' st' H' => ∀ u, RU K F H φ' st' H' u v → Q u H'
def tT (K : PySem.W.Frag) (P : Par) (C : CE) (e : E) : TT := fun σ H Q => ∃ F φ st δ, SC K F φ st H ∧ Sl K F φ st H δ σ ∧
  Post K F (exOf P.XR P.W σ) φ st H (evE C e δ st) fun v φ' st' H' => ∃ b, bool? v = some b ∧ Q b H'
def RVs (K : PySem.W.Frag) (F : AP) (φ : List Addr) (st : Sto) (H : Hp) : List V → List Val → Prop := Paired (RV K F φ st H)
def tEs (K : PySem.W.Frag) (P : Par) (C : CE) (es : List E) : TA := fun σ H Q => ∃ F φ st δ, SC K F φ st H ∧ Sl K F φ st H δ σ ∧
  Post K F (exOf P.XR P.W σ) φ st H (evEs C es δ st) fun vs φ' st' H' => ∀ us, RVs K F φ' st' H' us vs → Q us H'
section
variable {X : Cx} {e : Expr}
theorem pe_weak {t t' : TE} (h : PE X e t) (k : ∀ σ H Q, t' σ H Q → t σ H Q) : PE X e t' := ⟨fun pins s σ H Q I q => h.run pins s σ H Q I (k σ H Q q)⟩
theorem pt_weak {t t' : TT} (h : PT X e t) (k : ∀ σ H Q, t' σ H Q → t σ H Q) : PT X e t' := ⟨fun pins s σ H Q I q => h.run pins s σ H Q I (k σ H Q q)⟩
theorem pa_weak {es : List Expr} {t t' : TA} (h : PA X es t) (k : ∀ σ H Q, t' σ H Q → t σ H Q) : PA X es t' := ⟨fun pos pins s σ H Q I q => h.run pos pins s σ H Q I (k σ H Q q)⟩
theorem ps_weak {st : Stmt} {t t' : TS} (h : PS X st t) (k : ∀ D σ H, t' D σ H → t D σ H) : PS X st t' := ⟨fun pins s σ H D I q => h.run pins s σ H D I (k D σ H q)⟩
theorem pss_weak {st : List Stmt} {t t' : TS} (h : PSs X st t) (k : ∀ D σ H, t' D σ H → t D σ H) : PSs X st t' := ⟨fun pins s σ H D I q => h.run pins s σ H D I (k D σ H q)⟩
end
section
variable {K : PySem.W.Frag} {F : AP} {φ φ' : List Addr} {st st' : Sto} {H H0 H1 H' : Hp}
theorem RU.weak {v : V} {x : Val} (h : ∀ a, H0 a ≠ none → H1 a ≠ none) (r : RU K F H1 φ st H v x) : RU K F H0 φ st H v x := by
  have k : ∀ a, H1 a = none → H0 a = none := fun a z => by
    cases q : H0 a with
    | none => rfl
    | some o => exact absurd z (h a (by rw [q]; simp))
  cases x with
  | w w => exact r
  | fl xs => obtain ⟨a, vs, e, h1, h2, h3⟩ := r; exact ⟨a, vs, e, h1, k a h2, h3⟩
  | fd xs => obtain ⟨a, vs, e, h1, h2, h3⟩ := r; exact ⟨a, vs, e, h1, k a h2, h3⟩
theorem SC.no {a : Addr} (s : SC K F φ st H) (h : H a = none) : ¬ Or2 F (Live φ st) a := fun l => l.elim (fun f => s.fo a f h) fun l => s.al a l.mem h
/-- a value upon a new thing -/
theorem RW.laid {p : Addr} {o : HO} {v : V} {w : W} (s : SC K F φ st H) (hp : H p = none) (r : RW K (Or2 F (Live φ st)) H φ v w) : RW K (Or2 F (Live φ st)) (upd H p o) φ v w :=
  RW.way (s.laid hp).2 s.cells ⟨[], by simp⟩ r
theorem RW.new {p : Addr} {o : HO} {v : V} {w : W} (s : SC K F φ st H) (hp : H p = none) (r : RW K (Or2 F (Live φ st)) H φ v w) : RW K (Or2 (Or2 F (One p)) (Live φ st)) (upd H p o) φ v w := by
  refine RW.way ⟨fun a u e n => ?_⟩ s.cells ⟨[], by simp⟩ r
  have ne : a ≠ p := fun z => by rw [z, hp] at e; cases e
  exact ⟨by rw [upd_ne ne]; exact e, fun l => l.elim (fun f => f.elim (fun f => n (.inl f)) ne) fun l => n (.inr l)⟩
theorem Den.laid {p : Addr} {o : HO} {v : V} {w : D} (s : SC K F φ st H) (hp : H p = none) (r : Den K (Or2 F (Live φ st)) H v w) : Den K (Or2 F (Live φ st)) (upd H p o) v w :=
  Den.way (s.laid hp).2 s.cells r
theorem DenAll.laid {p : Addr} {o : HO} {v : List V} {w : List D} (s : SC K F φ st H) (hp : H p = none) (r : DenAll K (Or2 F (Live φ st)) H v w) : DenAll K (Or2 F (Live φ st)) (upd H p o) v w :=
  DenAll.way (s.laid hp).2 s.cells r
/-- a new list, as an end -/
theorem RU.list {p : Addr} {vs : List V} {xs : List W} (s : SC K F φ st H) (hp : H p = none) (r : RWs K (Or2 F (Live φ st)) H φ vs xs) : RU K F H φ st (upd H p (.lst vs)) (.ref p) (.fl xs) :=
  ⟨p, vs, rfl, upd_same, hp, fun h => s.al p h hp, paired_imp (fun _ _ q => RW.new s hp q) r, s.new hp trivial⟩
theorem RU.dict {p : Addr} {vs : List (Key × V)} {xs : List (D × W)} (s : SC K F φ st H) (hp : H p = none) (r : Paired (RKv K (Or2 F (Live φ st)) H φ) vs xs) : RU K F H φ st (upd H p (.dK vs)) (.ref p) (.fd xs) :=
  ⟨p, vs, rfl, upd_same, hp, fun h => s.al p h hp, paired_imp (fun _ _ q => ⟨q.1, RW.new s hp q.2⟩) r, s.new hp trivial⟩
theorem Den.tupNew {p : Addr} {o : Obj} {vs : List V} {xs : List D} (s : SC K F φ st H) (hp : H p = none) (ho : o.dict = none) (r : DenAll K (Or2 F (Live φ st)) H vs xs) : Den K (Or2 F (Live φ st)) (upd H p (.frz o (.tup vs))) (.ref p) (.tuple xs) :=
  .tup (.inl ⟨o, upd_same, ho⟩) (DenAll.laid s hp r)
/-- lists -/
theorem den_ds : ∀ {vs : List V} {xs : List D} {L : AP}, DenAll K L H vs xs → RWs K L H φ vs (xs.map W.d)
  | _, _, _, .nil => .nil
  | _, _, _, .cons a r => .cons a (den_ds r)
theorem RV.list {v : V} {x : Val} {xs : List W} (s : SC K F φ st H) (r : RV K F φ st H v x) (e : listOf st x = some xs) : ∃ a vs, v = .ref a ∧ H a = some (.lst vs) ∧ RWs K (Or2 F (Live φ st)) H φ vs xs := by
  unfold listOf at e
  split at e
  · cases e
    cases r with
    | lst h n d => exact ⟨_, _, rfl, h, den_ds d⟩
  · split at e
    · rename_i _ xs' hi
      cases e
      obtain ⟨a, e1, e2⟩ := r
      obtain ⟨vs, h1, h2⟩ := s.cell _ a _ e1 hi
      exact ⟨a, vs, e2, h1, h2⟩
    · cases e
  · cases e
    obtain ⟨a, vs, e1, h1, _, h2⟩ := r
    exact ⟨a, vs, e1, h1, h2⟩
  · cases e
theorem RV.list' {v : V} {x : Val} {xs : List W} (s : SC K F φ st H) (r : RV K F φ st H v x) (e : listOf' st x = some xs) : ∃ a vs, v = .ref a ∧ SqL K H a vs ∧ RWs K (Or2 F (Live φ st)) H φ vs xs := by
  unfold listOf' at e
  split at e
  · cases e
    obtain ⟨a, vs, e1, h1, h2⟩ := r
    exact ⟨a, vs, e1, h1.sq, den_ds h2⟩
  · obtain ⟨a, vs, e1, h1, h2⟩ := r.list s e
    exact ⟨a, vs, e1, .of h1, h2⟩
theorem datas_rw : ∀ {vs : List V} {xs : List W} {ds : List D} {L : AP}, RWs K L H φ vs xs → datas xs = some ds → DenAll K L H vs ds
  | _, _, _, _, .nil, e => by simp [datas] at e; subst e; exact .nil
  | _, _, _, _, .cons (b := w) a r, e => by
    cases w with
    | d x =>
      simp only [datas] at e
      cases q : datas _ with
      | none => rw [q]
            at e; cases e
      | some ds' => rw [q] at e; cases e; exact .cons a (datas_rw r q)
    | fz _ => cases e
    | ref _ => cases e
theorem datas_map : ∀ xs : List D, datas (xs.map W.d) = some xs
  | [] => rfl
  | x :: r => by simp [datas, datas_map r]
/-- what a value is at hand -/
theorem RV.data {v : V} {x : Val} {d : D} (s : SC K F φ st H) (r : RV K F φ st H v x) (e : dataOf st x = some d) : ∃ L, Den K L H v d := by
  unfold dataOf at e
  split at e
  · cases e; exact ⟨_, r⟩
  · cases e
  · split at e
    · rename_i _ xs hi
      obtain ⟨a, e1, e2⟩ := r
      obtain ⟨vs, h1, h2⟩ := s.cell _ a _ e1 hi
      cases q : datas xs with
      | none => rw [q]
            at e; cases e
      | some ds =>
        rw [q] at e; cases e
        subst e2
        exact ⟨fun _ => False, .lst h1 (fun z => z) (DenAll.less (fun _ z => z.elim) (datas_rw h2 q))⟩
    · cases e
  · rename_i xs
    cases q : datas xs with
    | none => rw [q]
          at e; cases e
    | some ds =>
      rw [q] at e; cases e
      obtain ⟨a, vs, e1, h1, _, h2⟩ := r
      subst e1
      exact ⟨fun _ => False, .lst h1 (fun z => z) (DenAll.less (fun _ z => z.elim) (datas_rw h2 q))⟩
  · cases e
mutual
theorem Den.dp {L : AP} : ∀ {v : V} {d : D}, Den K L H v d → PyData.canLay0 d = true → Dp K H v d
  | _, _, .non, _ => .non
  | _, _, .bl b, _ => .bl b
  | _, _, .int i, _ => .int i
  | _, _, .str x, _ => .str x
  | _, _, .tup h a, c => .tup h.t (DenAll.dp a (by simpa only [PyData.canLay0] using c))
  | _, _, .lst h _ a, c => .lst (.of h) (DenAll.dp a (by simpa only [PyData.canLay0] using c))
  | _, _, .dct _ _ _, c => by simp [PyData.canLay0] at c
theorem DenAll.dp {L : AP} : ∀ {v : List V} {d : List D}, DenAll K L H v d → PyData.canLayAll0 d = true → DpAll K H v d
  | _, _, .nil, _ => .nil
  | _, _, .cons a r, c => by
    simp only [PyData.canLayAll0, Bool.and_eq_true] at c
    exact .cons (Den.dp a c.1) (DenAll.dp r c.2)
end
end
end MP
set_option maxHeartbeats 1000001
/-! Ev4: the operations by values. -/
namespace MP
open PySem PySem.Spec L2
theorem line_is : sizeLine = line := sizeLine_eq
/-- two operands at hand, a value told, the end by it -/
def rTwo (K : PySem.W.Frag) (f : Sto → Val → Val → Option Val) : R2 := fun x y H Q => ∃ F φ st v w r, SC K F φ st H ∧ RV K F φ st H x v ∧ RV K F φ st H y w ∧ f st v w = some r ∧
  ∀ φ' H' u, Step K F φ st H φ' st H' → RU K F H φ' st H' u r → Q u H'
def rTwoB (K : PySem.W.Frag) (f : Sto → Val → Val → Option Bool) : R2 := fun x y H Q => ∃ F φ st v w r, SC K F φ st H ∧ RV K F φ st H x v ∧ RV K F φ st H y w ∧ f st v w = some r ∧ Q (.bl r) H
section
variable {K : PySem.W.Frag} {F : AP} {φ : List Addr} {st : Sto} {H : Hp} {L : AP}
theorem Den.int_inv {v : V} {i : Int} (h : Den K L H v (.int i)) : v = .int i := by cases h; rfl
theorem Den.str_inv {v : V} {i : Str} (h : Den K L H v (.str i)) : v = .str i := by cases h; rfl
theorem Den.bl_inv {v : V} {i : Bool} (h : Den K L H v (.bool i)) : v = .bl i := by cases h; rfl
theorem Den.non_inv {v : V} (h : Den K L H v .none) : v = .non := by cases h; rfl
theorem Den.tup_inv {v : V} {ds : List D} (h : Den K L H v (.tuple ds)) : ∃ a xs, v = .ref a ∧ SqT K H a xs ∧ DenAll K L H xs ds := by cases h with | tup h1 h2 => exact ⟨_, _, rfl, h1.t, h2⟩
theorem Den.tupN_inv {v : V} {ds : List D} (h : Den K L H v (.tuple ds)) : ∃ a xs, v = .ref a ∧ SqN K H a xs ∧ DenAll K L H xs ds := by cases h with | tup h1 h2 => exact ⟨_, _, rfl, h1, h2⟩
theorem Den.lst_inv {v : V} {ds : List D} (h : Den K L H v (.list ds)) : ∃ a xs, v = .ref a ∧ H a = some (.lst xs) ∧ DenAll K L H xs ds := by cases h with | lst h1 h2 h3 => exact ⟨_, _, rfl, h1, h3⟩
theorem Den.dct_inv {v : V} {ds : List (D × D)} (h : Den K L H v (.dict ds)) : ∃ a xs, v = .ref a ∧ H a = some (.dK xs) ∧ DenKv K L H xs ds := by cases h with | dct h1 h2 h3 => exact ⟨_, _, rfl, h1, h3⟩
theorem RU.int (i : Int) {H0 : Hp} : RU K F H0 φ st H (.int i) (vInt i) := Den.int i
theorem RU.str (i : Str) {H0 : Hp} : RU K F H0 φ st H (.str i) (vStr i) := Den.str i
theorem RU.bl (i : Bool) {H0 : Hp} : RU K F H0 φ st H (.bl i) (vBool i) := Den.bl i
theorem RU.non {H0 : Hp} : RU K F H0 φ st H .non vNone := Den.non
end
section
variable {X : Cx}
theorem ob_add : OpR X (binaryOp .Add) (rTwo X.K (binV .Add)) := by
  intro pins s σ H x
        y v u Q I rx ry h
  obtain ⟨F, φ, st, a, b, r, hs, ra, rb, e, q⟩ := h
  have q0 := fun u => q φ H u (Step.refl hs)
  unfold binV at e
  dsimp only at e
  split at e
  · cases e
    rw [Den.int_inv ra] at rx; rw [Den.int_inv rb] at ry
    exact op_add pins s σ H _ _ v u Q I rx ry ⟨_, _, rfl, rfl, q0 _ (RU.int _)⟩
  · split at e
    · cases e
      rw [Den.str_inv ra] at rx; rw [Den.str_inv rb] at ry
      exact op_add_str pins s σ H _ _ v u Q I rx ry ⟨_, _, rfl, rfl, by rw [line_is]; assumption, q0 _ (RU.str _)⟩
    · cases e
  · rename_i xs ys
    split at e
    · rename_i hz
      cases e
      obtain ⟨a1, vs, e1, h1, d1⟩ := Den.tup_inv ra
      obtain ⟨a2, ws, e2, h2, d2⟩ := Den.tup_inv rb
      subst e1; subst e2
      refine op_addN pins s σ H _ _ v u Q I rx ry ⟨a1, a2, vs, ws, rfl, rfl, h1, h2, by rw [line_is, d1.length, d2.length]; exact hz, fun z => ?_, fun _ z => ?_, fun _ _ p o hp ho => ?_⟩
      · subst z
        have : xs = [] := by cases d1; rfl
        subst this
        exact q0 _ rb
      · subst z
        have : ys = [] := by cases d2; rfl
        subst this
        exact q0 _ (show RU X.K F H φ st H _ (vTup (xs ++ [])) from by rw [List.append_nil]; exact ra)
      · exact q φ _ _ (Step.laid hs hp) (Den.tupNew hs hp ho (d1.app d2))
    · cases e
  · cases l1 : listOf st a with
    | none => rw [l1] at e; cases e
    | some xs =>
      cases l2 : listOf st b with
      | none => rw [l1, l2] at e; cases e
      | some ys =>
        rw [l1, l2] at e
        dsimp only [Option.bind_some] at e
        split at e
        · rename_i hz
          cases e
          obtain ⟨a1, vs, e1, h1, d1⟩ := RV.list hs ra l1
          obtain ⟨a2, ws, e2, h2, d2⟩ := RV.list hs rb l2
          subst e1; subst e2
          refine op_cat pins s σ H _ _ v u Q I rx ry ⟨a1, a2, vs, ws, rfl, rfl, h1, h2, by rw [line_is, paired_len d1, paired_len d2]; exact hz, fun p hp => ?_⟩
          exact q φ _ _ (Step.laid hs hp) (RU.list hs hp (paired_app d1 d2))
        · cases e
/-- ints alone -/
theorem ob_ints {op : Operator} {f : Sto → Val → Val → Option Val} {r : R2} (ho : OpR X (binaryOp op) r)
    (k : ∀ st a b z, f st a b = some z → ∃ i j, a = vInt i ∧ b = vInt j ∧ ∃ n, z = vInt n ∧ ∀ H Q, Q (.int n) H → r (.int i) (.int j) H Q) : OpR X (binaryOp op) (rTwo X.K f) := by
  intro pins s σ H x
        y v u Q I rx ry h
  obtain ⟨F, φ, st, a, b, r', hs, ra, rb, e, q⟩ := h
  obtain ⟨i, j, rfl, rfl, n, rfl, kk⟩ := k _ _ _ _ e
  rw [Den.int_inv ra] at rx; rw [Den.int_inv rb] at ry
  exact ho pins s σ H _ _ v u Q I rx ry (kk H Q (q φ H _ (Step.refl hs) (RU.int _)))
theorem ob_sub : OpR X (binaryOp .Sub) (rTwo X.K (binV .Sub)) := ob_ints op_sub fun st a b z e => by
  unfold binV at e
  dsimp only at e
  split at e
  · cases e; exact ⟨_, _, rfl, rfl, _, rfl, fun H Q q => ⟨_, _, rfl, rfl, q⟩⟩
  · cases e
theorem ob_fdiv : OpR X (binaryOp .FloorDiv) (rTwo X.K (binV .FloorDiv)) := ob_ints op_fdiv fun st a b z e => by
  unfold binV at e
  dsimp only at e
  split at e
  · split at e
    · rename_i h; cases e; exact ⟨_, _, rfl, rfl, _, rfl, fun H Q q => ⟨_, _, rfl, rfl, h, q⟩⟩
    · cases e
  · cases e
theorem ob_mod : OpR X (binaryOp .Mod) (rTwo X.K (binV .Mod)) := ob_ints op_mod fun st a b z e => by
  unfold binV at e
  dsimp only at e
  split at e
  · split at e
    · rename_i h; cases e; exact ⟨_, _, rfl, rfl, _, rfl, fun H Q q => ⟨_, _, rfl, rfl, h, q⟩⟩
    · cases e
  · cases e
theorem ob_pow : OpR X (binaryOp .Pow) (rTwo X.K (binV .Pow)) := ob_ints op_pow fun st a b z e => by
  unfold binV at e
  dsimp only at e
  split at e
  · split at e
    · rename_i h; cases e; exact ⟨_, _, rfl, rfl, _, rfl, fun H Q q => ⟨_, _, rfl, rfl, h, q⟩⟩
    · cases e
  · cases e
theorem paired_rep {α β : Type} {P : α → β → Prop} {xs : List α} {ys : List β} (h : Paired P xs ys) : ∀ n : Nat, Paired P (List.replicate n xs).flatten (List.replicate n ys).flatten
  | 0 => .nil
  | n + 1 => by
    rw [List.replicate_succ,
          List.replicate_succ, List.flatten_cons, List.flatten_cons]
    exact paired_app h (paired_rep h n)
theorem ob_mul : OpR X (binaryOp .Mult) (rTwo X.K (binV .Mult)) := by
  intro pins s σ H x
        y v u Q I rx ry h
  obtain ⟨F, φ, st, a, b, r, hs, ra, rb, e, q⟩ := h
  have q0 := fun u => q φ H u (Step.refl hs)
  unfold binV at e
  dsimp only at e
  split at e
  · split at e
    · rename_i hm
      cases e
      rw [Den.int_inv ra] at rx; rw [Den.int_inv rb] at ry
      unfold mulOk at hm
      have hm2 := of_decide_eq_true hm
      exact op_mul pins s σ H _ _ v u Q I rx ry ⟨_, _, rfl, rfl, hm2, q0 _ (RU.int _)⟩
    · cases e
  · cases l1 : listOf st a with
    | none => rw [l1] at e; cases e
    | some xs =>
      rw [l1] at e
      dsimp only [Option.bind_some] at e
      split at e
      · rename_i hz
        obtain ⟨z1, z2, z3⟩ := hz
        cases e
        rw [Den.int_inv rb] at ry
        obtain ⟨a1, vs, e1, h1, d1⟩ := RV.list hs ra l1
        subst e1
        refine op_rep pins s σ H _ _ v u Q I rx ry ⟨a1, _, vs, rfl, rfl, h1, by omega, by omega, ?_, fun p hp => ?_⟩
        · rw [line_is, paired_len d1]
          exact Nat.le_trans (Nat.mul_le_mul z3 (show _ ≤ 1000 by omega)) (by decide)
        · exact q φ _ _ (Step.laid hs hp) (RU.list hs hp (paired_rep d1 _))
      · cases e
  · cases e
theorem un_negV : UnR X (unaryOp .USub) (fun x H Q => ∃ F φ st v r, SC X.K F φ st H ∧ RV X.K F φ st H x v ∧ negV v = some r ∧ ∀ u, RU X.K F H φ st H u r → Q u H) := by
  intro pins s σ H x v Q I rx h
  obtain ⟨F, φ, st, a, r, hs, ra, e, q⟩ := h
  unfold negV at e
  split at e
  · cases e
    rw [Den.int_inv ra] at rx
    exact un_neg pins s σ H _ v Q I rx ⟨_, rfl, q _ (RU.int _)⟩
  · cases e
/-! ### comparisons -/
theorem scal_is {K : PySem.W.Frag} {L L' : AP} {H : Hp} {x y : V} {d e : D} (hx : Den K L H x d) (hy : Den K L' H y e) (h : scalD d e = true) : scal x y = true ∧ decide (x = y) = PyData.eqv d e := by
  cases d <;> cases e <;> first
    | (exact absurd (show false = true from h) Bool.false_ne_true)
    | (cases hx; cases hy; refine ⟨rfl, ?_⟩; first | exact dec_int | exact dec_bl | exact dec_str | (unfold PyData.eqv; simp))
theorem shaped_lay {d : D} (h : SeqAt.shaped d = true) : PyData.canLay0 d = true := SeqAt.canLay_of_shaped h
theorem oc_eq (hu : X.A.units + 64 < cLine) : OpR X (compareOp .Eq) (rTwoB X.K (cmpV .Eq)) := by
  intro pins s σ H x
        y v u Q I rx ry h
  obtain ⟨F, φ, st, a, b, r, hs, ra, rb, e, q⟩ := h
  unfold cmpV at e
  dsimp only at e
  cases d1 : dataOf st a with
  | none => rw [d1] at e; cases e
  | some d =>
    cases d2 : dataOf st b with
    | none => rw [d1, d2] at e; cases e
    | some e' =>
      rw [d1, d2] at e
      dsimp only [Option.bind_some] at e
      obtain ⟨L1, n1⟩ := RV.data hs ra d1
      obtain ⟨L2, n2⟩ := RV.data hs rb d2
      unfold eqD at e
      split at e
      · rename_i hc
        cases e
        rw [Bool.or_eq_true, Bool.and_eq_true] at hc
        rcases hc with hc | ⟨c1, c2⟩
        · obtain ⟨z1, z2⟩ := scal_is n1 n2 hc
          exact op_eq pins s σ H _ _ v u Q I rx ry ⟨z1, by rw [z2]; exact q⟩
        · exact op_eqD hu pins s σ H _ _ v u Q I rx ry ⟨d, e', n1.dp (shaped_lay c1), n2.dp (shaped_lay c2), c1, c2, q⟩
      · cases e
theorem oc_ne (hu : X.A.units + 64 < cLine) : OpR X (compareOp .NotEq) (rTwoB X.K (cmpV .NotEq)) := by
  intro pins s σ H x
        y v u Q I rx ry h
  obtain ⟨F, φ, st, a, b, r, hs, ra, rb, e, q⟩ := h
  unfold cmpV at e
  dsimp only at e
  cases d1 : dataOf st a with
  | none => rw [d1] at e; cases e
  | some d =>
    cases d2 : dataOf st b with
    | none => rw [d1, d2] at e; cases e
    | some e' =>
      rw [d1, d2] at e
      dsimp only [Option.bind_some] at e
      obtain ⟨L1, n1⟩ := RV.data hs ra d1
      obtain ⟨L2, n2⟩ := RV.data hs rb d2
      unfold eqD at e
      split at e
      · rename_i hc
        cases e
        rw [Bool.or_eq_true, Bool.and_eq_true] at hc
        rcases hc with hc | ⟨c1, c2⟩
        · obtain ⟨z1, z2⟩ := scal_is n1 n2 hc
          exact op_ne pins s σ H _ _ v u Q I rx ry ⟨z1, by rw [z2]; exact q⟩
        · exact op_neD hu pins s σ H _ _ v u Q I rx ry ⟨d, e', n1.dp (shaped_lay c1), n2.dp (shaped_lay c2), c1, c2, q⟩
      · cases e
theorem non_is {K : PySem.W.Frag} {F : AP} {φ : List Addr} {st : Sto} {H : Hp} {x : V} {a : Val} (r : RV K F φ st H x a) (h : a ≠ vNone) : x ≠ .non := by
  intro z
  subst z
  cases a with
  | w w =>
    cases w with
    | d d => cases r; exact h rfl
    | fz xs => obtain ⟨_, _, e, _⟩ := r; cases e
    | ref i => obtain ⟨_, _, e⟩ := r; cases e
  | fl xs => obtain ⟨_, _, e, _⟩ := r; cases e
  | fd xs => obtain ⟨_, _, e, _⟩ := r; cases e
theorem oc_is : OpR X (compareOp .Is) (rTwoB X.K (cmpV .Is)) := by
  intro pins s σ H x
        y v u Q I rx ry h
  obtain ⟨F, φ, st, a, b, r, hs, ra, rb, e, q⟩ := h
  unfold cmpV at e
  dsimp only at e
  split at e
  · cases e
    rw [Den.non_inv ra] at rx; rw [Den.non_inv rb] at ry
    exact op_isN pins s σ H _ _ v u Q I rx ry ⟨rfl, q⟩
  · cases e
    rename_i b1 b2
    rw [Den.bl_inv ra] at rx; rw [Den.bl_inv rb] at ry
    exact op_isBl pins s σ H _ _ v u Q I rx ry ⟨_, _, rfl, rfl, by rw [show decide (b1 = b2) = (b1 == b2) by cases b1 <;> cases b2 <;> rfl]; exact q⟩
  · rename_i _ h1
    cases e
    rw [Den.non_inv rb] at ry
    have n := non_is ra fun z => h1 z
    exact op_isN pins s σ H _ _ v u Q I rx ry ⟨rfl, by rw [decide_eq_false n]; exact q⟩
  · cases e
theorem oc_isnot : OpR X (compareOp .IsNot) (rTwoB X.K (cmpV .IsNot)) := by
  intro pins s σ H x
        y v u Q I rx ry h
  obtain ⟨F, φ, st, a, b, r, hs, ra, rb, e, q⟩ := h
  unfold cmpV at e
  dsimp only at e
  split at e
  · cases e
    rw [Den.non_inv ra] at rx; rw [Den.non_inv rb] at ry
    exact op_notN pins s σ H _ _ v u Q I rx ry ⟨rfl, q⟩
  · cases e
    rename_i b1 b2
    rw [Den.bl_inv ra] at rx; rw [Den.bl_inv rb] at ry
    exact op_isnot_bl pins s σ H _ _ v u Q I rx ry ⟨_, _, rfl, rfl, by rw [show decide (b1 = b2) = (b1 == b2) by cases b1 <;> cases b2 <;> rfl]; exact q⟩
  · rename_i _ h1
    cases e
    rw [Den.non_inv rb] at ry
    have n := non_is ra fun z => h1 z
    exact op_notN pins s σ H _ _ v u Q I rx ry ⟨rfl, by rw [decide_eq_false n]; exact q⟩
  · cases e
theorem oc_ord {op : CmpOp} {f : Sto → Val → Val → Option Bool} {r1 r2 : R2} (o1 : OpR X (compareOp op) r1) (o2 : OpR X (compareOp op) r2)
    (k : ∀ st a b z, f st a b = some z → (∃ i j, a = vInt i ∧ b = vInt j ∧ ∀ H Q, Q (.bl z) H → r1 (.int i) (.int j) H Q) ∨ ∃ i j, a = vStr i ∧ b = vStr j ∧ ∀ H Q, Q (.bl z) H → r2 (.str i) (.str j) H Q) : OpR X (compareOp op) (rTwoB X.K f) := by
  intro pins s σ H x
        y v u Q I rx ry h
  obtain ⟨F, φ, st, a, b, r, hs, ra, rb, e, q⟩ := h
  rcases k _ _ _ _ e with ⟨i, j, rfl, rfl, kk⟩ | ⟨i, j, rfl, rfl, kk⟩
  · rw [Den.int_inv ra] at rx; rw [Den.int_inv rb] at ry
    exact o1 pins s σ H _ _ v u Q I rx ry (kk H Q q)
  · rw [Den.str_inv ra] at rx; rw [Den.str_inv rb] at ry
    exact o2 pins s σ H _ _ v u Q I rx ry (kk H Q q)
theorem oc_lt : OpR X (compareOp .Lt) (rTwoB X.K (cmpV .Lt)) := oc_ord op_lt op_lt_str fun st a b z e => by
  unfold cmpV at e
  dsimp only at e
  split at e
  · cases e; exact .inl ⟨_, _, rfl, rfl, fun H Q q => ⟨_, _, rfl, rfl, q⟩⟩
  · cases e; exact .inr ⟨_, _, rfl, rfl, fun H Q q => ⟨_, _, rfl, rfl, q⟩⟩
  · cases e
theorem oc_le : OpR X (compareOp .LtE) (rTwoB X.K (cmpV .LtE)) := oc_ord op_le op_le_str fun st a b z e => by
  unfold cmpV at e
  dsimp only at e
  split at e
  · cases e; exact .inl ⟨_, _, rfl, rfl, fun H Q q => ⟨_, _, rfl, rfl, q⟩⟩
  · cases e; exact .inr ⟨_, _, rfl, rfl, fun H Q q => ⟨_, _, rfl, rfl, q⟩⟩
  · cases e
theorem oc_gt : OpR X (compareOp .Gt) (rTwoB X.K (cmpV .Gt)) := oc_ord op_gt op_gt_str fun st a b z e => by
  unfold cmpV at e
  dsimp only at e
  split at e
  · cases e; exact .inl ⟨_, _, rfl, rfl, fun H Q q => ⟨_, _, rfl, rfl, q⟩⟩
  · cases e; exact .inr ⟨_, _, rfl, rfl, fun H Q q => ⟨_, _, rfl, rfl, q⟩⟩
  · cases e
theorem oc_ge : OpR X (compareOp .GtE) (rTwoB X.K (cmpV .GtE)) := oc_ord op_ge op_ge_str fun st a b z e => by
  unfold cmpV at e
  dsimp only at e
  split at e
  · cases e; exact .inl ⟨_, _, rfl, rfl, fun H Q q => ⟨_, _, rfl, rfl, q⟩⟩
  · cases e; exact .inr ⟨_, _, rfl, rfl, fun H Q q => ⟨_, _, rfl, rfl, q⟩⟩
  · cases e
/-! ### in -/
theorem flat_is {K : PySem.W.Frag} {L : AP} {H : Hp} {x : V} {d : D} (hx : Den K L H x d) (h : flatD d = true) : flatV x = true := by
  cases hx <;> first | rfl | exact absurd (show false = true from h) Bool.false_ne_true
theorem flat_eq {K : PySem.W.Frag} {L L' : AP} {H : Hp} {x y : V} {d e : D} (hx : Den K L H x d) (hy : Den K L' H y e) (h1 : flatD d = true) (h2 : flatD e = true) : eqV x y = PyData.eqv d e := by
  cases hx <;> cases hy <;> first
    | (exact absurd (show false = true from h1) Bool.false_ne_true)
    | (exact absurd (show false = true from h2) Bool.false_ne_true)
    | simp [eqV, PyData.eqv]
theorem flats_is {K : PySem.W.Frag} {L : AP} {H : Hp} : ∀ {xs : List V} {ds : List D}, DenAll K L H xs ds → ds.all flatD = true → xs.all flatV = true
  | _, _, .nil, _ => rfl
  | _, _, .cons a r, h => by
    simp only [List.all_cons, Bool.and_eq_true] at h ⊢
    exact ⟨flat_is a h.1, flats_is r h.2⟩
theorem flats_in {K : PySem.W.Frag} {L L' : AP} {H : Hp} {x : V} {d : D} (hx : Den K L' H x d) (hd : flatD d = true) : ∀ {xs : List V} {ds : List D}, DenAll K L H xs ds → ds.all flatD = true → L2.inV x xs = ds.any fun y => PyData.eqv y d
  | _, _, .nil, _ => rfl
  | _, _, .cons a r, h => by
    simp only [List.all_cons,
          Bool.and_eq_true] at h
    have ih := flats_in hx hd r h.2
    unfold L2.inV at ih ⊢
    rw [List.any_cons, List.any_cons, ih, flat_eq a hx h.1 hd]
theorem str1_is {a : Str} {c : Nat} (h : isStr1 a = some c) : a = ⟨#[c]⟩ := by
  unfold isStr1 at h
  split at h
  · cases h; rfl
  · cases h
theorem kv_look {K : PySem.W.Frag} {L : AP} {H : Hp} (k : Key) : ∀ {ks : List (Key × V)} {ds : List (D × D)}, DenKv K L H ks ds →
    (match dLook ds (keyD k) with | some x => ∃ v, valV ks k = some v ∧ Den K L H v x | none => valV ks k = none)
  | _, _, .nil => rfl
  | _, _, .cons (k := k') (v := v) (d := d) a r => by
    have ih := kv_look k r
    have ek : PyData.eqv (keyD k') (keyD k) = decide (k' = k) := by
      cases k' <;> cases k <;> (unfold keyD PyData.eqv; first | exact (key_ll _ _).symm | (rw [key_rr]; exact (Bool.beq_eq_decide_eq _ _)) | exact (key_lr _ _).symm | exact (key_rl _ _).symm)
    unfold dLook valV
    rw [ek, List.find?_cons]
    by_cases hk : k' = k
    · rw [decide_eq_true hk]
      exact ⟨v, rfl, a⟩
    · rw [decide_eq_false hk]
      exact ih
theorem key_of_den {K : PySem.W.Frag} {L : AP} {H : Hp} {v : V} {d : D} {k : Key} (h : Den K L H v d) (e : keyOf d = some k) : v = kV k ∧ d = keyD k := by
  unfold keyOf at e
  split at e
  · cases e; cases h; exact ⟨rfl, rfl⟩
  · cases e; cases h; exact ⟨rfl, rfl⟩
  · cases e
theorem in_core (hu : X.A.units + 65 < cLine) {pins : List (Addr × Obj)} {s : Shared} {σ : L2.St} {H : Hp} {x y : V} {v u : Value} {F : AP} {φ : List Addr} {st : Sto} {a b : Val} {r : Bool} (I : Inv X pins σ H s) (rx : RelV x v) (ry : RelV y u)
    (hs : SC X.K F φ st H) (ra : RV X.K F φ st H x a) (rb : RV X.K F φ st H y b) (e : MP.inV st a b = some r) :
    (∀ Q : VK, Q (.bl r) H → wpAny (model X.prog X.w) X.A (compareOp .In v u) (EP X pins σ Q) X.xe s) ∧ (∀ Q : VK, Q (.bl (!r)) H → wpAny (model X.prog X.w) X.A (compareOp .NotIn v u) (EP X pins σ Q) X.xe s) := by
  unfold MP.inV at e
  split at e
  · split at e
    · cases q : isStr1 _ with
      | none => rw [q]
            at e; cases e
      | some c =>
        rw [q] at e
        cases e
        have := str1_is q
        subst this
        rw [Den.str_inv ra] at rx; rw [Den.str_inv rb] at ry
        exact ⟨fun Q q => op_in_sign pins s σ H _ _ v u Q I rx ry ⟨_, _, rfl, rfl, q⟩, fun Q q => op_notIn_sign pins s σ H _ _ v u Q I rx ry ⟨_, _, rfl, rfl, q⟩⟩
    · cases e
  · rename_i ys
    cases d1 : dataOf st a with
    | none => rw [d1] at e; cases e
    | some d =>
      rw [d1] at e
      dsimp only [Option.bind_some] at e
      obtain ⟨L1, n1⟩ := RV.data hs ra d1
      obtain ⟨p, xs, e1, h1, d2⟩ := Den.tup_inv rb
      unfold inRow at e
      split at e
      · rename_i hc
        cases e
        rw [Bool.and_eq_true] at hc
        have e2 := flats_in n1 hc.1 d2 hc.2
        exact ⟨fun Q q => op_in_seq pins s σ H _ _ v u Q I rx ry ⟨p, xs, e1, .inr h1, flat_is n1 hc.1, flats_is d2 hc.2, by show Q (.bl (L2.inV x xs)) H; rw [e2]; exact q⟩,
          fun Q q => op_notIn_seq pins s σ H _ _ v u Q I rx ry ⟨p, xs, e1, .inr h1, flat_is n1 hc.1, flats_is d2 hc.2, by show Q (.bl (!L2.inV x xs)) H; rw [e2]; exact q⟩⟩
      · cases e
  · rename_i kvs
    cases d1 : dataOf st a with
    | none => rw [d1] at e; cases e
    | some d =>
      rw [d1] at e
      dsimp only [Option.bind_some] at e
      obtain ⟨L1, n1⟩ := RV.data hs ra d1
      cases k1 : keyOf d with
      | none => rw [k1] at e; cases e
      | some k =>
        rw [k1] at e
        cases e
        obtain ⟨p, xs, e1, h1, d2⟩ := Den.dct_inv rb
        obtain ⟨z1, z2⟩ := key_of_den n1 k1
        subst z1 z2 e1
        have lk := kv_look k d2
        have g : DGet H p (kV k) (valV xs k) := DGet.k h1
        have es : (valV xs k).isSome = (dLook kvs (keyD k)).isSome := by
          cases ql : dLook kvs (keyD k) with
          | none => rw [ql] at lk; have lk' : valV xs k = none := lk; rw [lk']; rfl
          | some w => rw [ql] at lk; obtain ⟨v', hv, _⟩ := lk; rw [hv]; rfl
        obtain rfl : u = Value.ref p := ry
        refine ⟨fun Q q => d_in (by omega) I g rx fun s3 I3 => ⟨.bl _, H, I3, rfl, by rw [es]; exact q⟩, fun Q q => d_notIn (by omega) I g rx fun s3 I3 => ⟨.bl _, H, I3, rfl, by rw [es]; exact q⟩⟩
  · cases l1 : listOf st b with
    | none => rw [l1] at e; cases e
    | some ws =>
      rw [l1] at e
      dsimp only [Option.bind_some] at e
      cases w1 : datas ws with
      | none => rw [w1] at e; cases e
      | some ys =>
        rw [w1] at e
        dsimp only [Option.bind_some] at e
        cases d1 : dataOf st a with
        | none => rw [d1] at e; cases e
        | some d =>
          rw [d1] at e
          dsimp only [Option.bind_some] at e
          obtain ⟨L1, n1⟩ := RV.data hs ra d1
          obtain ⟨p, xs, e1, h1, r2⟩ := RV.list hs rb l1
          have d2 := datas_rw r2 w1
          unfold inList at e
          split at e
          · rename_i hc
            cases e
            rw [Bool.and_eq_true] at hc
            have e2 := flats_in n1 hc.1 d2 hc.2
            exact ⟨fun Q q => op_in_seq pins s σ H _ _ v u Q I rx ry ⟨p, xs, e1, .inl (.of h1), flat_is n1 hc.1, flats_is d2 hc.2, by show Q (.bl (L2.inV x xs)) H; rw [e2]; exact q⟩,
              fun Q q => op_notIn_seq pins s σ H _ _ v u Q I rx ry ⟨p, xs, e1, .inl (.of h1), flat_is n1 hc.1, flats_is d2 hc.2, by show Q (.bl (!L2.inV x xs)) H; rw [e2]; exact q⟩⟩
          · split at e
            · rename_i hc
              cases e
              rw [Bool.and_eq_true] at hc
              have c2 := shaped_lay hc.2
              rw [PyData.canLay0] at c2
              have dl : Dp X.K H y (.list ys) := by rw [e1]; exact .lst (.of h1) (d2.dp c2)
              exact ⟨fun Q q => op_inD hu pins s σ H _ _ v u Q I rx ry ⟨d, ys, n1.dp (shaped_lay hc.1), dl, hc.1, hc.2, q⟩,
                fun Q q => op_notInD hu pins s σ H _ _ v u Q I rx ry ⟨d, ys, n1.dp (shaped_lay hc.1), dl, hc.1, hc.2, q⟩⟩
            · cases e
theorem oc_in (hu : X.A.units + 65 < cLine) : OpR X (compareOp .In) (rTwoB X.K (cmpV .In)) := by
  intro pins s σ H x
        y v u Q I rx ry h
  obtain ⟨F, φ, st, a, b, r, hs, ra, rb, e, q⟩ := h
  exact (in_core hu I rx ry hs ra rb e).1 Q q
theorem oc_notin (hu : X.A.units + 65 < cLine) : OpR X (compareOp .NotIn) (rTwoB X.K (cmpV .NotIn)) := by
  intro pins s σ H x
        y v u Q I rx ry h
  obtain ⟨F, φ, st, a, b, r, hs, ra, rb, e, q⟩ := h
  have e' : (MP.inV st a b).map (!·) = some r := e
  cases q' : MP.inV st a b with
  | none => rw [q'] at e'; cases e'
  | some r' =>
    rw [q'] at e'
    cases e'
    exact (in_core hu I rx ry hs ra rb q').2 Q q
end
end MP
set_option maxHeartbeats 1000001
/-! Ev5: subscripts, slices, built-ins, methods, stores by values. -/
namespace MP
open PySem PySem.Spec L2
section
variable {K : PySem.W.Frag} {F : AP} {φ : List Addr} {st : Sto} {H : Hp} {L : AP}
theorem atI_len {α β : Type} {xs : List α} {ys : List β} (h : xs.length = ys.length) {i : Int} {j : Nat} (e : ixN ys.length i = some j) : ixN xs.length i = some j := by rw [h]; exact e
theorem atI_den {vs : List V} {xs : List D} {i : Int} {x : D} (h : DenAll K L H vs xs) (e : atI xs i = some x) : ∃ v, atI vs i = some v ∧ Den K L H v x := by
  unfold atI at e ⊢
  cases q : ixN xs.length i with
  | none => rw [q]
        at e; cases e
  | some j =>
    rw [q] at e
    rw [atI_len h.length q]
    exact h.get e
theorem atI_rw {vs : List V} {xs : List W} {i : Int} {x : W} (h : RWs K L H φ vs xs) (e : atI xs i = some x) : ∃ v, atI vs i = some v ∧ RW K L H φ v x := by
  unfold atI at e ⊢
  cases q : ixN xs.length i with
  | none => rw [q]
        at e; cases e
  | some j =>
    rw [q] at e
    rw [atI_len (paired_len h) q]
    exact paired_get h e
theorem RV.int {v : V} {x : Val} {i : Int} (r : RV K F φ st H v x) (e : int? x = some i) : v = .int i := by
  unfold int? at e
  split at e
  · cases e; exact Den.int_inv r
  · cases e
theorem RV.bool {v : V} {x : Val} {b : Bool} (r : RV K F φ st H v x) (e : bool? x = some b) : v = .bl b := by
  unfold bool? at e
  split at e
  · cases e; exact Den.bl_inv r
  · cases e
/-- the cell at a turns: what is no cell stays -/
theorem way_write {a : Addr} {o : HO} (h : L a) : Way L H L (upd H a o) := ⟨fun b u e n => ⟨by rw [upd_ne (fun z => n (by rw [z]; exact h))]; exact e, n⟩⟩
theorem live_set {i : Nat} {c c' : Cell} (hc : st[i]? = some c) (hn : c ≠ .dead) (hn' : c' ≠ .dead) (a : Addr) : Live φ (st.set i c') a ↔ Live φ st a := by
  constructor
  · rintro ⟨j, d, e1, e2, n⟩
    by_cases hj : j = i
    · subst hj; exact ⟨j, c, e1, hc, hn⟩
    · rw [List.getElem?_set_ne (Ne.symm hj)] at e2; exact ⟨j, d, e1, e2, n⟩
  · rintro ⟨j, d, e1, e2, n⟩
    by_cases hj : j = i
    · subst hj
      exact ⟨j, c', e1, List.getElem?_set_self (List.getElem?_eq_some_iff.mp hc).1, hn'⟩
    · exact ⟨j, d, e1, by rw [List.getElem?_set_ne (Ne.symm hj)]; exact e2, n⟩
theorem SC.write {i : Nat} {a : Addr} {c c' : Cell} {o : HO} (s : SC K F φ st H) (ha : φ[i]? = some a) (hc : st[i]? = some c) (hn : c ≠ .dead) (hn' : c' ≠ .dead) (ho : Mut (some o))
    (r : RC K (Or2 F (Live φ st)) (upd H a o) φ a c') : Step K F φ st H φ (st.set i c') (upd H a o) := by
  have la : Live φ st a := ⟨i, c, ha, hc, hn⟩
  have lv := live_set (φ := φ) hc hn hn'
  have w : Way (Or2 F (Live φ st)) H (Or2 F (Live φ (st.set i c'))) (upd H a o) := ⟨fun b u e n => by
    have ne : b ≠ a := fun z => n (.inr (z ▸ la))
    exact ⟨by rw [upd_ne ne]; exact e, fun l => n (l.elim .inl fun l => .inr ((lv b).mp l))⟩⟩
  have ma : a ∈ φ := List.mem_of_getElem? ha
  have nn : ∀ b, H b ≠ none → upd H a o b ≠ none := fun b h => by
    by_cases z : b = a
    · rw [z, upd_same]; simp
    · rw [upd_ne z]; exact h
  refine ⟨⟨[], by simp, by simp⟩, fun b u e n => ⟨?_, fun l => n ((lv b).mp l)⟩, nn, ⟨by simpa using s.len, s.nd, fun b h => nn b (s.al b h), fun b h => nn b (s.fo b h), fun b h u hu => ?_, s.fd, fun j b d e1 e2 => ?_⟩⟩
  · rw [upd_ne (fun z => n (by rw [z]; exact la))]; exact e
  · have ne : b ≠ a := fun z => s.fd b h (z ▸ ma)
    rw [upd_ne ne] at hu
    exact s.fc b h u hu
  · by_cases hj : j = i
    · subst hj
      rw [ha] at e1; cases e1
      rw [List.getElem?_set_self (List.getElem?_eq_some_iff.mp hc).1] at e2
      cases e2
      exact RC.way ⟨fun b u e n => ⟨e, fun l => n (l.elim .inl fun l => .inr ((lv b).mp l))⟩⟩ (fun b l u hu => by
        by_cases z : b = a
        · rw [z, upd_same] at hu; cases hu; exact ho
        · rw [upd_ne z] at hu; exact s.cells b l u hu) ⟨[], by simp⟩ (fun _ => rfl) r
    · rw [List.getElem?_set_ne
          (Ne.symm hj)] at e2
      have nb : b ≠ a := fun z => by
        subst z
        have hi := (List.getElem?_eq_some_iff.mp ha)
        have hj' := (List.getElem?_eq_some_iff.mp e1)
        obtain ⟨p1, q1⟩ := hi
        obtain ⟨p2, q2⟩ := hj'
        exact hj ((List.getElem_inj s.nd).mp (q2.trans q1.symm))
      exact RC.way w s.cells ⟨[], by simp⟩ (fun _ => upd_ne nb) (s.cell j b d e1 e2)
end
section
variable {X : Cx}
theorem ixr_any (hu : X.A.units + 1 < cLine) : IxR X (rTwo X.K ixV) := by
  intro value slice pins s σ H x y v u Q I rx ry h hsl
  obtain ⟨F, φ, st, a, b, r, hs, ra, rb, e, q⟩ := h
  have q0 := fun u => q φ H u (Step.refl hs)
  unfold ixV at e
  split at e
  · cases ei : int? b with
    | none => rw [ei] at e; cases e
    | some i =>
      rw [ei] at e
      dsimp only [Option.bind_some] at e
      cases ea : atI _ i with
      | none => rw [ea] at e; cases e
      | some z =>
        rw [ea] at e; cases e
        obtain ⟨p, vs, e1, h1, d1⟩ := Den.tup_inv ra
        subst e1
        have e2 := RV.int rb ei
        subst e2
        obtain ⟨w, hw, dw⟩ := atI_den d1 ea
        exact ix_tup value slice pins s σ H _ _ v u Q I rx ry ⟨p, vs, i, w, rfl, rfl, h1, hw, q0 _ dw⟩ hsl
  · cases ei : int? b with
    | none => rw [ei] at e; cases e
    | some i =>
      rw [ei] at e
      dsimp only [Option.bind_some] at e
      split at e
      · rename_i hz
        cases ea : atI _ i with
        | none => rw [ea] at e; cases e
        | some c =>
          rw [ea] at e; cases e
          have e2 := RV.int rb ei
          subst e2
          rw [Den.str_inv ra] at rx
          exact ix_str value slice pins s σ H _ _ v u Q I rx ry ⟨_, i, c, rfl, rfl, by rw [line_is]; exact hz, ea, q0 _ (RU.str _)⟩ hsl
      · cases e
  · cases d1 : dataOf st b with
    | none => rw [d1] at e; cases e
    | some d =>
      rw [d1] at e
      dsimp only [Option.bind_some] at e
      cases k1 : keyOf d with
      | none => rw [k1] at e; cases e
      | some k =>
        rw [k1] at e
        dsimp only [Option.bind_some] at e
        cases l1 : dLook _ d with
        | none => rw [l1] at e; cases e
        | some z =>
          rw [l1] at e; cases e
          obtain ⟨L1, n1⟩ := RV.data hs rb d1
          obtain ⟨p, ks, e1, h1, d2⟩ := Den.dct_inv ra
          obtain ⟨z1, z2⟩ := key_of_den n1 k1
          subst z1 z2 e1
          have lk := kv_look k d2
          rw [l1] at lk
          obtain ⟨w, hw, dw⟩ := lk
          have g : DGet H p (kV k) (some w) := by rw [← hw]; exact DGet.k h1
          obtain rfl : v =
                Value.ref p := rx
          exact PyProof.Rows.tail_any (dict_typeIs I g) PySem.F.slot_dict_getitem.lookup (d_getItem hu I g ry fun w' s3 I3 rw' => ⟨w, H, I3, rw', q0 _ dw⟩) hsl
  · cases l1 : listOf' st a with
    | none => rw [l1] at e; cases e
    | some xs =>
      rw [l1] at e
      dsimp only [Option.bind_some] at e
      cases ei : int? b with
      | none => rw [ei] at e; cases e
      | some i =>
        rw [ei] at e
        dsimp only [Option.bind_some] at e
        cases ea : atI xs i with
        | none => rw [ea] at e; cases e
        | some z =>
          rw [ea] at e; cases e
          obtain ⟨p, vs, e1, h1, d1⟩ := RV.list' hs ra l1
          subst e1
          have e2 := RV.int rb ei
          subst e2
          obtain ⟨w, hw, dw⟩ := atI_rw d1 ea
          exact ix_list value slice pins s σ H _ _ v u Q I rx ry ⟨p, vs, i, w, rfl, rfl, h1, hw, q0 _ dw⟩ hsl
theorem sIx_len {α β : Type} {xs : List α} {ys : List β} (h : xs.length = ys.length) (d : Nat) (i : Option Int) : HT.sIx xs.length d i = HT.sIx ys.length d i := by rw [h]
theorem cut_den {K : PySem.W.Frag} {L : AP} {H : Hp} {vs : List V} {xs : List D} (h : DenAll K L H vs xs) (lo hi : Option Int) : DenAll K L H (cutV vs lo hi) (cutL xs lo hi) := by
  unfold cutV cutL
  rw [h.length]
  exact (h.drop _).take _
theorem cut_rw {K : PySem.W.Frag} {L : AP} {H : Hp} {φ : List Addr} {vs : List V} {xs : List W} (h : RWs K L H φ vs xs) (lo hi : Option Int) : RWs K L H φ (cutV vs lo hi) (cutL xs lo hi) := by
  unfold cutV cutL
  rw [paired_len h]
  exact paired_take _ (paired_drop _ h)
theorem cut_whole {α : Type} (xs : List α) (lo hi : Option Int) (h : HT.sIx xs.length 0 lo = 0 ∧ HT.sIx xs.length xs.length hi = xs.length) : cutL xs lo hi = xs := by
  unfold cutL
  rw [h.1, h.2]
  simp
theorem slr_any : SlR X (fun x lo hi H Q => ∃ F φ st a r, SC X.K F φ st H ∧ RV X.K F φ st H x a ∧ slV st a lo hi = some r ∧ ∀ φ' H' u, Step X.K F φ st H φ' st H' → RU X.K F H φ' st H' u r → Q u H') := by
  intro pins s σ H x v vl vu lo hi sl Q I rx hsl pl pu h
  obtain ⟨F, φ, st, a, r, hs, ra, e, q⟩ := h
  unfold slV at e
  split at e
  · cases e
    obtain ⟨p, vs, e1, h1, d1⟩ := Den.tup_inv ra
    subst e1
    refine sl_N pins s σ H _ v vl vu lo hi sl Q I rx hsl pl pu ⟨p, vs, rfl, h1, fun hw => ?_, fun _ p' o hp ho => q φ _ _ (Step.laid hs hp) (Den.tupNew hs hp ho (cut_den d1 lo hi))⟩
    rw [d1.length] at hw
    rw [cut_whole _ lo hi hw] at q
    exact q φ H _ (Step.refl hs) ra
  · split at e
    · rename_i hz
      cases e
      rw [Den.str_inv ra] at rx
      exact sl_str pins s σ H _ v vl vu lo hi sl Q I rx hsl pl pu ⟨_, rfl, by rw [line_is]; exact hz, q φ H _ (Step.refl hs) (RU.str _)⟩
    · cases e
  · cases l1 : listOf' st a with
    | none => rw [l1] at e; cases e
    | some xs =>
      rw [l1] at e; cases e
      obtain ⟨p, vs, e1, h1, d1⟩ := RV.list' hs ra l1
      subst e1
      exact sl_list pins s σ H _ v vl vu lo hi sl Q I rx hsl pl pu ⟨p, vs, rfl, h1, fun p' hp => q φ _ _ (Step.laid hs hp) (RU.list hs hp (cut_rw d1 lo hi))⟩
/-! ### built-ins -/
def rBlt (K : PySem.W.Frag) (b : Blt) : List V → Hp → VK → Prop := fun xs H Q => ∃ F φ st vs r, SC K F φ st H ∧ RVs K F φ st H xs vs ∧ bltV b st vs = some r ∧ ∀ φ' H' u, Step K F φ st H φ' st H' → RU K F H φ' st H' u r → Q u H'
theorem RVs.one {K : PySem.W.Frag} {F : AP} {φ : List Addr} {st : Sto} {H : Hp} {xs : List V} {a : Val} (h : RVs K F φ st H xs [a]) : ∃ x, xs = [x] ∧ RV K F φ st H x a := by
  cases h with
  | cons r t => cases t; exact ⟨_, rfl, r⟩
theorem RVs.two {K : PySem.W.Frag} {F : AP} {φ : List Addr} {st : Sto} {H : Hp} {xs : List V} {a b : Val} (h : RVs K F φ st H xs [a, b]) : ∃ x y, xs = [x, y] ∧ RV K F φ st H x a ∧ RV K F φ st H y b := by
  cases h with
  | cons r t =>
    cases t with
    | cons r2 t2 => cases t2; exact ⟨_, _, rfl, r, r2⟩
theorem cb_len : CallR X (.builtin "len") (rBlt X.K .len) := by
  intro pins s σ
        H xs us Q I r h
  obtain ⟨F, φ, st, vs, z, hs, rs, e, q⟩ := h
  have q0 := fun u => q φ H u (Step.refl hs)
  unfold bltV at e
  split at e <;> try (cases ‹Blt.len = _›)
  case h_1 v =>
    obtain ⟨x, rfl, ra⟩ := RVs.one rs
    cases en : lenOf st v with
    | none => rw [en] at e; cases e
    | some n =>
      rw [en] at e; cases e
      unfold lenOf at en
      split at en
      · split at en
        · rename_i hz
          cases en
          exact call_len pins s σ H _ us Q I r ⟨_, _, rfl, by rw [Den.str_inv ra]; exact ⟨by rw [line_is]; exact hz, rfl⟩, q0 _ (RU.int _)⟩
        · cases en
      · cases en
        obtain ⟨p, ws, e1, h1, d1⟩ := Den.tup_inv ra
        exact call_len pins s σ H _ us Q I r ⟨_, ws.length, rfl, by rw [e1]; exact .inr ⟨ws, h1, rfl⟩, by rw [d1.length]; exact q0 _ (RU.int _)⟩
      · cases en
        obtain ⟨p, ws, e1, h1, d1⟩ := Den.dct_inv ra
        subst e1
        have el : ws.length = _ := (by
          have : ∀ {ks : List (Key × V)} {ds : List (D × D)} {L : AP}, DenKv X.K L H ks ds → ks.length = ds.length := by
            intro ks
            induction ks with
            | nil => intro ds L h; cases h; rfl
            | cons a r ih => intro ds L h; cases h with | cons a b => simp [ih b]
          exact this d1)
        exact call_lenD pins s σ H _ us Q I r ⟨p, ws, rfl, h1, by rw [el]; exact q0 _ (RU.int _)⟩
      · cases en
        obtain ⟨p, ws, e1, h1, _, d1⟩ := ra
        subst e1
        exact call_lenD pins s σ H _ us Q I r ⟨p, ws, rfl, h1, by rw [paired_len d1]; exact q0 _ (RU.int _)⟩
      · split at en
        · rename_i hi
          cases en
          obtain ⟨p, e1, e2⟩ := ra
          obtain ⟨ws, h1, d1⟩ := hs.cell _ p _ e1 hi
          exact call_len pins s σ H _ us Q I r ⟨_, ws.length, rfl, by rw [e2]; exact .inl ⟨ws, .of h1, rfl⟩, by rw [paired_len d1]; exact q0 _ (RU.int _)⟩
        · rename_i hi
          cases en
          obtain ⟨p, e1, e2⟩ := ra
          obtain ⟨ws, h1, d1⟩ := hs.cell _ p _ e1 hi
          subst e2
          exact call_lenD pins s σ H _ us Q I r ⟨p, ws, rfl, h1, by rw [paired_len d1]; exact q0 _ (RU.int _)⟩
        · cases en
      · cases l1 : listOf' st v with
        | none => rw [l1] at en; cases en
        | some ys =>
          rw [l1] at en; cases en
          obtain ⟨p, ws, e1, h1, d1⟩ := RV.list' hs ra l1
          exact call_len pins s σ H _ us Q I r ⟨_, ws.length, rfl, by rw [e1]; exact .inl ⟨ws, h1, rfl⟩, by rw [paired_len d1]; exact q0 _ (RU.int _)⟩
  all_goals cases e
end
end MP
set_option maxHeartbeats 1000001
/-! Ev6: more built-ins, methods, stores by values. -/
namespace MP
open PySem PySem.Spec L2
/-! ### tuple(dict): the walk over the keys is the kit's (KE.KDictSum), the tuple's maker is walked here -/
section
variable {P0 : Program} {w0 : World} {B : Around} {Z : Value → Shared → Prop} {g : Shared} {m : Nat} {R : Nat → Value → Prop} {D D1 : Addr} {Ok : Heap → Prop}
/-- what the making of a tuple of m items leaves -/
def LeftT (g : Shared) (R : Nat → Value → Prop) (m : Nat) (Q : Value → Shared → Prop) : Prop :=
  ∀ (k : Heap) (c : Nat) (its : Array Value), (∀ a x, g.heap.get? a = some x → k.get? a = some x) →
    ItemsOf R its m → Q (.ref k.objs.size) { g with heap := k.push { cls := .type "tuple", data := .seq its }, toks := c }
theorem exact_made {Q : Value → Shared → Prop} {its : Array Value} (hz : its.size ≤ sizeLine)
    (h : Q (.ref g.heap.objs.size) { g with heap := g.heap.push { cls := .type "tuple", data := .seq its } }) :
    wpAny (model P0 w0) B (Builtin.Tuple.tupleExact its.toList.toArray) Q Z g := by
  rw [Array.toArray_toList]; unfold Builtin.Tuple.tupleExact
  exact wpAny_newObj_type h hz
theorem called_tupD {Q : Value → Shared → Prop} (K : PySem.W.KdlSrc P0 w0 "dict" D D1 m R Ok) (calm : B.handled = none) (ok : Ok g.heap) (few : m ≤ sizeLine) (left : LeftT g R m Q) :
    wpAny (model P0 w0) B (call (.type "tuple") [.ref D]) Q Z g := by
  have isD : g.TypeIs (.ref D) "dict" := K.type g ok
  have c1 : B.in1.in1.handled = none := calm
  have made : codeAny (model P0 w0) B.in1 (.call (.builtin "tuple.__new__") ⟨[.type "tuple", .ref D], []⟩)
      (wants (fun v g1 => g1.TypeIs v "tuple" ∧ Q v g1) Z) g :=
    codeAny_of_tree (wpAny_bind (wpAny_of_eq (F.newCall_tuple_1 _) (wpAny_pure ⟨plainId_quiet F.plain_tuple_new _,
      codeAny_builtin F.entry_tuple_new (by
        have x1 := sub_tuple_self; have x2 := init_tuple_lookup; have x3 := madeHere_tuple
        rw [Around.under_plainId
              F.plain_tuple_new _]
        wp_walk using wpAny_typeOf isD, PySem.W.kdu_collect (A := B.in1.in1) K c1 ok few
        exact fun k c its hk hi => wpAny_bind (wpAny_pure (wpAny_bind (exact_made (by rw [hi.1]; exact few) (wpAny_pure ⟨⟨_, Heap.get?_push_size _ rfl, rfl⟩, left k c its hk hi⟩)))))⟩)))
  exact callType_codes F.called_tuple (F.typeCall_tuple_1 _) F.entry_object_init made
    fun v g1 x => ⟨x.1, F.args_object_init_2 v _, object_init_meets F.called_tuple.init.lookup F.called_tuple.made (by decide) P0 w0 B.in1 _ g1 ⟨x.1, rfl, x.2⟩⟩
end
theorem keyed {kvs : List (Key × V)} {vs : List (Key × Value)} (r : KV kvs vs) {its : List Value} (hl : its.length = kvs.length)
    (h : ∀ (j : Nat) (u : Value), its[j]? = some u → ∃ k y, vs[j]? = some (k, y) ∧ keyIs k u = true) : Vals (kvs.map fun kv => kV kv.1) its := by
  have ks := KV.keys r
  refine vals_of_at (by simp [hl]) fun j x u a b => ?_
  obtain ⟨k, y, c, d⟩ := h j u b
  have g := congrArg (fun l => l[j]?) ks
  simp only [List.getElem?_map, c, Option.map_some] at g
  simp only [List.getElem?_map] at a
  cases q : kvs[j]? with
  | none => rw [q] at a; cases a
  | some kv =>
    rw [q] at a g
    cases a
    obtain rfl : kv.1 = k := Option.some.inj g
    exact keyIs_rel d
theorem call_tupD {X : Cx} (hc : X.calm = true) : CallR X (.type "tuple") (fun xs H Q => ∃ p kvs, xs = [.ref p] ∧ H p = some (.dK kvs) ∧ TNew H (kvs.map fun kv => kV kv.1) Q) := by
  rintro pins s σ H _ us Q I r ⟨p, kvs, rfl, hk, q⟩
  obtain ⟨_, rfl, rfl⟩ := vals1 r
  obtain ⟨z, lo, vs, rk, hd⟩ := I.hok p _ hk
  obtain ⟨ep, at0⟩ := hd.dictAt
  have len : kvs.length = vs.length := Paired.length rk
  refine called_tupD (PySem.W.kdl_dict (knd := mixKind X.prog X.w) (kvs := vs) (ep := ep) lo) (I.ok.hd hc) at0 (by rw [← len]; exact z) fun k c its keep got => ?_
  have I1 : Inv X pins σ H { s with heap := k, toks := c } := I.kept keep
  have rv : Vals (kvs.map fun kv => kV kv.1) its.toList := by
    refine keyed rk (by simp [got.1, len]) fun j u e => ?_
    have ⟨k, y, a, b⟩ := got.2 j u (by rw [← Array.getElem?_toList]; exact e)
    exact ⟨k, y, a, b⟩
  simpa using tup_laid I1 rv (by rw [List.length_map]; exact z) q
section
variable {X : Cx}
section
variable {K : PySem.W.Frag} {F : AP} {φ : List Addr} {st : Sto} {H : Hp} {L : AP}
theorem bools_rw : ∀ {vs : List V} {xs : List W} {bs : List Bool}, RWs K L H φ vs xs → bools xs = some bs → vs = bs.map V.bl
  | _, _, _, .nil, e => by simp [bools] at e; subst e; rfl
  | _, _, _, .cons (b := w) a r, e => by
    cases w with
    | fz _ => cases e
    | ref _ => cases e
    | d x =>
      cases x with
      | bool b =>
        simp only [bools] at e
        cases q : bools _ with
        | none => rw [q]
              at e; cases e
        | some ds' => rw [q] at e; cases e; rw [List.map_cons, bools_rw r q, Den.bl_inv a]
      | _ => cases e
theorem ints_rw : ∀ {vs : List V} {xs : List W} {bs : List Int}, RWs K L H φ vs xs → intsOf xs = some bs → vs = bs.map V.int
  | _, _, _, .nil, e => by simp [intsOf] at e; subst e; rfl
  | _, _, _, .cons (b := w) a r, e => by
    cases w with
    | fz _ => cases e
    | ref _ => cases e
    | d x =>
      cases x with
      | int b =>
        simp only [intsOf] at e
        cases q : intsOf _ with
        | none => rw [q]
              at e; cases e
        | some ds' => rw [q] at e; cases e; rw [List.map_cons, ints_rw r q, Den.int_inv a]
      | _ => cases e
theorem strs_rw : ∀ {vs : List V} {xs : List W} {bs : List Str}, RWs K L H φ vs xs → strsOf xs = some bs → vs = bs.map V.str
  | _, _, _, .nil, e => by simp [strsOf] at e; subst e; rfl
  | _, _, _, .cons (b := w) a r, e => by
    cases w with
    | fz _ => cases e
    | ref _ => cases e
    | d x =>
      cases x with
      | str b =>
        simp only [strsOf] at e
        cases q : strsOf _ with
        | none => rw [q]
              at e; cases e
        | some ds' => rw [q] at e; cases e; rw [List.map_cons, strs_rw r q, Den.str_inv a]
      | _ => cases e
theorem maxI_ok : ∀ (l : List Int) (m : Int), (maxI m l ∈ m :: l) ∧ ∀ y ∈ m :: l, y ≤ maxI m l
  | [], m => by simp [maxI]
  | x :: r, m => by
    unfold maxI
    by_cases c : m < x
    · rw [if_pos c]
      obtain ⟨h1, h2⟩ := maxI_ok r x
      refine ⟨List.mem_cons_of_mem _ h1, fun y hy => ?_⟩
      rcases List.mem_cons.mp
            hy with e | hy
      · have := h2 x (List.mem_cons_self ..); omega
      · exact h2 y hy
    · rw [if_neg c]
      obtain ⟨h1, h2⟩ := maxI_ok r m
      have hm := h2 m (List.mem_cons_self ..)
      refine ⟨?_, fun y hy => ?_⟩
      · rcases List.mem_cons.mp h1 with e | e
        · rw [e]; exact List.mem_cons_self ..
        · exact List.mem_cons_of_mem _ (List.mem_cons_of_mem _ e)
      · rcases List.mem_cons.mp hy with e | hy
        · omega
        · rcases List.mem_cons.mp hy with e | hy
          · omega
          · exact h2 y (List.mem_cons_of_mem _ hy)
theorem minI_ok : ∀ (l : List Int) (m : Int), (minI m l ∈ m :: l) ∧ ∀ y ∈ m :: l, minI m l ≤ y
  | [], m => by simp [minI]
  | x :: r, m => by
    unfold minI
    by_cases c : x < m
    · rw [if_pos c]
      obtain ⟨h1, h2⟩ := minI_ok r x
      refine ⟨List.mem_cons_of_mem _ h1, fun y hy => ?_⟩
      rcases List.mem_cons.mp
            hy with e | hy
      · have := h2 x (List.mem_cons_self ..); omega
      · exact h2 y hy
    · rw [if_neg c]
      obtain ⟨h1, h2⟩ := minI_ok r m
      have hm := h2 m (List.mem_cons_self ..)
      refine ⟨?_, fun y hy => ?_⟩
      · rcases List.mem_cons.mp h1 with e | e
        · rw [e]; exact List.mem_cons_self ..
        · exact List.mem_cons_of_mem _ (List.mem_cons_of_mem _ e)
      · rcases List.mem_cons.mp hy with e | hy
        · omega
        · rcases List.mem_cons.mp hy with e | hy
          · omega
          · exact h2 y (List.mem_cons_of_mem _ hy)
theorem kv_keys : ∀ {ks : List (Key × V)} {ds : List (D × W)}, Paired (RKv K L H φ) ks ds → DenAll K L H (ks.map fun kv => kV kv.1) (ds.map (·.1))
  | _, _, .nil => .nil
  | _, _, .cons (a := p) (b := q) a r => by
    rw [List.map_cons,
          List.map_cons]
    refine .cons ?_ (kv_keys r)
    rw [a.1]
    cases p.1 with
    | inl i => exact .int i
    | inr x => exact .str x
end
theorem cb_abs : CallR X (.builtin "abs") (rBlt X.K .abs) := by
  intro pins s σ
        H xs us Q I r h
  obtain ⟨F, φ, st, vs, z, hs, rs, e, q⟩ := h
  unfold bltV at e
  split at e <;> try (cases ‹Blt.abs = _›)
  case h_2 v =>
    obtain ⟨x, rfl, ra⟩ := RVs.one rs
    cases en : int? v with
    | none => rw [en] at e; cases e
    | some n =>
      rw [en] at e; cases e
      rw [RV.int ra en] at r
      exact call_abs pins s σ H _ us Q I r ⟨_, rfl, q φ H _ (Step.refl hs) (RU.int _)⟩
  all_goals cases e
theorem cb_int : CallR X (.type "int") (rBlt X.K .int) := by
  intro pins s σ
        H xs us Q I r h
  obtain ⟨F, φ, st, vs, z, hs, rs, e, q⟩ := h
  have q0 := fun u => q φ H u (Step.refl hs)
  unfold bltV at e
  split at e <;> try (cases ‹Blt.int = _›)
  case h_3 =>
    cases e
    obtain ⟨x, rfl, ra⟩ := RVs.one rs
    rw [Den.int_inv ra] at r
    exact call_int1 pins s σ H _ us Q I r (.inl ⟨_, rfl, q0 _ (RU.int _)⟩)
  case h_4 =>
    cases e
    obtain ⟨x, rfl, ra⟩ := RVs.one rs
    rw [Den.bl_inv ra] at r
    exact call_int1 pins s σ H _ us Q I r (.inr ⟨_, rfl, q0 _ (RU.int _)⟩)
  all_goals cases e
theorem cb_str : CallR X (.type "str") (rBlt X.K .str) := by
  intro pins s σ
        H xs us Q I r h
  obtain ⟨F, φ, st, vs, z, hs, rs, e, q⟩ := h
  have q0 := fun u => q φ H u (Step.refl hs)
  unfold bltV at e
  split at e <;> try (cases ‹Blt.str = _›)
  case h_5 =>
    split at e
    · rename_i hz
      cases e
      obtain ⟨x, rfl, ra⟩ := RVs.one rs
      rw [Den.int_inv ra] at r
      exact call_str_int pins s σ H _ us Q I r ⟨_, rfl, hz, q0 _ (RU.str _)⟩
    · cases e
  case h_6 =>
    cases e
    obtain ⟨x, rfl, ra⟩ := RVs.one rs
    rw [Den.str_inv ra] at r
    exact SkE.call_str_str pins s σ H _ us Q I r ⟨_, rfl, q0 _ (RU.str _)⟩
  all_goals cases e
theorem cb_tuple (hc : X.calm = true) : CallR X (.type "tuple") (rBlt X.K .tuple) := by
  intro pins s σ
        H xs us Q I r h
  obtain ⟨F, φ, st, vs, z, hs, rs, e, q⟩ := h
  unfold bltV at e
  split at e <;> try (cases ‹Blt.tuple = _›)
  case h_7 =>
    cases e
    obtain ⟨x, rfl, ra⟩ := RVs.one rs
    obtain ⟨p, ws, e1, h1, d1⟩ := Den.tup_inv ra
    subst e1
    exact call_tuple_of pins s σ H _ us Q I r ⟨p, ws, rfl, .inr ⟨h1, q φ H _ (Step.refl hs) ra⟩⟩
  case h_8 => cases e
  case h_9 =>
    obtain ⟨x, rfl, ra⟩ := RVs.one rs
    obtain ⟨p, e1, e2⟩ := ra
    subst e2
    split at e
    · rename_i hi
      obtain ⟨ws, h1, d1⟩ := hs.cell _ p _ e1 hi
      cases qd : datas _ with
      | none => rw [qd] at e; cases e
      | some ds =>
        rw [qd] at e; cases e
        exact call_tupleN pins s σ H _ us Q I r ⟨p, ws, rfl, .inl ⟨.of h1, fun l o hl ho => q φ _ _ (Step.laid hs hl) (Den.tupNew hs hl ho (datas_rw d1 qd))⟩⟩
    · rename_i hi
      cases e
      obtain ⟨ks, h1, d1⟩ := hs.cell _ p _ e1 hi
      exact call_tupD hc pins s σ H _ us Q I r ⟨p, ks, rfl, h1, fun l o hl ho => q φ _ _ (Step.laid hs hl) (Den.tupNew hs hl ho (kv_keys d1))⟩
    · cases e
  case h_10 v _ _ _ =>
    obtain ⟨x, rfl, ra⟩ := RVs.one rs
    cases l1 : listOf' st v with
    | none => rw [l1] at e; cases e
    | some ys =>
      rw [l1] at e
      dsimp only [Option.bind_some] at e
      cases qd : datas ys with
      | none => rw [qd] at e; cases e
      | some ds =>
        rw [qd] at e; cases e
        obtain ⟨p, ws, e1, h1, d1⟩ := RV.list' hs ra l1
        subst e1
        exact call_tupleN pins s σ H _ us Q I r ⟨p, ws, rfl, .inl ⟨h1, fun l o hl ho => q φ _ _ (Step.laid hs hl) (Den.tupNew hs hl ho (datas_rw d1 qd))⟩⟩
  all_goals cases e
theorem cb_list : CallR X (.type "list") (rBlt X.K .list) := by
  intro pins s σ
        H xs us Q I r h
  obtain ⟨F, φ, st, vs, z, hs, rs, e, q⟩ := h
  unfold bltV at e
  split at e <;> try (cases ‹Blt.list = _›)
  case h_11 =>
    cases e
    obtain ⟨x, rfl, ra⟩ := RVs.one rs
    obtain ⟨p, ws, e1, h1, d1⟩ := Den.tup_inv ra
    subst e1
    exact call_list_of pins s σ H _ us Q I r ⟨p, ws, rfl, .inr h1, fun l hl => q φ _ _ (Step.laid hs hl) (RU.list hs hl (den_ds d1))⟩
  case h_12 v _ =>
    obtain ⟨x, rfl, ra⟩ := RVs.one rs
    cases l1 : listOf' st v with
    | none => rw [l1] at e; cases e
    | some ys =>
      rw [l1] at e; cases e
      obtain ⟨p, ws, e1, h1, d1⟩ := RV.list' hs ra l1
      subst e1
      exact call_list_of pins s σ H _ us Q I r ⟨p, ws, rfl, .inl h1, fun l hl => q φ _ _ (Step.laid hs hl) (RU.list hs hl d1)⟩
  all_goals cases e
/-- of a list, to a scalar -/
theorem cb_seq {b : Blt} {f : Value} {r : List V → Hp → VK → Prop} (ho : CallR X f r)
    (k : ∀ st vs z, bltV b st vs = some z → ∃ v xs sv, vs = [v] ∧ listOf st v = some xs ∧ (∀ (F : AP) (H : Hp) (φ : List Addr) (st : Sto), RU X.K F H φ st H sv z) ∧
      ∀ (L : AP) (H : Hp) (φ : List Addr) (p : Addr) (ws : List V) (Q : VK), H p = some (.lst ws) → RWs X.K L H φ ws xs → Q sv H → r [.ref p] H Q) : CallR X f (rBlt X.K b) := by
  intro pins s σ H xs us Q I rr h
  obtain ⟨F, φ, st, vs, z, hs, rs, e, q⟩ := h
  obtain ⟨v, ys, sv, rfl, l1, hsv, kk⟩ := k _ _ _ e
  obtain ⟨x, rfl, ra⟩ := RVs.one rs
  obtain ⟨p, ws, e1, h1, d1⟩ := RV.list hs ra l1
  subst e1
  exact ho pins s σ H _ us Q I rr (kk _ H φ p ws Q h1 d1 (q φ H _ (Step.refl hs) (hsv F H φ st)))
theorem cb_any (hc : X.calm = true) : CallR X (.builtin "any") (rBlt X.K .any) := cb_seq (cr_any hc) fun st vs z e => by
  unfold bltV at e
  split at e <;> try (cases ‹Blt.any = _›)
  case h_13 v =>
    cases l1 : listOf st v with
    | none => rw [l1] at e; cases e
    | some xs =>
      rw [l1] at e
      dsimp only [Option.bind_some] at e
      cases qb : bools xs with
      | none => rw [qb] at e; cases e
      | some bs =>
        rw [qb] at e; cases e
        refine ⟨v, xs, _, rfl, l1, fun F H φ st => RU.bl _, fun L H φ p ws Q hp d q => ⟨p, bs, rfl, ?_, q⟩⟩
        rw [← bools_rw d qb]
        exact .of hp
  all_goals cases e
theorem cb_all (hc : X.calm = true) : CallR X (.builtin "all") (rBlt X.K .all) := cb_seq (cr_all hc) fun st vs z e => by
  unfold bltV at e
  split at e <;> try (cases ‹Blt.all = _›)
  case h_14 v =>
    cases l1 : listOf st v with
    | none => rw [l1] at e; cases e
    | some xs =>
      rw [l1] at e
      dsimp only [Option.bind_some] at e
      cases qb : bools xs with
      | none => rw [qb] at e; cases e
      | some bs =>
        rw [qb] at e; cases e
        refine ⟨v, xs, _, rfl, l1, fun F H φ st => RU.bl _, fun L H φ p ws Q hp d q => ⟨p, bs, rfl, ?_, q⟩⟩
        rw [← bools_rw d qb]
        exact .of hp
  all_goals cases e
theorem cb_sum (hc : X.calm = true) : CallR X (.builtin "sum") (rBlt X.K .sum) := cb_seq (cr_sum hc) fun st vs z e => by
  unfold bltV at e
  split at e <;> try (cases ‹Blt.sum = _›)
  case h_15 v =>
    cases l1 : listOf st v with
    | none => rw [l1] at e; cases e
    | some xs =>
      rw [l1] at e
      dsimp only [Option.bind_some] at e
      cases qb : intsOf xs with
      | none => rw [qb] at e; cases e
      | some bs =>
        rw [qb] at e; cases e
        refine ⟨v, xs, _, rfl, l1, fun F H φ st => RU.int _, fun L H φ p ws Q hp d q => ⟨p, bs, rfl, ?_, q⟩⟩
        rw [← ints_rw d qb]
        exact .of hp
  all_goals cases e
theorem cb_max (hc : X.calm = true) : CallR X (.builtin "max") (rBlt X.K .max) := by
  intro pins s σ H xs us Q I rr h
  obtain ⟨F, φ, st, vs, z, hs, rs, e, q⟩ := h
  have q0 := fun u => q φ H u (Step.refl hs)
  unfold bltV at e
  split at e <;> try (cases ‹Blt.max = _›)
  case h_16 =>
    cases e
    obtain ⟨x, y, rfl, ra, rb⟩ := RVs.two rs
    rw [Den.int_inv ra, Den.int_inv rb] at rr
    exact call_max2 hc pins s σ H _ us Q I rr ⟨_, _, rfl, q0 _ (RU.int _)⟩
  case h_18 v =>
    obtain ⟨x, rfl, ra⟩ := RVs.one rs
    cases l1 : listOf st v with
    | none => rw [l1] at e; cases e
    | some ys =>
      rw [l1] at e
      dsimp only [Option.bind_some] at e
      cases qb : intsOf ys with
      | none => rw [qb] at e; cases e
      | some bs =>
        rw [qb] at e
        dsimp only [Option.bind_some] at e
        obtain ⟨p, ws, e1, h1, d1⟩ := RV.list hs ra l1
        subst e1
        cases bs with
        | nil => cases e
        | cons m t =>
          cases e
          obtain ⟨k1, k2⟩ := maxI_ok t m
          refine cr_max hc pins s σ H _ us Q I rr ⟨p, m :: t, rfl, ?_, by simp, fun n hn hy => ?_⟩
          · rw [← ints_rw d1 qb]; exact .of h1
          · have : n = maxI m t := Int.le_antisymm (k2 n hn) (hy _ k1)
            rw [this]
            exact q0 _ (RU.int _)
  all_goals cases e
theorem cb_min (hc : X.calm = true) : CallR X (.builtin "min") (rBlt X.K .min) := by
  intro pins s σ H xs us Q I rr h
  obtain ⟨F, φ, st, vs, z, hs, rs, e, q⟩ := h
  have q0 := fun u => q φ H u (Step.refl hs)
  unfold bltV at e
  split at e <;> try (cases ‹Blt.min = _›)
  case h_17 =>
    cases e
    obtain ⟨x, y, rfl, ra, rb⟩ := RVs.two rs
    rw [Den.int_inv ra, Den.int_inv rb] at rr
    exact call_min2 hc pins s σ H _ us Q I rr ⟨_, _, rfl, q0 _ (RU.int _)⟩
  case h_19 v =>
    obtain ⟨x, rfl, ra⟩ := RVs.one rs
    cases l1 : listOf st v with
    | none => rw [l1] at e; cases e
    | some ys =>
      rw [l1] at e
      dsimp only [Option.bind_some] at e
      cases qb : intsOf ys with
      | none => rw [qb] at e; cases e
      | some bs =>
        rw [qb] at e
        dsimp only [Option.bind_some] at e
        obtain ⟨p, ws, e1, h1, d1⟩ := RV.list hs ra l1
        subst e1
        cases bs with
        | nil => cases e
        | cons m t =>
          cases e
          obtain ⟨k1, k2⟩ := minI_ok t m
          refine cr_min hc pins s σ H _ us Q I rr ⟨p, m :: t, rfl, ?_, by simp, fun n hn hy => ?_⟩
          · rw [← ints_rw d1 qb]; exact .of h1
          · have : n = minI m t := Int.le_antisymm (hy _ k1) (k2 n hn)
            rw [this]
            exact q0 _ (RU.int _)
  all_goals cases e
/-! ### dict(pairs) -/
theorem pair_rw {K : PySem.W.Frag} {L : AP} {H : Hp} {φ : List Addr} {v : V} {w : W} {kw : D × W} (h : RW K L H φ v w) (e : pairD w = some kw) :
    ∃ (p : Addr) (kv : Key × V), v = .ref p ∧ SqT K H p [kV kv.1, kv.2] ∧ RKv K L H φ kv kw := by
  unfold pairD at e
  split at e
  · rename_i k x
    cases q : keyOf k with
    | none => rw [q]
          at e; cases e
    | some k' =>
      rw [q] at e; cases e
      obtain ⟨p, xs, e1, h1, d1⟩ := Den.tup_inv h
      cases d1 with
      | cons a d2 =>
        cases d2 with
        | cons b d3 =>
          cases d3
          obtain ⟨z1, z2⟩ := key_of_den a q
          subst z1
          exact ⟨p, (k', _), e1, h1, z2, b⟩
  · cases e
theorem pairs_rw {K : PySem.W.Frag} {L : AP} {H : Hp} {φ : List Addr} : ∀ {vs : List V} {xs : List W} {kvs : List (D × W)}, RWs K L H φ vs xs → pairsD xs = some kvs →
    ∃ (ps : List Addr) (ks : List (Key × V)), vs = ps.map V.ref ∧ Paired (fun p kv => SqT K H p [kV kv.1, kv.2]) ps ks ∧ Paired (RKv K L H φ) ks kvs
  | _, _, _, .nil, e => by simp [pairsD] at e; subst e; exact ⟨[], [], rfl, .nil, .nil⟩
  | _, _, _, .cons (b := w) a r, e => by
    unfold pairsD at e
    cases q1 : pairD w with
    | none => rw [q1] at e; cases e
    | some kw =>
      rw [q1] at e
      dsimp only [Option.bind_some] at e
      cases q2 : pairsD _ with
      | none => rw [q2] at e; cases e
      | some kws =>
        rw [q2] at e; cases e
        obtain ⟨p, kv, e1, h1, d1⟩ := pair_rw a q1
        obtain ⟨ps, ks, e2, h2, d2⟩ := pairs_rw r q2
        exact ⟨p :: ps, kv :: ks, by rw [e1, e2]; rfl, .cons h1 h2, .cons d1 d2⟩
theorem eqv_key (k k' : Key) : PyData.eqv (keyD k) (keyD k') = decide (k = k') := by
  cases k <;> cases k' <;> (unfold keyD PyData.eqv; first | exact (key_ll _ _).symm | (rw [key_rr]; exact (Bool.beq_eq_decide_eq _ _)) | exact (key_lr _ _).symm | exact (key_rl _ _).symm)
theorem put_any {K : PySem.W.Frag} {L : AP} {H : Hp} {φ : List Addr} {k : Key} : ∀ {ks : List (Key × V)} {kvs : List (D × W)}, Paired (RKv K L H φ) ks kvs → (kvs.any fun kv => PyData.eqv kv.1 (keyD k)) = ks.any fun kv => decide (kv.1 = k)
  | _, _, .nil => rfl
  | _, _, .cons (a := p) (b := q) a r => by
    rw [List.any_cons, List.any_cons, put_any r, a.1, eqv_key]
theorem put_map {K : PySem.W.Frag} {L : AP} {H : Hp} {φ : List Addr} {k : Key} {v : V} {w : W} (hv : RW K L H φ v w) : ∀ {ks : List (Key × V)} {kvs : List (D × W)}, Paired (RKv K L H φ) ks kvs →
    Paired (RKv K L H φ) (ks.map fun kv => if kv.1 = k then (kv.1, v) else kv) (kvs.map fun kv => if PyData.eqv kv.1 (keyD k) = true then (kv.1, w) else kv)
  | _, _, .nil => .nil
  | _, _, .cons (a := p) (b := q) a r => by
    rw [List.map_cons,
          List.map_cons]
    refine .cons ?_ (put_map hv r)
    have e : PyData.eqv q.1 (keyD k) = decide (p.1 = k) := by rw [a.1, eqv_key]
    rw [e]
    by_cases c : p.1 = k
    · rw [if_pos c, if_pos (decide_eq_true c)]
      exact ⟨a.1, hv⟩
    · rw [if_neg c, if_neg (by rw [decide_eq_false c]; simp)]
      exact a
theorem put_rw {K : PySem.W.Frag} {L : AP} {H : Hp} {φ : List Addr} {k : Key} {v : V} {w : W} (hv : RW K L H φ v w) {ks : List (Key × V)} {kvs : List (D × W)} (r : Paired (RKv K L H φ) ks kvs) : Paired (RKv K L H φ) (putK ks k v) (putD kvs (keyD k) w) := by
  unfold putK putD
  rw [put_any r]
  split
  · exact put_map hv r
  · exact paired_app r (.cons ⟨rfl, hv⟩ .nil)
theorem merge_rw {K : PySem.W.Frag} {L : AP} {H : Hp} {φ : List Addr} : ∀ {ks : List (Key × V)} {kvs : List (D × W)} {ks0 : List (Key × V)} {kvs0 : List (D × W)}, Paired (RKv K L H φ) ks kvs → Paired (RKv K L H φ) ks0 kvs0 → Paired (RKv K L H φ) (mergeK ks0 ks) (mergeD kvs0 kvs)
  | _, _, _, _, .nil, h => h
  | _, _, _, _, .cons (a := p) (b := q) a r, h => by
    unfold mergeK mergeD
    rw [List.foldl_cons,
          List.foldl_cons]
    rw [a.1]
    exact merge_rw r (put_rw a.2 h)
theorem cb_dict (hc : X.calm = true) : CallR X (.type "dict") (rBlt X.K .dict) := by
  intro pins s σ H xs us Q I rr h
  obtain ⟨F, φ, st, vs, z, hs, rs, e, q⟩ := h
  unfold bltV at e
  split at e <;> try (cases ‹Blt.dict = _›)
  case h_20 ys =>
    obtain ⟨x, rfl, ra⟩ := RVs.one rs
    cases qb : pairsD (ys.map W.d) with
    | none => rw [qb] at e; cases e
    | some kvs =>
      rw [qb] at e; cases e
      obtain ⟨p, ws, e1, h1, d1⟩ := Den.tupN_inv ra
      subst e1
      obtain ⟨ps, ks, e2, h2, d2⟩ := pairs_rw (φ := φ) (den_ds d1) qb
      subst e2
      exact call_dictN hc pins s σ H _ us Q I rr ⟨p, ps, ks, rfl, h1, h2, fun l hl => q φ _ _ (Step.laid hs hl) (RU.dict hs hl (merge_rw d2 .nil))⟩
  case h_21 v _ =>
    obtain ⟨x, rfl, ra⟩ := RVs.one rs
    cases l1 : listOf st v with
    | none => rw [l1] at e; cases e
    | some ys =>
      rw [l1] at e
      dsimp only [Option.bind_some] at e
      cases qb : pairsD ys with
      | none => rw [qb] at e; cases e
      | some kvs =>
        rw [qb] at e; cases e
        obtain ⟨p, ws, e1, h1, d1⟩ := RV.list hs ra l1
        subst e1
        obtain ⟨ps, ks, e2, h2, d2⟩ := pairs_rw d1 qb
        subst e2
        exact call_dictP hc pins s σ H _ us Q I rr ⟨p, ps, ks, rfl, .of h1, h2, fun l hl => q φ _ _ (Step.laid hs hl) (RU.dict hs hl (merge_rw d2 .nil))⟩
  all_goals cases e
/-! ### isinstance -/
def tyV' : Ty → V
  | .int => .ty "int" | .str => .ty "str" | .bool => .ty "bool" | .tuple => .ty "tuple" | .list => .ty "list" | .dict => .ty "dict"
def tyL : Ty → Value
  | .int => .type "int" | .str => .type "str" | .bool => .type "bool" | .tuple => .type "tuple" | .list => .type "list" | .dict => .type "dict"
theorem ty_cls (t : Ty) : ClsV (tyV' t) (tyL t) := by cases t <;> exact .ty _
def tyR : Ty → Value := tyL
theorem tyx_of {K : PySem.W.Frag} {F : AP} {φ : List Addr} {st : Sto} {H : Hp} {x : V} {a : Val} {t : Ty} (hs : SC K F φ st H) (ra : RV K F φ st H x a) (e : tyOf st a = some t) : TyX K H x (tyL t) := by
  unfold tyOf at e
  split at e
  · cases e; rw [Den.int_inv ra]; exact .base (.int _)
  · cases e; rw [Den.str_inv ra]; exact .base (.str _)
  · cases e; rw [Den.bl_inv ra]; exact .base (.bl _)
  · cases e
    obtain ⟨p, xs, e1, h1, _⟩ := Den.tup_inv ra
    subst e1
    rcases h1 with (h1 | ⟨o, h1⟩) | ⟨o, its, n, h1, h2, _⟩
    · exact .base (.tup h1)
    · exact .fTuple h1
    · exact .kTuple h1 h2
  · cases e
    obtain ⟨p, xs, e1, h1, _⟩ := Den.lst_inv ra
    subst e1
    exact .base (.lst h1)
  · cases e
    obtain ⟨p, xs, e1, h1, _⟩ := Den.dct_inv ra
    subst e1
    exact .base (.dK h1)
  · cases e
    obtain ⟨p, xs, e1, h1, _⟩ := ra
    subst e1
    rcases h1 with ⟨o, h1⟩ | ⟨o, its, n, h1, h2, _⟩
    · exact .base (.frz h1)
    · exact .kList h1 h2
  · obtain ⟨p, e1, e2⟩ := ra
    subst e2
    split at e
    · rename_i hi
      cases e
      obtain ⟨ws, h1, _⟩ := hs.cell _ p _ e1 hi
      exact .base (.lst h1)
    · rename_i hi
      cases e
      obtain ⟨ws, h1, _⟩ := hs.cell _ p _ e1 hi
      exact .base (.dK h1)
    · cases e
  · cases e
    obtain ⟨p, xs, e1, h1, _⟩ := ra
    subst e1
    exact .base (.lst h1)
  · cases e
    obtain ⟨p, xs, e1, h1, _⟩ := ra
    subst e1
    exact .base (.dK h1)
  · cases e
theorem kit_ty (K : PySem.W.Frag) : ∀ u t : Ty, PySem.W.kitOne K (tyL u) (tyL t) = some (match u, t with | .bool, .int => true | u, t => u == t) := by
  intro u t
  cases u <;> cases t <;> (first | rfl | decide +kernel | kernel_rfl)
theorem kit_non (K : PySem.W.Frag) : ∀ t : Ty, PySem.W.kitOne K (.type "NoneType") (tyL t) = some false := by
  intro t
  cases t <;> (first | rfl | decide +kernel | kernel_rfl)
theorem ci_one {pins : List (Addr × Obj)} {s : Shared} {σ : L2.St} {H : Hp} {x : V} {us : List Value} {Q : VK} {F : AP} {φ : List Addr} {st : Sto} {a : Val} {t : Ty} {b : Bool} (I : Inv X pins σ H s) (r : Vals [x, tyV' t] us) (hs : SC X.K F φ st H)
    (ra : RV X.K F φ st H x a) (e : isTy st a t = some b) (q : Q (.bl b) H) : wpAny (model X.prog X.w) X.A (call (.builtin "isinstance") us) (EP X pins σ Q) X.xe s := by
  unfold isTy at e
  split at e
  · cases e
    rw [Den.non_inv ra] at r
    exact call_isi pins s σ H _ us Q I r ⟨_, _, _, _, _, rfl, ty_cls t, .base .non, kit_non X.K t, q⟩
  · cases q1 : tyOf st a with
    | none => rw [q1] at e; cases e
    | some u =>
      rw [q1] at e
      have e' : some _ = some b := e
      cases e'
      exact call_isi pins s σ H _ us Q I r ⟨_, _, _, _, _, rfl, ty_cls t, tyx_of hs ra q1, kit_ty X.K u t, q⟩
end
end MP
set_option maxHeartbeats 1000001
/-! Ev7: methods, stores, what is walked. -/
namespace MP
open PySem PySem.Spec L2
section
variable {X : Cx}
def rMth (K : PySem.W.Frag) (m : Mth) : V → List V → Hp → VK → Prop := fun x xs H Q => ∃ F φ st o vs r st', SC K F φ st H ∧ RV K F φ st H x o ∧ RVs K F φ st H xs vs ∧ mthV m st o vs = some (r, st') ∧
  ∀ φ' H' u, Step K F φ st H φ' st' H' → RU K F H φ' st' H' u r → Q u H'
theorem paired_last {α β : Type} {P : α → β → Prop} : ∀ {xs : List α} {ys : List β}, Paired P xs ys → Paired P xs.dropLast ys.dropLast
  | _, _, .nil => .nil
  | _, _, .cons _ .nil => .nil
  | _, _, .cons a (.cons b r) => .cons a (paired_last (.cons b r))
theorem mm_append : MtR X "list.append" (rMth X.K .append) := by
  intro pins s σ H x
        xs v us Q I rx rs h
  obtain ⟨F, φ, st, o, vs, r, st', hs, ro, ra, e, q⟩ := h
  unfold mthV at e
  split at e <;> try (cases ‹Mth.append = _›)
  case h_1 i w =>
    split at e
    · rename_i ys hi
      split at e
      · rename_i hz
        cases e
        obtain ⟨a, e1, e2⟩ := ro
        subst e2
        obtain ⟨y, rfl, ry⟩ := RVs.one ra
        obtain ⟨ws, h1, d1⟩ := hs.cell _ a _ e1 hi
        have lv : Or2 F (Live φ st) a := .inr ⟨i, _, e1, hi, by intro z; cases z⟩
        refine mt_append pins s σ H _ _ v us Q I rx rs ⟨a, ws, y, rfl, rfl, h1, by rw [line_is, paired_len d1]; exact hz, q φ _ _ (hs.write e1 hi (by intro z; cases z) (by intro z; cases z) trivial ⟨_, upd_same, ?_⟩) (RU.non (K := X.K))⟩
        exact paired_app (paired_imp (fun _ _ z => RW.way (way_write lv) hs.cells ⟨[], by simp⟩ z) d1) (.cons (RW.way (way_write lv) hs.cells ⟨[], by simp⟩ ry) .nil)
      · cases e
    · cases e
  all_goals cases e
theorem mm_pop : MtR X "list.pop" (rMth X.K .pop) := by
  intro pins s σ H x
        xs v us Q I rx rs h
  obtain ⟨F, φ, st, o, vs, r, st', hs, ro, ra, e, q⟩ := h
  unfold mthV at e
  split at e <;> try (cases ‹Mth.pop = _›)
  case h_2 i =>
    split at e
    · rename_i ys hi
      cases ql : ys.getLast? with
      | none => rw [ql] at e; cases e
      | some y =>
        rw [ql] at e
        cases e
        obtain ⟨a, e1, e2⟩ := ro
        subst e2
        cases ra
        obtain ⟨ws, h1, d1⟩ := hs.cell _ a _ e1 hi
        have lv : Or2 F (Live φ st) a := .inr ⟨i, _, e1, hi, by intro z; cases z⟩
        rw [List.getLast?_eq_getElem?] at ql
        obtain ⟨u, hu, ru⟩ := paired_get d1 ql
        refine mt_pop pins s σ H _ _ v us Q I rx rs ⟨a, ws, u, rfl, rfl, h1, by rw [paired_len d1]; exact hu, ?_⟩
        have stp : Step X.K F φ st H φ (st.set i (.lst ys.dropLast)) (upd H a (.lst ws.dropLast)) :=
          hs.write e1 hi (by intro z; cases z) (by intro z; cases z) trivial ⟨_, upd_same, paired_imp (fun _ _ z => RW.way (way_write lv) hs.cells ⟨[], by simp⟩ z) (paired_last d1)⟩
        exact q φ _ _ stp (stp.rw hs ru)
    · cases e
  all_goals cases e
theorem mm_join : MtR X "str.join" (rMth X.K .join) := by
  intro pins s σ H x
        xs v us Q I rx rs h
  obtain ⟨F, φ, st, o, vs, r, st', hs, ro, ra, e, q⟩ := h
  unfold mthV at e
  split at e <;> try (cases ‹Mth.join = _›)
  case h_3 a w =>
    cases l1 : listOf st w with
    | none => rw [l1] at e; cases e
    | some zs =>
      rw [l1] at e
      dsimp only [Option.bind_some] at e
      cases q1 : strsOf zs with
      | none => rw [q1] at e; cases e
      | some ys =>
        rw [q1] at e
        dsimp only [Option.bind_some] at e
        split at e
        · rename_i hz
          cases e
          obtain ⟨y, rfl, ry⟩ := RVs.one ra
          obtain ⟨p, ws, e2, h2, d2⟩ := RV.list hs ry l1
          subst e2
          have e3 := strs_rw d2 q1
          subst e3
          rw [Den.str_inv ro] at rx
          exact mt_join pins s σ H _ _ v us Q I rx rs ⟨_, p, ys, rfl, rfl, .inl (.of h2), hz, q φ H _ (Step.refl hs) (RU.str _)⟩
        · cases e
  all_goals cases e
/-- nothing to replace -/
theorem mm_replace : MtR X "str.replace" (rMth X.K .replace) := by
  intro pins s σ H x
        xs v us Q I rx rs h
  obtain ⟨F, φ, st, o, vs, r, st', hs, ro, ra, e, q⟩ := h
  unfold mthV at e
  split at e <;> try (cases ‹Mth.replace = _›)
  case h_4 a b c =>
    split at e
    · rename_i hz
      cases e
      obtain ⟨y, z, rfl, ry, rz⟩ := RVs.two ra
      rw [Den.str_inv ro] at rx
      rw [Den.str_inv ry, Den.str_inv rz] at rs
      obtain ⟨t, rfl⟩ := rx
      cases rs with
      | cons r1 rs =>
        cases rs with
        | cons r2 rs =>
          cases rs
          obtain ⟨t1, rfl⟩ := r1
          obtain ⟨t2, rfl⟩ := r2
          have hc : ((Builtin.Str.occurrences a b 0 a.length (a.length + 1)).isEmpty || (b.length == 0 && c.length == 0)) = true := by rw [hz]; rfl
          refine PySem.call_gives PySem.F.slot_str_replace (typeIs_str _ _ _) PySem.F.entry_str_replace (PySem.F.args_str_replace_3 _ _ _) (PySem.gives_str_replace a b c t t1 t2 fun z => by rw [hc] at z; cases z) ?_
          rw [if_pos hc]
          exact ⟨.str a, H, I, ⟨t, rfl⟩, q φ H _ (Step.refl hs) (RU.str _)⟩
    · cases e
  all_goals cases e
theorem strs_rws {K : PySem.W.Frag} {L : AP} {H : Hp} {φ : List Addr} : ∀ ys : List Str, RWs K L H φ (ys.map V.str) (ys.map fun z => W.d (.str z))
  | [] => .nil
  | y :: ys => .cons (Den.str y) (strs_rws ys)
theorem mm_split : MtR X "str.split" (rMth X.K .split) := by
  intro pins s σ H x
        xs v us Q I rx rs h
  obtain ⟨F, φ, st, o, vs, r, st', hs, ro, ra, e, q⟩ := h
  unfold mthV at e
  split at e <;> try (cases ‹Mth.split = _›)
  case h_5 a b =>
    split at e
    · rename_i hz
      cases e
      obtain ⟨y, rfl, ry⟩ := RVs.one ra
      rw [Den.str_inv ro] at rx
      rw [Den.str_inv ry] at rs
      refine mt_split pins s σ H _ _ v us Q I rx rs ⟨a, b, rfl, rfl, hz.1, by rw [line_is]; exact hz.2, fun p hp => ?_⟩
      exact q φ _ _ (Step.laid hs hp) (RU.weak (fun a n => n) (RU.list hs hp (strs_rws _)))
    · cases e
  all_goals cases e
/-! ### o[i] = v -/
def rSet (K : PySem.W.Frag) : TSet := fun o i v H Q => ∃ F φ st a b w st', SC K F φ st H ∧ RV K F φ st H o a ∧ RV K F φ st H i b ∧ RW K (Or2 F (Live φ st)) H φ v w ∧ setCell st a b w = some st' ∧ ∀ H', Step K F φ st H φ st' H' → Q H'
theorem set_any (hu : X.A.units + 1 < cLine) : PSet X (rSet X.K) := by
  intro pins s σ H o i v
        ov iv u Q I ro ri rv h
  obtain ⟨F, φ, st, a, b, w, st', hs, ra, rb, rw', e, q⟩ := h
  unfold setCell at e
  split at e
  · rename_i r
    obtain ⟨p, e1, e2⟩ := ra
    subst e2
    split at e
    · rename_i xs hi
      cases ei : int? b with
      | none => rw [ei] at e; cases e
      | some k =>
        rw [ei] at e
        dsimp only [Option.bind_some] at e
        cases ej : ixN xs.length k with
        | none => rw [ej] at e; cases e
        | some j =>
          rw [ej] at e
          cases e
          obtain ⟨ws, h1, d1⟩ := hs.cell _ p _ e1 hi
          have lv : Or2 F (Live φ st) p := .inr ⟨r, _, e1, hi, by intro z; cases z⟩
          have e3 := RV.int rb ei
          subst e3
          exact set_list pins s σ H _ _ v ov iv u Q I ro ri rv ⟨p, ws, k, j, rfl, rfl, h1, by rw [paired_len d1]; exact ej,
            q _ (hs.write e1 hi (by intro z; cases z) (by intro z; cases z) trivial ⟨_, upd_same, paired_set (RW.way (way_write lv) hs.cells ⟨[], by simp⟩ rw') j (paired_imp (fun _ _ z => RW.way (way_write lv) hs.cells ⟨[], by simp⟩ z) d1)⟩)⟩
    · rename_i kvs hi
      cases ed : dataOf st b with
      | none => rw [ed] at e; cases e
      | some d =>
        rw [ed] at e
        dsimp only [Option.bind_some] at e
        cases ek : keyOf d with
        | none => rw [ek] at e; cases e
        | some k =>
          rw [ek] at e
          dsimp only [Option.bind_some] at e
          split at e
          · rename_i hz
            cases e
            obtain ⟨ks, h1, d1⟩ := hs.cell _ p _ e1 hi
            have lv : Or2 F (Live φ st) p := .inr ⟨r, _, e1, hi, by intro z; cases z⟩
            obtain ⟨L1, n1⟩ := RV.data hs rb ed
            obtain ⟨z1, z2⟩ := key_of_den n1 ek
            subst z1 z2
            exact set_dict hu pins s σ H _ _ v ov iv u Q I ro ri rv ⟨p, _, rfl, DPut.k h1 (by rw [line_is, paired_len d1]; exact hz),
              q _ (hs.write e1 hi (by intro z; cases z) (by intro z; cases z) trivial ⟨_, upd_same, put_rw (RW.way (way_write lv) hs.cells ⟨[], by simp⟩ rw') (paired_imp (fun _ _ z => ⟨z.1, RW.way (way_write lv) hs.cells ⟨[], by simp⟩ z.2⟩) d1)⟩)⟩
          · cases e
    · cases e
  · cases e
end
/-! ### what is walked -/
structure ItOk (K : PySem.W.Frag) (wk : Bool) (L : AP) (H : Hp) (φ : List Addr) (xs : List W) (J : It) : Prop where
  go : ∀ L2 H2, Way L H L2 H2 → ∀ i, i < xs.length → J.go i H2
  stop : ∀ L2 H2, Way L H L2 H2 → ∀ i, xs.length ≤ i → J.stop i H2
  yld : ∀ L2 H2, Way L H L2 H2 → ∀ i v H3, J.yld i H2 v H3 → i < xs.length → ∃ x, xs[i]? = some x ∧
    ((H3 = H2 ∧ RW K L2 H2 φ v x) ∨ wk = true ∧ ∃ p vs ds, H2 p = none ∧ H3 = upd H2 p (.tup vs) ∧ v = .ref p ∧ x = .d (.tuple ds) ∧ DenAll K L2 H2 vs ds)
def ItxOk (K : PySem.W.Frag) (wk : Bool) (L : AP) (H : Hp) (φ : List Addr) (J : It) : Itx → Prop
  | .items xs => ItOk K wk L H φ xs J
  | .live r => ∃ a, φ[r]? = some a ∧ J = Itl K a
def tSrc (K : PySem.W.Frag) (P : Par) (C : CE) (s : Src) : TI := fun σ H R => ∃ F φ st δ, SC K F φ st H ∧ Sl K F φ st H δ σ ∧
  Post K F (exOf P.XR P.W σ) φ st H (evSrc C s δ st) fun it φ' st' H' => ∀ J, ItxOk K s.isW (Or2 F (Live φ' st')) H' φ' J it → R J H'
section
variable {K : PySem.W.Frag} {wk : Bool} {L : AP} {H : Hp} {φ : List Addr}
theorem ok_lst {a : Addr} {vs : List V} {xs : List W} (c : Cells L H) (h : H a = some (.lst vs)) (n : ¬ L a) (d : RWs K L H φ vs xs) : ItOk K wk L H φ xs (Itl K a) where
  go := fun L2 H2 w i hi => by
    have e := (w.keep a _ h n).1
    have hl := paired_len d
    exact ⟨vs, vs[i]'(by omega), .of e, by simp⟩
  stop := fun L2 H2 w i hi => ⟨vs, .of (w.keep a _ h n).1, by rw [paired_len d]; exact hi⟩
  yld := fun L2 H2 w i v H3 y hi => by
    obtain ⟨e, y⟩ := y
    subst e
    have e := (w.keep a _ h n).1
    have q := y vs (.of e)
    obtain ⟨u, hu, ru⟩ := paired_get d (List.getElem?_eq_getElem hi)
    rw [q] at hu; cases hu
    exact ⟨_, List.getElem?_eq_getElem hi, .inl ⟨rfl, RW.way w c ⟨[], by simp⟩ ru⟩⟩
theorem ok_fz {a : Addr} {vs : List V} {xs : List D} (c : Cells L H) (h : SqF K H a vs) (d : DenAll K L H vs xs) : ItOk K wk L H φ (xs.map W.d) (Itl K a) where
  go := fun L2 H2 w i hi => by
    have e := (SqF.way w c h).sq
    have hl := d.length
    rw [List.length_map] at hi
    exact ⟨vs, vs[i]'(by omega), e, by simp⟩
  stop := fun L2 H2 w i hi => ⟨vs, (SqF.way w c h).sq, by rw [d.length]; rw [List.length_map] at hi; exact hi⟩
  yld := fun L2 H2 w i v H3 y hi => by
    obtain ⟨e, y⟩ := y
    subst e
    have q := y vs (SqF.way w c h).sq
    rw [List.length_map] at hi
    obtain ⟨u, hu, ru⟩ := d.get (List.getElem?_eq_getElem hi)
    rw [q] at hu; cases hu
    exact ⟨.d xs[i], by rw [List.getElem?_map, List.getElem?_eq_getElem hi]; rfl, .inl ⟨rfl, Den.way w c ru⟩⟩
theorem ok_tup {a : Addr} {vs : List V} {xs : List D} (c : Cells L H) (h : SqT K H a vs) (d : DenAll K L H vs xs) : ItOk K wk L H φ (xs.map W.d) (Itt K a) where
  go := fun L2 H2 w i hi => by
    have e := SqT.way w c h
    have hl := d.length
    rw [List.length_map] at hi
    exact ⟨vs, vs[i]'(by omega), e, by simp⟩
  stop := fun L2 H2 w i hi => ⟨vs, SqT.way w c h, by rw [d.length]; rw [List.length_map] at hi; exact hi⟩
  yld := fun L2 H2 w i v H3 y hi => by
    obtain ⟨e, y⟩ := y
    subst e
    have q := y vs (SqT.way w c h)
    rw [List.length_map] at hi
    obtain ⟨u, hu, ru⟩ := d.get (List.getElem?_eq_getElem hi)
    rw [q] at hu; cases hu
    exact ⟨.d xs[i], by rw [List.getElem?_map, List.getElem?_eq_getElem hi]; rfl, .inl ⟨rfl, Den.way w c ru⟩⟩
theorem ok_str (z : Str) : ItOk K wk L H φ (z.cps.toList.map fun c => W.d (.str ⟨#[c]⟩)) (Its z) where
  go := fun L2 H2 w i hi => by show i < z.cps.size; simpa using hi
  stop := fun L2 H2 w i hi => by show z.cps.size ≤ i; simpa using hi
  yld := fun L2 H2 w i v H3 y hi => by
    obtain ⟨e, c, hc, ev⟩ := y
    subst e; subst ev
    exact ⟨.d (.str ⟨#[c]⟩), by simp [hc], .inl ⟨rfl, Den.str _⟩⟩
theorem ok_rng (lo : Int) (n : Nat) (xs : List W) (h : xs = (List.range n).map fun (k : Nat) => W.d (.int (lo + (k : Int)))) : ItOk K wk L H φ xs (L2.Itr lo n) where
  go := fun L2 H2 w i hi => by rw [h] at hi; show i < n; simpa using hi
  stop := fun L2 H2 w i hi => by rw [h] at hi; show n ≤ i; simpa using hi
  yld := fun L2 H2 w i v H3 y hi => by
    obtain ⟨e, ev⟩ := y
    subst e; subst ev
    rw [h] at hi ⊢
    have hi' : i < n := by simpa using hi
    exact ⟨.d (.int (lo + (i : Int))), by simp [hi'], .inl ⟨rfl, Den.int _⟩⟩
end
section
variable {X : Cx} {tg : Expr}
/-- a list, a tuple or a text -/
theorem pi_any {l : Expr} {tl : TE} (hl : PE X l tl) : PI X tg l (fun σ H R => tl σ H fun x H1 => (∃ a, x = .ref a ∧ (∃ xs, SqL X.K H1 a xs) ∧ R (Itl X.K a) H1) ∨ (∃ a, x = .ref a ∧ (∃ xs, SqT X.K H1 a xs) ∧ R (Itt X.K a) H1) ∨ ∃ z, x = .str z ∧ R (Its z) H1) := by
  refine ⟨fun pins
        s σ H R I h => ?_⟩
  refine thn (hl.run pins s σ
        H _ I h) fun v s1 ⟨x, H1, I1, r1, q1⟩ => ?_
  rcases q1 with ⟨a, e, ⟨xs, hq⟩, q⟩ | ⟨a, e, ⟨xs, hq⟩, q⟩ | ⟨z, e, q⟩
  · subst e
    cases r1
    obtain ⟨its, rv, p,
          hz⟩ := I1.list hq
    exact wpAny_pyIter_list p.isList (pi_one (tk := s1.toks) I1 _ (turn_list a _) ⟨_, Heap.get?_push_size _ rfl, rfl, rfl⟩ q)
  · subst e
    cases r1
    obtain ⟨its, rv, p,
          hz⟩ := I1.tuple hq
    exact wpAny_pyIter_tuple (show s1.heap.IsTuple a its.toArray from p) (pi_one (tk := s1.toks) I1 _ (turn_tuple a _) ⟨_, Heap.get?_push_size _ rfl, rfl, rfl⟩ q)
  · subst e
    obtain ⟨t, rfl⟩ := r1
    cases ha : z.cps.all (· < 128)
    · exact wpAny_pyIter_wide ha (pi_one (tk := s1.toks) I1 _ (turn_str _ z t "str_iterator" (.inr rfl)) ⟨_, Heap.get?_push_size _ rfl, rfl, rfl⟩ q)
    · exact wpAny_pyIter_ascii ha (pi_one (tk := s1.toks) I1 _ (turn_str _ z t "str_ascii_iterator" (.inl rfl)) ⟨_, Heap.get?_push_size _ rfl, rfl, rfl⟩ q)
theorem pi_weak {l : Expr} {t t' : TI} (h : PI X tg l t) (k : ∀ σ H R, t' σ H R → t σ H R) : PI X tg l t' := ⟨fun pins s σ H R I q => h.run pins s σ H R I (k σ H R q)⟩
theorem src_it {P : Par} {C : CE} {l : Expr} {e : E} (hl : PE X l (tE X.K P C e)) : PI X tg l (tSrc X.K P C (.it e)) := pi_weak (pi_any hl) fun σ H R ⟨F, φ, st, δ, s, d, h⟩ => by
  refine ⟨F, φ, st, δ, s, d, (Post.bind (by simpa only [evSrc] using h)).imp fun v φ1 st1 H1 t1 h1 u ru => ?_⟩
  obtain ⟨it, e1, h2⟩ := h1.lift
  have s1 := t1.sc
  have hR := h2 φ1 H1 (Step.refl s1)
  have rv := ru.rv s1 fun a f => s.fo a f
  unfold itOf at e1
  split at e1
  · split at e1
    · rename_i hi
      cases e1
      obtain ⟨a, e2, e3⟩ := rv
      obtain ⟨ws, h3, d3⟩ := s1.cell _ a _ e2 hi
      exact .inl ⟨a, e3, ⟨ws, .of h3⟩, hR _ ⟨a, e2, rfl⟩⟩
    · cases e1
  · cases e1
    obtain ⟨a, vs, e3, h3, d3⟩ := Den.tup_inv rv
    exact .inr (.inl ⟨a, e3, ⟨vs, h3⟩, hR _ (ok_tup s1.cells h3 d3)⟩)
  · cases e1
    exact .inr (.inr ⟨_, Den.str_inv rv, hR _ (ok_str _)⟩)
  · rename_i w _ _ _
    cases l1 : listOf' st1 v with
    | none => rw [l1] at e1; cases e1
    | some ys =>
      rw [l1] at e1; cases e1
      unfold listOf' at l1
      split at l1
      · cases l1
        obtain ⟨a, vs, e3, h3, d3⟩ := rv
        exact .inl ⟨a, e3, ⟨vs, h3.sq⟩, hR _ (ok_fz s1.cells h3 d3)⟩
      · unfold listOf at l1
        split at l1
        · cases l1
          cases rv with
          | lst h3 n3 d3 => exact .inl ⟨_, rfl, ⟨_, .of h3⟩, hR _ (ok_lst s1.cells h3 n3 (den_ds d3))⟩
        · rename_i k _ hn _ _ _
          exact (hn _ rfl).elim
        · cases l1
          obtain ⟨a, vs, e3, h3, n3, d3⟩ := rv
          exact .inl ⟨a, e3, ⟨vs, .of h3⟩, hR _ (ok_lst s1.cells h3 n3 d3)⟩
        · cases l1
end
/-- a row that nobody changes -/
def SqD (K : PySem.W.Frag) (L : AP) (H : Hp) (v : V) (d : Bool × List D) : Prop :=
  ∃ a vs, v = .ref a ∧ DenAll K L H vs d.2 ∧ ((d.1 = true ∧ ∀ L2 H2, Way L H L2 H2 → SqT K H2 a vs) ∨ (d.1 = false ∧ ∀ L2 H2, Way L H L2 H2 → SqL K H2 a vs))
theorem RV.seq {K : PySem.W.Frag} {F : AP} {φ : List Addr} {st : Sto} {H : Hp} {v : V} {x : Val} {d : Bool × List D} (s : SC K F φ st H) (r : RV K F φ st H v x) (e : seqOf x = some d) : SqD K (Or2 F (Live φ st)) H v d := by
  unfold seqOf at e
  split at e
  · cases e
    obtain ⟨a, vs, e3, h3, d3⟩ := Den.tup_inv r
    exact ⟨a, vs, e3, d3, .inl ⟨rfl, fun _ _ w => SqT.way w s.cells h3⟩⟩
  · cases e
    cases r with
    | lst h3 n3 d3 => exact ⟨_, _, rfl, d3, .inr ⟨rfl, fun _ _ w => .of (w.keep _ _ h3 n3).1⟩⟩
  · cases e
    obtain ⟨a, vs, e3, h3, d3⟩ := r
    exact ⟨a, vs, e3, d3, .inr ⟨rfl, fun _ _ w => (SqF.way w s.cells h3).sq⟩⟩
  · rename_i xs
    cases q : datas xs with
    | none => rw [q]
          at e; cases e
    | some ds =>
      rw [q] at e; cases e
      obtain ⟨a, vs, e3, h3, n3, d3⟩ := r
      exact ⟨a, vs, e3, datas_rw d3 q, .inr ⟨rfl, fun _ _ w => .of (w.keep _ _ h3 n3).1⟩⟩
  · cases e
theorem SqD.less {K : PySem.W.Frag} {L L' : AP} {H H' : Hp} {v : V} {d : Bool × List D} (w : Way L H L' H') (c : Cells L H) (h : SqD K L H v d) : SqD K L' H' v d := by
  obtain ⟨a, vs, e, d1, h⟩ := h
  have tr : ∀ L2 H2, Way L' H' L2 H2 → Way L H L2 H2 := fun L2 H2 w2 => ⟨fun a o e n => let k := w.keep a o e n; w2.keep a o k.1 k.2⟩
  exact ⟨a, vs, e, DenAll.way w c d1, h.elim (fun h => .inl ⟨h.1, fun L2 H2 w2 => h.2 L2 H2 (tr _ _ w2)⟩) fun h => .inr ⟨h.1, fun L2 H2 w2 => h.2 L2 H2 (tr _ _ w2)⟩⟩
theorem enumW_get : ∀ (xs : List D) (k i : Nat), (enumW k xs)[i]? = xs[i]?.map fun x => W.d (.tuple [.int ((k + i : Nat) : Int), x])
  | [], _, _ => by simp [enumW]
  | x :: r, k, 0 => by simp [enumW]
  | x :: r, k, i + 1 => by
    simp only [enumW, List.getElem?_cons_succ]
    rw [enumW_get r (k + 1) i]
    congr 1; funext y; congr 4; omega
theorem enumW_len : ∀ (xs : List D) (k : Nat), (enumW k xs).length = xs.length
  | [], _ => rfl
  | _ :: r, k => by simp [enumW, enumW_len r]
theorem zipW_len : ∀ (xs ys : List D), (zipW xs ys).length = min xs.length ys.length
  | [], _ => by simp [zipW]
  | _ :: _, [] => by simp [zipW]
  | _ :: r, _ :: s => by simp [zipW, zipW_len r s]
theorem zipW_get : ∀ (xs ys : List D) (i : Nat) (x y : D), xs[i]? = some x → ys[i]? = some y → (zipW xs ys)[i]? = some (.d (.tuple [x, y]))
  | [], _, _, _, _, h,
        _ => by simp at h
  | _ :: _, [], _, _, _,
        _, h => by simp at h
  | _ :: r, _ :: s, 0, _, _, h, k => by simp at h k; simp [zipW, h, k]
  | _ :: r, _ :: s, i + 1, x, y, h, k => by
    simp only [zipW, List.getElem?_cons_succ] at h k ⊢
    exact zipW_get r s i x y h k
section
variable {K : PySem.W.Frag} {wk : Bool} {L : AP} {H : Hp} {φ : List Addr}
theorem ok_enum {a : Addr} {vs : List V} {xs : List D} (c : Cells L H) (h : ∀ L2 H2, Way L H L2 H2 → SqL K H2 a vs) (d : DenAll K L H vs xs) : ItOk K true L H φ (enumW 0 xs) (Ite K a) where
  go := fun L2 H2 w i hi => by
    have hl := d.length
    rw [enumW_len] at hi
    exact ⟨vs, vs[i]'(by omega), h L2 H2 w, by simp⟩
  stop := fun L2 H2 w i hi => ⟨vs, h L2 H2 w, by rw [d.length]; rw [enumW_len] at hi; exact hi⟩
  yld := fun L2 H2 w i v H3 y hi => by
    obtain ⟨T, x, ev, hT, e3, q⟩ := y
    subst ev; subst e3
    have q := q vs (h L2 H2 w)
    rw [enumW_len] at hi
    obtain ⟨u, hu, ru⟩ := d.get (List.getElem?_eq_getElem hi)
    rw [q] at hu; cases hu
    refine ⟨.d (.tuple [.int ((i : Nat) : Int), xs[i]]), by rw [enumW_get, List.getElem?_eq_getElem hi]; simp, .inr ⟨rfl, T, _, _, hT, rfl, rfl, rfl, .cons (.int _) (.cons (Den.way w c ru) .nil)⟩⟩
theorem ok_zip {a b : Addr} {vs us : List V} {xs ys : List D} (c : Cells L H) (h : ∀ L2 H2, Way L H L2 H2 → SqL K H2 a vs) (h2 : ∀ L2 H2, Way L H L2 H2 → SqL K H2 b us) (d : DenAll K L H vs xs) (d2 : DenAll K L H us ys) : ItOk K true L H φ (zipW xs ys) (Itz K a b) where
  go := fun L2 H2 w i hi => by
    have hl := d.length
    have hl2 := d2.length
    rw [zipW_len] at hi
    exact ⟨vs, us, vs[i]'(by omega), us[i]'(by omega), h L2 H2 w, h2 L2 H2 w, by simp, by simp⟩
  stop := fun L2 H2 w i hi => ⟨vs, us, h L2 H2 w, h2 L2 H2 w, by rw [d.length, d2.length]; rw [zipW_len] at hi; omega⟩
  yld := fun L2 H2 w i v H3 y hi => by
    obtain ⟨T, x, y, ev, hT, e3, q, q2⟩ := y
    subst ev; subst e3
    have q := q vs (h L2 H2 w)
    have q2 := q2 us (h2 L2 H2 w)
    rw [zipW_len] at hi
    obtain ⟨u, hu, ru⟩ := d.get (List.getElem?_eq_getElem (show i < xs.length by omega))
    obtain ⟨u2, hu2, ru2⟩ := d2.get (List.getElem?_eq_getElem (show i < ys.length by omega))
    rw [q] at hu; cases hu
    rw [q2] at hu2; cases hu2
    exact ⟨_, zipW_get _ _ _ _ _ (List.getElem?_eq_getElem _) (List.getElem?_eq_getElem _), .inr ⟨rfl, T, _, _, hT, rfl, rfl, rfl, .cons (Den.way w c ru) (.cons (Den.way w c ru2) .nil)⟩⟩
theorem ok_zipT {a b : Addr} {vs us : List V} {xs ys : List D} (c : Cells L H) (h : ∀ L2 H2, Way L H L2 H2 → SqT K H2 a vs) (h2 : ∀ L2 H2, Way L H L2 H2 → SqT K H2 b us) (d : DenAll K L H vs xs) (d2 : DenAll K L H us ys) : ItOk K true L H φ (zipW xs ys) (RZ.ItzT K a b) where
  go := fun L2 H2 w i hi => by
    have hl := d.length
    have hl2 := d2.length
    rw [zipW_len] at hi
    exact ⟨vs, us, vs[i]'(by omega), us[i]'(by omega), h L2 H2 w, h2 L2 H2 w, by simp, by simp⟩
  stop := fun L2 H2 w i hi => ⟨vs, us, h L2 H2 w, h2 L2 H2 w, by rw [d.length, d2.length]; rw [zipW_len] at hi; omega⟩
  yld := fun L2 H2 w i v H3 y hi => by
    obtain ⟨T, x, y, ev, hT, e3, q, q2⟩ := y
    subst ev; subst e3
    have q := q vs (h L2 H2 w)
    have q2 := q2 us (h2 L2 H2 w)
    rw [zipW_len] at hi
    obtain ⟨u, hu, ru⟩ := d.get (List.getElem?_eq_getElem (show i < xs.length by omega))
    obtain ⟨u2, hu2, ru2⟩ := d2.get (List.getElem?_eq_getElem (show i < ys.length by omega))
    rw [q] at hu; cases hu
    rw [q2] at hu2; cases hu2
    exact ⟨_, zipW_get _ _ _ _ _ (List.getElem?_eq_getElem _) (List.getElem?_eq_getElem _), .inr ⟨rfl, T, _, _, hT, rfl, rfl, rfl, .cons (Den.way w c ru) (.cons (Den.way w c ru2) .nil)⟩⟩
theorem rev_get (xs : List D) (i : Nat) (hi : i < xs.length) : (xs.reverse.map W.d)[i]? = some (.d (xs[xs.length - 1 - i]'(by omega))) := by
  rw [List.getElem?_map, List.getElem?_reverse hi, List.getElem?_eq_getElem (by omega)]; rfl
theorem ok_rev {a : Addr} {vs : List V} {xs : List D} (c : Cells L H) (h : ∀ L2 H2, Way L H L2 H2 → SqL K H2 a vs) (d : DenAll K L H vs xs) : ItOk K wk L H φ (xs.reverse.map W.d) (Itv K a vs.length) where
  go := fun L2 H2 w i hi => by
    have hl := d.length
    have hi : i < xs.length := by simpa using hi
    exact ⟨by omega, vs, vs[vs.length - 1 - i]'(by omega), h L2 H2 w, by simp⟩
  stop := fun L2 H2 w i hi => by
    show vs.length ≤ i
    rw [d.length]; simpa using hi
  yld := fun L2 H2 w i v H3 y hi => by
    have q := y.2 vs (h L2 H2 w)
    have e := y.1
    subst e
    have hi : i < xs.length := by simpa using hi
    rw [d.length] at q
    obtain ⟨u, hu, ru⟩ := d.get (List.getElem?_eq_getElem (show xs.length - 1 - i < xs.length by omega))
    rw [q] at hu; cases hu
    exact ⟨_, rev_get xs i hi, .inl ⟨rfl, Den.way w c ru⟩⟩
theorem ok_revT {a : Addr} {vs : List V} {xs : List D} (c : Cells L H) (h : ∀ L2 H2, Way L H L2 H2 → SqT K H2 a vs) (d : DenAll K L H vs xs) : ItOk K wk L H φ (xs.reverse.map W.d) (RT.ItvT K a vs.length) where
  go := fun L2 H2 w i hi => by
    have hl := d.length
    have hi : i < xs.length := by simpa using hi
    exact ⟨by omega, vs, vs[vs.length - 1 - i]'(by omega), h L2 H2 w, by simp⟩
  stop := fun L2 H2 w i hi => by
    show vs.length ≤ i
    rw [d.length]; simpa using hi
  yld := fun L2 H2 w i v H3 y hi => by
    have q := y.2 vs (h L2 H2 w)
    have e := y.1
    subst e
    have hi : i < xs.length := by simpa using hi
    rw [d.length] at q
    obtain ⟨u, hu, ru⟩ := d.get (List.getElem?_eq_getElem (show xs.length - 1 - i < xs.length by omega))
    rw [q] at hu; cases hu
    exact ⟨_, rev_get xs i hi, .inl ⟨rfl, Den.way w c ru⟩⟩
end
section
variable {X : Cx} {tg : Expr} {P : Par} {C : CE}
theorem int?_inv {v : Val} {i : Int} (h : int? v = some i) : v = vInt i := by
  unfold int? at h; split at h
  · cases h; rfl
  · cases h
theorem rngOk_iff {i : Int} (h : rngOk i = true) : -(2 ^ 62) ≤ i ∧ i < 2 ^ 62 := by simpa [rngOk] using h
theorem src_rng1 {a : Expr} {es : List E} {p pos : Pos} (hg : Gl X "range") (hm : X.mg "range" = none) (ha : PA X [a] (tEs X.K P C es)) (hs : starEach [a] X.env = [(false, eval a X.env)]) :
    PI X tg (.Call (.Name "range" p) [a] [] pos) (tSrc X.K P C (.rng1 es)) := pi_weak (pi_range1 hg hm ha hs) fun σ H R ⟨F, φ, st, δ, s, d, h⟩ => by
  refine ⟨F, φ, st, δ, s, d, (Post.bind (by simpa only [evSrc] using h)).imp fun vs φ1 st1 H1 t1 h1 us ru => ?_⟩
  obtain ⟨it, e1, h2⟩ := h1.lift
  have hR := h2 φ1 H1 (Step.refl t1.sc)
  cases q : rng1V vs with
  | none => rw [q] at e1; cases e1
  | some xs =>
    rw [q] at e1; cases e1
    unfold rng1V at q
    split at q
    · rename_i v
      cases qi : int? v with
      | none => rw [qi] at q; cases q
      | some j =>
        rw [qi] at q
        dsimp only [Option.bind_some] at q
        split at q
        · rename_i hj
          cases q
          obtain ⟨x, rfl, rx⟩ := RVs.one ru
          obtain ⟨j1, j2⟩ := rngOk_iff hj
          exact ⟨j, by rw [RV.int rx qi], j1, j2, hR _ (ok_rng _ _ _ (by simp only [rngW, Int.sub_zero]))⟩
        · cases q
    · cases q
theorem src_rng2 {a b : Expr} {es : List E} {p pos : Pos} (hg : Gl X "range") (hm : X.mg "range" = none) (ha : PA X [a, b] (tEs X.K P C es)) (hs : starEach [a, b] X.env = [(false, eval a X.env), (false, eval b X.env)]) (hs2 : starEach [b] X.env = [(false, eval b X.env)]) :
    PI X tg (.Call (.Name "range" p) [a, b] [] pos) (tSrc X.K P C (.rng2 es)) := pi_weak (pi_range2 hg hm ha hs hs2) fun σ H R ⟨F, φ, st, δ, s, d, h⟩ => by
  refine ⟨F, φ, st, δ, s, d, (Post.bind (by simpa only [evSrc] using h)).imp fun vs φ1 st1 H1 t1 h1 us ru => ?_⟩
  obtain ⟨it, e1, h2⟩ := h1.lift
  have hR := h2 φ1 H1 (Step.refl t1.sc)
  cases q : rng2V vs with
  | none => rw [q] at e1; cases e1
  | some xs =>
    rw [q] at e1; cases e1
    unfold rng2V at q
    split at q
    · rename_i v u
      cases qi : int? v with
      | none => rw [qi] at q; cases q
      | some i =>
        rw [qi] at q
        dsimp only [Option.bind_some] at q
        cases qj : int? u with
        | none => rw [qj] at q; cases q
        | some j =>
          rw [qj] at q
          dsimp only [Option.bind_some] at q
          split at q
          · rename_i hj
            cases q
            obtain ⟨x, y, rfl, rx, ry⟩ := RVs.two ru
            rw [Bool.and_eq_true] at hj
            obtain ⟨i1, i2⟩ := rngOk_iff hj.1
            obtain ⟨j1, j2⟩ := rngOk_iff hj.2
            exact ⟨i, j, by rw [RV.int rx qi, RV.int ry qj], ⟨i1, i2, j1, j2⟩, hR _ (ok_rng _ _ _ rfl)⟩
          · cases q
    · cases q
theorem src_enm {a : Expr} {es : List E} {p pos tpos : Pos} {elts : List Expr} {kk : Nat} (hg : Gl X "enumerate") (hm : X.mg "enumerate" = none) (ha : PA X [a] (tEs X.K P C es)) (hs : starEach [a] X.env = [(false, eval a X.env)]) :
    PI X (.Tuple elts kk tpos) (.Call (.Name "enumerate" p) [a] [] pos) (tSrc X.K P C (.enm es)) := pi_weak (pi_enum hg hm ha hs) fun σ H R ⟨F, φ, st, δ, s, d, h⟩ => by
  refine ⟨F, φ, st, δ, s, d, (Post.bind (by simpa only [evSrc] using h)).imp fun vs φ1 st1 H1 t1 h1 us ru => ?_⟩
  obtain ⟨it, e1, h2⟩ := h1.lift
  have hR := h2 φ1 H1 (Step.refl t1.sc)
  cases q : enmV vs with
  | none => rw [q] at e1; cases e1
  | some xs =>
    rw [q] at e1; cases e1
    unfold enmV at q
    split at q
    · rename_i v
      cases qi : seqOf v with
      | none => rw [qi] at q; cases q
      | some j =>
        rw [qi] at q
        dsimp only [Option.bind_some] at q
        split at q
        · cases q
          obtain ⟨x, rfl, rx⟩ := RVs.one ru
          obtain ⟨a, ws, e3, d3, z | z⟩ := RV.seq t1.sc rx qi
          · cases z.1
          · exact ⟨a, ws, by rw [e3], z.2 _ _ ⟨fun _ _ e n => ⟨e, n⟩⟩, hR _ (ok_enum t1.sc.cells z.2 d3)⟩
        · cases q
    · cases q
theorem src_zp {a b : Expr} {es : List E} {p pos tpos : Pos} {elts : List Expr} {kk : Nat} (hg : Gl X "zip") (hm : X.mg "zip" = none) (ha : PA X [a, b] (tEs X.K P C es)) (hs : starEach [a, b] X.env = (false, eval a X.env) :: starEach [b] X.env) (hs2 : (backTo pos (starEach [b] X.env)).any (·.1) = false) :
    PI X (.Tuple elts kk tpos) (.Call (.Name "zip" p) [a, b] [] pos) (tSrc X.K P C (.zp es)) := pi_weak (RZ.pi_zipA hg hm ha hs hs2) fun σ H R ⟨F, φ, st, δ, s, d, h⟩ => by
  refine ⟨F, φ, st, δ, s, d, (Post.bind (by simpa only [evSrc] using h)).imp fun vs φ1 st1 H1 t1 h1 us ru => ?_⟩
  obtain ⟨it, e1, h2⟩ := h1.lift
  have hR := h2 φ1 H1 (Step.refl t1.sc)
  cases q : zpV vs with
  | none => rw [q] at e1; cases e1
  | some xs =>
    rw [q] at e1; cases e1
    unfold zpV at q
    split at q
    · rename_i v u
      cases qi : seqOf v with
      | none => rw [qi] at q; cases q
      | some i =>
        rw [qi] at q
        dsimp only [Option.bind_some] at q
        cases qj : seqOf u with
        | none => rw [qj] at q; cases q
        | some j =>
          rw [qj] at q
          dsimp only [Option.bind_some] at q
          split at q
          · rename_i hj
            cases q
            obtain ⟨x, y, rfl, rx, ry⟩ := RVs.two ru
            obtain ⟨a, ws, e3, d3, z⟩ := RV.seq t1.sc rx qi
            obtain ⟨b, us, e4, d4, z2⟩ := RV.seq t1.sc ry qj
            refine ⟨a, b, ws, us, by rw [e3, e4], ?_⟩
            rcases z with z | z <;> rcases z2 with z2 | z2
            · exact .inr ⟨z.2 _ _ ⟨fun _ _ e n => ⟨e, n⟩⟩, z2.2 _ _ ⟨fun _ _ e n => ⟨e, n⟩⟩, hR _ (ok_zipT t1.sc.cells z.2 z2.2 d3 d4)⟩
            · rw [z.1, z2.1] at hj; cases hj
            · rw [z.1, z2.1] at hj; cases hj
            · exact .inl ⟨z.2 _ _ ⟨fun _ _ e n => ⟨e, n⟩⟩, z2.2 _ _ ⟨fun _ _ e n => ⟨e, n⟩⟩, hR _ (ok_zip t1.sc.cells z.2 z2.2 d3 d4)⟩
          · cases q
    · cases q
theorem src_rv {a : Expr} {e : E} {p pos : Pos} (hg : Gl X "reversed") (hm : X.mg "reversed" = none) (ha : PE X a (tE X.K P C e)) (hs : starEach [a] X.env = (false, eval a X.env) :: starEach [] X.env) :
    PI X tg (.Call (.Name "reversed" p) [a] [] pos) (tSrc X.K P C (.rv e)) := pi_weak (RT.pi_revA hg hm ha hs) fun σ H R ⟨F, φ, st, δ, s, d, h⟩ => by
  refine ⟨F, φ, st, δ, s, d, (Post.bind (by simpa only [evSrc] using h)).imp fun v φ1 st1 H1 t1 h1 u ru => ?_⟩
  obtain ⟨it, e1, h2⟩ := h1.lift
  have hR := h2 φ1 H1 (Step.refl t1.sc)
  cases qi : seqOf v with
  | none => rw [qi] at e1; cases e1
  | some i =>
    rw [qi] at e1; cases e1
    obtain ⟨a, ws, e3, d3, z⟩ := RV.seq t1.sc (ru.rv t1.sc fun a f => s.fo a f) qi
    refine ⟨a, ws, e3, ?_⟩
    rcases z with z | z
    · exact .inr ⟨z.2 _ _ ⟨fun _ _ e n => ⟨e, n⟩⟩, hR _ (ok_revT t1.sc.cells z.2 d3)⟩
    · exact .inl ⟨z.2 _ _ ⟨fun _ _ e n => ⟨e, n⟩⟩, hR _ (ok_rev t1.sc.cells z.2 d3)⟩
end
end MP
set_option maxHeartbeats 1000001
/-! Ev8: expressions, one by one. -/
namespace MP
open PySem PySem.Spec L2
theorem RU.scal {K : PySem.W.Frag} {F : AP} {φ : List Addr} {st : Sto} {H H0 : Hp} {v : V} {b : Bool} (r : RU K F H0 φ st H v (vBool b)) : v = .bl b := Den.bl_inv r
theorem bool?_inv {v : Val} {b : Bool} (h : bool? v = some b) : v = vBool b := by
  unfold bool? at h; split at h
  · cases h; rfl
  · cases h
section
variable {X : Cx} {P : Par} {C : CE}
theorem xe_var {i : Nat} {x : Expr} (h : PE X x (tVar i)) : PE X x (tE X.K P C (.var i)) := pe_weak h fun σ H Q ⟨F, φ, st, δ, s, d, h⟩ => by
  simp only [evE] at h
  split at h
  · rename_i w hw
    obtain ⟨v, e, r⟩ := d.slot _ _ hw
    exact ⟨v, e, h φ H (Step.refl s) v r⟩
  · exact h.elim
theorem xe_cst {x : Expr} {v : V} {a : D} (h : PE X x (tC v)) (r : ∀ L H, Den X.K L H v a) : PE X x (tE X.K P C (.cst a)) := pe_weak h fun σ H Q ⟨F, φ, st, δ, s, d, h⟩ => by
  simp only [evE] at h
  exact h φ H (Step.refl s) v (r _ _)
theorem xe_bin {op : Operator} {a b : Expr} {e f : E} {pos : Pos} (ho : OpR X (binaryOp op) (rTwo X.K (binV op))) (ha : PE X a (tE X.K P C e)) (hb : PE X b (tE X.K P C f)) : PE X (.BinOp a op b pos) (tE X.K P C (.bin op e f)) :=
  pe_weak (pe_op ho ha hb) fun σ H Q ⟨F, φ, st, δ, s, d, h⟩ => by
    simp only [evE] at h
    refine ⟨F, φ, st, δ, s, d, (Post.bind h).imp fun v φ1 st1 H1 t1 h1 u ru => ⟨F, φ1, st1, δ, t1.sc, d.step s t1, (Post.bind h1).imp fun w φ2 st2 H2 t2 h2 u2 ru2 => ?_⟩⟩
    obtain ⟨r, e, q⟩ := h2.lift
    exact ⟨F, φ2, st2, v, w, r, t2.sc, Step.rv t1.sc t2 (ru.rv t1.sc fun a f => s.fo a f), ru2.rv t2.sc (fun a f => t1.sc.fo a f), e, fun φ' H' u t3 r3 => q φ' H' t3 u (RU.weak (fun a n => t2.al a (t1.al a n)) r3)⟩
theorem xe_ix {a b : Expr} {e f : E} {pos : Pos} (hu : X.A.units + 1 < cLine) (ha : PE X a (tE X.K P C e)) (hb : PE X b (tE X.K P C f)) (hs : PlainIx b) : PE X (.Subscript a b pos) (tE X.K P C (.ix e f)) :=
  pe_weak (pe_ix (ixr_any hu) ha hb hs) fun σ H Q ⟨F, φ, st, δ, s, d, h⟩ => by
    simp only [evE] at h
    refine ⟨F, φ, st, δ, s, d, (Post.bind h).imp fun v φ1 st1 H1 t1 h1 u ru => ⟨F, φ1, st1, δ, t1.sc, d.step s t1, (Post.bind h1).imp fun w φ2 st2 H2 t2 h2 u2 ru2 => ?_⟩⟩
    obtain ⟨r, e, q⟩ := h2.lift
    exact ⟨F, φ2, st2, v, w, r, t2.sc, Step.rv t1.sc t2 (ru.rv t1.sc fun a f => s.fo a f), ru2.rv t2.sc (fun a f => t1.sc.fo a f), e, fun φ' H' u t3 r3 => q φ' H' t3 u (RU.weak (fun a n => t2.al a (t1.al a n)) r3)⟩
theorem xe_cmp {op : CmpOp} {a b : Expr} {e f : E} {pos : Pos} (ho : OpR X (compareOp op) (rTwoB X.K (cmpV op))) (ha : PE X a (tE X.K P C e)) (hb : PE X b (tE X.K P C f)) (hm : behindInMarks op b = false) : PE X (.Compare a [op] [b] pos) (tE X.K P C (.cmp op e f)) :=
  pe_weak (pe_cmpR ho ha hb hm) fun σ H Q ⟨F, φ, st, δ, s, d, h⟩ => by
    simp only [evE, cmpB] at h
    refine ⟨F, φ, st, δ, s, d, (Post.bind h).imp fun v φ1 st1 H1 t1 h1 u ru => ⟨F, φ1, st1, δ, t1.sc, d.step s t1, (Post.bind h1).imp fun w φ2 st2 H2 t2 h2 u2 ru2 => ?_⟩⟩
    obtain ⟨r, e, q⟩ := (Post.bind h2).lift
    exact ⟨F, φ2, st2, v, w, r, t2.sc, Step.rv t1.sc t2 (ru.rv t1.sc fun a f => s.fo a f), ru2.rv t2.sc (fun a f => t1.sc.fo a f), e, q φ2 H2 (Step.refl t2.sc) φ2 H2 (Step.refl t2.sc) _ (RU.bl r)⟩
theorem xt_cmp {op : CmpOp} {a b : Expr} {e f : E} {pos : Pos} (ho : OpR X (compareOp op) (rTwoB X.K (cmpV op))) (ha : PE X a (tE X.K P C e)) (hb : PE X b (tE X.K P C f)) (hm : behindInMarks op b = false) : PT X (.Compare a [op] [b] pos) (tT X.K P C (.cmp op e f)) :=
  pt_weak (pt_cmpR ho ha hb hm) fun σ H Q ⟨F, φ, st, δ, s, d, h⟩ => by
    simp only [evE, cmpB] at h
    refine ⟨F, φ, st, δ, s, d, (Post.bind h).imp fun v φ1 st1 H1 t1 h1 u ru => ⟨F, φ1, st1, δ, t1.sc, d.step s t1, (Post.bind h1).imp fun w φ2 st2 H2 t2 h2 u2 ru2 => ?_⟩⟩
    obtain ⟨r, e, q⟩ := (Post.bind h2).lift
    refine ⟨F, φ2, st2, v, w, r, t2.sc, Step.rv t1.sc t2 (ru.rv t1.sc fun a f => s.fo a f), ru2.rv t2.sc (fun a f => t1.sc.fo a f), e, r, rfl, ?_⟩
    obtain ⟨b, e2, q⟩ := q φ2 H2 (Step.refl t2.sc) φ2 H2 (Step.refl t2.sc)
    cases e2
    exact q
theorem xe_cmp2 {o1 o2 : CmpOp} {a b c : Expr} {e f g : E} {pos : Pos} (h1 : OpR X (compareOp o1) (rTwoB X.K (cmpV o1))) (h2 : OpR X (compareOp o2) (rTwoB X.K (cmpV o2))) (ha : PE X a (tE X.K P C e)) (hb : PE X b (tE X.K P C f)) (hc : PE X c (tE X.K P C g))
    (hm : lastMarks [o1, o2] [b, c] = false) : PE X (.Compare a [o1, o2] [b, c] pos) (tE X.K P C (.cmp2 o1 o2 e f g)) :=
  pe_weak (pe_chain h1 h2 ha hb hc hm) fun σ H Q ⟨F, φ, st, δ, s, d, h⟩ => by
    simp only [evE, cmpB] at h
    refine ⟨F, φ, st, δ, s, d, (Post.bind h).imp fun v φ1 st1 H1 t1 h1 u ru => ⟨F, φ1, st1, δ, t1.sc, d.step s t1, (Post.bind h1).imp fun w φ2 st2 H2 t2 h2 u2 ru2 => ?_⟩⟩
    obtain ⟨r, e, q⟩ := (Post.bind h2).lift
    have ra := Step.rv t1.sc t2 (ru.rv t1.sc fun a f => s.fo a f)
    have rb := ru2.rv t2.sc (fun a f => t1.sc.fo a f)
    refine ⟨F, φ2, st2, v, w, r, t2.sc, ra, rb, e, r, rfl, ?_⟩
    have q := q φ2 H2 (Step.refl t2.sc)
    cases r with
    | true =>
      simp only [if_true]
      refine ⟨F, φ2, st2, δ, t2.sc, (d.step s t1).step t1.sc t2, (Post.bind q).imp fun z φ3 st3 H3 t3 h3 u3 ru3 => ?_⟩
      obtain ⟨r', e', q'⟩ := (Post.bind h3).lift
      exact ⟨F, φ3, st3, w, z, r', t3.sc, Step.rv t2.sc t3 rb, ru3.rv t3.sc (fun a f => t2.sc.fo a f), e', q' φ3 H3 (Step.refl t3.sc) φ3 H3 (Step.refl t3.sc) _ (RU.bl r')⟩
    | false => exact q φ2 H2 (Step.refl t2.sc) _ (RU.bl false)
theorem xe_neg {a : Expr} {e : E} {pos : Pos} (ha : PE X a (tE X.K P C e)) : PE X (.UnaryOp .USub a pos) (tE X.K P C (.neg e)) :=
  pe_weak (pe_un un_negV ha) fun σ H Q ⟨F, φ, st, δ, s, d, h⟩ => by
    simp only [evE] at h
    refine ⟨F, φ, st, δ, s, d, (Post.bind h).imp fun v φ1 st1 H1 t1 h1 u ru => ?_⟩
    obtain ⟨r, e, q⟩ := h1.lift
    exact ⟨F, φ1, st1, v, r, t1.sc, ru.rv t1.sc (fun a f => s.fo a f), e, fun u r3 => q φ1 H1 (Step.refl t1.sc) u (RU.weak (fun a n => t1.al a n) r3)⟩
theorem xe_nt {a : Expr} {e : E} {pos : Pos} (ha : PE X a (tE X.K P C e)) : PE X (.UnaryOp .Not a pos) (tE X.K P C (.nt e)) :=
  pe_weak (pe_not ha) fun σ H Q ⟨F, φ, st, δ, s, d, h⟩ => by
    simp only [evE] at h
    refine ⟨F, φ, st, δ, s, d, (Post.bind h).imp fun v φ1 st1 H1 t1 h1 u ru => ?_⟩
    obtain ⟨r, e, q⟩ := h1.lift
    cases qb : bool? v with
    | none => rw [qb] at e; cases e
    | some b =>
      rw [qb] at e; cases e
      exact ⟨b, RV.bool (ru.rv t1.sc (fun a f => s.fo a f)) qb, q φ1 H1 (Step.refl t1.sc) _ (RU.bl _)⟩
theorem xe_an {a b : Expr} {rest : List Expr} {e f : E} {pos : Pos} (ha : PE X a (tE X.K P C e)) (hb : PE X (.BoolOp .And (b :: rest) pos) (tE X.K P C f)) : PE X (.BoolOp .And (a :: b :: rest) pos) (tE X.K P C (.an e f)) :=
  pe_weak (pe_and ha hb) fun σ H Q ⟨F, φ, st, δ, s, d, h⟩ => by
    simp only [evE] at h
    refine ⟨F, φ, st, δ, s, d, (Post.bind h).imp fun v φ1 st1 H1 t1 h1 u ru => ?_⟩
    cases qb : bool? v with
    | none => rw [qb] at h1; exact h1.elim
    | some b =>
      rw [qb] at h1
      refine ⟨b, RV.bool (ru.rv t1.sc (fun a f => s.fo a f)) qb, ?_⟩
      cases b with
      | true => simp only [if_true]; exact ⟨F, φ1, st1, δ, t1.sc, d.step s t1, h1.imp fun w φ2 st2 H2 t2 h2 u2 ru2 => h2 u2 (RU.weak t1.al ru2)⟩
      | false => exact h1 φ1 H1 (Step.refl t1.sc) _ (RU.bl _)
theorem xe_or {a b : Expr} {rest : List Expr} {e f : E} {pos : Pos} (ha : PE X a (tE X.K P C e)) (hb : PE X (.BoolOp .Or (b :: rest) pos) (tE X.K P C f)) : PE X (.BoolOp .Or (a :: b :: rest) pos) (tE X.K P C (.orr e f)) :=
  pe_weak (pe_or ha hb) fun σ H Q ⟨F, φ, st, δ, s, d, h⟩ => by
    simp only [evE] at h
    refine ⟨F, φ, st, δ, s, d, (Post.bind h).imp fun v φ1 st1 H1 t1 h1 u ru => ?_⟩
    cases qb : bool? v with
    | none => rw [qb] at h1; exact h1.elim
    | some b =>
      rw [qb] at h1
      refine ⟨b, RV.bool (ru.rv t1.sc (fun a f => s.fo a f)) qb, ?_⟩
      cases b with
      | false => simp only [Bool.false_eq_true, if_false]; exact ⟨F, φ1, st1, δ, t1.sc, d.step s t1, h1.imp fun w φ2 st2 H2 t2 h2 u2 ru2 => h2 u2 (RU.weak t1.al ru2)⟩
      | true => exact h1 φ1 H1 (Step.refl t1.sc) _ (RU.bl _)
/-- a test -/
theorem xt_val {a : Expr} {e : E} (ha : PE X a (tE X.K P C e)) (he : ∀ whole, isTrue a X.env whole = (do let v ← whole; standAt a.pos; holding [v] (truthy v))) : PT X a (tT X.K P C e) :=
  pt_weak (pt_val ha he) fun σ H Q ⟨F, φ, st, δ, s, d, h⟩ => by
    refine ⟨F, φ, st, δ, s, d, h.imp fun v φ1 st1 H1 t1 h1 u ru => ?_⟩
    obtain ⟨b, e, q⟩ := h1
    exact ⟨b, RV.bool (ru.rv t1.sc (fun a f => s.fo a f)) e, q⟩
theorem xt_not {a : Expr} {e : E} {pos : Pos} (ha : PT X a (tT X.K P C e)) : PT X (.UnaryOp .Not a pos) (tT X.K P C (.nt e)) :=
  pt_weak (pt_not ha) fun σ H Q ⟨F, φ, st, δ, s, d, h⟩ => by
    simp only [evE] at h
    refine ⟨F, φ, st, δ, s, d, (Post.bind h).imp fun v φ1 st1 H1 t1 h1 => ?_⟩
    obtain ⟨r, e, q⟩ := h1.lift
    cases qb : bool? v with
    | none => rw [qb] at e; cases e
    | some b =>
      rw [qb] at e; cases e
      obtain ⟨b', e', q'⟩ := q φ1 H1 (Step.refl t1.sc)
      cases e'
      exact ⟨b, rfl, q'⟩
theorem pw_weak {a : Expr} {t t' : TT} (h : PW X a t) (k : ∀ σ H Q, t' σ H Q → t σ H Q) : PW X a t' := ⟨fun wh pins s σ H Q I q => h.run wh pins s σ H Q I (k σ H Q q)⟩
theorem xt_an {a b : Expr} {rest : List Expr} {e f : E} {pos : Pos} (ha : PT X a (tT X.K P C e)) (hb : PW X (.BoolOp .And (b :: rest) pos) (tT X.K P C f)) : PW X (.BoolOp .And (a :: b :: rest) pos) (tT X.K P C (.an e f)) :=
  pw_weak (pw_and ha hb) fun σ H Q ⟨F, φ, st, δ, s, d, h⟩ => by
    simp only [evE] at h
    refine ⟨F, φ, st, δ, s, d, (Post.bind h).imp fun v φ1 st1 H1 t1 h1 => ?_⟩
    cases qb : bool? v with
    | none => rw [qb] at h1; exact h1.elim
    | some b =>
      rw [qb] at h1
      refine ⟨b, rfl, ?_⟩
      cases b with
      | true => simp only [if_true]; exact ⟨F, φ1, st1, δ, t1.sc, d.step s t1, h1⟩
      | false =>
        obtain ⟨b', e', q'⟩ := h1 φ1 H1 (Step.refl t1.sc)
        cases e'
        exact q'
theorem xt_or {a b : Expr} {rest : List Expr} {e f : E} {pos : Pos} (ha : PT X a (tT X.K P C e)) (hb : PW X (.BoolOp .Or (b :: rest) pos) (tT X.K P C f)) : PW X (.BoolOp .Or (a :: b :: rest) pos) (tT X.K P C (.orr e f)) :=
  pw_weak (pw_or ha hb) fun σ H Q ⟨F, φ, st, δ, s, d, h⟩ => by
    simp only [evE] at h
    refine ⟨F, φ, st, δ, s, d, (Post.bind h).imp fun v φ1 st1 H1 t1 h1 => ?_⟩
    cases qb : bool? v with
    | none => rw [qb] at h1; exact h1.elim
    | some b =>
      rw [qb] at h1
      refine ⟨b, rfl, ?_⟩
      cases b with
      | false => simp only [Bool.false_eq_true, if_false]; exact ⟨F, φ1, st1, δ, t1.sc, d.step s t1, h1⟩
      | true =>
        obtain ⟨b', e', q'⟩ := h1 φ1 H1 (Step.refl t1.sc)
        cases e'
        exact q'
theorem xe_ife {c a b : Expr} {g e f : E} {pos : Pos} (hc : PT X c (tT X.K P C g)) (ha : PE X a (tE X.K P C e)) (hb : PE X b (tE X.K P C f)) : PE X (.IfExp c a b pos) (tE X.K P C (.ife g e f)) :=
  pe_weak (pe_ifExp hc ha hb) fun σ H Q ⟨F, φ, st, δ, s, d, h⟩ => by
    simp only [evE] at h
    refine ⟨F, φ, st, δ, s, d, (Post.bind h).imp fun v φ1 st1 H1 t1 h1 => ?_⟩
    cases qb : bool? v with
    | none => rw [qb] at h1; exact h1.elim
    | some b =>
      rw [qb] at h1
      refine ⟨b, rfl, ?_⟩
      cases b with
      | true => simp only [if_true]; exact ⟨F, φ1, st1, δ, t1.sc, d.step s t1, h1.imp fun w φ2 st2 H2 t2 h2 u2 ru2 => h2 u2 (RU.weak t1.al ru2)⟩
      | false => simp only [Bool.false_eq_true, if_false]; exact ⟨F, φ1, st1, δ, t1.sc, d.step s t1, h1.imp fun w φ2 st2 H2 t2 h2 u2 ru2 => h2 u2 (RU.weak t1.al ru2)⟩
/-! ### rows of arguments -/
theorem xa_nil : PA X [] (tEs X.K P C []) := pa_weak pa_nil fun σ H Q ⟨F, φ, st, δ, s, d, h⟩ => by
  simp only [evEs] at h
  exact h φ H (Step.refl s) [] .nil
theorem RVs.step {K : PySem.W.Frag} {F : AP} {φ φ1 : List Addr} {st st1 : Sto} {H H1 : Hp} {us : List V} {vs : List Val} (s : SC K F φ st H) (t : Step K F φ st H φ1 st1 H1) (r : RVs K F φ st H us vs) : RVs K F φ1 st1 H1 us vs := paired_imp (fun _ _ q => Step.rv s t q) r
theorem xa_cons {a : Expr} {as : List Expr} {e : E} {es : List E} (ha : PE X a (tE X.K P C e)) (hr : PA X as (tEs X.K P C es)) (hs : starEach (a :: as) X.env = (false, eval a X.env) :: starEach as X.env) : PA X (a :: as) (tEs X.K P C (e :: es)) :=
  pa_weak (pa_cons ha hr hs) fun σ H Q ⟨F, φ, st, δ, s, d, h⟩ => by
    simp only [evEs] at h
    refine ⟨F, φ, st, δ, s, d, (Post.bind h).imp fun v φ1 st1 H1 t1 h1 u ru => ⟨F, φ1, st1, δ, t1.sc, d.step s t1, (Post.bind h1).imp fun vs φ2 st2 H2 t2 h2 us rus => ?_⟩⟩
    exact h2 φ2 H2 (Step.refl t2.sc) (u :: us) (.cons (Step.rv t1.sc t2 (ru.rv t1.sc fun a f => s.fo a f)) rus)
/-! ### tuples, lists -/
theorem kv_den {K : PySem.W.Frag} {L : AP} {H : Hp} {φ : List Addr} : ∀ {ks : List (Key × V)} {kvs : List (D × W)} {ds : List D}, Paired (RKv K L H φ) ks kvs → datas (kvs.map (·.2)) = some ds → DenKv K L H ks ((kvs.map (·.1)).zip ds)
  | _, _, _, .nil, e => by simp [datas] at e; subst e; exact .nil
  | _, _, _, .cons (a := p) (b := b) a r, e => by
    obtain ⟨e1, r1⟩ := a
    obtain ⟨k, w⟩ := b
    obtain ⟨k', u⟩ := p
    dsimp only at e1 r1
    cases w with
    | d x =>
      simp only [datas, List.map_cons] at e
      cases q : datas _ with
      | none => rw [q]
            at e; cases e
      | some ds' =>
        rw [q] at e; cases e
        subst e1
        exact .cons r1 (kv_den r q)
    | fz _ => cases e
    | ref _ => cases e
theorem wOf_den {K : PySem.W.Frag} {F : AP} {φ : List Addr} {st : Sto} {H : Hp} {v : V} {x : Val} {w : W} (s : SC K F φ st H) (r : RV K F φ st H v x) (e : wOf x = some w) : RW K (Or2 F (Live φ st)) H φ v w := by
  unfold wOf at e
  split at e
  · cases e; exact r
  · rename_i xs
    cases q : datas xs with
    | none => rw [q]
          at e; cases e
    | some ds =>
      rw [q] at e; cases e
      obtain ⟨a, vs, e3, h3, n3, d3⟩ := r
      subst e3
      exact Den.lst h3 n3 (datas_rw d3 q)
  · rename_i kvs
    cases q : datas (kvs.map (·.2)) with
    | none => rw [q]
          at e; cases e
    | some ds =>
      rw [q] at e; cases e
      obtain ⟨a, ks, e3, h3, n3, d3⟩ := r
      subst e3
      exact Den.dct h3 n3 (kv_den d3 q)
theorem wsOf_den {K : PySem.W.Frag} {F : AP} {φ : List Addr} {st : Sto} {H : Hp} (s : SC K F φ st H) : ∀ {us : List V} {vs : List Val} {ws : List W}, RVs K F φ st H us vs → wsOf vs = some ws → RWs K (Or2 F (Live φ st)) H φ us ws
  | _, _, _, .nil, e => by simp [wsOf] at e; subst e; exact .nil
  | _, _, _, .cons (b := b) a r, e => by
    simp only [wsOf] at e
    cases q : wOf b with
    | none => rw [q]
          at e; cases e
    | some w =>
      rw [q] at e
      dsimp only [Option.bind_some] at e
      cases q2 : wsOf _ with
      | none => rw [q2] at e; cases e
      | some ws' => rw [q2] at e; cases e; exact .cons (wOf_den s a q) (wsOf_den s r q2)
theorem Step.own {K : PySem.W.Frag} {F : AP} {φ : List Addr} {st : Sto} {H : Hp} {p : Addr} {o : HO} {c : Cell} (s : SC K F φ st H) (hp : H p = none) (ho : Mut (some o)) (r : RC K (Or2 (Or2 F (One p)) (Live φ st)) (upd H p o) φ p c) :
    Step K F φ st H (φ ++ [p]) (st ++ [c]) (upd H p o) ∧ ∀ (L : AP) (H' : Hp), RW K L H' (φ ++ [p]) (.ref p) (.ref st.length) := by
  have hn : p ∉ φ := fun h => s.al p h hp
  refine ⟨⟨⟨[p], rfl, fun a h => by rw [List.mem_singleton.mp h]; exact hp⟩, fun a u e n => ?_, fun a h => ?_, (s.new hp ho).own hn (fun f => s.fo p f hp) r⟩, fun L H' => ⟨p, by rw [← s.len]; simp, rfl⟩⟩
  · have ne : a ≠ p := fun z => by rw [z, hp] at e; cases e
    exact ⟨by rw [upd_ne ne]; exact e, fun l => (l.snoc s.len).elim n ne⟩
  · by_cases z : a = p
    · rw [z, upd_same]; simp
    · rw [upd_ne z]; exact h
/-- what an expression made becomes a cell -/
theorem Step.take {K : PySem.W.Frag} {F : AP} {φ φ1 : List Addr} {st st1 : Sto} {H H1 : Hp} {p : Addr} {c : Cell} (s : SC K F φ st H) (t : Step K F φ st H φ1 st1 H1) (h0 : H p = none) (hp : p ∉ φ1) (s1 : SC K (Or2 F (One p)) φ1 st1 H1) (r : RC K (Or2 (Or2 F (One p)) (Live φ1 st1)) H1 φ1 p c) :
    Step K F φ st H (φ1 ++ [p]) (st1 ++ [c]) H1 ∧ ∀ (L : AP) (H' : Hp), RW K L H' (φ1 ++ [p]) (.ref p) (.ref st1.length) := by
  obtain ⟨ψ, e, n⟩ := t.ext
  refine ⟨⟨⟨ψ ++ [p], by rw [e, List.append_assoc], fun a h => (List.mem_append.mp h).elim (n a) fun h => by rw [List.mem_singleton.mp h]; exact h0⟩, fun a u e n => ?_, t.al, s1.own hp (fun f => s.fo p f h0) r⟩, fun L H' => ⟨p, by rw [← t.sc.len]; simp, rfl⟩⟩
  obtain ⟨k1, k2⟩ := t.keep a u e n
  exact ⟨k1, fun l => (l.snoc t.sc.len).elim k2 fun z => by rw [z, h0] at e; cases e⟩
theorem xe_tup {as : List Expr} {es : List E} {k : Nat} {pos : Pos} (ha : PA X as (tEs X.K P C es)) : PE X (.Tuple as k pos) (tE X.K P C (.tup es)) :=
  pe_weak (pe_tupN ha) fun σ H Q ⟨F, φ, st, δ, s, d, h⟩ => by
    simp only [evE] at h
    refine ⟨F, φ, st, δ, s, d, (Post.bind h).imp fun vs φ1 st1 H1 t1 h1 us ru => ?_⟩
    obtain ⟨r, e, q⟩ := h1.lift
    unfold dsOf at e
    cases q1 : wsOf vs with
    | none => rw [q1] at e; cases e
    | some ws =>
      rw [q1] at e
      dsimp only [Option.bind_some] at e
      cases q2 : datas ws with
      | none => rw [q2] at e; cases e
      | some ds =>
        rw [q2] at e
        dsimp only [Option.bind_some] at e
        split at e
        · rename_i hz
          cases e
          have d1 := datas_rw (wsOf_den t1.sc ru q1) q2
          exact ⟨by rw [line_is, d1.length]; exact hz, fun p o hp ho => q φ1 _ (Step.laid t1.sc hp) _ (Den.tupNew t1.sc hp ho d1)⟩
        · cases e
theorem xe_lst {as : List Expr} {es : List E} {own : Bool} {pos : Pos} (ha : PA X as (tEs X.K P C es)) : PE X (.List as pos) (tE X.K P C (.lst own es)) :=
  pe_weak (pe_lst ha) fun σ H Q ⟨F, φ, st, δ, s, d, h⟩ => by
    simp only [evE] at h
    refine ⟨F, φ, st, δ, s, d, (Post.bind h).imp fun vs φ1 st1 H1 t1 h1 us ru => ?_⟩
    obtain ⟨ws, e, q⟩ := (Post.bind h1).lift
    cases q1 : wsOf vs with
    | none => rw [q1] at e; cases e
    | some ws' =>
      rw [q1] at e
      dsimp only [Option.bind_some] at e
      split at e
      · rename_i hz
        cases e
        have d1 := wsOf_den t1.sc ru q1
        refine ⟨by rw [line_is, paired_len d1]; exact hz, fun p hp => ?_⟩
        have q := q φ1 H1 (Step.refl t1.sc)
        have r1 := RU.list t1.sc hp d1
        cases own with
        | false => exact q φ1 _ (Step.laid t1.sc hp) _ (RU.weak (fun a n => t1.al a n) r1)
        | true =>
          obtain ⟨t2, r2⟩ := Step.own (o := .lst us) (c := .lst ws) t1.sc hp trivial ⟨us, upd_same, paired_imp (fun _ _ q => RW.new t1.sc hp q) d1⟩
          exact q _ _ t2 _ (r2 (Or2 F (Live (φ1 ++ [p]) (st1 ++ [Cell.lst ws]))) (upd H1 p (HO.lst us)))
      · cases e
/-- what an expression made, as a cell -/
theorem xe_cel {a : Expr} {e : E} (ha : PE X a (tE X.K P C e)) : PE X a (tE X.K P C (.cel e)) :=
  pe_weak ha fun σ H Q ⟨F, φ, st, δ, s, d, h⟩ => by
    simp only [evE] at h
    refine ⟨F, φ, st, δ, s, d, ?_⟩
    cases q : evE C e δ st with
    | bad => rw [q] at h; exact h
    | exc c p st1 => rw [q] at h; exact h
    | ok v st1 =>
      rw [q] at h
      intro φ1 H1 t1 u ru
      cases v with
      | w w => exact h φ1 H1 t1 u ru
      | fl xs =>
        obtain ⟨a, vs, e1, h1, h2, h3, h4, h5⟩ := ru
        subst e1
        obtain ⟨t2, r2⟩ := Step.take (c := .lst _) s t1 h2 h3 h5 ⟨vs, h1, h4⟩
        exact h _ _ t2 _ (r2 (Or2 F (Live (φ1 ++ [a]) (st1 ++ [Cell.lst xs]))) H1)
      | fd xs =>
        obtain ⟨a, vs, e1, h1, h2, h3, h4, h5⟩ := ru
        subst e1
        obtain ⟨t2, r2⟩ := Step.take (c := .dct _) s t1 h2 h3 h5 ⟨vs, h1, h4⟩
        exact h _ _ t2 _ (r2 (Or2 F (Live (φ1 ++ [a]) (st1 ++ [Cell.dct xs]))) H1)
/-! ### slices -/
def tO (K : PySem.W.Frag) (P : Par) (C : CE) (o : Option E) : TO := fun σ H Q => ∃ F φ st δ, SC K F φ st H ∧ Sl K F φ st H δ σ ∧
  Post K F (exOf P.XR P.W σ) φ st H (evO C o δ st) fun i φ' st' H' => Q i H'
theorem po_weak {e : Option Expr} {t t' : TO} (h : PO X e t) (k : ∀ σ H Q, t' σ H Q → t σ H Q) : PO X e t' := ⟨fun pins s σ H Q I q => h.run pins s σ H Q I (k σ H Q q)⟩
theorem xo_none : PO X none (tO X.K P C none) := po_weak po_none fun σ H Q ⟨F, φ, st, δ, s, d, h⟩ => by
  simp only [evO] at h
  exact h φ H (Step.refl s)
theorem xo_some {a : Expr} {e : E} (ha : PE X a (tE X.K P C e)) : PO X (some a) (tO X.K P C (some e)) := po_weak (po_some ha) fun σ H Q ⟨F, φ, st, δ, s, d, h⟩ => by
  simp only [evO] at h
  refine ⟨F, φ, st, δ, s, d, (Post.bind h).imp fun v φ1 st1 H1 t1 h1 u ru => ?_⟩
  obtain ⟨r, e, q⟩ := h1.lift
  cases qi : int? v with
  | none => rw [qi] at e; cases e
  | some i =>
    rw [qi] at e; cases e
    exact ⟨i, RV.int (ru.rv t1.sc (fun a f => s.fo a f)) qi, q φ1 H1 (Step.refl t1.sc)⟩
theorem xe_sl {a : Expr} {l h : Option Expr} {e : E} {lo hi : Option E} {pos p2 : Pos} (ha : PE X a (tE X.K P C e)) (hl : PO X l (tO X.K P C lo)) (hh : PO X h (tO X.K P C hi)) : PE X (.Subscript a (.Slice l h none p2) pos) (tE X.K P C (.sl e lo hi)) :=
  pe_weak (pe_slice slr_any ha hl hh) fun σ H Q ⟨F, φ, st, δ, s, d, h⟩ => by
    simp only [evE] at h
    refine ⟨F, φ, st, δ, s, d, (Post.bind h).imp fun v φ1 st1 H1 t1 h1 u ru => ⟨F, φ1, st1, δ, t1.sc, d.step s t1, (Post.bind h1).imp fun l φ2 st2 H2 t2 h2 => ⟨F, φ2, st2, δ, t2.sc, (d.step s t1).step t1.sc t2, (Post.bind h2).imp fun k φ3 st3 H3 t3 h3 => ?_⟩⟩⟩
    obtain ⟨r, e, q⟩ := h3.lift
    exact ⟨F, φ3, st3, v, r, t3.sc, Step.rv t2.sc t3 (Step.rv t1.sc t2 (ru.rv t1.sc fun a f => s.fo a f)), e, fun φ' H' u t4 r4 => q φ' H' t4 u (RU.weak (fun a n => t3.al a (t2.al a (t1.al a n))) r4)⟩
/-! ### built-in functions -/
theorem ds_blt {b : Blt} {es : List E} {σ : L2.St} {H : Hp} {Q : VK} (h : tE X.K P C (.blt b es) σ H Q) : tEs X.K P C es σ H fun vs H1 => rBlt X.K b vs H1 Q := by
  obtain ⟨F, φ, st, δ, s, d, h⟩ := h
  simp only [evE] at h
  refine ⟨F, φ, st, δ, s, d, (Post.bind h).imp fun vs φ1 st1 H1 t1 h1 us ru => ?_⟩
  obtain ⟨r, e, q⟩ := h1.lift
  exact ⟨F, φ1, st1, vs, r, t1.sc, ru, e, fun φ' H' u t2 r2 => q φ' H' t2 u (RU.weak t1.al r2)⟩
theorem xe_bltB {b : Blt} {x : Str} {id : String} {a : Expr} {as : List Expr} {es : List E} {p pos : Pos} (hc : CallR X (.builtin id) (rBlt X.K b)) (hg : Gl X x) (hm : X.mg x = none) (hv : bootBuiltins x = some (.builtin id)) (ha : PA X (a :: as) (tEs X.K P C es)) (hn : x ≠ "__name__") (hdb : (x == ("__debug__" : Str)) = false)
    (he : starEach (a :: as) X.env = (false, eval a X.env) :: starEach as X.env) (hpl : (backTo pos (starEach as X.env)).any (·.1) = false) : PE X (.Call (.Name x p) (a :: as) [] pos) (tE X.K P C (.blt b es)) :=
  pe_weak (pe_callB hc hg hm hv ha hn hdb he hpl) fun _ _ _ h => ds_blt h
theorem xe_bltT {b : Blt} {x : Str} {T : String} {a : Expr} {as : List Expr} {es : List E} {p pos : Pos} (hc : CallR X (.type T) (rBlt X.K b)) (hg : Gl X x) (hm : X.mg x = none) (hv : bootBuiltins x = some (.type T)) (ha : PA X (a :: as) (tEs X.K P C es)) (hn : x ≠ "__name__") (hdb : (x == ("__debug__" : Str)) = false)
    (he : starEach (a :: as) X.env = (false, eval a X.env) :: starEach as X.env) (hpl : (backTo pos (starEach as X.env)).any (·.1) = false) : PE X (.Call (.Name x p) (a :: as) [] pos) (tE X.K P C (.blt b es)) :=
  pe_weak (pe_callTy hc hg hm hv ha hn hdb he hpl) fun _ _ _ h => ds_blt h
/-! ### methods -/
def tyOk (K : PySem.W.Frag) (T : String) (m : Mth) : Prop := ∀ {F : AP} {φ : List Addr} {st : Sto} {H : Hp} {x : V} {v : Val}, SC K F φ st H → RV K F φ st H x v → recvOk m st v = true → tyV K T x H
theorem ds_mth {m : Mth} {o : E} {es : List E} {T : String} {σ : L2.St} {H : Hp} {Q : VK} (hT : tyOk X.K T m) (h : tE X.K P C (.mth m o es) σ H Q) :
    tE X.K P C o σ H fun x H1 => tyV X.K T x H1 ∧ tEs X.K P C es σ H1 fun xs H2 => rMth X.K m x xs H2 Q := by
  obtain ⟨F, φ, st, δ, s, d, h⟩ := h
  simp only [evE] at h
  refine ⟨F, φ, st, δ, s, d, (Post.bind h).imp fun v φ1 st1 H1 t1 h1 u ru => ?_⟩
  have rv := ru.rv t1.sc fun a f => s.fo a f
  cases q : recvOk m st1 v with
  | false => rw [q] at h1; exact h1.elim
  | true =>
    rw [q] at h1
    refine ⟨hT t1.sc rv q, F, φ1, st1, δ, t1.sc, d.step s t1, (Post.bind h1).imp fun vs φ2 st2 H2 t2 h2 us rus => ?_⟩
    cases qm : mthV m st2 v vs with
    | none => rw [qm] at h2; exact h2.elim
    | some r =>
      rw [qm] at h2
      exact ⟨F, φ2, st2, v, vs, r.1, r.2, t2.sc, Step.rv t1.sc t2 rv, rus, qm, fun φ' H' u t3 r3 => h2 φ' H' t3 u (RU.weak (fun a n => t2.al a (t1.al a n)) r3)⟩
theorem ds_mth0 {m : Mth} {o : E} {T : String} {σ : L2.St} {H : Hp} {Q : VK} (hT : tyOk X.K T m) (h : tE X.K P C (.mth m o []) σ H Q) :
    tE X.K P C o σ H fun x H1 => tyV X.K T x H1 ∧ rMth X.K m x [] H1 Q := by
  obtain ⟨F, φ, st, δ, s, d, h⟩ := h
  simp only [evE, evEs] at h
  refine ⟨F, φ, st, δ, s, d, (Post.bind h).imp fun v φ1 st1 H1 t1 h1 u ru => ?_⟩
  have rv := ru.rv t1.sc fun a f => s.fo a f
  cases q : recvOk m st1 v with
  | false => rw [q] at h1; exact h1.elim
  | true =>
    rw [q] at h1
    cases qm : mthV m st1 v [] with
    | none => simp only [Out.bind, qm] at h1; exact h1.elim
    | some r =>
      simp only [Out.bind, qm] at h1
      exact ⟨hT t1.sc rv q, F, φ1, st1, v, [], r.1, r.2, t1.sc, rv, .nil, qm, fun φ' H' u t3 r3 => h1 φ' H' t3 u (RU.weak t1.al r3)⟩
theorem ty_list_app : tyOk X.K "list" .append := fun {F φ st H x v} s r e => by
  unfold recvOk at e
  split at e <;> try (first | (cases ‹Mth.append = _›; done) | (cases e; done))
  all_goals split at e <;> try (cases e; done)
  all_goals
    rename_i hi
    obtain ⟨a, e1, e2⟩ := r
    obtain ⟨vs, h1, h2⟩ := s.cell _ a _ e1 hi
    subst e2
    exact .inl ⟨rfl, vs, .of h1⟩
theorem ty_list_pop : tyOk X.K "list" .pop := fun {F φ st H x v} s r e => by
  unfold recvOk at e
  split at e <;> try (first | (cases ‹Mth.pop = _›; done) | (cases e; done))
  all_goals split at e <;> try (cases e; done)
  all_goals
    rename_i hi
    obtain ⟨a, e1, e2⟩ := r
    obtain ⟨vs, h1, h2⟩ := s.cell _ a _ e1 hi
    subst e2
    exact .inl ⟨rfl, vs, .of h1⟩
theorem ty_str_join : tyOk X.K "str" .join := fun {F φ st H x v} s r e => by
  unfold recvOk at e
  split at e <;> try (first | (cases ‹Mth.join = _›; done) | (cases e; done))
  rw [Den.str_inv r]; exact rfl
theorem ty_str_replace : tyOk X.K "str" .replace := fun {F φ st H x v} s r e => by
  unfold recvOk at e
  split at e <;> try (first | (cases ‹Mth.replace = _›; done) | (cases e; done))
  rw [Den.str_inv r]; exact rfl
theorem ty_str_split : tyOk X.K "str" .split := fun {F φ st H x v} s r e => by
  unfold recvOk at e
  split at e <;> try (first | (cases ‹Mth.split = _›; done) | (cases e; done))
  rw [Den.str_inv r]; exact rfl
/-! ### isinstance -/
def tTys (ts : List Ty) : TA := fun _ H Q => Q (ts.map tyV') H
theorem isTys_kit {K : PySem.W.Frag} {st : Sto} {v : Val} (u : Value) (hu : ∀ t b, isTy st v t = some b → PySem.W.kitOne K u (tyL t) = some b) : ∀ {ts : List Ty} {b : Bool}, isTys st v ts = some b → PySem.W.kitAny K u (ts.map tyL) = some b
  | [], b, e => by simp [isTys] at e; subst e; exact kitAny_nil
  | t :: ts, b, e => by
    simp only [isTys] at e
    cases q : isTy st v t with
    | none => rw [q]
          at e; cases e
    | some c =>
      rw [q] at e
      dsimp only [Option.bind_some] at e
      cases q2 : isTys st v ts with
      | none => rw [q2] at e; cases e
      | some d =>
        rw [q2] at e
        cases e
        exact kitAny_cons (hu t c q) (fun z => by rw [z]; simpa using isTys_kit u hu q2) (fun z => by rw [z]; rfl)
theorem ty_paired : ∀ ts : List Ty, Paired ClsV (ts.map tyV') (ts.map tyL)
  | [] => .nil
  | t :: ts => .cons (ty_cls t) (ty_paired ts)
/-- the type a value is of, for isinstance -/
theorem tyx_any {K : PySem.W.Frag} {F : AP} {φ : List Addr} {st : Sto} {H : Hp} {x : V} {a : Val} (hs : SC K F φ st H) (ra : RV K F φ st H x a) (t0 : Ty) (b0 : Bool) (e0 : isTy st a t0 = some b0) : ∃ u, TyX K H x u ∧ ∀ t b, isTy st a t = some b → PySem.W.kitOne K u (tyL t) = some b := by
  by_cases hn : a = vNone
  · subst hn
    refine ⟨.type "NoneType", by rw [Den.non_inv ra]; exact .base .non, fun t b e => ?_⟩
    unfold isTy at e
    cases e
    exact kit_non K t
  · have hx : ∀ t b, isTy st a t = some b → ∃ u, tyOf st a = some u ∧ b = (match u, t with | .bool, .int => true | u, t => u == t) := fun t b e => by
      unfold isTy at e
      split at e
      · exact absurd rfl hn
      · cases q1 : tyOf st a with
        | none => rw [q1] at e; cases e
        | some u => rw [q1] at e; have e' : some _ = some b := e; cases e'; exact ⟨u, rfl, rfl⟩
    obtain ⟨u, hu, _⟩ := hx t0 b0 e0
    refine ⟨tyL u, tyx_of hs ra hu, fun t b e => ?_⟩
    obtain ⟨u', hu', hb⟩ := hx t b e
    rw [hu] at hu'; cases hu'
    rw [hb]
    exact kit_ty K u t
def rIsV (K : PySem.W.Frag) (ts : List Ty) : V → Hp → VK → Prop := fun x H Q => ∃ F φ st v b, SC K F φ st H ∧ RV K F φ st H x v ∧ isTys st v ts = some b ∧ ∀ H', Step K F φ st H φ st H' → Q (.bl b) H'
theorem ds_isi {a : E} {ts : List Ty} {σ : L2.St} {H : Hp} {Q : VK} (h : tE X.K P C (.isi a ts) σ H Q) : tE X.K P C a σ H fun x H1 => rIsV X.K ts x H1 Q := by
  obtain ⟨F, φ, st, δ, s, d, h⟩ := h
  simp only [evE] at h
  refine ⟨F, φ, st, δ, s, d, (Post.bind h).imp fun v φ1 st1 H1 t1 h1 u ru => ?_⟩
  obtain ⟨r, e, q⟩ := h1.lift
  cases qb : isTys st1 v ts with
  | none => rw [qb] at e; cases e
  | some b =>
    rw [qb] at e; cases e
    exact ⟨F, φ1, st1, v, b, t1.sc, ru.rv t1.sc (fun a f => s.fo a f), qb, fun H' t2 => q φ1 H' t2 _ (RU.bl b)⟩
theorem xe_isi {a y : Expr} {e : E} {t : Ty} {p pos : Pos} (hg : Gl X "isinstance") (hm : X.mg "isinstance" = none) (hv : bootBuiltins "isinstance" = some (.builtin "isinstance")) (ha : PE X a (tE X.K P C e)) (hy : PE X y (tC (tyV' t)))
    (h1 : starEach (a :: [y]) X.env = (false, eval a X.env) :: starEach [y] X.env) (h2 : starEach (y :: []) X.env = (false, eval y X.env) :: starEach [] X.env) (hpl : (backTo pos (starEach [y] X.env)).any (·.1) = false) :
    PE X (.Call (.Name "isinstance" p) [a, y] [] pos) (tE X.K P C (.isi e [t])) :=
  pe_weak (pe_callB call_isi hg hm hv (pa_cons ha (pa_cons hy pa_nil h2) h1) (by decide) (by decide) h1 hpl) fun σ H Q h => by
    obtain ⟨F, φ, st, δ, s, d, h⟩ := ds_isi h
    refine ⟨F, φ, st, δ, s, d, h.imp fun v φ1 st1 H1 t1 h1 u ru => ?_⟩
    obtain ⟨F', φ', st', v', b, s', r', e', q⟩ := h1 u ru
    show rIsi X.K [u, tyV' t] H1 Q
    have e2 : isTy st' v' t = some b := by
      simp only [isTys] at e'
      cases qq : isTy st' v' t with
      | none => rw [qq] at e'; cases e'
      | some c => rw [qq] at e'; simpa using e'
    obtain ⟨w, tx, k⟩ := tyx_any s' r' t b e2
    exact ⟨u, tyV' t, w, tyL t, b, rfl, ty_cls t, tx, k t b e2, q H1 (Step.refl s')⟩
end
theorem xa_tys {X : Cx} : ∀ {ts : List Ty} {ys : List Expr}, Paired (fun y t => PE X y (tC (tyV' t))) ys ts → (∀ y ys', starEach (y :: ys') X.env = (false, eval y X.env) :: starEach ys' X.env ∨ y ∉ ys) → PA X ys (tTys ts)
  | [], _, .nil, _ => pa_weak pa_nil fun _ _ _ h => h
  | t :: ts, y :: ys, .cons a r, h => pa_weak (pa_cons a (xa_tys r fun y' ys' => (h y' ys').imp_right fun n z => n (List.mem_cons_of_mem _ z)) ((h y ys).resolve_right fun n => n (List.mem_cons_self ..))) fun _ _ _ h => h
theorem xe_isiT {X : Cx} {P : Par} {C : CE} {a : Expr} {ys : List Expr} {e : E} {t : Ty} {ts : List Ty} {p pos p2 : Pos} {k2 : Nat} (hg : Gl X "isinstance") (hm : X.mg "isinstance" = none) (hv : bootBuiltins "isinstance" = some (.builtin "isinstance")) (ha : PE X a (tE X.K P C e)) (hy : PA X ys (tTys (t :: ts))) (hl : (t :: ts).length ≤ sizeLine)
    (h1 : starEach (a :: [Expr.Tuple ys k2 p2]) X.env = (false, eval a X.env) :: starEach [Expr.Tuple ys k2 p2] X.env) (hpl : (backTo pos (starEach [Expr.Tuple ys k2 p2] X.env)).any (·.1) = false) :
    PE X (.Call (.Name "isinstance" p) [a, Expr.Tuple ys k2 p2] [] pos) (tE X.K P C (.isi e (t :: ts))) :=
  pe_weak (pe_callB call_isiT hg hm hv (pa_cons ha (pa_cons (pe_tup hy) pa_nil rfl) h1) (by decide) (by decide) h1 hpl) fun σ H Q h => by
    obtain ⟨F, φ, st, δ, s, d, h⟩ := ds_isi h
    refine ⟨F, φ, st, δ, s, d, h.imp fun v φ1 st1 H1 t1 h1 u ru => ?_⟩
    obtain ⟨F', φ', st', v', b, s', r', e', q⟩ := h1 u ru
    have e0 := e'
    simp only [isTys] at e0
    cases qq : isTy st' v' t with
    | none => rw [qq] at e0; cases e0
    | some c =>
      refine ⟨by rw [List.length_map]; exact hl, fun p hp => ?_⟩
      obtain ⟨w, tx, k⟩ := tyx_any (s'.laid (o := .tup ((t :: ts).map tyV')) hp).1 (Step.rv s' (Step.laid s' hp) r') t c qq
      exact ⟨u, p, _, w, (t :: ts).map tyL, b, rfl, upd_same, ty_paired _, tx, isTys_kit w k e', q _ (Step.laid s' hp)⟩
end MP
set_option maxHeartbeats 1000001
/-! Ev9: calls. -/
namespace MP
open PySem PySem.Spec L2
def Mono (ex : EX) : Prop := ∀ c p L L' H, (∀ a, L' a → L a) → ex c p L' H → ex c p L H
section
variable {K : PySem.W.Frag} {F : AP} {ex : EX} {φ φ1 ψ : List Addr} {st st1 : Sto} {H H0 H1 : Hp} {L L' : AP}
theorem rw_cut {v : V} {w : W} (hφ : φ1 = φ ++ ψ) (hl : ∀ a, L' a → L a) (r : RW K L H φ1 v w) (hb : w.below φ.length = true) : RW K L' H φ v w := by
  cases w with
  | d x => exact Den.less hl r
  | fz xs => obtain ⟨a, vs, e, h1, h2⟩ := r; exact ⟨a, vs, e, h1, DenAll.less hl h2⟩
  | ref i =>
    obtain ⟨a, e, h⟩ := r
    have hi : i < φ.length := by simpa [W.below] using hb
    rw [hφ, List.getElem?_append_left hi] at e
    exact ⟨a, e, h⟩
theorem rws_cut {vs : List V} {ws : List W} (hφ : φ1 = φ ++ ψ) (hl : ∀ a, L' a → L a) (r : RWs K L H φ1 vs ws) (hb : ws.all (W.below φ.length) = true) : RWs K L' H φ vs ws := by
  induction r with
  | nil => exact .nil
  | cons a r ih =>
    rw [List.all_cons, Bool.and_eq_true] at hb
    exact .cons (rw_cut hφ hl a hb.1) (ih hb.2)
theorem rkv_cut {vs : List (Key × V)} {ws : List (D × W)} (hφ : φ1 = φ ++ ψ) (hl : ∀ a, L' a → L a) (r : Paired (RKv K L H φ1) vs ws) (hb : ws.all (fun kv => kv.2.below φ.length) = true) : Paired (RKv K L' H φ) vs ws := by
  induction r with
  | nil => exact .nil
  | cons a r ih =>
    rw [List.all_cons, Bool.and_eq_true] at hb
    exact .cons ⟨a.1, rw_cut hφ hl a.2 hb.1⟩ (ih hb.2)
theorem rc_cut {a : Addr} {c : Cell} (hφ : φ1 = φ ++ ψ) (hl : ∀ a, L' a → L a) (r : RC K L H φ1 a c) (hb : c.below φ.length = true) : RC K L' H φ a c := by
  cases c with
  | dead => trivial
  | lst xs => obtain ⟨vs, e, h⟩ := r; exact ⟨vs, e, rws_cut hφ hl h hb⟩
  | dct kvs => obtain ⟨vs, e, h⟩ := r; exact ⟨vs, e, rkv_cut hφ hl h hb⟩
  | obj _ _ => exact r.elim
theorem live_cut {n : Nat} {a : Addr} (hφ : φ1 = φ ++ ψ) (h : Live φ (st1.take n) a) : Live φ1 st1 a := by
  obtain ⟨i, c, e1, e2, n1⟩ := h
  refine ⟨i, c, ?_, ?_, n1⟩
  · rw [hφ, List.getElem?_append_left (List.getElem?_eq_some_iff.mp e1).1]; exact e1
  · rw [List.getElem?_take] at e2
    split at e2
    · exact e2
    · cases e2
theorem or_cut {n : Nat} {a : Addr} (hφ : φ1 = φ ++ ψ) (h : Or2 F (Live φ (st1.take n)) a) : Or2 F (Live φ1 st1) a := h.imp_right (live_cut hφ)
/-- the new cells are forgotten -/
theorem Step.cut (s : SC K F φ st H) (t : Step K F φ st H φ1 st1 H1) (hb : (st1.take st.length).all (Cell.below st.length) = true) : Step K F φ st H φ (st1.take st.length) H1 := by
  obtain ⟨ψ, e, n⟩ := t.ext
  have hl := t.sc.len
  have hle : st.length ≤ st1.length := by rw [← hl, e, List.length_append, s.len]; omega
  refine ⟨⟨[], by simp, by simp⟩, fun a o e1 n1 => ⟨(t.keep a o e1 n1).1, fun l => (t.keep a o e1 n1).2 (live_cut e l)⟩, t.al, ?_⟩
  refine ⟨by rw [List.length_take, s.len]; omega, s.nd, fun a h => t.sc.al a (by rw [e]; exact List.mem_append_left _ h), t.sc.fo, t.sc.fc, s.fd, fun i a c e1 e2 => ?_⟩
  have e2' := e2
  rw [List.getElem?_take] at e2
  split at e2
  · have e1' : φ1[i]? = some a := by rw [e, List.getElem?_append_left (List.getElem?_eq_some_iff.mp e1).1]; exact e1
    refine rc_cut e (fun a h => or_cut e h) (t.sc.cell i a c e1' e2) ?_
    rw [s.len]
    exact List.all_eq_true.mp hb c (List.mem_of_getElem? e2')
  · cases e2
theorem SC.fewer {F' : AP} (s : SC K F φ st H) (h : ∀ a, F' a → F a) : SC K F' φ st H :=
  ⟨s.len, s.nd, s.al, fun a f => s.fo a (h a f), fun a f => s.fc a (h a f), fun a f => s.fd a (h a f), fun i a c e1 e2 => RC.way ⟨fun b o e n => ⟨e, fun l => n (l.imp_left (h b))⟩⟩ s.cells ⟨[], by simp⟩ (fun _ => rfl) (s.cell i a c e1 e2)⟩
/-- a call's value, without the new cells -/
theorem RU.cut {u : V} {v v' : Val} (s : SC K F φ st H) (t : Step K F φ st H φ1 st1 H1) (hb : (st1.take st.length).all (Cell.below st.length) = true) (e : valBelow st.length st1 v = some v') (r : RU K F H φ1 st1 H1 u v) : RU K F H φ (st1.take st.length) H1 u v' := by
  have tc := Step.cut s t hb
  obtain ⟨ψ, ee, n⟩ := t.ext
  have sub : ∀ a, Or2 F (Live φ (st1.take st.length)) a → Or2 F (Live φ1 st1) a := fun a h => or_cut ee h
  unfold valBelow at e
  split at e
  · rename_i i
    split at e
    · rename_i hi
      cases e
      exact rw_cut (K := K) (H := H1) (w := .ref i) ee sub r (by simp [W.below, s.len, hi])
    · rename_i hi
      obtain ⟨a, e1, e2⟩ := r
      have hge : φ.length ≤ i := by rw [s.len]; omega
      have ha : a ∈ ψ := by
        rw [ee, List.getElem?_append_right hge] at e1
        exact List.mem_of_getElem? e1
      have hn : H a = none := n a ha
      have hφ : a ∉ φ := fun z => s.al a z hn
      have more : ∀ b, Or2 (Or2 F (One a)) (Live φ (st1.take st.length)) b → Or2 F (Live φ1 st1) b ∨ b = a := fun b h => h.elim (fun h => h.elim (fun h => .inl (.inl h)) .inr) fun h => .inl (sub b (.inr h))
      split at e
      · rename_i xs hx
        split at e
        · rename_i hbx
          cases e
          obtain ⟨vs, h1, h2⟩ := t.sc.cell i a _ e1 hx
          have lv : Or2 F (Live φ1 st1) a := .inr ⟨i, _, e1, hx, by intro z; cases z⟩
          have sub' : ∀ b, Or2 (Or2 F (One a)) (Live φ (st1.take st.length)) b → Or2 F (Live φ1 st1) b := fun b h => (more b h).elim id fun z => z ▸ lv
          refine ⟨a, vs, e2, h1, hn, hφ, rws_cut ee sub' h2 (by rw [s.len]; exact hbx), ?_⟩
          refine ⟨tc.sc.len, tc.sc.nd, tc.sc.al, fun b f => f.elim (tc.sc.fo b) fun z => by rw [show b = a from z, h1]; simp, fun b f o ho => f.elim (fun f => tc.sc.fc b f o ho) fun z => by rw [show b = a from z, h1] at ho; cases ho; trivial,
            fun b f => f.elim (s.fd b) fun z => by rw [show b = a from z]; exact hφ, fun j b c j1 j2 => ?_⟩
          have j2' := j2
          rw [List.getElem?_take] at j2
          split at j2
          · have j1' : φ1[j]? = some b := by rw [ee, List.getElem?_append_left (List.getElem?_eq_some_iff.mp j1).1]; exact j1
            exact rc_cut ee sub' (t.sc.cell j b c j1' j2) (by rw [s.len]; exact List.all_eq_true.mp hb c (List.mem_of_getElem? j2'))
          · cases j2
        · cases e
      · rename_i xs hx
        split at e
        · rename_i hbx
          cases e
          obtain ⟨vs, h1, h2⟩ := t.sc.cell i a _ e1 hx
          have lv : Or2 F (Live φ1 st1) a := .inr ⟨i, _, e1, hx, by intro z; cases z⟩
          have sub' : ∀ b, Or2 (Or2 F (One a)) (Live φ (st1.take st.length)) b → Or2 F (Live φ1 st1) b := fun b h => (more b h).elim id fun z => z ▸ lv
          refine ⟨a, vs, e2, h1, hn, hφ, rkv_cut ee sub' h2 (by rw [s.len]; exact hbx), ?_⟩
          refine ⟨tc.sc.len, tc.sc.nd, tc.sc.al, fun b f => f.elim (tc.sc.fo b) fun z => by rw [show b = a from z, h1]; simp, fun b f o ho => f.elim (fun f => tc.sc.fc b f o ho) fun z => by rw [show b = a from z, h1] at ho; cases ho; trivial,
            fun b f => f.elim (s.fd b) fun z => by rw [show b = a from z]; exact hφ, fun j b c j1 j2 => ?_⟩
          have j2' := j2
          rw [List.getElem?_take] at j2
          split at j2
          · have j1' : φ1[j]? = some b := by rw [ee, List.getElem?_append_left (List.getElem?_eq_some_iff.mp j1).1]; exact j1
            exact rc_cut ee sub' (t.sc.cell j b c j1' j2) (by rw [s.len]; exact List.all_eq_true.mp hb c (List.mem_of_getElem? j2'))
          · cases j2
        · cases e
      · cases e
  · rename_i x hx
    cases e
    refine rw_cut ee sub r ?_
    cases x with
    | d _ => rfl
    | fz _ => rfl
    | ref i => exact (hx i rfl).elim
  · split at e
    · rename_i xs hbx
      cases e
      obtain ⟨a, vs, e1, h1, h2, h3, h4, h5⟩ := r
      have sub' : ∀ b, Or2 (Or2 F (One a)) (Live φ (st1.take st.length)) b → Or2 (Or2 F (One a)) (Live φ1 st1) b := fun b h => h.imp_right (live_cut ee)
      have hφ : a ∉ φ := fun z => s.al a z h2
      refine ⟨a, vs, e1, h1, h2, hφ, rws_cut ee sub' h4 (by rw [s.len]; exact hbx), ?_⟩
      refine ⟨tc.sc.len, tc.sc.nd, tc.sc.al, h5.fo, h5.fc, fun b f => f.elim (s.fd b) fun z => by rw [show b = a from z]; exact hφ, fun j b c j1 j2 => ?_⟩
      have j2' := j2
      rw [List.getElem?_take] at j2
      split at j2
      · have j1' : φ1[j]? = some b := by rw [ee, List.getElem?_append_left (List.getElem?_eq_some_iff.mp j1).1]; exact j1
        exact rc_cut ee sub' (h5.cell j b c j1' j2) (by rw [s.len]; exact List.all_eq_true.mp hb c (List.mem_of_getElem? j2'))
      · cases j2
    · cases e
  · split at e
    · rename_i xs hbx
      cases e
      obtain ⟨a, vs, e1, h1, h2, h3, h4, h5⟩ := r
      have sub' : ∀ b, Or2 (Or2 F (One a)) (Live φ (st1.take st.length)) b → Or2 (Or2 F (One a)) (Live φ1 st1) b := fun b h => h.imp_right (live_cut ee)
      have hφ : a ∉ φ := fun z => s.al a z h2
      refine ⟨a, vs, e1, h1, h2, hφ, rkv_cut ee sub' h4 (by rw [s.len]; exact hbx), ?_⟩
      refine ⟨tc.sc.len, tc.sc.nd, tc.sc.al, h5.fo, h5.fc, fun b f => f.elim (s.fd b) fun z => by rw [show b = a from z]; exact hφ, fun j b c j1 j2 => ?_⟩
      have j2' := j2
      rw [List.getElem?_take] at j2
      split at j2
      · have j1' : φ1[j]? = some b := by rw [ee, List.getElem?_append_left (List.getElem?_eq_some_iff.mp j1).1]; exact j1
        exact rc_cut ee sub' (h5.cell j b c j1' j2) (by rw [s.len]; exact List.all_eq_true.mp hb c (List.mem_of_getElem? j2'))
      · cases j2
    · cases e
theorem post_gc {o : Out Val} {Q : VK} (s : SC K F φ st H) (an : Mono ex) (h : Post K F ex φ st H (gcAt st.length o) fun v φ' st' H' => ∀ u, RU K F H φ' st' H' u v → Q u H') : Post K F ex φ st H o fun v φ' st' H' => ∀ u, RU K F H φ' st' H' u v → Q u H' := by
  unfold gcAt at h
  split at h
  · split at h
    · rename_i hb
      split at h
      · rename_i v' e
        exact fun φ1 H1 t1 u r => h φ H1 (Step.cut s t1 hb) u (RU.cut s t1 hb e r)
      · exact h.elim
    · exact h.elim
  · split at h
    · rename_i hb
      intro φ1 H1 t1
      obtain ⟨ψ, ee, n⟩ := t1.ext
      exact an _ _ _ _ _ (fun a l => or_cut ee l) (h φ H1 (Step.cut s t1 hb))
    · exact h.elim
  · exact h.elim
/-! from the empty store -/
theorem SC.empty (s : SC K F φ st H) : SC K (Or2 F (Live φ st)) [] [] H :=
  by
    refine ⟨rfl, List.nodup_nil, ?_, ?_, s.cells, ?_, ?_⟩
    · intro a h; cases h
    · intro a h
      rcases h with f | l
      · exact s.fo a f
      · exact s.al a l.mem
    · intro a _ h; cases h
    · intro i a c e _; simp at e
theorem no_live {a : Addr} : ¬ Live [] [] a := fun ⟨i, c, e, _⟩ => by simp at e
theorem Step.full (s : SC K F φ st H) (t : Step K (Or2 F (Live φ st)) [] [] H φ1 st1 H1) : Step K F φ st H φ st H1 := by
  have k : ∀ a o, H a = some o → H1 a = some o := fun a o e => (t.keep a o e no_live).1
  have kn : ∀ a, H a ≠ none → H1 a ≠ none := t.al
  have w : Way (Or2 F (Live φ st)) H (Or2 F (Live φ st)) H1 := ⟨fun a o e n => ⟨k a o e, n⟩⟩
  refine ⟨⟨[], by simp, by simp⟩, fun a o e n => ⟨k a o e, n⟩, kn, ⟨s.len, s.nd, fun a h => kn a (s.al a h), fun a h => kn a (s.fo a h), fun a f o ho => ?_, s.fd, fun i a c e1 e2 => RC.way w s.cells ⟨[], by simp⟩ (fun n => ?_) (s.cell i a c e1 e2)⟩⟩
  · cases q : H a with
    | none => exact absurd q (s.fo a f)
    | some o' =>
      have := k a o' q
      rw [ho] at this; cases this
      exact s.fc a f _ q
  · cases q : H a with
    | none => exact absurd q (s.al a (List.mem_of_getElem? e1))
    | some o' => exact k a o' q
theorem SC.plus {p : Addr} {o : HO} (s : SC K F φ st H) (k : ∀ a o, H a = some o → H1 a = some o) (kn : ∀ a, H a ≠ none → H1 a ≠ none) (hp : H p = none) (hp1 : H1 p = some o) (ho : Mut (some o)) : SC K (Or2 F (One p)) φ st H1 := by
  have np : p ∉ φ := fun h => s.al p h hp
  have w : Way (Or2 F (Live φ st)) H (Or2 (Or2 F (One p)) (Live φ st)) H1 := ⟨fun a u e n => by
    have ne : a ≠ p := fun z => by rw [z, hp] at e; cases e
    exact ⟨k a u e, fun l => l.elim (fun f => f.elim (fun f => n (.inl f)) ne) fun l => n (.inr l)⟩⟩
  refine ⟨s.len, s.nd, fun a h => kn a (s.al a h), fun a h => ?_, ?_, fun a h => ?_, fun i a c e1 e2 => RC.way w s.cells ⟨[], by simp⟩ (fun _ => ?_) (s.cell i a c e1 e2)⟩
  · rcases h with h | h
    · exact kn a (s.fo a h)
    · rw [show a = p from h, hp1]; simp
  · rintro a (h | h) u hu
    · cases q : H a with
      | none => exact absurd q (s.fo a h)
      | some o' =>
        have := k a o' q
        rw [hu] at this; cases this
        exact s.fc a h _ q
    · rw [show a = p from h, hp1] at hu
      cases hu
      exact ho
  · rcases h with h | h
    · exact s.fd a h
    · rw [show a = p from h]; exact np
  · cases q : H a with
    | none => exact absurd q (s.al a (List.mem_of_getElem? e1))
    | some o' => exact k a o' q
theorem pure_rw {v : V} {w : W} (hl : ∀ a, L' a → L a) (r : RW K L H φ1 v w) (hp : w.below 0 = true) : RW K L' H φ v w := by
  cases w with
  | d x => exact Den.less hl r
  | fz xs => obtain ⟨a, vs, e, h1, h2⟩ := r; exact ⟨a, vs, e, h1, DenAll.less hl h2⟩
  | ref i => simp [W.below] at hp
theorem pure_rws {vs : List V} {ws : List W} (hl : ∀ a, L' a → L a) (r : RWs K L H φ1 vs ws) (hb : ws.all (W.below 0) = true) : RWs K L' H φ vs ws := by
  induction r with
  | nil => exact .nil
  | cons a r ih =>
    rw [List.all_cons, Bool.and_eq_true] at hb
    exact .cons (pure_rw hl a hb.1) (ih hb.2)
theorem pure_rkv {vs : List (Key × V)} {ws : List (D × W)} (hl : ∀ a, L' a → L a) (r : Paired (RKv K L H φ1) vs ws) (hb : ws.all (fun kv => kv.2.below 0) = true) : Paired (RKv K L' H φ) vs ws := by
  induction r with
  | nil => exact .nil
  | cons a r ih =>
    rw [List.all_cons, Bool.and_eq_true] at hb
    exact .cons ⟨a.1, pure_rw hl a.2 hb.1⟩ (ih hb.2)
theorem RU.full {u : V} {v v' : Val} (s : SC K F φ st H) (t : Step K (Or2 F (Live φ st)) [] [] H φ1 st1 H1) (e : valBelow 0 st1 v = some v') (r : RU K (Or2 F (Live φ st)) H φ1 st1 H1 u v) : RU K F H φ st H1 u v' := by
  have sub : ∀ a, Or2 F (Live φ st) a → Or2 (Or2 F (Live φ st)) (Live φ1 st1) a := fun a h => .inl h
  have k : ∀ a o, H a = some o → H1 a = some o := fun a o e => (t.keep a o e no_live).1
  unfold valBelow at e
  split at e
  · rename_i i
    split at e
    · omega
    · obtain ⟨a, e1, e2⟩ := r
      obtain ⟨ψ, ee, n⟩ := t.ext
      have hn : H a = none := n a (by rw [ee] at e1; exact List.mem_of_getElem? e1)
      have hφ : a ∉ φ := fun z => s.al a z hn
      split at e
      · rename_i xs hx
        split at e
        · rename_i hbx
          cases e
          obtain ⟨vs, h1, h2⟩ := t.sc.cell i a _ e1 hx
          have lv : Live φ1 st1 a := ⟨i, _, e1, hx, by intro z; cases z⟩
          have sub1 : ∀ b, Or2 (Or2 F (One a)) (Live φ st) b → Or2 (Or2 F (Live φ st)) (Live φ1 st1) b := fun b l => l.elim (fun l => l.elim (fun f => .inl (.inl f)) fun z => .inr (by rw [show b = a from z]; exact lv)) fun l => .inl (.inr l)
          exact ⟨a, vs, e2, h1, hn, hφ, pure_rws sub1 h2 hbx, s.plus k t.al hn h1 trivial⟩
        · cases e
      · rename_i xs hx
        split at e
        · rename_i hbx
          cases e
          obtain ⟨vs, h1, h2⟩ := t.sc.cell i a _ e1 hx
          have lv : Live φ1 st1 a := ⟨i, _, e1, hx, by intro z; cases z⟩
          have sub1 : ∀ b, Or2 (Or2 F (One a)) (Live φ st) b → Or2 (Or2 F (Live φ st)) (Live φ1 st1) b := fun b l => l.elim (fun l => l.elim (fun f => .inl (.inl f)) fun z => .inr (by rw [show b = a from z]; exact lv)) fun l => .inl (.inr l)
          exact ⟨a, vs, e2, h1, hn, hφ, pure_rkv sub1 h2 hbx, s.plus k t.al hn h1 trivial⟩
        · cases e
      · cases e
  · rename_i x hx
    cases e
    refine pure_rw sub r ?_
    cases x with
    | d _ => rfl
    | fz _ => rfl
    | ref i => exact (hx i rfl).elim
  · split at e
    · rename_i xs hbx
      cases e
      obtain ⟨a, vs, e1, h1, h2, h3, h4, h5⟩ := r
      have sub2 : ∀ b, Or2 (Or2 F (One a)) (Live φ st) b → Or2 (Or2 (Or2 F (Live φ st)) (One a)) (Live φ1 st1) b := fun b l => l.elim (fun l => l.elim (fun f => .inl (.inl (.inl f))) fun z => .inl (.inr z)) fun l => .inl (.inl (.inr l))
      exact ⟨a, vs, e1, h1, h2, fun z => s.al a z h2, pure_rws sub2 h4 hbx, s.plus k t.al h2 h1 trivial⟩
    · cases e
  · split at e
    · rename_i xs hbx
      cases e
      obtain ⟨a, vs, e1, h1, h2, h3, h4, h5⟩ := r
      have sub2 : ∀ b, Or2 (Or2 F (One a)) (Live φ st) b → Or2 (Or2 (Or2 F (Live φ st)) (One a)) (Live φ1 st1) b := fun b l => l.elim (fun l => l.elim (fun f => .inl (.inl (.inl f))) fun z => .inl (.inr z)) fun l => .inl (.inl (.inr l))
      exact ⟨a, vs, e1, h1, h2, fun z => s.al a z h2, pure_rkv sub2 h4 hbx, s.plus k t.al h2 h1 trivial⟩
    · cases e
theorem post_onto {o : Out Val} {Q : VK} (s : SC K F φ st H) (an : Mono ex) (h : Post K F ex φ st H (onto st (gcAt 0 o)) fun v φ' st' H' => ∀ u, RU K F H φ' st' H' u v → Q u H') :
    Post K (Or2 F (Live φ st)) ex [] [] H o fun v φ' st' H' => ∀ u, RU K (Or2 F (Live φ st)) H φ' st' H' u v → Q u H' := by
  cases o with
  | bad => exact h
  | ok v st1 =>
    simp only [gcAt, List.take_zero, List.all_nil, if_true] at h
    intro φ1 H1 t1 u r
    cases q : valBelow 0 st1 v with
    | none => rw [q] at h; exact h.elim
    | some v' =>
      rw [q] at h
      exact h φ H1 (Step.full s t1) u (RU.full s t1 q r)
  | exc c p st1 =>
    simp only [gcAt, List.take_zero, List.all_nil, if_true] at h
    intro φ1 H1 t1
    exact an _ _ _ _ _ (fun a l => .inl l) (h φ H1 (Step.full s t1))
end
/-! ### a def's promise -/
def spR (K : PySem.W.Frag) (XR : XRel) (np : Nat) (run : List W → Sto → Out Val) : Sp := fun vs H Q E => vs.length = np ∧ ∃ F φ st ws, SC K F φ st H ∧ RWs K (Or2 F (Live φ st)) H φ vs ws ∧
  Post K F (fun c p L H' => ∀ cls d, XR c p cls d L H' → E cls d H') φ st H (run ws st) fun v φ' st' H' => ∀ u, RU K F H φ' st' H' u v → Q u H'
def XAnti (XR : XRel) : Prop := ∀ c p cls d L L' H, (∀ a, L' a → L a) → XR c p cls d L H → XR c p cls d L' H
section
variable {X : Cx} {P : Par} {C : CE}
theorem call_sp {F : AP} {φ : List Addr} {st : Sto} {H H0 : Hp} {f np : Nat} {vs : List V} {ws : List W} {Q : VK} {E : XK} (xa : XAnti P.XR) (s : SC X.K F φ st H) (r : RWs X.K (Or2 F (Live φ st)) H φ vs ws) (hbad : ∀ ws st, ws.length ≠ np → C.run f ws st = .bad) (h0 : ∀ a, H0 a ≠ none → H a ≠ none)
    (h : Post X.K F (fun c p L H' => ∀ cls d, P.XR c p cls d L H' → E cls d H') φ st H (callV C f ws st) fun v φ' st' H' => ∀ u, RU X.K F H0 φ' st' H' u v → Q u H') : spR X.K P.XR np (C.run f) vs H Q E := by
  have an : Mono (fun c p L H' => ∀ cls d, P.XR c p cls d L H' → E cls d H') := fun c p L L' H hs e cls d x => e cls d (xa _ _ _ _ _ _ _ hs x)
  have h : Post X.K F (fun c p L H' => ∀ cls d, P.XR c p cls d L H' → E cls d H') φ st H (callV C f ws st) fun v φ' st' H' => ∀ u, RU X.K F H φ' st' H' u v → Q u H' := h.imp fun v φ1 st1 H1 t1 h1 u ru => h1 u (RU.weak h0 ru)
  have hl : vs.length = np := by
    rw [paired_len r]
    by_cases hw : ws.length = np
    · exact hw
    · have e : callV C f ws st = .bad := by
        unfold callV
        rw [hbad ws [] hw, hbad ws st hw]
        cases ws.all W.pur <;> rfl
      rw [e] at h
      exact h.elim
  refine ⟨hl, ?_⟩
  unfold callV at h
  split at h
  · rename_i hp
    refine ⟨_, [], [], ws, s.empty, ?_, post_onto s an h⟩
    refine pure_rws (fun a l => (show Or2 F (Live φ st) a from (show Or2 (Or2 F (Live φ st)) (Live [] []) a from l).elim id fun l => (no_live l).elim)) r ?_
    rw [List.all_eq_true] at hp ⊢
    intro w hw
    have := hp w hw
    cases w with
    | d _ => rfl
    | fz _ => rfl
    | ref _ => cases this
  · exact ⟨F, φ, st, ws, s, r, post_gc s an h⟩
theorem data_den {K : PySem.W.Frag} {L : AP} {H : Hp} {φ : List Addr} : ∀ {vs : List V} {ds : List D}, DenAll K L H vs ds → RWs K L H φ vs (ds.map .d) := fun h => den_ds h
theorem xe_call {CX : CXT} {k i np : Nat} {f : Addr} {fd : FuncData} {ps : List Str} {dvs : List V} {ds : List Value} {x : Str} {a : Expr} {as : List Expr} {es : List E} {dfl : List D} {p pos : Pos} (xa : XAnti P.XR)
    (fo : FnOk X.prog X.w X.K X.mg X.base CX k f fd ps (spR X.K P.XR np (C.run i))) (hr : Room k X.A) (hg : Gl X x) (hm : X.mg x = some (.ref f)) (hk : PySem.W.keepIn X.K (.ref f) = true) (hb : Binds X.K fd ps ds) (hd : Vals dvs ds) (hx : ∀ σ, PassesAt CX X σ (WE P.W σ))
    (hdd : ∀ L H, DenAll X.K L H dvs dfl) (hbad : ∀ ws st, ws.length ≠ np → C.run i ws st = .bad)
    (ha : PA X (a :: as) (tEs X.K P C es)) (hdb : (x == ("__debug__" : Str)) = false) (he : starEach (a :: as) X.env = (false, eval a X.env) :: starEach as X.env) (hpl : (backTo pos (starEach as X.env)).any (·.1) = false) :
    PE X (.Call (.Name x p) (a :: as) [] pos) (tE X.K P C (.call i es dfl)) :=
  pe_weak (pe_callSD fo hr hg hm hk hb hd hx ha hdb he hpl) fun σ H Q ⟨F, φ, st, δ, s, d, h⟩ => by
    simp only [evE] at h
    refine ⟨F, φ, st, δ, s, d, (Post.bind h).imp fun vs φ1 st1 H1 t1 h1 us ru => ?_⟩
    obtain ⟨ws, e, q⟩ := (Post.bind h1).lift
    have q := q φ1 H1 (Step.refl t1.sc)
    have r1 := wsOf_den t1.sc ru e
    exact call_sp xa t1.sc (paired_app r1 (data_den (hdd _ _))) hbad t1.al q
end
end MP
set_option maxHeartbeats 1000001
/-! Ev10: targets, comprehensions. -/
namespace MP
open PySem PySem.Spec L2
mutual
def gT (K : PySem.W.Frag) : Tg → TG
  | .nm i => gName i
  | .tp ts => gTup K ts.length (gTs K ts)
def gTs (K : PySem.W.Frag) : List Tg → TGs
  | [] => gNil
  | t :: ts => gCons (gT K t) (gTs K ts)
end
mutual
def Tg.slots : Tg → List Nat
  | .nm i => [i]
  | .tp ts => slotsL ts
def slotsL : List Tg → List Nat
  | [] => []
  | t :: ts => t.slots ++ slotsL ts
end
theorem wipe_set {σ : L2.St} {i : Nat} {x : Option V} : ∀ {vs : List Nat}, i ∈ vs → wipe (σ.set i x) vs = wipe σ vs := by
  intro vs
  induction vs with
  | nil => intro h; cases h
  | cons v vs ih =>
    intro h
    unfold wipe
    by_cases hv : i ∈ vs
    · rw [ih hv]
    · have e : i = v := by
        rcases List.mem_cons.mp
              h with e | e
        · exact e
        · exact absurd e hv
      subst e
      apply List.ext_getElem?
      intro j
      have key : ∀ {vs : List Nat} {τ : L2.St}, i ∉ vs → wipe (τ.set i x) vs = (wipe τ vs).set i x := by
        intro vs
        induction vs with
        | nil => intro τ _; rfl
        | cons u us ih2 =>
          intro τ hu
          have h1 : i ≠ u := fun z => hu (by rw [z]; exact List.mem_cons_self ..)
          have h2 : i ∉ us := fun z => hu (List.mem_cons_of_mem _ z)
          unfold wipe
          rw [ih2 h2, List.set_comm _ _ h1]
      rw [key hv, List.set_set]
theorem bindTs_len : ∀ {ts : List Tg} {xs : List D} {δ δ' : Env}, bindTs ts xs δ = some δ' → ts.length = xs.length
  | [], [], _, _, _ => rfl
  | [], _ :: _, _, _, e => by simp [bindTs] at e
  | _ :: _, [], _, _, e => by simp [bindTs] at e
  | t :: ts, x :: xs, δ, δ', e => by
    simp only [bindTs] at e
    cases q1 : bindT t (.d x) δ with
    | none => rw [q1] at e; cases e
    | some δ1 => rw [q1] at e; exact congrArg Nat.succ (bindTs_len e)
section
variable {K : PySem.W.Frag} {F : AP} {φ : List Addr} {st : Sto} {H : Hp}
mutual
theorem gT_run : ∀ {t : Tg} {w : W} {δ δ' : Env} {v : V} {σ : L2.St} {Q : L2.St → Hp → Prop}, Sl K F φ st H δ σ → RW K (Or2 F (Live φ st)) H φ v w → bindT t w δ = some δ' →
    (∀ σ', Sl K F φ st H δ' σ' → (∀ own : List Nat, (∀ i ∈ t.slots, i ∈ own) → wipe σ' own = wipe σ own) → Q σ' H) → gT K t v σ H Q
  | .nm i, w, δ, δ', v, σ, Q, s, r, e, q => by
    simp only [bindT] at e
    cases e
    simp only [gT]
    exact q _ (s.set r) fun own ho => wipe_set (ho i (by simp [Tg.slots]))
  | .tp ts, w, δ, δ', v, σ, Q, s, r, e, q => by
    simp only [bindT] at e
    split at e
    · rename_i xs
      obtain ⟨a, vs, e3, h3, d3⟩ := Den.tup_inv r
      simp only [gT]
      exact ⟨a, vs, e3, h3, by rw [d3.length]; exact (bindTs_len e).symm, gTs_run s d3 e fun σ' s' k => q σ' s' fun own ho => k own (by simpa [Tg.slots] using ho)⟩
    · cases e
theorem gTs_run : ∀ {ts : List Tg} {xs : List D} {δ δ' : Env} {vs : List V} {σ : L2.St} {Q : L2.St → Hp → Prop}, Sl K F φ st H δ σ → DenAll K (Or2 F (Live φ st)) H vs xs → bindTs ts xs δ = some δ' →
    (∀ σ', Sl K F φ st H δ' σ' → (∀ own : List Nat, (∀ i ∈ slotsL ts, i ∈ own) → wipe σ' own = wipe σ own) → Q σ' H) → gTs K ts vs σ H Q
  | [], _, δ, δ', _, σ, Q, s, .nil, e, q => by
    simp only [bindTs] at e
    cases e
    simp only [gTs]
    exact ⟨rfl, q σ s fun _ _ => rfl⟩
  | [], _, δ, δ', _, σ, Q, s, .cons _ _, e, q => by simp [bindTs] at e
  | t :: ts, _, δ, δ', _, σ, Q, s, .nil, e, q => by simp [bindTs] at e
  | t :: ts, _, δ, δ', _, σ, Q, s, .cons (d := x) a r, e, q => by
    simp only [bindTs] at e
    cases q1 : bindT t (.d x) δ with
    | none => rw [q1] at e; cases e
    | some δ1 =>
      rw [q1] at e
      simp only [gTs]
      exact ⟨_, _, rfl, gT_run (w := .d x) s a q1 fun σ1 s1 k1 => gTs_run s1 r e fun σ2 s2 k2 => q σ2 s2 fun own ho => (k2 own fun i hi => ho i (by simp [slotsL, hi])).trans (k1 own fun i hi => ho i (by simp [slotsL, hi]))⟩
end
end
/-- .. of a value, or of a tuple that is only taken apart -/
def RWt (K : PySem.W.Frag) (L : AP) (H : Hp) (φ : List Addr) (v : V) (w : W) (tp : Bool) : Prop := RW K L H φ v w ∨ tp = true ∧ ∃ p vs ds, v = .ref p ∧ SqT K H p vs ∧ w = .d (.tuple ds) ∧ DenAll K L H vs ds
theorem gT_runW {K : PySem.W.Frag} {F : AP} {φ : List Addr} {st : Sto} {H : Hp} {t : Tg} {w : W} {δ δ' : Env} {v : V} {σ : L2.St} {Q : L2.St → Hp → Prop} (s : Sl K F φ st H δ σ) (r : RWt K (Or2 F (Live φ st)) H φ v w t.isTp) (e : bindT t w δ = some δ')
    (q : ∀ σ', Sl K F φ st H δ' σ' → (∀ own : List Nat, (∀ i ∈ t.slots, i ∈ own) → wipe σ' own = wipe σ own) → Q σ' H) : gT K t v σ H Q := by
  rcases r with r | ⟨ht, p, vs, ds, ev, hq, ew, dd⟩
  · exact gT_run s r e q
  · cases t with
    | nm i => cases ht
    | tp ts =>
      subst ev ew
      simp only [bindT] at e
      simp only [gT]
      exact ⟨p, vs, rfl, hq, by rw [dd.length]; exact (bindTs_len e).symm, gTs_run s dd e fun σ' s' k => q σ' s' fun own ho => k own (by simpa [Tg.slots] using ho)⟩
/-! ### what is walked, at each turn -/
structure ItA (K : PySem.W.Frag) (wk : Bool) (F : AP) (it : Itx) (i : Nat) (φ : List Addr) (st : Sto) (H : Hp) (J : It) : Prop where
  stop : itAt it i st = some none → J.stop i H
  go : ∀ x, itAt it i st = some (some x) → J.go i H
  yld : ∀ x, itAt it i st = some (some x) → ∀ v H3, J.yld i H v H3 → (H3 = H ∧ RW K (Or2 F (Live φ st)) H φ v x) ∨ wk = true ∧ ∃ p vs ds, H p = none ∧ H3 = upd H p (.tup vs) ∧ v = .ref p ∧ x = .d (.tuple ds) ∧ DenAll K (Or2 F (Live φ st)) H vs ds
theorem itA {K : PySem.W.Frag} {wk : Bool} {F F1 : AP} {it : Itx} {φ φ' : List Addr} {st st' : Sto} {H H' : Hp} {J : It} (o : ItxOk K wk (Or2 F (Live φ st)) H φ J it) (y : Way (Or2 F (Live φ st)) H (Or2 F1 (Live φ' st')) H') (hp : ∃ ψ, φ' = φ ++ ψ) (s : SC K F1 φ' st' H') (i : Nat) : ItA K wk F1 it i φ' st' H' J := by
  cases it with
  | items xs =>
    have o : ItOk K wk (Or2 F (Live φ st)) H φ xs J := o
    refine ⟨fun e => ?_, fun x e => ?_, fun x e v H3 yy => ?_⟩
    · have e : xs[i]? = none := by simpa [itAt] using e
      exact o.stop _ _ y i (List.getElem?_eq_none_iff.mp e)
    · have e : xs[i]? = some x := by simpa [itAt] using e
      exact o.go _ _ y i (List.getElem?_eq_some_iff.mp e).1
    · have e : xs[i]? = some x := by simpa [itAt] using e
      obtain ⟨x', e', h⟩ := o.yld _ _ y i v H3 yy (List.getElem?_eq_some_iff.mp e).1
      rw [e] at e'; cases e'
      rcases h with ⟨h1, h2⟩ | h
      · refine .inl ⟨h1, ?_⟩
        obtain ⟨ψ, rfl⟩ := hp
        cases x with
        | d _ => exact h2
        | fz _ => exact h2
        | ref j => obtain ⟨a, e1, e2⟩ := h2; exact ⟨a, by rw [List.getElem?_append_left (List.getElem?_eq_some_iff.mp e1).1]; exact e1, e2⟩
      · exact .inr h
  | live r =>
    obtain ⟨a, e1, e2⟩ := o
    subst e2
    obtain ⟨ψ, rfl⟩ := hp
    have e1' : (φ ++ ψ)[r]? = some a := by rw [List.getElem?_append_left (List.getElem?_eq_some_iff.mp e1).1]; exact e1
    refine ⟨fun e => ?_, fun x e => ?_, fun x e v H3 yy => ?_⟩
    all_goals
      simp only [itAt] at e
      split at e
      · rename_i xs hx
        obtain ⟨vs, h1, h2⟩ := s.cell r a _ e1' hx
        first
          | exact ⟨vs, .of h1, by rw [paired_len h2]; exact List.getElem?_eq_none_iff.mp (Option.some.inj e)⟩
          | (obtain ⟨u, hu, ru⟩ := paired_get h2 (Option.some.inj e)
             first
              | exact ⟨vs, u, .of h1, hu⟩
              | (obtain ⟨z, yy⟩ := yy
                 have q := yy vs (.of h1)
                 rw [hu] at q
                 cases q
                 exact .inl ⟨z, ru⟩))
      · cases e
theorem post_intro {α : Type} {K : PySem.W.Frag} {F : AP} {ex : EX} {φ : List Addr} {st : Sto} {H : Hp} {o : Out α} {R : α → List Addr → Sto → Hp → Prop} (hb : o.noX ≠ .bad) (h : ∀ a st', o = .ok a st' → ∀ φ' H', Step K F φ st H φ' st' H' → R a φ' st' H') : Post K F ex φ st H o R := by
  cases o with
  | ok a st' => exact h a st' rfl
  | exc c p st' => exact absurd rfl hb
  | bad => exact absurd rfl hb
/-! ### tests of a comprehension -/
def tCs (K : PySem.W.Frag) (P : Par) (C : CE) (cs : List E) : TT := fun σ H Q => ∃ F φ st δ, SC K F φ st H ∧ Sl K F φ st H δ σ ∧
  Post K F (exOf P.XR P.W σ) φ st H (evCs C cs δ st) fun b φ' st' H' => Q b H'
section
variable {X : Cx} {P : Par} {C : CE}
theorem pts_weak {cs : List Expr} {t t' : TT} (h : PTs X cs t) (k : ∀ σ H Q, t' σ H Q → t σ H Q) : PTs X cs t' := ⟨fun pins s σ H Q I q => h.run pins s σ H Q I (k σ H Q q)⟩
theorem xc_nil : PTs X [] (tCs X.K P C []) := pts_weak pts_nil fun σ H Q ⟨F, φ, st, δ, s, d, h⟩ => by
  simp only [evCs] at h
  exact h φ H (Step.refl s)
theorem xc_one {a : Expr} {e : E} (ha : PT X a (tT X.K P C e)) : PTs X [a] (tCs X.K P C [e]) := pts_weak (pts_one ha) fun σ H Q ⟨F, φ, st, δ, s, d, h⟩ => by
  simp only [evCs] at h
  refine ⟨F, φ, st, δ, s, d, (Post.bind h).imp fun v φ1 st1 H1 t1 h1 => ?_⟩
  cases qb : bool? v with
  | none => rw [qb] at h1; exact h1.elim
  | some b =>
    rw [qb] at h1
    refine ⟨b, rfl, ?_⟩
    cases b <;> exact h1 φ1 H1 (Step.refl t1.sc)
end
/-- only D changed -/
theorem SC.grow {K : PySem.W.Frag} {F : AP} {φ : List Addr} {st : Sto} {H : Hp} {D : Addr} {o : HO} (s : SC K (Or2 F (One D)) φ st H) (ho : Mut (some o)) : SC K (Or2 F (One D)) φ st (upd H D o) := by
  have hD : Or2 F (One D) D := .inr rfl
  have nd : D ∉ φ := s.fd D hD
  have w : Way (Or2 (Or2 F (One D)) (Live φ st)) H (Or2 (Or2 F (One D)) (Live φ st)) (upd H D o) := way_write (.inl hD)
  have nn : ∀ a, H a ≠ none → upd H D o a ≠ none := fun a h => by
    by_cases z : a = D
    · rw [z, upd_same]; simp
    · rw [upd_ne z]; exact h
  refine ⟨s.len, s.nd, fun a h => nn a (s.al a h), fun a h => nn a (s.fo a h), fun a f u hu => ?_, s.fd, fun i a c e1 e2 => RC.way w s.cells ⟨[], by simp⟩ (fun _ => upd_ne fun z => nd (z ▸ List.mem_of_getElem? e1)) (s.cell i a c e1 e2)⟩
  by_cases z : a = D
  · rw [z, upd_same] at hu; cases hu; exact ho
  · rw [upd_ne z] at hu; exact s.fc a f u hu
theorem Step.grow {K : PySem.W.Frag} {F : AP} {φ φ1 : List Addr} {st st1 : Sto} {H H1 : Hp} {D : Addr} {o : HO} (t : Step K F φ st H φ1 st1 H1) (h0 : H D = none) (s : SC K (Or2 F (One D)) φ1 st1 H1) (ho : Mut (some o)) : Step K F φ st H φ1 st1 (upd H1 D o) := by
  refine ⟨t.ext, fun a u e n => ⟨?_, (t.keep a u e n).2⟩, fun a h => ?_, (s.grow ho).fewer fun a f => .inl f⟩
  · rw [upd_ne (fun z => by rw [z, h0] at e; cases e)]; exact (t.keep a u e n).1
  · by_cases z : a = D
    · rw [z, upd_same]; simp
    · rw [upd_ne z]; exact t.al a h
theorem Step.fewer {K : PySem.W.Frag} {F F' : AP} {φ φ1 : List Addr} {st st1 : Sto} {H H1 : Hp} (t : Step K F φ st H φ1 st1 H1) (h : ∀ a, F' a → F a) : Step K F' φ st H φ1 st1 H1 := ⟨t.ext, t.keep, t.al, t.sc.fewer h⟩
theorem wipe_none {σ : L2.St} {i : Nat} : ∀ {vs : List Nat}, (wipe σ vs).set i none = wipe (σ.set i none) vs := by
  intro vs
  induction vs with
  | nil => rfl
  | cons v vs ih =>
    unfold wipe
    rw [← ih]
    by_cases h : v = i
    · subst h; rfl
    · rw [List.set_comm _ _ h]
theorem wipe_idem (σ : L2.St) : ∀ vs : List Nat, wipe (wipe σ vs) vs = wipe σ vs
  | [] => rfl
  | v :: vs => by
    show (wipe ((wipe σ vs).set v none) vs).set v none = (wipe σ vs).set v none
    rw [← wipe_none, wipe_idem σ vs, List.set_set]
theorem Out.bind_noX {α β : Type} {o : Out α} {f : α → Sto → Out β} (h : o.noX = .bad) : o.noX.bind f = .bad := by rw [h]; rfl
theorem ds_lc {X : Cx} {P P0 : Par} {C : CE} {own : List Nat} {t : Tg} {s : Src} {cs : List E} {e : E} {σ : L2.St} {H : Hp} {Q : VK} (hs : ∀ i ∈ t.slots, i ∈ own) (h : tE X.K P C (.lc own t s cs e) σ H Q) :
    tLc (tSrc X.K P C s) (gT X.K t) (tCs X.K P0 C cs) (tE X.K P0 C e) own σ H Q := by
  obtain ⟨F, φ, st, δ, s0, d, h⟩ := h
  simp only [evE] at h
  split at h
  · exact h.elim
  rename_i hwk
  have hwk : s.isW = true → t.isTp = true := fun z => by
    rw [z] at hwk
    simpa using hwk
  refine ⟨F, φ, st, δ, s0, d, (Post.bind h).imp fun it φ1 st1 H1 t1 h1 J oJ D hD => ?_⟩
  generalize hf : (fun (x : W) (st : Sto) => match bindT t x (wipeE δ own) with
      | none => Out.bad
      | some σ' => (evCs C cs σ' st).noX.bind fun b st => match b with
        | true => (evE C e σ' st).noX.bind fun v st => liftO ((wOf v).map some) st
        | false => Out.ok none st) = f at h1
  have hn0 : ∃ n0, gathOf C.lf f it st1 = gathI f it n0 0 [] st1 := by
    cases it with
    | items xs => exact ⟨xs.length + 1, gath_items f xs xs.length 0 [] st1 rfl⟩
    | live r => exact ⟨C.lf, gath_live f r C.lf 0 [] st1⟩
  obtain ⟨n0, hn0⟩ := hn0
  rw [hn0] at h1
  have hH : H D = none := by
    cases q : H D with
    | none => rfl
    | some o => exact absurd hD (t1.al D (by rw [q]; simp))
  have hnb : ∀ {m i acc st2}, gathI f it n0 0 [] st1 = gathI f it m i acc st2 → gathI f it m i acc st2 ≠ .bad := fun e z => by rw [e, z] at h1; exact h1.elim
  refine ⟨fun i m H2 => ∃ φ2 st2 acc vs, m + i = n0 ∧ Step X.K F φ1 st1 H1 φ2 st2 H2 ∧ SC X.K (Or2 F (One D)) φ2 st2 H2 ∧ H2 D = some (.lst vs) ∧ RWs X.K (Or2 (Or2 F (One D)) (Live φ2 st2)) H2 φ2 vs acc ∧ gathI f it n0 0 [] st1 = gathI f it m i acc st2,
    ⟨n0, φ1, st1, [], [], rfl, Step.laid t1.sc hD, t1.sc.new hD trivial, upd_same, .nil, rfl⟩, ?_⟩
  rintro i m H2 ⟨φ2, st2, acc, vs, hm, t2, s2, hv, dv, heq⟩
  cases m with
  | zero => exact (hnb heq rfl).elim
  | succ m =>
    have hw : ∀ H3, Step X.K F φ1 st1 H1 φ2 st2 H3 → Way (Or2 F (Live φ1 st1)) H1 (Or2 (Or2 F (One D)) (Live φ2 st2)) H3 := fun H3 t2 => ⟨fun a o e n => by
      have k := t2.keep a o e fun l => n (.inr l)
      exact ⟨k.1, fun l => l.elim (fun l => l.elim (fun f => n (.inl f)) fun z => by rw [show a = D from z, hD] at e; cases e) k.2⟩⟩
    have ia := itA oJ (hw H2 t2) t2.pre s2 i
    cases q : itAt it i st2 with
    | none => exact (hnb heq (by simp only [gathI]; rw [q])).elim
    | some ox =>
      cases ox with
      | none =>
        refine .inl ⟨ia.stop q, ?_⟩
        have heq' : gathI f it n0 0 [] st1 = .ok acc st2 := by rw [heq]; simp only [gathI]; rw [q]
        rw [heq'] at h1
        exact h1 φ2 H2 t2 _ ⟨D, vs, rfl, hv, hH, s2.fd D (.inr rfl), dv, s2⟩
      | some x =>
        refine .inr ⟨ia.go x q, fun H5 => ∃ φ2 st2 acc vs, m + (i + 1) = n0 ∧ Step X.K F φ1 st1 H1 φ2 st2 H5 ∧ SC X.K (Or2 F (One D)) φ2 st2 H5 ∧ H5 D = some (.lst vs) ∧ RWs X.K (Or2 (Or2 F (One D)) (Live φ2 st2)) H5 φ2 vs acc ∧ gathI f it n0 0 [] st1 = gathI f it m (i + 1) acc st2,
          fun H' h' => ⟨m, Nat.lt_succ_self m, h'⟩, fun v H3 yy => ?_⟩
        have h3 : SC X.K (Or2 F (One D)) φ2 st2 H3 ∧ Step X.K F φ1 st1 H1 φ2 st2 H3 ∧ H3 D = some (.lst vs) ∧ RWs X.K (Or2 (Or2 F (One D)) (Live φ2 st2)) H3 φ2 vs acc ∧ RWt X.K (Or2 (Or2 F (One D)) (Live φ2 st2)) H3 φ2 v x t.isTp := by
          rcases ia.yld x q v H3 yy with ⟨e3, r⟩ | ⟨zw, p, ws, ds, hp, e3, ev, ex, dd⟩
          · subst e3; exact ⟨s2, t2, hv, dv, .inl r⟩
          · subst e3 ev ex
            exact ⟨(s2.laid hp).1, t2.trans (Step.laid t2.sc hp), by rw [upd_ne (fun z => by rw [z, hp] at hv; cases hv)]; exact hv, paired_imp (fun _ _ z => RW.laid s2 hp z) dv, .inr ⟨hwk zw, p, ws, ds, rfl, .of upd_same, rfl, DenAll.laid s2 hp dd⟩⟩
        obtain ⟨s3, t3, hv3, dv3, rx⟩ := h3
        have sl3 : Sl X.K (Or2 F (One D)) φ2 st2 H3 δ σ := by
          have d1 := d.step s0 t1
          exact ⟨d1.len, fun j w ej => let ⟨u, e1, r⟩ := d1.slot j w ej; ⟨u, e1, RW.way (hw H3 t3) t1.sc.cells t3.pre r⟩⟩
        have key : gathI f it n0 0 [] st1 = (f x st2).bind fun y st => match y with
            | some y => if acc.length < line then gathI f it m (i + 1) (acc ++ [y]) st else .bad
            | none => gathI f it m (i + 1) acc st := by rw [heq]; simp only [gathI]; rw [q]; try rfl
        have hfx : f x st2 = match bindT t x (wipeE δ own) with
            | none => Out.bad
            | some σ' => (evCs C cs σ' st2).noX.bind fun b st => match b with
              | true => (evE C e σ' st).noX.bind fun v st => liftO ((wOf v).map some) st
              | false => Out.ok none st := by rw [← hf]
        have hnb2 : (f x st2) ≠ .bad := fun z => by rw [key, z] at h1; exact h1.elim
        cases qb : bindT t x (wipeE δ own) with
        | none => rw [qb] at hfx; exact (hnb2 hfx).elim
        | some δ2 =>
          rw [qb] at hfx
          dsimp only at hfx
          refine gT_runW (sl3.wipe own) rx qb fun σ2 sl4 hw2 => ⟨by rw [hw2 own hs, wipe_idem], ?_⟩
          refine ⟨_, φ2, st2, δ2, s3, sl4, post_intro (fun z => hnb2 (hfx.trans (Out.bind_noX z))) fun b st4 e4 φ4 H4 t4 => ?_⟩
          rw [e4] at hfx
          have hv4 : H4 D = some (.lst vs) := (t4.keep D _ hv3 fun l => s3.fd D (.inr rfl) l.mem).1
          have dv4 : RWs X.K (Or2 (Or2 F (One D)) (Live φ4 st4)) H4 φ4 vs acc := paired_imp (fun _ _ z => t4.rw s3 z) dv3
          have tt4 : Step X.K F φ1 st1 H1 φ4 st4 H4 := t3.trans (t4.fewer fun a f => .inl f)
          cases b with
          | false =>
            simp only
                  [Bool.false_eq_true, if_false]
            have hfx : f x st2 = .ok none st4 := hfx
            exact ⟨φ4, st4, acc, vs, by omega, tt4, t4.sc, hv4, dv4, by rw [key, hfx]; rfl⟩
          | true =>
            simp only [if_true]
            have hfx : f x st2 = (evE C e δ2 st4).noX.bind fun v st => liftO ((wOf v).map some) st := hfx
            refine ⟨_, φ4, st4, δ2, t4.sc, sl4.step s3 t4, post_intro (fun z => hnb2 (hfx.trans (Out.bind_noX z))) fun y st5 e5 φ5 H5 t5 u ru => ?_⟩
            rw [e5] at hfx
            have hfx : f x st2 = liftO ((wOf y).map some) st5 := hfx
            cases qw : wOf y with
            | none => rw [qw] at hfx; exact (hnb2 hfx).elim
            | some w =>
              rw [qw] at hfx
              have hfx : f x st2 = .ok (some w) st5 := hfx
              rw [hfx] at key
              have key : gathI f it n0 0 [] st1 = if acc.length < line then gathI f it m (i + 1) (acc ++ [w]) st5 else .bad := key
              split at key
              · rename_i hz
                have hv5 : H5 D = some (.lst vs) := (t5.keep D _ hv4 fun l => t4.sc.fd D (.inr rfl) l.mem).1
                have dv5 : RWs X.K (Or2 (Or2 F (One D)) (Live φ5 st5)) H5 φ5 vs acc := paired_imp (fun _ _ z => t5.rw t4.sc z) dv4
                have lD : Or2 (Or2 F (One D)) (Live φ5 st5) D := .inl (.inr rfl)
                have rw5 := wOf_den t5.sc (ru.rv t5.sc fun a f => t4.sc.fo a f) qw
                exact ⟨vs, hv5, by rw [line_is, paired_len dv5]; exact hz, φ5, st5, acc ++ [w], vs ++ [u], by omega, Step.grow (tt4.trans (t5.fewer fun a f => .inl f)) hD t5.sc trivial, t5.sc.grow trivial, upd_same,
                  paired_app (paired_imp (fun _ _ z => RW.way (way_write lD) t5.sc.cells ⟨[], by simp⟩ z) dv5) (.cons (RW.way (way_write lD) t5.sc.cells ⟨[], by simp⟩ rw5) .nil), key⟩
              · rw [key] at h1; exact h1.elim
end MP
set_option maxHeartbeats 1000001
/-! Ev11: statements. -/
namespace MP
open PySem PySem.Spec L2
def endS (K : PySem.W.Frag) (F : AP) (H0 : Hp) (D : Ends) : Fl → List Addr → Sto → Hp → Prop
  | .nx δ, φ, st, H => ∀ σ, Sl K F φ st H δ σ → D.nx σ H
  | .bk δ, φ, st, H => ∀ σ, Sl K F φ st H δ σ → D.bk σ H
  | .ct δ, φ, st, H => ∀ σ, Sl K F φ st H δ σ → D.ct σ H
  | .rt v, φ, st, H => ∀ u, RU K F H0 φ st H u v → D.rt u H
def tS (K : PySem.W.Frag) (P : Par) (C : CE) (s : S) : TS := fun D σ H => ∃ F φ st δ, SC K F φ st H ∧ Sl K F φ st H δ σ ∧
  Post K F (exOf P.XR P.W σ) φ st H (evS C s δ st) (endS K F H D)
def tSs (K : PySem.W.Frag) (P : Par) (C : CE) (s : List S) : TS := fun D σ H => ∃ F φ st δ, SC K F φ st H ∧ Sl K F φ st H δ σ ∧
  Post K F (exOf P.XR P.W σ) φ st H (evSs C s δ st) (endS K F H D)
/-- what is wished of exceptions does not look at the slots -/
def WFree (W : WX) : Prop := ∀ c d σ σ' H, W c d σ H → W c d σ' H
theorem exOf_free {XR : XRel} {W : WX} (h : WFree W) (σ σ' : L2.St) : ∀ c p L H, exOf XR W σ c p L H → exOf XR W σ' c p L H := fun c p L H e cls d x => h _ _ _ _ _ (e cls d x)
theorem Post.ex {α : Type} {K : PySem.W.Frag} {F : AP} {ex ex' : EX} {φ : List Addr} {st : Sto} {H : Hp} {o : Out α} {R : α → List Addr → Sto → Hp → Prop} (k : ∀ c p L H, ex c p L H → ex' c p L H) (h : Post K F ex φ st H o R) : Post K F ex' φ st H o R := by
  cases o with
  | ok a st' => exact h
  | exc c p st' => exact fun φ' H' t => k _ _ _ _ (h φ' H' t)
  | bad => exact h
theorem endS.weak {K : PySem.W.Frag} {F : AP} {H0 H1 : Hp} {D : Ends} {φ : List Addr} {st : Sto} {H : Hp} {fl : Fl} (k : ∀ a, H0 a ≠ none → H1 a ≠ none) (h : endS K F H0 D fl φ st H) : endS K F H1 D fl φ st H := by
  cases fl with
  | rt v => exact fun u r => h u (RU.weak k r)
  | _ => exact h
section
variable {X : Cx} {P : Par} {C : CE}
theorem ds_asg {own : Bool} {i : Nat} {e : E} {D : Ends} {σ : L2.St} {H : Hp} (h : tS X.K P C (.asg own i e) D σ H) : tE X.K P C e σ H fun x H1 => D.nx (σ.set i (some x)) H1 := by
  obtain ⟨F, φ, st, δ, s, d, h⟩ := h
  simp only [evS] at h
  refine ⟨F, φ, st, δ, s, d, ?_⟩
  cases q : evE C e δ st with
  | bad => rw [q] at h; exact h
  | exc c p st1 => rw [q] at h; exact h
  | ok v st1 =>
    rw [q] at h
    intro φ1 H1 t1 u ru
    have d1 := d.step s t1
    have h : Post X.K F (exOf P.XR P.W σ) φ st H (match own, v with
      | true, .fl xs => Out.ok (.nx (δ.set i (some (.ref st1.length)))) (st1 ++ [.lst xs])
      | true, .fd kvs => .ok (.nx (δ.set i (some (.ref st1.length)))) (st1 ++ [.dct kvs])
      | _, v => match wOf v with
        | some w => .ok (.nx (δ.set i (some w))) st1
        | none => .bad) (endS X.K F H D) := h
    split at h
    · obtain ⟨a, vs, e1, h1, h2, h3, h4, h5⟩ := ru
      subst e1
      obtain ⟨t2, r2⟩ := Step.take (c := .lst _) s t1 h2 h3 h5 ⟨vs, h1, h4⟩
      exact h _ _ t2 _ (Sl.set (d.step s t2) (r2 _ _))
    · obtain ⟨a, vs, e1, h1, h2, h3, h4, h5⟩ := ru
      subst e1
      obtain ⟨t2, r2⟩ := Step.take (c := .dct _) s t1 h2 h3 h5 ⟨vs, h1, h4⟩
      exact h _ _ t2 _ (Sl.set (d.step s t2) (r2 _ _))
    · split at h
      · rename_i w hw
        exact h φ1 H1 t1 _ (d1.set (wOf_den t1.sc (ru.rv t1.sc fun a f => s.fo a f) hw))
      · exact h.elim
theorem xs_asg {own : Bool} {i : Nat} {e : E} {y : Str} {a : Expr} {py pos : Pos} (hN : X.N.Nodup) (hi : X.N[i]? = some y) (hx : X.env.scope.names.lookup y = some .local ∨ (X.env.scope.names.lookup y = some .cell ∧ X.fn y = true)) (ha : PE X a (tE X.K P C e))
    (hs : swapsWith a (some (.Name y py)) pos.line X.env = pure false) : PS X (.Assign [.Name y py] a pos) (tS X.K P C (.asg own i e)) :=
  ps_weak (ps_set hN hi (hx.imp id (·.1)) ha hs (hx.symm.imp (·.2) id)) fun D σ H h => ds_asg h
theorem ds_unp {ts : List Tg} {e : E} {D : Ends} {σ : L2.St} {H : Hp} (h : tS X.K P C (.unp ts e) D σ H) : tE X.K P C e σ H fun x H1 => gT X.K (.tp ts) x σ H1 D.nx := by
  obtain ⟨F, φ, st, δ, s, d, h⟩ := h
  simp only [evS] at h
  refine ⟨F, φ, st, δ, s, d, (Post.bind h).imp fun v φ1 st1 H1 t1 h1 u ru => ?_⟩
  cases v with
  | w w =>
    obtain ⟨fl, e1, q⟩ := h1.lift
    cases qb : bindT (.tp ts) w δ with
    | none => rw [qb] at e1; cases e1
    | some δ' =>
      rw [qb] at e1; cases e1
      exact gT_run (d.step s t1) ru qb fun σ' s' _ => q φ1 H1 (Step.refl t1.sc) σ' s'
  | fl _ => exact h1.elim
  | fd _ => exact h1.elim
theorem ds_set {o i e : E} {D : Ends} {σ : L2.St} {H : Hp} (h : tS X.K P C (.setI o i e) D σ H) : tE X.K P C e σ H fun x H1 => gSub (tE X.K P C o) (tE X.K P C i) (rSet X.K) x σ H1 D.nx := by
  obtain ⟨F, φ, st, δ, s, d, h⟩ := h
  simp only [evS] at h
  refine ⟨F, φ, st, δ, s, d, (Post.bind h).imp fun v φ1 st1 H1 t1 h1 u ru => ⟨F, φ1, st1, δ, t1.sc, d.step s t1, (Post.bind h1).imp fun ov φ2 st2 H2 t2 h2 uo ro => ⟨F, φ2, st2, δ, t2.sc, (d.step s t1).step t1.sc t2, (Post.bind h2).imp fun iv φ3 st3 H3 t3 h3 ui ri => ?_⟩⟩⟩
  cases qw : wOf v with
  | none => rw [qw] at h3; exact h3.elim
  | some w =>
    rw [qw] at h3
    dsimp only [Option.bind_some] at h3
    cases qs : setCell st3 ov iv w with
    | none => rw [qs] at h3; exact h3.elim
    | some st' =>
      rw [qs] at h3
      have rx := wOf_den t3.sc (Step.rv t2.sc t3 (Step.rv t1.sc t2 (ru.rv t1.sc fun a f => s.fo a f))) qw
      exact ⟨F, φ3, st3, ov, iv, w, st', t3.sc, Step.rv t2.sc t3 (ro.rv t2.sc fun a f => t1.sc.fo a f), ri.rv t3.sc (fun a f => t2.sc.fo a f), rx, qs, fun H' t4 => h3 φ3 H' t4 σ ((((d.step s t1).step t1.sc t2).step t2.sc t3).step t3.sc t4)⟩
theorem ds_par {i j : Nat} {a b : E} {D : Ends} {σ : L2.St} {H : Hp} (h : tS X.K P C (.par i j a b) D σ H) : tEs X.K P C [a, b] σ H fun vs H1 => ∃ v w, vs = [v, w] ∧ D.nx ((σ.set i (some v)).set j (some w)) H1 := by
  obtain ⟨F, φ, st, δ, s, d, h⟩ := h
  simp only [evS] at h
  refine ⟨F, φ, st, δ, s, d, ?_⟩
  simp only [evEs]
  cases q : evE C a δ st with
  | bad => rw [q] at h; exact h
  | exc c p st1 => rw [q] at h; exact h
  | ok v st1 =>
    rw [q] at h
    simp only [Out.bind] at h ⊢
    cases q2 : evE C b δ st1 with
    | bad => rw [q2] at h; exact h
    | exc c p st2 => rw [q2] at h; exact h
    | ok w st2 =>
      rw [q2] at h
      simp only [Out.bind] at h ⊢
      intro φ2 H2 t2 us ru
      obtain ⟨x, y, rfl, rx, ry⟩ := RVs.two ru
      refine ⟨x, y, rfl, ?_⟩
      split at h
      · rename_i x' y' h1 h2
        exact h φ2 H2 t2 _ (((d.step s t2).set (wOf_den t2.sc rx h1)).set (wOf_den t2.sc ry h2))
      · exact h.elim
theorem ds_ex {e : E} {D : Ends} {σ : L2.St} {H : Hp} (h : tS X.K P C (.ex e) D σ H) : tE X.K P C e σ H fun _ H1 => D.nx σ H1 := by
  obtain ⟨F, φ, st, δ, s, d, h⟩ := h
  simp only [evS] at h
  exact ⟨F, φ, st, δ, s, d, (Post.bind h).imp fun v φ1 st1 H1 t1 h1 u ru => h1 φ1 H1 (Step.refl t1.sc) σ (d.step s t1)⟩
theorem ds_augI {i : Nat} {op : Operator} {g : Int → Int → Int} {e : E} {D : Ends} {σ : L2.St} {H : Hp} (hop : ∀ x y z, augV op x y = some z → ∃ i j, x = .d (.int i) ∧ y = vInt j ∧ z = .d (.int (g i j))) (h : tS X.K P C (.aug i op e) D σ H) : tAug i (tE X.K P C e) (ipI g) D σ H := by
  obtain ⟨F, φ, st, δ, s, d, h⟩ := h
  simp only [evS] at h
  split at h
  · rename_i w hw
    obtain ⟨x, e1, r1⟩ := d.slot _ _ hw
    refine ⟨x, e1, F, φ, st, δ, s, d, (Post.bind h).imp fun v φ1 st1 H1 t1 h1 u ru => ?_⟩
    cases qa : augV op w v with
    | none => rw [qa] at h1; exact h1.elim
    | some z =>
      rw [qa] at h1
      obtain ⟨i', j', e2, e3, e4⟩ := hop _ _ _ qa
      subst e2 e3 e4
      exact ⟨i', j', Den.int_inv r1, Den.int_inv ru, h1 φ1 H1 (Step.refl t1.sc) _ ((d.step s t1).set (w := .d (.int (g i' j'))) (Den.int _))⟩
  · exact h.elim
theorem aug_add : ∀ x y z, augV .Add x y = some z → ∃ i j, x = .d (.int i) ∧ y = vInt j ∧ z = .d (.int (i + j)) := fun x y z e => by
  unfold augV at e
  split at e
  · cases e; exact ⟨_, _, rfl, rfl, rfl⟩
  · cases ‹Operator.Add = _›
  · cases e
theorem aug_sub : ∀ x y z, augV .Sub x y = some z → ∃ i j, x = .d (.int i) ∧ y = vInt j ∧ z = .d (.int (i - j)) := fun x y z e => by
  unfold augV at e
  split at e
  · cases ‹Operator.Sub = _›
  · cases e; exact ⟨_, _, rfl, rfl, rfl⟩
  · cases e
theorem ds_ret {e : E} {D : Ends} {σ : L2.St} {H : Hp} (h : tS X.K P C (.ret (some e)) D σ H) : tE X.K P C e σ H D.rt := by
  obtain ⟨F, φ, st, δ, s, d, h⟩ := h
  simp only [evS] at h
  exact ⟨F, φ, st, δ, s, d, (Post.bind h).imp fun v φ1 st1 H1 t1 h1 u ru => h1 φ1 H1 (Step.refl t1.sc) u ru⟩
theorem ds_retN {D : Ends} {σ : L2.St} {H : Hp} (h : tS X.K P C (.ret none) D σ H) : D.rt .non H := by
  obtain ⟨F, φ, st, δ, s, d, h⟩ := h
  simp only [evS] at h
  exact h φ H (Step.refl s) .non RU.non
theorem ds_if {c : E} {a b : List S} {D : Ends} {σ : L2.St} {H : Hp} (h : tS X.K P C (.iff c a b) D σ H) : tT X.K P C c σ H fun t H1 => if t = true then tSs X.K P C a D σ H1 else tSs X.K P C b D σ H1 := by
  obtain ⟨F, φ, st, δ, s, d, h⟩ := h
  simp only [evS, evB] at h
  refine ⟨F, φ, st, δ, s, d, (Post.bind (Post.bind h)).imp fun v φ1 st1 H1 t1 h1 => ?_⟩
  obtain ⟨r, e, q⟩ := h1.lift
  refine ⟨r, e, ?_⟩
  have q := q φ1 H1 (Step.refl t1.sc)
  cases r with
  | true => exact iteT ⟨F, φ1, st1, δ, t1.sc, d.step s t1, q.imp fun fl φ2 st2 H2 t2 h2 => h2.weak t1.al⟩
  | false => exact iteF ⟨F, φ1, st1, δ, t1.sc, d.step s t1, q.imp fun fl φ2 st2 H2 t2 h2 => h2.weak t1.al⟩
theorem ds_seq (hW : WFree P.W) {a : S} {r : List S} {D : Ends} {σ : L2.St} {H : Hp} (h : tSs X.K P C (a :: r) D σ H) : tSeq (tS X.K P C a) (tSs X.K P C r) D σ H := by
  obtain ⟨F, φ, st, δ, s, d, h⟩ := h
  simp only [evSs] at h
  refine ⟨F, φ, st, δ, s, d, (Post.bind h).imp fun fl φ1 st1 H1 t1 h1 => ?_⟩
  cases fl with
  | nx δ1 => exact fun σ1 d1 => ⟨F, φ1, st1, δ1, t1.sc, d1, (h1.ex (exOf_free hW σ σ1)).imp fun fl φ2 st2 H2 t2 h2 => h2.weak t1.al⟩
  | rt v => exact h1 φ1 H1 (Step.refl t1.sc)
  | bk δ1 => exact h1 φ1 H1 (Step.refl t1.sc)
  | ct δ1 => exact h1 φ1 H1 (Step.refl t1.sc)
theorem ds_nil {D : Ends} {σ : L2.St} {H : Hp} (h : tSs X.K P C [] D σ H) : D.nx σ H := by
  obtain ⟨F, φ, st, δ, s, d, h⟩ := h
  simp only [evSs] at h
  exact h φ H (Step.refl s) σ d
theorem ds_one {a : S} {D : Ends} {σ : L2.St} {H : Hp} (h : tSs X.K P C [a] D σ H) : tS X.K P C a D σ H := by
  obtain ⟨F, φ, st, δ, s, d, h⟩ := h
  simp only [evSs] at h
  refine ⟨F, φ, st, δ, s, d, (Post.bind h).imp fun fl φ1 st1 H1 t1 h1 => ?_⟩
  cases fl <;> exact h1 φ1 H1 (Step.refl t1.sc)
theorem ds_for (hW : WFree P.W) {t : Tg} {s : Src} {b : List S} {D : Ends} {σ : L2.St} {H : Hp} (h : tS X.K P C (.fr t s b) D σ H) : tFor (tSrc X.K P C s) (gT X.K t) (tSs X.K P C b) D σ H := by
  obtain ⟨F, φ, st, δ, s0, d, h⟩ := h
  simp only [evS] at h
  split at h
  · exact h.elim
  rename_i hwk
  have hwk : s.isW = true → t.isTp = true := fun z => by
    rw [z] at hwk
    simpa using hwk
  refine ⟨F, φ, st, δ, s0, d, (Post.bind h).imp fun it φ1 st1 H1 t1 h1 J oJ => ?_⟩
  generalize hf : (fun (x : W) (σ : Env) (st : Sto) => match bindT t x σ with
      | none => Out.bad
      | some σ' => evSs C b σ' st) = f at h1
  have hn0 : ∃ n0, forOf C.lf f it δ st1 = forI f it n0 0 δ st1 := by
    cases it with
    | items xs => exact ⟨xs.length + 1, for_items f xs xs.length 0 δ st1 rfl⟩
    | live r => exact ⟨C.lf, for_live f r C.lf 0 δ st1⟩
  obtain ⟨n0, hn0⟩ := hn0
  rw [hn0] at h1
  refine ⟨fun i m σ2 H2 => ∃ φ2 st2 δ2, m + i = n0 ∧ Step X.K F φ1 st1 H1 φ2 st2 H2 ∧ Sl X.K F φ2 st2 H2 δ2 σ2 ∧ Post X.K F (exOf P.XR P.W σ) φ2 st2 H2 (forI f it m i δ2 st2) (endS X.K F H1 D),
    ⟨n0, φ1, st1, δ, rfl, Step.refl t1.sc, d.step s0 t1, h1.imp fun fl φ2 st2 H2 t2 h2 => h2.weak t1.al⟩, ?_⟩
  rintro i m σ2 H2 ⟨φ2, st2, δ2, hm, t2, d2, h2⟩
  cases m with
  | zero => exact h2.elim
  | succ m =>
    have hw : Way (Or2 F (Live φ1 st1)) H1 (Or2 F (Live φ2 st2)) H2 := t2.way
    have ia := itA oJ hw t2.pre t2.sc i
    simp only [forI] at h2
    cases q : itAt it i st2 with
    | none => rw [q] at h2; exact h2.elim
    | some ox =>
      rw [q] at h2
      cases ox with
      | none => exact .inl ⟨ia.stop q, h2 φ2 H2 (Step.refl t2.sc) σ2 d2⟩
      | some x =>
        refine .inr ⟨ia.go x q, fun σ3 H3 => ∃ φ2 st2 δ2, m + (i + 1) = n0 ∧ Step X.K F φ1 st1 H1 φ2 st2 H3 ∧ Sl X.K F φ2 st2 H3 δ2 σ3 ∧ Post X.K F (exOf P.XR P.W σ) φ2 st2 H3 (forI f it m (i + 1) δ2 st2) (endS X.K F H1 D),
          fun σ' H' h' => ⟨m, Nat.lt_succ_self m, h'⟩, fun v H3 yy => ?_⟩
        have h3 : Step X.K F φ2 st2 H2 φ2 st2 H3 ∧ RWt X.K (Or2 F (Live φ2 st2)) H3 φ2 v x t.isTp := by
          rcases ia.yld x q v H3 yy with ⟨e3, r⟩ | ⟨zw, p, ws, ds, hp, e3, ev, ex, dd⟩
          · subst e3; exact ⟨Step.refl t2.sc, .inl r⟩
          · subst e3 ev ex
            exact ⟨Step.laid t2.sc hp, .inr ⟨hwk zw, p, ws, ds, rfl, .of upd_same, rfl, DenAll.laid t2.sc hp dd⟩⟩
        obtain ⟨t3, rx⟩ := h3
        have h2 := Post.bind (Post.step t3 h2)
        have hfx : f x δ2 st2 = match bindT t x δ2 with
            | none => Out.bad
            | some σ' => evSs C b σ' st2 := by rw [← hf]
        rw [hfx] at h2
        cases qb : bindT t x δ2 with
        | none => rw [qb] at h2; exact h2.elim
        | some δ3 =>
          rw [qb] at h2
          refine gT_runW (d2.step t2.sc t3) rx qb fun σ3 d3 _ => ⟨F, φ2, st2, δ3, t3.sc, d3, (h2.ex (exOf_free hW σ σ3)).imp fun fl φ4 st4 H4 t4 h4 => ?_⟩
          cases fl with
          | nx δ4 => exact fun σ4 d4 => ⟨φ4, st4, δ4, by omega, (t2.trans t3).trans t4, d4, h4⟩
          | ct δ4 => exact fun σ4 d4 => ⟨φ4, st4, δ4, by omega, (t2.trans t3).trans t4, d4, h4⟩
          | bk δ4 => exact h4 φ4 H4 (Step.refl t4.sc)
          | rt v => exact fun u ru => h4 φ4 H4 (Step.refl t4.sc) u (RU.weak (fun a n => (t2.trans t3).al a n) ru)
theorem ds_while (hW : WFree P.W) {c : E} {b : List S} {D : Ends} {σ : L2.St} {H : Hp} (h : tS X.K P C (.wh c b) D σ H) : tWhile (tT X.K P C c) (tSs X.K P C b) D σ H := by
  obtain ⟨F, φ, st, δ, s0, d, h⟩ := h
  simp only [evS] at h
  refine ⟨fun m σ2 H2 => ∃ φ2 st2 δ2, Step X.K F φ st H φ2 st2 H2 ∧ Sl X.K F φ2 st2 H2 δ2 σ2 ∧ Post X.K F (exOf P.XR P.W σ) φ2 st2 H2 (whileL (evB C c) (evSs C b) m δ2 st2) (endS X.K F H D),
    ⟨C.lf, φ, st, δ, Step.refl s0, d, h⟩, ?_⟩
  rintro m σ2 H2 ⟨φ2, st2, δ2, t2, d2, h2⟩
  cases m with
  | zero => exact h2.elim
  | succ m =>
    simp only [whileL, evB] at h2
    refine ⟨F, φ2, st2, δ2, t2.sc, d2, ((Post.bind (Post.bind h2)).ex (exOf_free hW σ σ2)).imp fun v φ3 st3 H3 t3 h3 => ?_⟩
    obtain ⟨r, e, q⟩ := h3.lift
    refine ⟨r, e, ?_⟩
    have q := q φ3 H3 (Step.refl t3.sc)
    cases r with
    | false => exact iteF (q φ3 H3 (Step.refl t3.sc) σ2 (d2.step t2.sc t3))
    | true =>
      refine iteT ⟨fun σ4 H4 => ∃ φ2 st2 δ2, Step X.K F φ st H φ2 st2 H4 ∧ Sl X.K F φ2 st2 H4 δ2 σ4 ∧ Post X.K F (exOf P.XR P.W σ) φ2 st2 H4 (whileL (evB C c) (evSs C b) m δ2 st2) (endS X.K F H D),
        fun σ' H' h' => ⟨m, Nat.lt_succ_self m, h'⟩, F, φ3, st3, δ2, t3.sc, d2.step t2.sc t3, ((Post.bind q).ex (exOf_free hW σ σ2)).imp fun fl φ4 st4 H4 t4 h4 => ?_⟩
      cases fl with
      | nx δ4 => exact fun σ4 d4 => ⟨φ4, st4, δ4, (t2.trans t3).trans t4, d4, h4⟩
      | ct δ4 => exact fun σ4 d4 => ⟨φ4, st4, δ4, (t2.trans t3).trans t4, d4, h4⟩
      | bk δ4 => exact h4 φ4 H4 (Step.refl t4.sc)
      | rt v => exact fun u ru => h4 φ4 H4 (Step.refl t4.sc) u (RU.weak (fun a n => (t2.trans t3).al a n) ru)
end
end MP
set_option maxHeartbeats 2000001
/-! Xn1: a def whose body begins with super().__init__(..), over an exception that is being made. -/
namespace MX
open PySem PySem.Spec
      PyProof.Rows L2
/-- the names of such a def: its parameters, and the class that it stands in -/
structure SupS (ps : List Str) (sc : Scope) : Prop where
  nd : ps.Nodup
  kind : sc.kind = .function
  co : sc.isCoroutine = false
  gen : sc.isGenerator = false
  noc : ∀ y ∈ sc.names, y.2 ≠ .cell
  fre : ∀ y ∈ sc.names, y.2 = .free → y.1 = "__class__"
  par : ∀ y ∈ ps, sc.names.lookup y = some .local
  cls : sc.names.lookup ("__class__" : Str) = some .free
  sup : sc.names.lookup ("super" : Str) = some .globalImplicit
def supSB (ps : List Str) (sc : Scope) : Bool :=
  decide ps.Nodup && (decide (sc.kind = .function) && (!sc.isCoroutine && (!sc.isGenerator && ((sc.names.all fun y => !decide (y.2 = .cell) && (!decide (y.2 = .free) || decide (y.1 = "__class__"))) &&
    ((ps.all fun y => decide (sc.names.lookup y = some .local)) && (decide (sc.names.lookup ("__class__" : Str) = some .free) && decide (sc.names.lookup ("super" : Str) = some .globalImplicit)))))))
theorem supS_by {ps : List Str} {sc : Scope} (h : supSB ps sc = true) : SupS ps sc := by
  unfold supSB at h
  simp only [Bool.and_eq_true,
        Bool.or_eq_true, Bool.not_eq_true', decide_eq_true_eq, decide_eq_false_iff_not, List.all_eq_true] at h
  obtain ⟨h1, h2, h3, h4, h5, h6, h7, h8⟩ := h
  exact ⟨h1, h2, h3, h4, fun y hy => (h5 y hy).1, fun y hy e => (h5 y hy).2.elim (fun n => absurd e n) id, h6, h7, h8⟩
abbrev sEnv (q : Str) (sc : Scope) (L f : Addr) (cd : Value) (cc : Addr) : Env := PySem.W.ksEnv q sc L f cd cc
/-- the context
      of its body -/
def supCx (CX : CXT) (P : Program) (w : World) (K : PySem.W.Frag) (mg : Str → Option Value) (base : Heap) (ps : List Str) (q : Str) (sc : Scope) (f : Addr) (cd : Value) (cc : Addr) (A : Around) (outer : List Env) (s : Shared) (H : Hp) (E : XK) : Cx where
  prog := P
  w := w
  K := K
  mg := mg
  base := base
  A := A.deeper (sEnv q sc s.heap.objs.size f cd cc)
  N := ps
  s_0 := s
  H_0 := H
  env := sEnv q sc s.heap.objs.size f cd cc
  outer := outer
  stack := sEnv q sc s.heap.objs.size f cd cc :: outer
  ex := []
  fn := fun _ => false
  calm := true
  pn := []
  xe := fun e s' => wpAny (model P w) (A.deeper (sEnv q sc s.heap.objs.size f cd cc)) (leaving (sEnv q sc s.heap.objs.size f cd cc) e) (fun _ s2 => CX outer H s E e s2) (fun e' s2 => CX outer H s E e' s2) s'
theorem zip_look : ∀ {ps : List Str} {us : List Value} {i : Nat} {y : Str} {u : Value}, ps.Nodup → ps[i]? = some y → us[i]? = some u → (ps.zip us).reverse.lookup y = some u := by
  intro ps us i y u nd hp hu
  have key : ∀ {l : List (Str × Value)}, (y, u) ∈ l → (∀ v, (y, v) ∈ l → v = u) → l.lookup y = some u := by
    intro l
    induction l with
    | nil => intro h _; cases h
    | cons p l ih =>
      intro h k
      obtain ⟨a, b⟩ := p
      by_cases e : y = a
      · subst e
        have := k b (List.mem_cons_self ..)
        subst this
        simp [List.lookup]
      · have e' : (y == a) = false := by simpa using e
        simp only [List.lookup, e']
        refine ih ?_ fun v hv => k v (List.mem_cons_of_mem _ hv)
        rcases List.mem_cons.mp
              h with z | z
        · cases z; exact absurd rfl e
        · exact z
  have hm : (y, u) ∈ ps.zip us := by
    refine List.mem_of_getElem? (i := i) ?_
    rw [List.getElem?_zip_eq_some]
    exact ⟨hp, hu⟩
  refine key (List.mem_reverse.mpr hm) fun v hv => ?_
  obtain ⟨j, hj⟩ := List.getElem?_of_mem (List.mem_reverse.mp hv)
  rw [List.getElem?_zip_eq_some] at hj
  have : j = i := nodup_ix nd hj.1 hp
  subst this
  rw [hu] at hj
  exact (Option.some.inj hj.2).symm
section
variable {CX : CXT} {P : Program} {w : World} {K : PySem.W.Frag} {mg : Str → Option Value} {base : Heap} {ps : List Str} {q : Str} {sc : Scope} {f cc D : Addr} {cd : Value} {A : Around} {outer : List Env} {s : Shared} {H : Hp} {E : XK} {us : List Value} {vs : List V}
/-- the class's cell -/
def CellIn (K : PySem.W.Frag) (cc D : Addr) : Prop := ∃ cl cld csl, K.lookup cc = some ⟨cl, cld, .cell (some (.ref D)), csl⟩
theorem sup_inv (S : SupS ps sc) (hd : A.handled = none) (e0 : Env0 P w K mg base A outer s H) (hl : vs.length = ps.length) (r : Vals vs us) (hc : CellIn K cc D) {h1 : Heap} {t1 : Nat}
    (hns : h1.Ns s.heap.objs.size fun x => (ps.zip us).reverse.lookup x) (kp : ∀ b o, s.heap.get? b = some o → h1.get? b = some o) :
    Inv (supCx CX P w K mg base ps q sc f cd cc A outer s H E) [] (vs.map some) H { s with heap := h1, toks := t1 } := by
  obtain ⟨cl, cld, csl, hcc⟩ := hc
  have hb : base.get? cc = some ⟨cl, cld, .cell (some (.ref D)), csl⟩ := e0.mod.kin _ _ hcc
  have noA : ∀ b : Addr, b ∉ (supCx CX P w K mg base ps q sc f cd cc A outer s H E).ex := fun b z => absurd (show b ∈ ([] : List Addr) from z) (by simp)
  have cm : ∀ {y : Str} {c : Addr}, (supCx CX P w K mg base ps q sc f cd cc A outer s H E).env.cells.lookup y = some c → y = "__class__" ∧ c = cc := fun {y c} e => by
    have e : List.lookup y [(("__class__" : Str), cc)] = some c := e
    by_cases h : y = "__class__"
    · subst h
      simp [List.lookup] at e
      exact ⟨rfl, e.symm⟩
    · have h' : (y == ("__class__" : Str)) = false := by simpa using h
      simp only [List.lookup, h'] at e
      cases e
  refine ⟨⟨e0.mod, S.kind, rfl, rfl, Nat.le_refl _, fun y z c h1 h2 => by rw [(cm h1).1, (cm h2).1], fun y hy => ?_, fun y c z _ => ?_, fun _ => hd, Around.frames_deeper e0.frames, .inr ⟨rfl, rfl⟩, fun b z => absurd z (noA b), e0.bs, e0.bsz, fun b _ _ => noA b,
      fun b z => absurd z (noA
            b), e0.funs, e0.frf⟩,
    rfl, e0.bare, Un.kept kp, ⟨_, hns, fun i y v e1 e2 e3 => ?_⟩, fun y c e => ?_, e0.hok.fresh (Nat.le_refl _), fun y c e => ?_, fun p hp => absurd (show p ∈ ([] : List (Addr × Obj)) ++ [] from hp) (by simp), e0.hok.kept kp, ?_⟩
  · have hy : sc.names.lookup y = some .cell ∨ sc.names.lookup y = some .free := hy
    rcases hy with hy | hy
    · exact absurd rfl (S.noc _ (PySem.mem_of_lookup hy))
    · have := S.fre _ (PySem.mem_of_lookup hy) rfl
      have this : y = "__class__" := this
      subst this
      exact ⟨cc, by show List.lookup _ [(("__class__" : Str), cc)] = _; simp [List.lookup]⟩
  · have z : false = true := z
    cases z
  · have e1 : ps[i]? = some y := e1
    have hv : vs[i]? = some v := by
      rw [List.getElem?_map] at e2
      cases k : vs[i]? with
      | none => rw [k] at e2; cases e2
      | some a => rw [k] at e2; cases e2; rfl
    obtain ⟨u, hu, rv⟩ := r.get hv
    exact ⟨u, rv, .inl ⟨S.par y (List.mem_of_getElem? e1), zip_look S.nd e1 hu⟩⟩
  · obtain ⟨_, rfl⟩ := cm e
    exact ⟨_, _, kp _ _ (e0.bs _ _ hb).1, rfl⟩
  · obtain ⟨_, rfl⟩ := cm e
    exact (e0.bs _ _ hb).2
  · rw [List.length_map]; exact hl
end
end MX
set_option maxHeartbeats 2000001
/-! Xn2: super().__init__(..), step by step. -/
namespace MX
open PySem PySem.Spec
      PyProof.Rows L2
/-- what is known where super() is said: the def f of the class at D -/
structure SupX (X : Cx) (f cda cc D : Addr) (fd : FuncData) (me : Str) : Prop where
  fu : X.env.func = some f
  co : X.env.code = .ref cda
  ce : X.env.cells.lookup ("__class__" : Str) = some cc
  ks : X.env.kindOf "super" = some .globalImplicit
  kc : X.env.kindOf "__class__" = some .free
  km : X.env.kindOf me = some .local
  n0 : X.N[0]? = some me
  fn : ∃ oc od osl, X.K.lookup f = some ⟨oc, od, .func fd, osl⟩
  ar : ∃ ar, (fd.params.posonlyargs ++ fd.params.args).head? = some ar ∧ ar.arg = me
  code : ∃ cl cdd vs ccs file tf, X.K.lookup cda = some ⟨cl, cdd, .fields vs, ccs⟩ ∧ vs[2]? = some (.str file tf) ∧ ((X.prog.main.file : Str) == file) = true
  cell : CellIn X.K cc D
  cls : ∃ cd, PySem.W.clsIn X.K D = some cd
  top : (X.prog.main.scope.names.lookup ("super" : Str)).isSome = false
  mg : X.mg "super" = none
section
variable {X : Cx} {pins : List (Addr × Obj)} {σ : L2.St} {H : Hp} {s : Shared} {f cda cc D a C : Addr} {fd : FuncData} {me : Str} {ox : Obj} {A : Around} {E : Value → Shared → Prop} {body : List Stmt}
theorem cls_at {K : PySem.W.Frag} {h : Heap} {D : Addr} {cd : ClassData} (X : K.In h) (e : PySem.W.clsIn K D = some cd) : ∃ oD, h.get? D = some oD ∧ oD.data = .cls cd := by
  unfold PySem.W.clsIn at e
  split at e
  · rename_i c d cd' sl ho
    cases e
    exact ⟨_, X _ _ ho, rfl⟩
  · cases e
theorem me_look (I : Inv X pins σ H s) {i : Nat} {me : Str} {v : V} (hn : X.N[i]? = some me) (hk : X.env.kindOf me = some .local) (hσ : σ[i]? = some (some v)) : ∃ m u, s.heap.Ns X.env.locals m ∧ RelV v u ∧ m me = some u := by
  obtain ⟨m, h1, h2⟩ := I.loc
  obtain ⟨u, r, q⟩ := h2 i me v hn hσ (.inl hk)
  rcases q with ⟨_, q⟩ | ⟨q, _⟩
  · exact ⟨m, u, h1, r, q⟩
  · rw [hk] at q
    rcases q with q | q <;> cases q
theorem sup_attr (T : SupX X f cda cc D fd me) (I : Inv X pins σ H s) (hσ : σ[0]? = some (some (.ref a))) (ho : s.heap.get? a = some ox) (hcls : ox.cls = .ref C) (hnc : ∀ c, ox.data ≠ .cls c) (hsub : PySem.W.mroIn X.K C (.ref D) = some true)
    {p0 p1 : Pos} {attr : Str} {whole : Sem Value} {Q : Value → Shared → Prop} (hat : (attr == ("__class__" : Str)) = false)
    (h : ∀ so h', h'.get? so = some (PySem.W.ks_superObj D a C) → (∀ y o, s.heap.get? y = some o → h'.get? y = some o) → Inv X pins σ H { s with heap := h' } → Q (.ref so) { s with heap := h' }) :
    _root_.PySem.wpAt (model X.prog X.w) X.A (.func body X.env) (attributeBase (.Call (.Name "super" p0) [] [] p1) attr X.env whole) Q E s := by
  obtain ⟨oc, od, osl, hf⟩ := T.fn
  obtain ⟨ar, ha1, ha2⟩ := T.ar
  obtain ⟨cl, cdd, vs, ccs, file, tf, hc1, hc2, hc3⟩ := T.code
  obtain ⟨cl', cld, csl, hcell⟩ := T.cell
  obtain ⟨cdD, hcd⟩ := T.cls
  obtain ⟨oD, hD1, hD2⟩ := cls_at I.kIn hcd
  obtain ⟨mb, hb1, hb2⟩ := I.mod.blt
  obtain ⟨m, u, hm1, hm2, hm3⟩ := me_look I T.n0 T.km hσ
  obtain rfl : u = Value.ref a := hm2
  have kin := I.kIn
  refine ks_wpAt_super_base (prog := X.prog) (w := X.w) T.ks T.kc hat T.fu (kin _ _ hf) rfl ha1 T.co (kin _ _ hc1) rfl hc2 hc3 T.top ?_
  refine PySem.W.ks_loadName_global I.ok.kind T.ks (Calls.loadGlobal_builtin (by rw [I.ok.glob]; exact I.mod.glob.keeps I.bk) T.mg (by rw [I.ok.blt]; exact hb1.keeps I.bk) ((hb2 "super" (by decide)).trans (by decide +kernel)) ⟨rfl, ?_⟩)
  refine wpAny_loadName_free I.ok.kind T.kc T.ce ⟨_, kin _ _ hcell, rfl⟩ ?_
  rw [ha2]
  refine wpAny_loadName_local I.ok.kind T.km hm1 hm3 ?_
  obtain ⟨hh, g, d, t, os⟩ := s
  refine ks_wpAny_isType_cls
        hD1 hD2 ⟨rfl, ?_⟩
  exact ks_wpAny_call_super hD1 hD2 ho hcls hnc (PySem.W.looks_mroIn kin hsub) fun h' e k => h _ h' e k (I.kept k)
end
end MX
set_option maxHeartbeats 2000001
/-! Xn3: the method behind super(), called. -/
namespace MX
open PySem PySem.Spec
      PyProof.Rows L2
section
variable {prog : Program} {w : World} {A : Around} {E : Value → Shared → Prop} {h : Heap} {g : Array GenState} {dr : Drawn} {tk : Nat} {os : OsState}
variable {nm qn : Str} {C N : Addr} {bs bm : List Value} {hdct : Bool} {sn : List Str} {sub : List Value} {ab : Bool} {col : Option Bool} {dd : Option Addr} {k0 k1 k2 k3 k5 : Option Value}
/-- ValueError.__init__ bound to an exception of the class at C, called -/
theorem mw_call {u a t : Addr} {dv : Option Addr} {rest : List Value} {Q : Value → Shared → Prop}
    (hC : h.get? C = some (excClassObj nm qn C N bs bm hdct sn sub ab col dd k0 k1 k2 k3 k5 "ValueError.__new__")) (he : h.get? a = some (PySem.W.excObj C t dv .none)) (hu : h.get? u = some (PySem.W.kxs_mw "ValueError.__init__" a)) (hz : rest.length ≤ sizeLine)
    (hq : ∀ h' t', (∀ b o, b ≠ a → h.get? b = some o → h'.get? b = some o) → h'.get? a = some (PySem.W.excObj C t' dv .none) → Q .none ⟨h', g, dr, tk, os⟩) :
    wpAny (model prog w) A (call (.ref u) rest) Q E ⟨h, g, dr, tk, os⟩ := by
  have e1 : (Value.type "method-wrapper" == Value.type "method" || Value.type "method-wrapper" == Value.type "builtin_function_or_method" || Value.type "method-wrapper" == Value.type "method-wrapper") = true := by decide
  have FB := F.excBase_ValueError
  have tail : codeAny (model prog w) A (.builtin "ValueError.__init__" ⟨.ref a :: rest, []⟩) (fun r s' => match r with | .ok (.ret v) => Q v s' | .ok _ => False | .error e => E e s') ⟨h, g, dr, tk, os⟩ :=
    codeAny_builtin FB.initEntry (PySem.W.exc_init_tree (cls := .ref C) (t0 := t) (dv := dv) (c2 := .none) (c3 := .none) (b4 := .bool false) he hz fun h' k e' _ => hq h' _ k e')
  refine wpAny_call (codeAny_of_tree (show wpAny _ A.in1 (callAny (.ref u) ⟨rest, []⟩) _ _ _ from ?_))
  simp only [callAny]
  refine wpAny_bind
        (wpAny_load hu ?_)
  simp only [PySem.W.kxs_mw, e1, if_true]
  exact PySem.W.KFB.if_so (by decide) (wpAny_bind (PySem.W.check_bound_init FB.toExcCallFacts hC he rfl (wpAny_bind (wpAny_pure (wpAny_pure ⟨plainId_quiet FB.init.plain _, tail⟩)))))
end
end MX
set_option maxHeartbeats 2000001
/-! Xn4: the statement super().__init__(e), over the hand layer. -/
namespace MX
open PySem PySem.Spec PyProof.Rows L2 ClX
/-- the class C, seen from the class at D: nothing stands between D and a built-in __init__ -/
structure SupV (K : PySem.W.Frag) (C D : Addr) : Prop where
  oc : OexC K C
  sub : PySem.W.mroIn K C (.ref D) = some true
  op : PySem.W.nsIn K cStatics "thirdparty.any" = some none
  mv : PySem.W.ks_superIn K C D "__init__" = some (some (.builtin "ValueError.__init__"))
  sv : PySem.W.subIn K (.ref C) (.type "ValueError") = some true
/-- .. or the def at g stands there -/
structure SupO (K : PySem.W.Frag) (C D g : Addr) : Prop where
  oc : OexC K C
  sub : PySem.W.mroIn K C (.ref D) = some true
  op : PySem.W.nsIn K cStatics "thirdparty.any" = some none
  mv : PySem.W.ks_superIn K C D "__init__" = some (some (.ref g))
  tg : PySem.W.typeIn K (.ref g) = some (.type "function")
  fg : PySem.W.fnIn K g = true
section
variable {X : Cx} {pins : List (Addr × Obj)} {σ : L2.St} {H : Hp} {s : Shared} {f cda cc D a C : Addr} {fd : FuncData} {me : Str} {A : Around} {E : Value → Shared → Prop} {body : List Stmt} {dd : Option Addr}
theorem superIn_cls {K : PySem.W.Frag} {C D : Addr} {n : Str} {r : Option Value} (e : PySem.W.ks_superIn K C D n = some r) : ∃ cd, PySem.W.clsIn K C = some cd ∧ PySem.W.alongIn K n ((cd.mro.dropWhile (· != .ref D)).drop 1) = some r := by
  unfold PySem.W.ks_superIn at e
  cases q : PySem.W.clsIn K C with
  | none => rw [q]
        at e; cases e
  | some cd => rw [q] at e; exact ⟨cd, rfl, e⟩
theorem exo_ne {K : PySem.W.Frag} {h : Heap} {cd : ClassData} {ox : Obj} (X : K.In h) (hc : PySem.W.clsIn K C = some cd) (ha : h.get? a = some ox) (hd : ∃ vs, ox.data = .fields vs) : a ≠ C := by
  rintro rfl
  obtain ⟨oC, h1, h2⟩ := cls_at X hc
  rw [ha] at h1
  cases h1
  obtain ⟨vs, hd⟩ := hd
  rw [hd] at h2
  cases h2
theorem upd_self {H : Hp} {a : Addr} {o : HO} (e : H a = some o) : upd H a o = H := by
  funext b
  by_cases hb : b = a
  · rw [hb, upd_same, e]
  · rw [upd_ne hb]
variable {p0 p1 p2 p3 p4 : Pos} {pl : Sem Bool} {e : Expr} {te : TE} {Q : Flow → Shared → Prop}
/-- the statement's way to the method that super() finds: R, what is wished of (method, arguments ahead) -/
theorem sup_way (T : SupX X f cda cc D fd me) (I : Inv X pins σ H s) (hσ : σ[0]? = some (some (.ref a))) (ea : H a = some (exo a C dd)) (hsub : PySem.W.mroIn X.K C (.ref D) = some true)
    (he : eval (.Call (.Attribute (.Call (.Name "super" p0) [] [] p1) "__init__" p2) [e] [] p3) X.env = (do
      let ov ← attributeBase (.Call (.Name "super" p0) [] [] p1) "__init__" X.env (eval (.Call (.Name "super" p0) [] [] p1) X.env)
      standAt p2.atName
      let (fu, first) ← holding [ov] (getMethod ov "__init__" pl)
      callWith p3 fu first (backTo p3 (starEach [e] X.env)) []) := by rfl)
    (h : ∀ so h', h'.get? so = some (PySem.W.ks_superObj D a C) → Inv X pins σ H { s with heap := h' } →
      wpAny (model X.prog X.w) X.A (getMethod (.ref so) "__init__" pl) (fun fx s2 => wpAny (model X.prog X.w) X.A (callWith p3 fx.1 fx.2 (backTo p3 (starEach [e] X.env)) []) (fun _ => Q .next) E s2) E { s with heap := h' }) :
    _root_.PySem.wpAt (model X.prog X.w) X.A (.func body X.env) (exec (.Expr (.Call (.Attribute (.Call (.Name "super" p0) [] [] p1) "__init__" p2) [e] [] p3) p4) X.env) Q E s := by
  obtain ⟨t1, ho⟩ := exo_at I.hok ea
  refine ks_wpAt_Expr_any (ks_wpAt_MethodCall (sup_attr T I hσ ho rfl (fun c z => by cases z) hsub (by decide) fun so h' hso k I1 => ?_) he) I.quiet rfl
  exact h so h' hso I1
theorem args_one (h : PE X e te) (I : Inv X pins σ H s) {QQ : VK} {Q : List Value → Shared → Prop} (q : te σ H QQ) (k : ∀ x H1 u s1, Inv X pins σ H1 s1 → RelV x u → QQ x H1 → Q [u] s1) : wpAny (model X.prog X.w) X.A (spliced [(false, eval e X.env)]) Q X.xe s :=
  Calls.spliced_cons (thn (h.run pins s σ H _ I q) fun u s1 ⟨x, H1, I1, r1, q1⟩ => Calls.spliced_nil (k x H1 u s1 I1 r1 q1))
theorem sup_V (T : SupX X f cda cc D fd me) (V : SupV X.K C D) (I : Inv X pins σ H s) (hσ : σ[0]? = some (some (.ref a))) (ea : H a = some (exo a C none)) (ha : PE X e te) (hs : starEach [e] X.env = [(false, eval e X.env)])
    (he : eval (.Call (.Attribute (.Call (.Name "super" p0) [] [] p1) "__init__" p2) [e] [] p3) X.env = (do
      let ov ← attributeBase (.Call (.Name "super" p0) [] [] p1) "__init__" X.env (eval (.Call (.Name "super" p0) [] [] p1) X.env)
      standAt p2.atName
      let (fu, first) ← holding [ov] (getMethod ov "__init__" pl)
      callWith p3 fu first (backTo p3 (starEach [e] X.env)) []))
    (q : te σ H fun _ H1 => H1 a = some (exo a C none) ∧ ∀ s1, Inv X pins σ H1 s1 → Q .next s1) :
    _root_.PySem.wpAt (model X.prog X.w) X.A (.func body X.env) (exec (.Expr (.Call (.Attribute (.Call (.Name "super" p0) [] [] p1) "__init__" p2) [e] [] p3) p4) X.env) Q X.xe s := by
  refine sup_way T I hσ ea V.sub he fun so h' hso I1 => ?_
  obtain ⟨cd, hcd, hal⟩ := superIn_cls V.mv
  obtain ⟨t1, ho⟩ := exo_at I1.hok ea
  have kin := I1.kIn
  obtain ⟨hh, g, dr, tk, os⟩ := s
  have kin : X.K.In h' := kin
  have ho : h'.get? a = some _ := ho
  have J : PySem.W.InstAt h' a ({ cls := .ref C, dict := none, data := .fields #[.ref t1, .none, .none, .none, .bool false, .none] } : Obj) C none := ⟨ho, rfl, rfl, trivial⟩
  have hI : PySem.W.Looks (model X.prog X.w) h' (isInstance (.ref a) (.type "ValueError")) true := J.type.andThen (PySem.W.looks_subIn kin V.sv)
  have hM : PySem.W.Looks (model X.prog X.w) h' (mroOf (.ref C)) cd.mro := (PySem.W.looks_clsIn kin hcd).andThen .now
  refine PySem.W.kxs_getMethod PySem.W.kxs_ValueError hso (PySem.W.looks_opaque kin V.op) hM rfl kin hal hI (exo_ne kin hcd ho ⟨_, rfl⟩) (by decide) ?_
  have I2 : Inv X ((h'.objs.size, PySem.W.kxs_mw "ValueError.__init__" a) :: pins) σ H ⟨h'.push (PySem.W.kxs_mw "ValueError.__init__" a), g, dr, tk + 1, os⟩ :=
    pin_new I1 (fun b u z => Heap.get?_push_of_some _ z) (Nat.le_refl _) (Heap.get?_push_size _ rfl) (fun v z => nomatch z)
  refine PySem.W.kxs_callWith (i := "ValueError.__init__") (x := a) (by rw [hs]; rfl) ?_
  rw [hs]
  refine Calls.evalArgs_plain (args_one ha I2 q fun x H1 u s1 I3 r q1 => ?_)
  obtain ⟨e1, q1⟩ := q1
  obtain ⟨t2, ho2⟩ := exo_at I3.hok e1
  obtain ⟨nm, qn, N, bs, bm, sn, sub, ab, col, dd, k0, k1, k2, k3, k5, hC, _⟩ := V.oc.cls
  have hp := pin_at I3
  refine ⟨hp, ?_⟩
  have I4 := unpin I3
  obtain ⟨hh4, g4, dr4, tk4, os4⟩ := s1
  refine mw_call (I4.kIn _ _ hC) ho2 hp (by show 1 ≤ sizeLine; decide) fun h5 t5 k5 e5 => ?_
  have J5 := I4.write (t' := tk4) (x := a) (e := a) (o := exo a C none) (by rw [e1]; exact True.intro) (.inl rfl) k5 ⟨_, e5⟩ (exo_ok e5)
  rw [upd_self e1] at J5
  exact q1 _ J5
end
end MX
set_option maxHeartbeats 2000001
/-! Xn5: super().__init__(e) where an own def stands behind it. -/
namespace MX
open PySem PySem.Spec PyProof.Rows L2 ClX
section
variable {X : Cx} {pins : List (Addr × Obj)} {σ : L2.St} {H : Hp} {s : Shared} {f cda cc D a C g : Addr} {fd fdG : FuncData} {me : Str} {body : List Stmt} {dd : Option Addr} {CX : CXT} {k : Nat} {psG : List Str} {sp : Sp}
variable {p0 p1 p2 p3 p4 : Pos} {pl : Sem Bool} {e : Expr} {te : TE} {Q : Flow → Shared → Prop}
theorem sup_O (T : SupX X f cda cc D fd me) (V : SupO X.K C D g) (G : FnOk X.prog X.w X.K X.mg X.base CX k g fdG psG sp) (hb : Binds X.K fdG psG []) (hr : Room k X.A) (hx : Passes CX X fun _ _ _ => False)
    (I : Inv X pins σ H s) (hσ : σ[0]? = some (some (.ref a))) (ea : H a = some (exo a C dd)) (ha : PE X e te) (hs : starEach [e] X.env = [(false, eval e X.env)])
    (he : eval (.Call (.Attribute (.Call (.Name "super" p0) [] [] p1) "__init__" p2) [e] [] p3) X.env = (do
      let ov ← attributeBase (.Call (.Name "super" p0) [] [] p1) "__init__" X.env (eval (.Call (.Name "super" p0) [] [] p1) X.env)
      standAt p2.atName
      let (fu, first) ← holding [ov] (getMethod ov "__init__" pl)
      callWith p3 fu first (backTo p3 (starEach [e] X.env)) []))
    (q : te σ H fun x H1 => sp [.ref a, x] H1 (fun _ H2 => ∀ s1, Inv X pins σ H2 s1 → Q .next s1) fun _ _ _ => False) :
    _root_.PySem.wpAt (model X.prog X.w) X.A (.func body X.env) (exec (.Expr (.Call (.Attribute (.Call (.Name "super" p0) [] [] p1) "__init__" p2) [e] [] p3) p4) X.env) Q X.xe s := by
  refine sup_way T I hσ ea V.sub he fun so h' hso I1 => ?_
  obtain ⟨cd, hcd, hal⟩ := superIn_cls V.mv
  obtain ⟨t1, ho⟩ := exo_at I1.hok ea
  have kin := I1.kIn
  obtain ⟨hh, g0, dr, tk, os⟩ := s
  have kin : X.K.In h' := kin
  have ho : h'.get? a = some _ := ho
  obtain ⟨of, hof, hofc⟩ : ∃ of, h'.get? g = some of ∧ of.cls = .type "function" := by
    have ht : (X.K.lookup g).map (·.cls) = some (.type "function") := V.tg
    cases z : X.K.lookup g with
    | none => rw [z] at ht; cases ht
    | some of => rw [z] at ht; exact ⟨of, kin _ _ z, Option.some.inj ht⟩
  have hM : PySem.W.Looks (model X.prog X.w) h' (mroOf (.ref C)) cd.mro := (PySem.W.looks_clsIn kin hcd).andThen .now
  refine ks_wpAny_getMethod_super hso (PySem.W.looks_opaque kin V.op) hM rfl kin hal hof hofc (exo_ne kin hcd ho ⟨_, rfl⟩) (by decide) ?_
  have I2 : Inv X ((h'.objs.size, PySem.W.methodObj (.ref g) (.ref a)) :: pins) σ H ⟨h'.push (PySem.W.methodObj (.ref g) (.ref a)), g0, dr, tk + 1, os⟩ :=
    pin_new I1 (fun b u z => Heap.get?_push_of_some _ z) (Nat.le_refl _) (Heap.get?_push_size _ rfl) (fun v z => nomatch z)
  refine PySem.W.callWith_of (P := PySem.W.MethP X.K h'.objs.size g (.ref a)) (by rw [hs]; rfl) (fun h hP => PySem.W.keeps_M V.fg h hP) ?_
  rw [hs]
  refine Calls.evalArgs_plain (args_one ha I2 q fun x H1 u s1 I3 r q1 => ?_)
  have hp := pin_at I3
  refine ⟨⟨hp, I3.kIn⟩, ?_⟩
  have I4 := unpin I3
  have hv : Vals [.ref a, x] [.ref a, u] := .cons rfl (.cons r .nil)
  have hl : ([Value.ref a, u] ++ []).length = psG.length := by rw [List.append_nil, ← hv.length]; exact G.len _ _ _ _ q1
  have hB : BindsTo s1 fdG ⟨[.ref a, u], []⟩ (psG.zip [.ref a, u]) := by
    have := hb s1 [.ref a, u] I4.kIn hl
    rwa [List.append_nil] at this
  refine wpAny_call (PySem.W.method_call hp (codeAny_mono (G.run X.A X.stack s1 H1 ⟨[.ref a, u], []⟩ _ _ _ _ hr I4.env0 hB hv q1) fun r2 s2 h2 => ?_))
  cases r2 with
  | error er => exact hx pins σ H1 s1 er s2 I4 h2
  | ok fl =>
    cases fl with
    | ret v =>
      obtain ⟨v2, H2, I5, _, q2⟩ := I4.after h2
      exact q2 _ I5
    | next => exact False.elim h2
    | brk => exact False.elim h2
    | cont => exact False.elim h2
end
end MX
set_option maxHeartbeats 2000001
/-! Xn6: the __init__ of an exception class, as a def with a promise. -/
namespace MX
open PySem PySem.Spec PyProof.Rows L2 ClX
theorem upd_swap {H : Hp} {a d : Addr} {o u v : HO} (h : d ≠ a) : upd (upd (upd H d o) a u) d v = upd (upd H d v) a u := by
  funext b
  by_cases h1 : b = d
  · subst h1
    rw [upd_same, upd_ne h, upd_same]
  · rw [upd_ne h1]
    by_cases h2 : b = a
    · subst h2
      rw [upd_same, upd_same]
    · rw [upd_ne h2, upd_ne h2, upd_ne h1, upd_ne h1]
/-- what the exception's own dict tells -/
structure XdOk (n : Nat) (v : V) (nm : Str) (fs : List (Str × V)) : Prop where
  pl : fs.lookup ("place" : Str) = some v
  nm : fs.lookup ("name" : Str) = some (.str nm)
  few : fs.length ≤ n
/-- the promise of an __init__(self, place): from an exception without a dict to one with its fields -/
def spI (n : Nat) (ok : Addr → Prop) (nm : Str) : Sp := fun vs H Q _ => ∃ a C v, vs = [.ref a, v] ∧ ok C ∧ H a = some (exo a C none) ∧
  ∀ dx fs, H dx = none → dx ≠ a → XdOk n v nm fs → Q .non (upd (upd H dx (exd dx fs)) a (exo a C (some dx)))
theorem spI_len {n : Nat} {ok : Addr → Prop} {nm : Str} : ∀ vs H Q E, spI n ok nm vs H Q E → vs.length = (["self", "place"] : List Str).length := fun vs H Q E ⟨_, _, _, e, _⟩ => by rw [e]; rfl
theorem cx_no {P : Program} {w : World} {outer : List Env} {H : Hp} {s : Shared} {e : Value} {s' : Shared} : L2.CX P w outer H s (fun _ _ _ => False) e s' → False := fun h => by
  obtain ⟨_, _, _, _, _, _,
        _, _, _, _, _, _, z⟩ := h
  exact z
/-- the def's text: super().__init__(place) ahead of the rest -/
abbrev bodyI (p0 p1 p2 p3 p4 p5 : Pos) (rest : List Stmt) : List Stmt := .Expr (.Call (.Attribute (.Call (.Name "super" p0) [] [] p1) "__init__" p2) [.Name "place" p3] [] p4) p5 :: rest
/-- what is known of such a def -/
structure DefI (P : Program) (K : PySem.W.Frag) (mg : Str → Option Value) (f cda cc D : Addr) (q : Str) (params : Arguments) (body : List Stmt) (sc : Scope) (fd : FuncData) : Prop where
  fn : ∃ dV kV doc pm an ct oc od osl, fd = PySem.W.ksFn "__init__" q params body sc dV kV doc pm an (.ref cda) ct cc ∧ K.lookup f = some ⟨oc, od, .func fd, osl⟩
  cd : PySem.W.codeIn K (.ref cda) q = true
  S : SupS ["self", "place"] sc
  ar : ∃ ar, (params.posonlyargs ++ params.args).head? = some ar ∧ ar.arg = ("self" : Str)
  code : ∃ cl cdd vs ccs file tf, K.lookup cda = some ⟨cl, cdd, .fields vs, ccs⟩ ∧ vs[2]? = some (.str file tf) ∧ ((P.main.file : Str) == file) = true
  cell : CellIn K cc D
  cls : ∃ cd, PySem.W.clsIn K D = some cd
  top : (P.main.scope.names.lookup ("super" : Str)).isSome = false
  mg : mg "super" = none
section
variable {P : Program} {w : World} {K : PySem.W.Frag} {mg : Str → Option Value} {base : Heap} {f cda cc D : Addr} {q : Str} {params : Arguments} {sc : Scope} {fd : FuncData} {k : Nat} {sp : Sp} {p0 p1 p2 p3 p4 p5 : Pos} {rest : List Stmt}
theorem DefI.supX (T : DefI P K mg f cda cc D q params (bodyI p0 p1 p2 p3 p4 p5 rest) sc fd) {CX : CXT} {A : Around} {outer : List Env} {s : Shared} {H : Hp} {E : XK} :
    SupX (supCx CX P w K mg base ["self", "place"] q sc f (.ref cda) cc A outer s H E) f cda cc D fd "self" where
  fu := rfl
  co := rfl
  ce := by show List.lookup _ [(("__class__" : Str), cc)] = _; simp [List.lookup]
  ks := T.S.sup
  kc := T.S.cls
  km := T.S.par _ (by simp)
  n0 := rfl
  fn := by obtain ⟨_, _, _, _, _, _, oc, od, osl, _, h⟩ := T.fn; exact ⟨oc, od, osl, h⟩
  ar := by obtain ⟨_, _, _, _, _, _, oc, od, osl, h, _⟩ := T.fn; subst h; exact T.ar
  code := T.code
  cell := T.cell
  cls := T.cls
  top := T.top
  mg := T.mg
/-- from the first statement's end on: the rest, over the hand layer -/
theorem init_ok (T : DefI P K mg f cda cc D q params (bodyI p0 p1 p2 p3 p4 p5 rest) sc fd) (len : ∀ vs H Q E, sp vs H Q E → vs.length = (["self", "place"] : List Str).length)
    (h : ∀ (A : Around) (outer : List Env) (s : Shared) (H : Hp) (vs : List V) (Q : VK) (E : XK), Room k (A.deeper (sEnv q sc s.heap.objs.size f (.ref cda) cc)) → sp vs H Q E →
      ∀ (X : Cx), X = supCx (L2.CX P w) P w K mg base ["self", "place"] q sc f (.ref cda) cc A outer s H E → SupX X f cda cc D fd "self" → ∀ s1, Inv X [] (vs.map some) H s1 →
        ∃ t : TS, PSs X rest t ∧ _root_.PySem.wpAt (model X.prog X.w) X.A (.func (bodyI p0 p1 p2 p3 p4 p5 rest) X.env) (exec (.Expr (.Call (.Attribute (.Call (.Name "super" p0) [] [] p1) "__init__" p2) [.Name "place" p3] [] p4) p5) X.env)
          (fun fl s2 => fl = .next ∧ ∃ σ2 H2, Inv X [] σ2 H2 s2 ∧ t { nx := fun _ H' => Q .non H', rt := Q } σ2 H2) X.xe s1) :
    FnOk P w K mg base (L2.CX P w) (k + 1) f fd ["self", "place"] sp := by
  refine ⟨len, fun A outer s H
        args us vs Q E hr e0 hb r hsp => ?_⟩
  have hl := len _ _ _ _ hsp
  have KX : K.In s.heap :=
        e0.mod.kin.keeps fun b o e => (e0.bs b o e).1
  have lim : s.heap.NoLimit :=
        e0.mod.nolimit.keeps fun b o e => (e0.bs b o e).1
  obtain ⟨dV, kV, doc, pm, an, ct, oc, od, osl, rfl, lk⟩ := T.fn
  refine ks_codeAny_call_defAt hr.depth (KX _ _ lk) rfl lim (PySem.W.codeRec_of KX T.cd) rfl hb (fun y hy => T.S.noc y hy) (fun y hy => T.S.par _ (List.of_mem_zip hy).1) (fun h1 hns kp => ?_) T.S.co T.S.gen T.S.kind
  have I := sup_inv (CX := L2.CX P w) (q := q) (f := f) (cd := .ref cda) (E := E) (t1 := s.toks + ((["self", "place"] : List Str).zip us).length) T.S hr.hd e0 hl r T.cell hns kp
  obtain ⟨t, ht, hw⟩ := h A outer s H vs Q E (hr.deeper _) hsp _ rfl T.supX _ I
  refine ks_wpAt_execs_cons (ks_wpAt_mono hw (fun fl s2 q2 => ?_) fun _ _ z => z)
  obtain ⟨rfl, σ2, H2, I2, q2⟩ := q2
  refine wpAt_of_wpAny (wpAny_mono (ht.run [] s2 σ2 H2 _ I2 q2) (fun fl s3 hs => ?_) fun _ _ z => z)
  cases fl with
  | ret u =>
    obtain ⟨v, σ', H', J, rv, q3⟩ := hs
    exact ⟨v, H', J.os, J.bare, J.base, J.hok, rv, q3⟩
  | next =>
    obtain ⟨σ', H', J, q3⟩ := hs
    exact ⟨V.non, H', J.os, J.bare, J.base, J.hok, rfl, q3⟩
  | brk =>
    obtain ⟨_, _, _, q3⟩ := hs
    exact False.elim q3
  | cont =>
    obtain ⟨_, _, _, q3⟩ := hs
    exact False.elim q3
end
end MX
set_option maxHeartbeats 2000001
/-! Xn7: the two kinds of __init__: over ValueError, over an own class. -/
namespace MX
open PySem PySem.Spec PyProof.Rows L2 ClX
def noAt (K : PySem.W.Frag) (C : Addr) : Prop := PySem.W.findIn K (.ref C) "place" = some none ∧ PySem.W.findIn K (.ref C) "name" = some none
def okV (K : PySem.W.Frag) (D C : Addr) : Prop := SupV K C D ∧ noAt K C
def okO (K : PySem.W.Frag) (ok : Addr → Prop) (D g C : Addr) : Prop := SupO K C D g ∧ ok C ∧ noAt K C
abbrev setPl (q0 q1 q2 q3 : Pos) : Stmt := .Assign [.Attribute (.Name "self" q0) "place" q1] (.Name "place" q2) q3
abbrev setNm (nm : Str) (j : Nat) (q0 q1 q2 q3 : Pos) : Stmt := .Assign [.Attribute (.Name "self" q0) "name" q1] (.Constant (.str nm) j q2) q3
theorem he_line {p0 p1 p2 p3 p4 : Pos} (env : Env) (hl : (p2.endLine == p4.line) = true) : eval (.Call (.Attribute (.Call (.Name "super" p0) [] [] p1) "__init__" p2) [.Name "place" p3] [] p4) env = (do
      let ov ← attributeBase (.Call (.Name "super" p0) [] [] p1) "__init__" env (eval (.Call (.Name "super" p0) [] [] p1) env)
      standAt p2.atName
      let (fu, first) ← holding [ov] (getMethod ov "__init__" (plainOf (.Call (.Name "super" p0) [] [] p1) env))
      callWith p4 fu first (backTo p4 (starEach [.Name "place" p3] env)) []) := by
  rw [eval.eq_def]
  refine congrArg (Bind.bind _) (funext fun ov => congrArg (Bind.bind _) (funext fun _ => ?_))
  exact mcall_line (by rfl) hl
section
variable {P : Program} {w : World} {K : PySem.W.Frag} {mg : Str → Option Value} {base : Heap} {f cda cc D g : Addr} {q : Str} {params : Arguments} {sc : Scope} {fd fdG : FuncData} {k j n : Nat} {nm nm0 : Str} {p0 p1 p2 p3 p4 p5 q0 q1 q2 q3 r0 r1 r2 r3 : Pos} {ok : Addr → Prop}
theorem SupX.pe0 {X : Cx} {fd : FuncData} (T : SupX X f cda cc D fd "self") (h : X.env.kindOf "place" = some .local) (h1 : X.N[1]? = some ("place" : Str)) {p : Pos} : PE X (.Name "self" p) (tVar 0) ∧ PE X (.Name "place" p) (tVar 1) :=
  ⟨pe_var T.n0 (.inl T.km), pe_var h1 (.inl h)⟩
theorem base_ok (hl : (p2.endLine == p4.line) = true) (T : DefI P K mg f cda cc D q params (bodyI p0 p1 p2 p3 p4 p5 [setPl q0 q1 q2 q3, setNm nm j r0 r1 r2 r3]) sc fd) : FnOk P w K mg base (L2.CX P w) (k + 1) f fd ["self", "place"] (spI 2 (okV K D) nm) := by
  refine init_ok T spI_len fun A outer s H vs Q E hr hsp X hX TX s1 I => ?_
  obtain ⟨a, C, v, rfl, ⟨V, n1, n2⟩, ea, hq⟩ := hsp
  have hK : X.K = K := by rw [hX]; rfl
  have hk : X.env.kindOf "place" = some .local := by rw [hX]; exact T.S.par _ (by simp)
  have hN : X.N[1]? = some ("place" : Str) := by rw [hX]; rfl
  have V' : SupV X.K C D := by rw [hK]; exact V
  refine ⟨_, pss_cons (ps_ost (TX.pe0 hk hN).1 (TX.pe0 hk hN).2) (pss_one (ps_ost (TX.pe0 hk hN).1 pe_str)), ?_⟩
  refine sup_V TX V' I rfl ea (TX.pe0 hk hN).2 rfl (he_line X.env hl) ⟨v, rfl, ea, fun s2 I2 => ⟨rfl, _, H, I2, ?_⟩⟩
  refine ⟨v, rfl, .ref a, rfl, a, C, rfl, V'.oc, by rw [hK]; exact n1, .inl ⟨ea, fun dx hd hne => ?_⟩⟩
  refine ⟨.ref a, rfl, a, C, rfl, V'.oc, by rw [hK]; exact n2, .inr ⟨dx, _, upd_same, by rw [upd_ne hne, upd_same], by show 1 ≤ 900; decide, ?_⟩⟩
  show Q .non _
  rw [upd_swap hne]
  exact hq dx _ hd hne ⟨rfl, rfl, Nat.le_refl 2⟩
theorem more_ok (hl : (p2.endLine == p4.line) = true) (hn : n ≤ 800) (T : DefI P K mg f cda cc D q params (bodyI p0 p1 p2 p3 p4 p5 [setNm nm j r0 r1 r2 r3]) sc fd) (G : FnOk P w K mg base (L2.CX P w) k g fdG ["self", "place"] (spI n ok nm0)) (hb : Binds K fdG ["self", "place"] []) :
    FnOk P w K mg base (L2.CX P w) (k + 1) f fd ["self", "place"] (spI (n + 1) (okO K ok D g) nm) := by
  refine init_ok T spI_len fun A outer s H vs Q E hr hsp X hX TX s1 I => ?_
  obtain ⟨a, C, v, rfl, ⟨V, okC, n1, n2⟩, ea, hq⟩ := hsp
  have hK : X.K = K := by rw [hX]; rfl
  have hk : X.env.kindOf "place" = some .local := by rw [hX]; exact T.S.par _ (by simp)
  have hN : X.N[1]? = some ("place" : Str) := by rw [hX]; rfl
  have V' : SupO X.K C D g := by rw [hK]; exact V
  refine ⟨_, pss_one (ps_ost (TX.pe0 hk hN).1 pe_str), ?_⟩
  have G' : FnOk X.prog X.w X.K X.mg X.base (L2.CX P w) k g fdG ["self", "place"] (spI n ok nm0) := by rw [hX]; exact G
  have hb' : Binds X.K fdG ["self", "place"] [] := by rw [hK]; exact hb
  have hr' : Room k X.A := by rw [hX]; exact hr
  refine sup_O TX V' G' hb' hr' (fun _ _ _ _ _ _ _ h => (cx_no h).elim) I rfl ea (TX.pe0 hk hN).2 rfl (he_line X.env hl) ⟨v, rfl, a, C, v, rfl, okC, ea, fun dx fs hd hne xd s2 I2 => ⟨rfl, _, _, I2, ?_⟩⟩
  refine ⟨.ref a, rfl, a, C, rfl, V'.oc, by rw [hK]; exact n2, .inr ⟨dx, fs, upd_same, by rw [upd_ne hne, upd_same], by have := xd.few; omega, ?_⟩⟩
  show Q .non _
  rw [upd_swap hne]
  refine hq dx _ hd hne ⟨?_, rfl, by have := xd.few; show _ + 1 ≤ n + 1; omega⟩
  rw [lookup_put, if_neg (by decide)]
  exact xd.pl
end
end MX
set_option maxHeartbeats 4000001
/-! Xn8: a try with several clauses, each with a name or without. -/
namespace MX
open PySem PySem.Spec PyProof.Rows L2 ClX
abbrev SuR := Addr → Value → Option Addr → TS
def endN (D : Ends) : Option Nat → Ends
  | none => D
  | some i => { nx := fun σ' H' => D.nx (σ'.set i none) H', rt := D.rt, bk := fun σ' H' => D.bk (σ'.set i none) H', ct := fun σ' H' => D.ct (σ'.set i none) H' }
def setN (a : Addr) (σ : L2.St) : Option Nat → L2.St
  | none => σ
  | some i => σ.set i (some (.ref a))
/-- what the clauses wish of an exception of the body -/
def wOn (K : PySem.W.Frag) (Wout : WX) (D : Ends) : List (Value × Option Nat × SuR) → WX
  | [] => Wout
  | (c, i, ts) :: r => fun cls d σ H => ∃ b, PySem.W.exmOne K cls c = some b ∧ (b = true → ∀ a, H a = none → ts a cls d (endN D i) (setN a σ i) H) ∧ (b = false → wOn K Wout D r cls d σ H)
/-- a clause's name -/
def NmOk (X : Cx) : Option Str → Option Nat → Prop
  | none, none => True
  | some n, some i => X.N[i]? = some n ∧ X.env.kindOf n = some .local
  | _, _ => False
inductive HdN (X : Cx) : List ExceptHandler → List (Value × Option Nat × SuR) → Prop
  | nil : HdN X [] []
  | cons {x : Str} {c : Value} {n : Option Str} {i : Option Nat} {ts : SuR} {b₀ : Stmt} {suite : List Stmt} {np pp : Pos} {hds : List ExceptHandler} {l : List (Value × Option Nat × SuR)} (hc : Names X x c) (hn : NmOk X n i)
      (hsu : ∀ (a : Addr) (oe : Obj) (cls : Value) (d : Option Addr) (pn : List (Addr × Obj)), Zc cls d oe → (∃ vs, oe.data = .fields vs) → PSs (X.suite a ((a, oe) :: pn)) (b₀ :: suite) (ts a cls d)) (r : HdN X hds l) :
      HdN X (.ExceptHandler (some (.Name x np)) n (b₀ :: suite) pp :: hds) ((c, i, ts) :: l)
section
variable {X : Cx} {body : List Stmt} {h₀ : ExceptHandler} {hds : List ExceptHandler} {l : List (Value × Option Nat × SuR)} {pos : Pos} {tb : WX → TS} {Wout : WX}
theorem SP.endN {pins : List (Addr × Obj)} {D : Ends} {fl : Flow} {s : Shared} (h : SP X pins (endN D none) fl s) : SP X pins D fl s := h
/-- an exception in the air is looked at by the clauses -/
theorem hd_look (hs : X.stack = X.env :: X.outer) (hf : X.env.frame = some X.env.locals) (hN : X.N.Nodup) (tk : Takes X Wout) {D : Ends} {pins : List (Addr × Obj)} {a : Addr} {B : Heap} {sI s3 : Shared} {σ : L2.St} {H : Hp} {cls : Value} {d : Option Addr}
    (J : Inv X pins σ H sI) (nb : ∀ b o, sI.heap.get? b = some o → b ∉ frs X.stack → B.get? b = some o) (up : sI.heap.UpToSlots s3.heap) (fl : HandSPX.FlyingZ B (X.env :: X.outer) a (Zc cls d) s3.heap) (na : H a = none) (os : s3.os = sI.os) (ag : AllBare s3.gens) :
    ∀ {hs' : List ExceptHandler} {l' : List (Value × Option Nat × SuR)}, HdN X hs' l' → wOn X.K Wout D l' cls d σ H → wpAny (model X.prog X.w) X.A (handleBy (.ref a) X.env hs') (SP X pins D) X.xe s3 := by
  have ok := J.ok
  have J3 : Inv X pins σ H s3 := J.landed nb fl.1 up os ag
  obtain ⟨o3, v3, e3, z3, d3⟩ := fl.there
  have nfr : a ∉ frs (X.env :: X.outer) := fun hm => by
    obtain ⟨_, o', e', hnf⟩ := fl.2.2.1.mem hm
    rw [e3] at e'
    cases e'
    exact hnf _ d3
  have nL : a ≠
        X.env.locals := fun z => nfr (List.mem_filterMap.mpr ⟨X.env, List.mem_cons_self, by rw [hf, z]⟩)
  have nF : a ∉
        X.fs := fun hm => by
    obtain ⟨e, he, q⟩ :=
          List.mem_filterMap.mp hm
    exact nfr
          (List.mem_filterMap.mpr ⟨e, List.mem_cons_of_mem _ he, q⟩)
  have S3 := J3.suite e3 d3 na nL nF
  intro hs' l' hk
  induction hk with
  | nil =>
    intro w
    obtain ⟨_, _, _, oe, vs, T, oT, ts', he, _, hd, h1, _⟩ := id fl
    have fin : wpAny (model X.prog X.w) X.A (setFlight (.ref a) X.env.frame) (fun _ s4 => wpAny (model X.prog X.w) X.A (throw (.ref a) : Sem Flow) (SP X pins D) X.xe s4) X.xe s3 := by
      rw [hf]
      exact HandSPX.setFlight_upZ fl fun h4 hh4 up4 => wpAny_throw (tk _ _ ⟨a, B, sI, pins, σ, H, cls, d, rfl, J, nb, up.trans up4, .inr (.inr (by rw [hs]; exact hh4)), na, os, ag, w⟩)
    refine wpAny_handleBy_nil (show wpAny _ _ (PySem.passOn _ _ _) _ _ _ from ?_)
    unfold PySem.passOn
    refine wpAny_bind
          (wpAny_field he hd h1 ?_)
    rw [if_neg (by simp)]
    first | exact wpAny_bind (wpAny_pure (wpAny_bind fin)) | exact wpAny_bind fin
  | @cons x c n i ts b₀ suite np pp hds2 l2 hc hn hsu r ih =>
    intro w
    obtain ⟨b, hb, yes, no⟩ := w
    have LT : PySem.W.Looks (model X.prog X.w) s3.heap (typeOf (.ref a)) cls := fun A Q E s k q => wpAny_typeOf_ref (k _ _ e3) (by rw [z3.1]; exact q)
    have LM := PySem.W.exm_one (M := model X.prog X.w) J3.kIn LT hb
    have tst : ∀ {Q E : Value → Shared → Prop}, Q c s3 → wpAny (model X.prog X.w) (X.A.mark (some (.ref a))) (eval (.Name x np) X.env) Q E s3 := fun {Q E} q => by
      obtain ⟨g1, g2, g3 | ⟨g3, g4, g5⟩⟩ := hc
      · exact ld_glob (X := X.suite a ((a, o3) :: (X.pn ++ pins))) S3 g1 g3 q g2
      · exact ld_blt (X := X.suite a ((a, o3) :: (X.pn ++ pins))) S3 g1 g3 g4 q g5 g2
    refine wpAny_handleBy_cons (codeAny_handlers_test (tst (LM.here ?_))) fun z => nomatch z
    cases b with
    | false => exact (show wpAny _ X.A (handleBy (.ref a) X.env hds2) _ _ _ from ih (no rfl))
    | true =>
      match n, i, hn with
      | none, none, _ =>
        refine codeAny_handlers_suite (HandSPX.lands_againZ fl fun h4 fl4 up4 => ?_)
        have J4 : Inv X pins σ H { s3 with heap := h4 } := J.landed nb fl4.1 (up.trans up4) os ag
        obtain ⟨o4, v4, e4, z4, d4⟩ := fl4.there
        refine wpAny_mono ((hsu a o4 cls d (X.pn ++ pins) z4 ⟨_, d4⟩).run [] _ _ H _ (J4.suite e4 d4 na nL nF) (yes rfl a na)) (fun f s6 hsp => ?_) fun _ _ z => z.elim
        cases f with
        | ret u => obtain ⟨v6, σ6, H6, S6, r6, q6⟩ := hsp; exact ⟨_, _, _, S6.unsuite ok, r6, q6⟩
        | next => obtain ⟨σ6, H6, S6, q6⟩ := hsp; exact ⟨_, _, S6.unsuite ok, q6⟩
        | brk => obtain ⟨σ6, H6, S6, q6⟩ := hsp; exact ⟨_, _, S6.unsuite ok, q6⟩
        | cont => obtain ⟨σ6, H6, S6, q6⟩ := hsp; exact ⟨_, _, S6.unsuite ok, q6⟩
      | some n, some i, hn =>
        obtain ⟨hi, hln⟩ := hn
        refine codeAny_handlers_suite_as (HandSPX.lands_againZ fl fun h4 fl4 up4 => ?_)
        have J4 : Inv X pins σ H { s3 with heap := h4 } := J.landed nb fl4.1 (up.trans up4) os ag
        obtain ⟨o4, v4, e4, z4, d4⟩ := fl4.there
        refine store_ok (X := X.suite a ((a, o4) :: (X.pn ++ pins))) (v := .ref a) (J4.suite e4 d4 na nL nF) hN hi (.inl hln) rfl (fun s5 S5 => ?_) (.inr hln)
        refine wpAny_mono ((hsu a o4 cls d (X.pn ++ pins) z4 ⟨_, d4⟩).run [] s5 _ H _ S5 (yes rfl a na)) (fun f s6 hsp => ?_) fun _ _ z => z.elim
        have off : ∀ {σ6 : L2.St} {H6 : Hp} {R : Shared → Prop}, Inv (X.suite a ((a, o4) :: (X.pn ++ pins))) [] σ6 H6 s6 → (∀ s7, Inv X pins (σ6.set i none) H6 s7 → R s7) → wpAny (model X.prog X.w) X.A (do bindName X.env n .none; unbindBehindTheSuite X.env n pp) (fun _ s7 => R s7) X.xe s6 :=
          fun {σ6 H6 R} S6 hq => gone_ok (S6.unsuite ok) hN hi hln hq
        cases f with
        | ret u => obtain ⟨v6, σ6, H6, S6, r6, q6⟩ := hsp; exact off S6 fun s7 J7 => ⟨_, _, _, J7, r6, q6⟩
        | next => obtain ⟨σ6, H6, S6, q6⟩ := hsp; exact off S6 fun s7 J7 => ⟨_, _, J7, q6⟩
        | brk => obtain ⟨σ6, H6, S6, q6⟩ := hsp; exact off S6 fun s7 J7 => ⟨_, _, J7, q6⟩
        | cont => obtain ⟨σ6, H6, S6, q6⟩ := hsp; exact off S6 fun s7 J7 => ⟨_, _, J7, q6⟩
theorem ps_try_named (hs : X.stack = X.env :: X.outer) (hf : X.env.frame = some X.env.locals) (hN : X.N.Nodup) (tk : Takes X Wout)
    (hb : ∀ (W : WX) (pn : List (Addr × Obj)) (xe : Value → Shared → Prop), Takes (X.tr pn xe) W → PassesOwn (model X.prog X.w) X.A X.env xe → PSs (X.tr pn xe) body (tb W)) (hh : HdN X (h₀ :: hds) l) :
    PS X (.Try body (h₀ :: hds) [] [] pos) (fun D σ H => tb (wOn X.K Wout D l) D σ H) := by
  refine ⟨fun pins
        s σ H D I h => ?_⟩
  have ok := I.ok
  let xe : Value → Shared → Prop := fun e s₁ => wpAny (model X.prog X.w) X.A (noteFrame e X.env) (fun _ s₂ => wpAny (model X.prog X.w) X.A (setFlight e none) (fun _ s₃ => wpAny (model X.prog X.w) X.A (handleBy e X.env (h₀ :: hds)) (SP X pins D) X.xe s₃) X.xe s₂) X.xe s₁
  have tkb : Takes (X.tr (X.pn ++ pins) xe) (wOn X.K Wout D l) := fun u s' xx => by
    obtain ⟨a, B, sI, pins', σ',
          H', cls, d, rfl, J', nb, up, sky, na, os, ag, w⟩ := xx
    have sky' : Sky B (X.env ::
          X.outer) a (Zc cls d) X.env.locals s'.heap := by rw [← hs]; exact sky
    exact Sky.land Zc.steady (by rw [ok.frames, hs]) hf sky' fun h3 fl3 up3 => hd_look (s3 := { s' with heap := h3 }) hs hf hN tk (J'.ofTry ok) nb (up.trans up3) fl3 na os ag hh w
  refine wpAny_Try_except (wpAny_mono ((hb _ (X.pn ++ pins) xe tkb PassesOwn.looking).run [] s σ H D (I.toTry _) h) (fun f s1 hsp => ?_) fun e s1 he => he)
  cases f with
  | next => obtain ⟨σ', H', J', q⟩ := hsp; exact wpAny_execs_nil ⟨σ', H', J'.ofTry ok, q⟩
  | brk => obtain ⟨σ', H', J', q⟩ := hsp; exact ⟨σ', H', J'.ofTry ok, q⟩
  | cont => obtain ⟨σ', H', J', q⟩ := hsp; exact ⟨σ', H', J'.ofTry ok, q⟩
  | ret u => obtain ⟨v, σ', H', J', r, q⟩ := hsp; exact ⟨v, σ', H', J'.ofTry ok, r, q⟩
end
end MX
set_option maxHeartbeats 4000001
/-! Xn9: raise C(e); e.place, e.name. -/
namespace MX
open PySem PySem.Spec PyProof.Rows L2 ClX
/-- C(e): the exception's dict, new -/
def tMkX (n : Nat) (C : Addr) (nm : Str) (te : TE) : L2.St → Hp → XK → Prop := fun σ H Q => te σ H fun v H1 => ∀ d fs, H1 d = none → XdOk n v nm fs → Q (.ref C) (some d) (upd H1 d (.xd fs))
/-- what is known of an exception class -/
structure XcOk (P : Program) (w : World) (K : PySem.W.Frag) (mg : Str → Option Value) (base : Heap) (k n : Nat) (C : Addr) (nm : Str) : Prop where
  oc : OexC K C
  xf : XfC K C
  na : noAt K C
  fn : ∃ fI fd ok, PySem.W.findIn K (.ref C) "__init__" = some (some (.ref fI)) ∧ PySem.W.typeIn K (.ref fI) = some (.type "function") ∧ ok C ∧ FnOk P w K mg base (L2.CX P w) k fI fd ["self", "place"] (spI n ok nm) ∧ Binds K fd ["self", "place"] []
section
variable {X : Cx} {C : Addr} {nm x : Str} {k n : Nat} {e : Expr} {te : TE} {p pos : Pos}
theorem gone_xd {H1 : Hp} {a d : Addr} {o1 o2 o3 u : HO} (na : H1 a = none) : upd (del (upd (upd (upd H1 a o1) d o2) a o3) a) d u = upd H1 d u := by
  funext b
  by_cases h : b = d
  · rw [h, upd_same, upd_same]
  · rw [upd_ne h, upd_ne h]
    by_cases h2 : b = a
    · rw [h2, del_same, na]
    · rw [del_ne h2, upd_ne h2, upd_ne h, upd_ne h2]
theorem pmk_xn (T : XcOk X.prog X.w X.K X.mg X.base k n C nm) (hr : Room (k + 1) X.A) (hg : Gl X x) (hm : X.mg x = some (.ref C)) (ha : PE X e te) (hdb : (x == ("__debug__" : Str)) = false) (hs : starEach [e] X.env = [(false, eval e X.env)]) :
    ∃ ok, ok C ∧ PMk X (.Call (.Name x p) [e] [] pos) (tMkO C (spI n ok nm) [] (tCons te tNil)) := by
  obtain ⟨fI, fd, ok, h1, h2, h3, h4, h5⟩ := T.fn
  have hA : PA X [e] (tCons te tNil) := pa_cons ha pa_nil hs
  exact ⟨ok, h3, fun pins s σ H Q I h => pmk_oex (X := X) (dvs := []) (ds := []) T.oc h1 h2 h4 hr h5 .nil (fun _ _ _ _ _ _ _ z => (cx_no z).elim) hg hm hA hdb hs rfl pins s σ H Q I h⟩
theorem mk_read {ok : Addr → Prop} {C : Addr} {n : Nat} {nm : Str} {v : V} {H1 : Hp} {Q : XK} (hC : ok C) (h : ∀ d fs, H1 d = none → XdOk n v nm fs → Q (.ref C) (some d) (upd H1 d (.xd fs))) :
    ([v] : List V).length ≤ 1000 ∧ ∀ a, H1 a = none → spI n ok nm (.ref a :: ([v] ++ [])) (upd H1 a (exo a C none))
      (fun v H2 => v = .non ∧ ∃ (d : Addr) (fs : List (Str × V)), H2 a = some (exo a C (some d)) ∧ H2 d = some (exd d fs) ∧ H1 d = none ∧ Q (.ref C) (some d) (upd (del H2 a) d (.xd fs))) (fun _ _ _ => False) := by
  refine ⟨by show 1 ≤ 1000; decide, fun a na => ⟨a, C, v, rfl, hC, upd_same, fun dx fs hd hne xd => ?_⟩⟩
  rw [upd_ne hne] at hd
  refine ⟨rfl, dx, fs, upd_same, by rw [upd_ne hne, upd_same], hd, ?_⟩
  rw [gone_xd na]
  exact h dx fs hd xd
end
end MX
set_option maxHeartbeats 4000001
/-! Xh: what the head tells of exception classes. -/
namespace MX
open PySem PySem.Spec PyProof.Rows L2 ClX
/-! ### a hook with one more Bool, over the module's reach and the statics -/
def frE (g : Addr → Option Obj) (n : Nat) : PySem.W.Frag := He.frG g (cStatics :: He.asD g n)
abbrev AlE : Type := He.AlD × Bool
def obsE (n : Nat) (fa : List He.Fa) (fn : List He.DefD) (ex : PySem.W.Frag → Bool) (g : Addr → Option Obj) : AlE := (He.obsD fa fn (frE g n), ex (frE g n))
def hookE (n : Nat) (fa : List He.Fa) (fn : List He.DefD) (ex : PySem.W.Frag → Bool) : PySem.W.Hook where
  α := AlE
  obs := fun s => obsE n fa fn ex s.heap.get?
  val := fun _ => (He.valD fn, true)
  says := fun _ h => ∃ K : PySem.W.Frag, K.In h ∧ He.SaysD fa fn K ∧ ex K = true
  of := fun _ _ e => ⟨_, He.frG_in, congrArg (fun z : AlE => z.1) e, congrArg (fun z : AlE => z.2) e⟩
  keeps := fun _ _ _ ⟨K, hK,
        c⟩ k => ⟨K, PySem.W.Frag.In.keeps hK k, c⟩
theorem obsE_eq {n : Nat} {fa : List He.Fa} {fn : List He.DefD} {ex : PySem.W.Frag → Bool} {g : Addr → Option Obj} {s : Shared} (h : ∀ a, g a = s.heap.get? a) : obsE n fa fn ex g = (hookE n fa fn ex).obs s := by
  rw [show g = s.heap.get? from funext h] <;> rfl
/-! ### deciders -/
def oexB (K : PySem.W.Frag) (C : Addr) : Bool := (match K.lookup C with
  | some ⟨.type t, _, .cls cd, sl⟩ => (match cd.mro, sl.toList with
    | .ref C' :: bm, [_, _, _, _, some (.builtin n), _] => decide (t = "type") && (decide (C' = C) && (decide (n = "ValueError.__new__") && (!cd.hasDel && (cd.hasDict && PySem.HandSPX.refsVE bm))))
    | _, _ => false)
  | _ => false) && (decide (PySem.W.findIn K (.ref C) "__setattr__" = some (some (.builtin "object.__setattr__"))) && (decide (PySem.W.subIn K (.ref C) (.type "BaseException") = some true) && (decide (PySem.W.typeIn K (.ref C) = some (.type "type")) && PySem.W.keepIn K (.ref C))))
theorem oexB_ok {K : PySem.W.Frag} {C : Addr} (h : oexB K C = true) : OexC K C := by
  unfold oexB at h
  simp only [Bool.and_eq_true,
        decide_eq_true_eq] at h
  obtain ⟨h1, h2, h3, h4, h5⟩ := h
  refine ⟨?_, h2, h3, h4, h5⟩
  split at h1
  · rename_i t dd cd sl ho
    split at h1
    · rename_i C' bm k0
          k1 k2 k3 n k5 hm hs
      simp only [Bool.and_eq_true, decide_eq_true_eq, Bool.not_eq_true'] at h1
      obtain ⟨rfl, rfl, rfl, hdel, hdct, hv⟩ := h1
      obtain ⟨nm, bs, mro, ns, qn,
            hd, sn, sub, ab, col, del⟩ := cd
      dsimp only at hm hdel hdct
      subst hm hdel hdct
      obtain ⟨l⟩ := sl
      dsimp only at hs
      subst hs
      exact ⟨nm, qn, ns, bs, bm, sn, sub, ab, col, dd, k0, k1, k2, k3, k5, ho, hv⟩
    · cases h1
  · cases h1
def noAtB (K : PySem.W.Frag) (C : Addr) : Bool := decide (PySem.W.findIn K (.ref C) "place" = some none) && decide (PySem.W.findIn K (.ref C) "name" = some none)
theorem noAtB_ok {K : PySem.W.Frag} {C : Addr} (h : noAtB K C = true) : noAt K C := by
  unfold noAtB at h
  simp only [Bool.and_eq_true,
        decide_eq_true_eq] at h
  exact h
def supVB (K : PySem.W.Frag) (C D : Addr) : Bool := oexB K C && (decide (PySem.W.mroIn K C (.ref D) = some true) && (decide (PySem.W.nsIn K cStatics "thirdparty.any" = some none) && (decide (PySem.W.ks_superIn K C D "__init__" = some (some (.builtin "ValueError.__init__"))) && decide (PySem.W.subIn K (.ref C) (.type "ValueError") = some true))))
theorem supVB_ok {K : PySem.W.Frag} {C D : Addr} (h : supVB K C D = true) : SupV K C D := by
  unfold supVB at h
  simp only [Bool.and_eq_true,
        decide_eq_true_eq] at h
  obtain ⟨h1, h2, h3, h4, h5⟩ := h
  exact ⟨oexB_ok h1, h2, h3, h4, h5⟩
def supOB (K : PySem.W.Frag) (C D g : Addr) : Bool := oexB K C && (decide (PySem.W.mroIn K C (.ref D) = some true) && (decide (PySem.W.nsIn K cStatics "thirdparty.any" = some none) && (decide (PySem.W.ks_superIn K C D "__init__" = some (some (.ref g))) &&
  (decide (PySem.W.typeIn K (.ref g) = some (.type "function")) && PySem.W.fnIn K g))))
theorem supOB_ok {K : PySem.W.Frag} {C D g : Addr} (h : supOB K C D g = true) : SupO K C D g := by
  unfold supOB at h
  simp only [Bool.and_eq_true,
        decide_eq_true_eq] at h
  obtain ⟨h1, h2, h3, h4, h5, h6⟩ := h
  exact ⟨oexB_ok h1, h2, h3, h4, h5, h6⟩
/-- the text of an __init__: super().__init__(place) and so on -/
def headB : Stmt → Bool
  | .Expr (.Call (.Attribute (.Call (.Name s _) [] [] _) i p2) [.Name v _] [] p4) _ => decide (s = "super") && (decide (i = "__init__") && (decide (v = "place") && (p2.endLine == p4.line)))
  | _ => false
theorem headB_ok {st : Stmt} (h : headB st = true) : ∃ p0 p1 p2 p3 p4 p5, st = .Expr (.Call (.Attribute (.Call (.Name "super" p0) [] [] p1) "__init__" p2) [.Name "place" p3] [] p4) p5 ∧ (p2.endLine == p4.line) = true := by
  unfold headB at h
  split at h
  · simp only
        [Bool.and_eq_true, decide_eq_true_eq] at h
    obtain ⟨rfl, rfl, rfl, h⟩ := h
    exact ⟨_, _, _, _, _, _, rfl, h⟩
  · cases h
def plB : Stmt → Bool
  | .Assign [.Attribute (.Name s _) f _] (.Name v _) _ => decide (s = "self") && (decide (f = "place") && decide (v = "place"))
  | _ => false
theorem plB_ok {st : Stmt} (h : plB st = true) : ∃ q0 q1 q2 q3, st = setPl q0 q1 q2 q3 := by
  unfold plB at h
  split at h
  · simp only
        [Bool.and_eq_true, decide_eq_true_eq] at h
    obtain ⟨rfl, rfl, rfl⟩ := h
    exact ⟨_, _, _, _, rfl⟩
  · cases h
def nmB (nm : Str) : Stmt → Bool
  | .Assign [.Attribute (.Name s _) f _] (.Constant (.str z) _ _) _ => decide (s = "self") && (decide (f = "name") && decide (z = nm))
  | _ => false
theorem nmB_ok {nm : Str} {st : Stmt} (h : nmB nm st = true) : ∃ j q0 q1 q2 q3, st = setNm nm j q0 q1 q2 q3 := by
  unfold nmB at h
  split at h
  · simp only
        [Bool.and_eq_true, decide_eq_true_eq] at h
    obtain ⟨rfl, rfl, rfl⟩ := h
    exact ⟨_, _, _, _, _, rfl⟩
  · cases h
def bodyB (nm : Str) (bs : Bool) : List Stmt → Bool
  | [a, b, c] => bs && (headB a && (plB b && nmB nm c))
  | [a, c] => !bs && (headB a && nmB nm c)
  | _ => false
def fileB (K : PySem.W.Frag) (file : Str) (c : Addr) : Bool := match K.lookup c with
  | some ⟨_, _, .fields vs, _⟩ => (match (vs[2]? : Option Value) with
    | some (.str f _) => file == f
    | _ => false)
  | _ => false
def cellB (K : PySem.W.Frag) (cc D : Addr) : Bool := match K.lookup cc with
  | some ⟨_, _, .cell (some (.ref D')), _⟩ => decide (D' = D)
  | _ => false
def defIB (K : PySem.W.Frag) (file : Str) (f D : Addr) (nm : Str) (bs : Bool) : Bool := match K.lookup f with
  | some ⟨_, _, .func ⟨name, q, ⟨[], [⟨s, _, _⟩, ⟨p, _, _⟩], none, [], [], none, []⟩, .stmts body, sc, gl, [(cn, cc)], .none, _, _, _, _, .ref cda, _, bn⟩, _⟩ =>
    decide (name = "__init__") && (decide (s = "self") && (decide (p = "place") && (decide (gl = mainGlobals) && (decide (cn = "__class__") && (decide (bn = builtinsNs) && (PySem.W.codeIn K (.ref cda) q && (supSB ["self", "place"] sc &&
      (fileB K file cda && (cellB K cc D && ((PySem.W.clsIn K D).isSome && bodyB nm bs body))))))))))
  | _ => false
section
variable {P : Program} {w : World} {K : PySem.W.Frag} {mg : Str → Option Value} {base : Heap} {f D : Addr} {nm : Str}
theorem defIB_ok {bs : Bool} (h : defIB K P.main.file f D nm bs = true) (top : (P.main.scope.names.lookup ("super" : Str)).isSome = false) (hmg : mg "super" = none) :
    ∃ cda cc q params body sc fd, DefI P K mg f cda cc D q params body sc fd ∧ bodyB nm bs body = true ∧ Binds K fd ["self", "place"] [] := by
  unfold defIB at h
  split at h
  · rename_i oc od name q s sa sp p pa pp body sc gl cn cc kV doc pm an cda ct bn osl ho
    simp only [Bool.and_eq_true,
          decide_eq_true_eq] at h
    obtain ⟨rfl, rfl, rfl, rfl, rfl, rfl, h1, h2, h3, h4, h5, h6⟩ := h
    refine ⟨cda, cc, q, _, body, sc, _, ⟨⟨_, _, _, _, _, _, _, _, _, rfl, ho⟩, h1, supS_by h2, ⟨_, rfl, rfl⟩, ?_, ?_, Option.isSome_iff_exists.mp h5, top, hmg⟩, h6, .all fun us hl => ?_⟩
    · unfold fileB at h3
      split at h3
      · rename_i cl cdd vs ccs hc
        split at h3
        · rename_i fl tf hv
          exact ⟨cl, cdd, vs, ccs, fl, tf, hc, hv, h3⟩
        · cases h3
      · cases h3
    · unfold cellB at h4
      split at h4
      · rename_i cl cld D' csl hc
        cases of_decide_eq_true h4
        exact ⟨cl, cld, csl, hc⟩
      · cases h4
    · match us, hl with
      | [_, _], _ => rfl
  · cases h
end
end MX
set_option maxHeartbeats 8000000
/-! Xi: isinstance of a caught error that has fields. -/
namespace MX
open PySem PySem.Spec PyProof.Rows L2 ClX PySem.W
section
variable {prog : Program} {w : World} {A : Around} {E : Value → Shared → Prop} {s : Shared} {K : Frag} {x D : Addr} {ox : Obj} {od : Option Obj}
theorem find_any {C : Addr} {name : Str} {a g : Value} (hc : (clsIn K C).isSome = true) (ha : findIn K (.ref C) name = some (some a)) (hg : specialIn K a "__get__" = some (some g)) (ht : takesIn K a = some true) : findObj K C od name = some (.bind g a) := by
  obtain ⟨cd, hc⟩ :=
        Option.isSome_iff_exists.mp hc
  unfold findObj
  simp [hc, ha, hg, ht]
theorem xi_class {Q : Option Value → Shared → Prop} (T : ExcC K D) (X : K.In s.heap) (I : InstAt s.heap x ox D od) (h : Q (some (.ref D)) { s with toks := s.toks + 1 }) : wpAny (model prog w) A (getAttr? (.ref x) "__class__") Q E s := by
  have hf : findObj K D od "__class__" = some (.bind (.builtin "getset_descriptor.__get__") (.builtin "object.__class__")) := find_any (by obtain ⟨cd, hc, _⟩ := any_some T.hd; rw [hc]; rfl) T.ha T.hn T.ht
  obtain ⟨hp, g, d, t, os⟩ := s
  have M0 := I.type (M := model prog w)
  have M1 := looks_findIn (M := model prog w) X T.hg
  have M2 := looks_findIn (M := model prog w) X T.hk
  have M3 := looks_find (M := model prog w) X I hf
  have sub : Looks (model prog w) hp (isInstance (.ref x) (.type "BaseException")) true := M0.andThen (looks_subIn X T.hs)
  have z1 : (Value.builtin "BaseException.__getattribute__" == Value.builtin "object.__getattribute__") = false := by decide +kernel
  have z2 : (onTheHeap (Value.ref D) && Value.builtin "BaseException.__getattribute__" == Value.builtin "object.__getattribute__") = false := by rw [z1]; rfl
  have z3 : (false && onTheHeap (Value.builtin "BaseException.__getattribute__")) = false := rfl
  have z4 : onTheHeap (Value.ref D) = true := rfl
  have fin : ∀ {R E' : Value → Shared → Prop}, R (.ref D) ⟨hp, g, d, t + 1, os⟩ → wpAny (model prog w) A (call (.builtin "BaseException.__getattribute__") [.ref x, .str "__class__" t]) R E' ⟨hp, g, d, t + 1, os⟩ := fun {R E'} hR => by
    refine wpAny_call (codeAny_call_builtin PySem.F.excAttr_ValueError.ga.plain PySem.F.entry_bexc_ga (@check_slot (model prog w) _ _ ⟨hp, g, d, t + 1, os⟩ "BaseException.__getattribute__" "BaseException" "__getattribute__" (.ref x) [.str "__class__" t] [] _ (by decide +kernel) (by decide +kernel) sub (PySem.F.args_bexc_ga (.ref x) (.str "__class__" t)) ?_))
    unfold
          Builtin.«object.__getattribute__»
    refine wpAny_bind (wpAny_of_eq (a := ((Value.ref x : Value), [Value.str "__class__" t])) (by first | rfl | (simp only [slotArgs]; rfl)) (wpAny_bind (wpAny_pure (wpAny_bind (M0.at (wpAny_bind (M3.at ?_)))))))
    show wpAny _ _ (holding
          [Value.builtin "object.__class__"] (call (.builtin "getset_descriptor.__get__") [.builtin "object.__class__", .ref x, .ref D]) >>= ret) _ _ _
    refine wpAny_bind (wpAny_holding (wpAny_call (class_get (s := ⟨hp, g, d, t + 1, os⟩) (ox := ox) (od := od) X I T.hm (wpAny_pure ?_))))
    exact hR
  unfold getAttr?
        getAttrBy? getAttrBy
  refine wpAny_bind (wpAny_mkText (wpAny_bind (wpAny_attempt (wpAny_holding (wpAny_bind (M0.at (wpAny_bind (M1.at ?_))))))))
  show wpAny _ _ (if
        (onTheHeap (Value.ref D) && Value.builtin "BaseException.__getattribute__" == Value.builtin "object.__getattribute__") = true then _ else _) _ _ _
  simp only [z2, Bool.false_eq_true, if_false]
  unfold getAttrByItsOwn
        hookBefore
  simp only [z4, if_true]
  refine wpAny_bind (M2.at (wpAny_bind (wpAny_attempt (wpAny_holding ?_))))
  unfold callGetattribute boundAndCalled
  simp only [z3, Bool.false_eq_true, if_false]
  rw [PySem.F.excAttr_ValueError.ga.bind
        (.ref x)]
  refine wpAny_bind
        (wpAny_pure ?_)
  refine fin ?_
  rw [handedOut_of
        (v := .ref D) rfl]
  exact wpAny_pure
        (wpAny_pure h)
theorem xi_kit (T : ExcC K D) : KitX K (.ref x) (.ref D) (fun h => InstAt h x ox D od) := by
  obtain ⟨cdD, hcD, _⟩ := any_some T.hd
  have hD : ∃ oD, K.lookup D = some oD ∧ oD.data = .cls cdD := by
    unfold clsIn at hcD
    split at hcD
    · rename_i c' d' cd' sl' ho
      cases hcD
      exact ⟨_, ho, rfl⟩
    · cases hcD
  obtain ⟨oD, hD1, hD2⟩ := hD
  refine ⟨fun _ _ _ I => I.type, fun M h X I A' Q' E' s' k q => ?_, fun h tp dd its n sl X htp => ?_, fun X I k => xi_class T X I k⟩
  · obtain ⟨hh, g, d, t, os⟩ := s'
    exact ks_wpAny_isType_cls (k _ _ (X _ _ hD1)) hD2 q
  · refine Bool.eq_false_iff.mpr fun q => ?_
    have e : D = tp :=
          Value.ref.inj (beq_iff_eq.mp q)
    subst e
    have z := (X _ _ hD1).symm.trans htp
    cases z
    cases hD2
end
end MX
set_option maxHeartbeats 1000001
/-! EvX: raise and try. -/
namespace MP
open PySem PySem.Spec L2 MX
/-- how an exception lies: its class among xa, its dict with name and place -/
def XRx (K : PySem.W.Frag) (xa : List (Str × Addr)) : XRel := fun c p cls d L H => ∃ nm C dd fs v, xa[c]? = some (nm, C) ∧ cls = .ref C ∧ d = some dd ∧ H dd = some (.xd fs) ∧ XdOk 3 v nm fs ∧ ¬ L dd ∧ Den K L H v p
theorem xaX {K : PySem.W.Frag} {xa : List (Str × Addr)} : XAnti (XRx K xa) := fun c p cls d L L' H h => fun ⟨nm, C, dd, fs, v, h1, h2, h3, h4, h5, h6, h7⟩ => ⟨nm, C, dd, fs, v, h1, h2, h3, h4, h5, fun l => h6 (h _ l), Den.less h h7⟩
section
variable {X : Cx} {P : Par} {C : CE} {xa : List (Str × Addr)}
theorem ps_weakN {st : Stmt} {t t' : TS} (h : PS X st t) (k : ∀ D σ H, σ.length = X.N.length → t' D σ H → t D σ H) : PS X st t' := ⟨fun pins s σ H D I q => h.run pins s σ H D I (k D σ H I.len q)⟩
/-- the reading of raise C(e) -/
theorem ds_rse {c : Nat} {e : E} {nm : Str} {A : Addr} {n : Nat} {ok : Addr → Prop} (hX : P.XR = XRx X.K xa) (hx : xa[c]? = some (nm, A)) (hn : n ≤ 3) (hok : ok A) {D : Ends} {σ : L2.St} {H : Hp} (h : tS X.K P C (.rse c e) D σ H) :
    tMkO A (spI n ok nm) [] (tCons (tE X.K P C e) tNil) σ H fun cls d H' => P.W cls d σ H' := by
  obtain ⟨F, φ, st, δ, s, d, h⟩ := h
  simp only [evS] at h
  refine ⟨F, φ, st, δ, s, d, (Post.bind h).imp fun v φ1 st1 H1 t1 h1 u ru => ?_⟩
  cases v with
  | fl _ => exact h1.elim
  | fd _ => exact h1.elim
  | w w =>
    cases w with
    | fz _ => exact h1.elim
    | ref _ => exact h1.elim
    | d p =>
      refine mk_read (H1 := H1) (v := u) (n := n) (nm := nm) (Q := fun cls d H' => P.W cls d σ H') hok fun dd fs hd xd => ?_
      have q := h1 φ1 _ (Step.laid (o := .xd fs) t1.sc hd)
      refine q _ _ ?_
      rw [hX]
      exact ⟨nm, A, dd, fs, u, hx, rfl, rfl, upd_same, ⟨xd.pl, xd.nm, Nat.le_trans xd.few hn⟩, t1.sc.no hd, Den.laid t1.sc hd ru⟩
end
/-! ### except suites -/
/-- the exception that a suite holds: its address, its class, its dict, its slot; the slots' number -/
structure Gx where
  a : Addr
  C : Addr
  d : Addr
  i : Option Nat
  n : Nat
  v : V
  nm : Str
  fs : List (Str × V)
def Gx.gh (g : Gx) : L2.St := [some g.v, some (.str g.nm)]
structure Gx.Ok (g : Gx) (σ : L2.St) (L : AP) (H : Hp) : Prop where
  len : σ.length = g.n
  at_ : ∀ i, g.i = some i → σ[i]? = some (some (.ref g.a))
  xd : H g.d = some (.xd g.fs)
  no : ¬ L g.d
def exF : EX := fun _ _ _ _ => False
def tEX (K : PySem.W.Frag) (C : CE) (g : Gx) (e : E) : TE := fun σ H Q => ∃ F φ st δ, SC K F φ st H ∧ Sl K F φ st H δ (σ ++ g.gh) ∧ g.Ok σ (Or2 F (Live φ st)) H ∧
  Post K F exF φ st H (evE C e δ st) fun v φ' st' H' => ∀ u, RU K F H φ' st' H' u v → Q u H'
def tEsX (K : PySem.W.Frag) (C : CE) (g : Gx) (es : List E) : TA := fun σ H Q => ∃ F φ st δ, SC K F φ st H ∧ Sl K F φ st H δ (σ ++ g.gh) ∧ g.Ok σ (Or2 F (Live φ st)) H ∧
  Post K F exF φ st H (evEs C es δ st) fun vs φ' st' H' => ∀ us, RVs K F φ' st' H' us vs → Q us H'
theorem Gx.Ok.step {g : Gx} {σ : L2.St} {K : PySem.W.Frag} {F : AP} {φ φ1 : List Addr} {st st1 : Sto} {H H1 : Hp} (o : g.Ok σ (Or2 F (Live φ st)) H) (t : Step K F φ st H φ1 st1 H1) : g.Ok σ (Or2 F (Live φ1 st1)) H1 :=
  ⟨o.len, o.at_, (t.way.keep _ _ o.xd o.no).1, (t.way.keep _ _ o.xd o.no).2⟩
section
variable {X : Cx} {C : CE} {g : Gx}
theorem xx_var {i : Nat} {x : Expr} (h : PE X x (tVar i)) (hi : i < g.n) : PE X x (tEX X.K C g (.var i)) := pe_weak h fun σ H Q ⟨F, φ, st, δ, s, d, o, h⟩ => by
  simp only [evE] at h
  split at h
  · rename_i w hw
    obtain ⟨v, e, r⟩ := d.slot _ _ hw
    rw [List.getElem?_append_left (by rw [o.len]; exact hi)] at e
    exact ⟨v, e, h φ H (Step.refl s) v r⟩
  · exact h.elim
theorem xx_cst {x : Expr} {v : V} {a : D} (h : PE X x (tC v)) (r : ∀ L H, Den X.K L H v a) : PE X x (tEX X.K C g (.cst a)) := pe_weak h fun σ H Q ⟨F, φ, st, δ, s, d, o, h⟩ => by
  simp only [evE] at h
  exact h φ H (Step.refl s) v (r _ _)
/-- e.place, e.name -/
theorem xx_at {cls : Value} {dd : Option Addr} {i : Nat} {f : Str} {e : Expr} {v : V} {j : Nat} {pos : Pos} (h : PE X (.Attribute e f pos) (tXf g.a cls dd g.C f (tVar i))) (hc : cls = .ref g.C) (hd : dd = some g.d) (hi : g.i = some i) (hf : g.fs.lookup f = some v)
    (hj : g.gh[j]? = some (some v)) : PE X (.Attribute e f pos) (tEX X.K C g (.var (g.n + j))) := pe_weak h fun σ H Q ⟨F, φ, st, δ, s, d, o, h⟩ => by
  simp only [evE] at h
  split at h
  · rename_i w hw
    obtain ⟨v', e', r⟩ := d.slot _ _ hw
    rw [List.getElem?_append_right (by rw [o.len]; omega), o.len, Nat.add_sub_cancel_left, hj] at e'
    cases e'
    exact ⟨_, o.at_ i hi, rfl, hc, g.d, g.fs, v, hd, o.xd, hf, h φ H (Step.refl s) v r⟩
  · exact h.elim
theorem xxs_nil : PA X [] (tEsX X.K C g []) := pa_weak pa_nil fun σ H Q ⟨F, φ, st, δ, s, d, o, h⟩ => by
  simp only [evEs] at h
  exact h φ H (Step.refl s) [] .nil
theorem xxs_cons {a : Expr} {as : List Expr} {e : E} {es : List E} (ha : PE X a (tEX X.K C g e)) (hr : PA X as (tEsX X.K C g es)) (hs : starEach (a :: as) X.env = (false, eval a X.env) :: starEach as X.env) : PA X (a :: as) (tEsX X.K C g (e :: es)) :=
  pa_weak (pa_cons ha hr hs) fun σ H Q ⟨F, φ, st, δ, s, d, o, h⟩ => by
    simp only [evEs] at h
    refine ⟨F, φ, st, δ, s, d, o, (Post.bind h).imp fun v φ1 st1 H1 t1 h1 u ru => ⟨F, φ1, st1, δ, t1.sc, d.step s t1, o.step t1, (Post.bind h1).imp fun vs φ2 st2 H2 t2 h2 us rus => ?_⟩⟩
    exact h2 φ2 H2 (Step.refl t2.sc) (u :: us) (.cons (Step.rv t1.sc t2 (ru.rv t1.sc fun a f => s.fo a f)) rus)
theorem xx_tup {as : List Expr} {es : List E} {k : Nat} {pos : Pos} (ha : PA X as (tEsX X.K C g es)) : PE X (.Tuple as k pos) (tEX X.K C g (.tup es)) :=
  pe_weak (pe_tupN ha) fun σ H Q ⟨F, φ, st, δ, s, d, o, h⟩ => by
    simp only [evE] at h
    refine ⟨F, φ, st, δ, s, d, o, (Post.bind h).imp fun vs φ1 st1 H1 t1 h1 us ru => ?_⟩
    obtain ⟨r, e, q⟩ := h1.lift
    unfold dsOf at e
    cases q1 : wsOf vs with
    | none => rw [q1] at e; cases e
    | some ws =>
      rw [q1] at e
      dsimp only [Option.bind_some] at e
      cases q2 : datas ws with
      | none => rw [q2] at e; cases e
      | some ds =>
        rw [q2] at e
        dsimp only [Option.bind_some] at e
        split at e
        · rename_i hz
          cases e
          have d1 := datas_rw (wsOf_den t1.sc ru q1) q2
          exact ⟨by rw [line_is, d1.length]; exact hz, fun p o hp ho => q φ1 _ (Step.laid t1.sc hp) _ (Den.tupNew t1.sc hp ho d1)⟩
        · cases e
theorem xx_ix {a b : Expr} {e f : E} {pos : Pos} (hu : X.A.units + 1 < cLine) (ha : PE X a (tEX X.K C g e)) (hb : PE X b (tEX X.K C g f)) (hs : PlainIx b) : PE X (.Subscript a b pos) (tEX X.K C g (.ix e f)) :=
  pe_weak (pe_ix (ixr_any hu) ha hb hs) fun σ H Q ⟨F, φ, st, δ, s, d, o, h⟩ => by
    simp only [evE] at h
    refine ⟨F, φ, st, δ, s, d, o, (Post.bind h).imp fun v φ1 st1 H1 t1 h1 u ru => ⟨F, φ1, st1, δ, t1.sc, d.step s t1, o.step t1, (Post.bind h1).imp fun w φ2 st2 H2 t2 h2 u2 ru2 => ?_⟩⟩
    obtain ⟨r, e, q⟩ := h2.lift
    exact ⟨F, φ2, st2, v, w, r, t2.sc, Step.rv t1.sc t2 (ru.rv t1.sc fun a f => s.fo a f), ru2.rv t2.sc (fun a f => t1.sc.fo a f), e, fun φ' H' u t3 r3 => q φ' H' t3 u (RU.weak (fun a n => t2.al a (t1.al a n)) r3)⟩
/-- a method of a built-in type, called in a suite -/
theorem dsx_mth {m : Mth} {o : E} {es : List E} {T : String} {σ : L2.St} {H : Hp} {Q : VK} (hT : tyOk X.K T m) (h : tEX X.K C g (.mth m o es) σ H Q) :
    tEX X.K C g o σ H fun x H1 => tyV X.K T x H1 ∧ tEsX X.K C g es σ H1 fun xs H2 => rMth X.K m x xs H2 Q := by
  obtain ⟨F, φ, st, δ, s, d, ok, h⟩ := h
  simp only [evE] at h
  refine ⟨F, φ, st, δ, s, d, ok, (Post.bind h).imp fun v φ1 st1 H1 t1 h1 u ru => ?_⟩
  have rv := ru.rv t1.sc fun a f => s.fo a f
  cases q : recvOk m st1 v with
  | false => rw [q] at h1; exact h1.elim
  | true =>
    rw [q] at h1
    refine ⟨hT t1.sc rv q, F, φ1, st1, δ, t1.sc, d.step s t1, ok.step t1, (Post.bind h1).imp fun vs φ2 st2 H2 t2 h2 us rus => ?_⟩
    cases qm : mthV m st2 v vs with
    | none => rw [qm] at h2; exact h2.elim
    | some r =>
      rw [qm] at h2
      exact ⟨F, φ2, st2, v, vs, r.1, r.2, t2.sc, Step.rv t1.sc t2 rv, rus, qm, fun φ' H' u t3 r3 => h2 φ' H' t3 u (RU.weak (fun a n => t2.al a (t1.al a n)) r3)⟩
end
def endX (K : PySem.W.Frag) (F : AP) (H0 : Hp) (g : Gx) (D : Ends) : Fl → List Addr → Sto → Hp → Prop
  | .nx δ, φ, st, H => ∀ σ, Sl K F φ st H δ (σ ++ g.gh) → σ.length = g.n → D.nx σ H
  | .bk δ, φ, st, H => ∀ σ, Sl K F φ st H δ (σ ++ g.gh) → σ.length = g.n → D.bk σ H
  | .ct δ, φ, st, H => ∀ σ, Sl K F φ st H δ (σ ++ g.gh) → σ.length = g.n → D.ct σ H
  | .rt v, φ, st, H => ∀ u, RU K F H0 φ st H u v → D.rt u H
def tSX (K : PySem.W.Frag) (C : CE) (g : Gx) (s : S) : TS := fun D σ H => ∃ F φ st δ, SC K F φ st H ∧ Sl K F φ st H δ (σ ++ g.gh) ∧ g.Ok σ (Or2 F (Live φ st)) H ∧
  Post K F exF φ st H (evS C s δ st) (endX K F H g D)
def tSsX (K : PySem.W.Frag) (C : CE) (g : Gx) (s : List S) : TS := fun D σ H => ∃ F φ st δ, SC K F φ st H ∧ Sl K F φ st H δ (σ ++ g.gh) ∧ g.Ok σ (Or2 F (Live φ st)) H ∧
  Post K F exF φ st H (evSs C s δ st) (endX K F H g D)
section
variable {X : Cx} {C : CE} {g : Gx}
theorem xsx_ret {a : Expr} {e : E} {pos : Pos} (h : PE X a (tEX X.K C g e)) : PS X (.Return (some a) pos) (tSX X.K C g (.ret (some e))) := ps_weak (ps_ret h) fun D σ H ⟨F, φ, st, δ, s, d, o, h⟩ => by
  simp only [evS] at h
  exact ⟨F, φ, st, δ, s, d, o, (Post.bind h).imp fun v φ1 st1 H1 t1 h1 u ru => h1 φ1 H1 (Step.refl t1.sc) u ru⟩
theorem xsx_retN {pos : Pos} : PS X (.Return none pos) (tSX X.K C g (.ret none)) := ps_weak ps_retN fun D σ H ⟨F, φ, st, δ, s, d, o, h⟩ => by
  simp only [evS] at h
  exact h φ H (Step.refl s) .non RU.non
theorem xsx_ex {a : Expr} {e : E} {pos : Pos} (h : PE X a (tEX X.K C g e)) (hs : swapsWith a none pos.line X.env = pure false) : PS X (.Expr a pos) (tSX X.K C g (.ex e)) := ps_weak (ps_expr h hs) fun D σ H ⟨F, φ, st, δ, s, d, o, h⟩ => by
  simp only [evS] at h
  exact ⟨F, φ, st, δ, s, d, o, (Post.bind h).imp fun v φ1 st1 H1 t1 h1 u ru => h1 φ1 H1 (Step.refl t1.sc) σ (d.step s t1) o.len⟩
theorem xsx_pss {pos : Pos} : PS X (.Pass pos) (tSX X.K C g .pss) := ps_weak ps_pass fun D σ H ⟨F, φ, st, δ, s, d, o, h⟩ => by
  simp only [evS] at h
  exact h φ H (Step.refl s) σ d o.len
theorem xsx_brk {pos : Pos} : PS X (.Break pos) (tSX X.K C g .brk) := ps_weak ps_break fun D σ H ⟨F, φ, st, δ, s, d, o, h⟩ => by
  simp only [evS] at h
  exact h φ H (Step.refl s) σ d o.len
theorem xsx_cnt {pos : Pos} : PS X (.Continue pos) (tSX X.K C g .cnt) := ps_weak ps_continue fun D σ H ⟨F, φ, st, δ, s, d, o, h⟩ => by
  simp only [evS] at h
  exact h φ H (Step.refl s) σ d o.len
/-- isinstance(e, c), e the suite's exception -/
def rIsX (K : PySem.W.Frag) (D a d : Addr) : List V → Hp → VK → Prop := fun xs H Q => ∃ (c : V) (cv : Value) (b : Bool) (fs : List (Str × V)), xs = [.ref a, c] ∧ (∀ u, RelV c u → u = cv) ∧ PySem.W.kitOne K (.ref D) cv = some b ∧ H d = some (.xd fs) ∧ Q (.bl b) H
theorem call_isX {a D d : Addr} {oe : Obj} {pn : List (Addr × Obj)} (T : ExcC X.K D) (hz : Zc (.ref D) (some d) oe) (hf : ∃ vs, oe.data = .fields vs) : CallR (X.suite a ((a, oe) :: pn)) (.builtin "isinstance") (rIsX X.K D a d) := by
  intro pins s σ
        H xs us Q I r h
  obtain ⟨c, cv, b, fs, rfl, hcv, e, hd, q⟩ := h
  cases r with
  | cons rx rr =>
    cases rr with
    | cons rt rr =>
      cases rr
      cases rx
      have ec := hcv _ rt
      subst ec
      obtain ⟨hget, _⟩ := I.pin
            (a, oe) (List.mem_append.mpr (.inl List.mem_cons_self))
      obtain ⟨vs, hv⟩ := hf
      obtain ⟨od, hod⟩ : ∃ od, s.heap.get? d = some od := by
        obtain ⟨_, ⟨o, _, _, ho, _⟩, _⟩ := (show ObjOk X.prog X.w H s.heap d (.xd fs) from I.hok d _ hd)
        exact ⟨o, ho⟩
      have J : PySem.W.InstAt s.heap a oe D (some od) := by
        obtain ⟨oc, oD, oda, osl⟩ := oe
        obtain ⟨h1, h2⟩ := hz
        dsimp only at h1 h2 hv
        subst h1 h2 hv
        exact ⟨hget, rfl, rfl, hod⟩
      exact PySem.W.kia_one (xi_kit T) I.kIn J e (fun z => nomatch z) fun tk => ⟨.bl b, H, I.kept (t' := tk) fun _ _ z => z, rfl, q⟩
theorem xsx_one {st : Stmt} {x : S} (h : PS X st (tSX X.K C g x)) : PSs X [st] (tSsX X.K C g [x]) := pss_weak (pss_one h) fun D σ H ⟨F, φ, st, δ, s, d, o, h⟩ => by
  simp only [evSs] at h
  refine ⟨F, φ, st, δ, s, d, o, (Post.bind h).imp fun fl φ1 st1 H1 t1 h1 => ?_⟩
  cases fl <;> exact h1 φ1 H1 (Step.refl t1.sc)
/-- if isinstance(e, ValueError): one statement -/
theorem xsx_is {y : Str} {i : Nat} {cls : Value} {dd : Option Addr} {oe : Obj} {pn : List (Addr × Obj)} {p0 p1 p2 p3 p4 : Pos} {st : Stmt} {s : S} (T : ExcC X.K g.C) (hk : PySem.W.kitOne X.K (.ref g.C) (.type "ValueError") = some true) (hc : cls = .ref g.C) (hd : dd = some g.d) (hi : g.i = some i) (hz : Zc cls dd oe) (hf : ∃ vs, oe.data = .fields vs)
    (g1 : Gl X "isinstance") (g2 : Gl X "ValueError") (m1 : X.mg "isinstance" = none) (m2 : X.mg "ValueError" = none) (hN : X.N[i]? = some y) (hv : Vis X.env.scope y) (d1 : (y == ("__debug__" : Str)) = false) (d2 : (y == ("__classdict__" : Str)) = false)
    (h : PS (X.suite g.a ((g.a, oe) :: pn)) st (tSX X.K C g s)) :
    PS (X.suite g.a ((g.a, oe) :: pn)) (.If (.Call (.Name "isinstance" p0) [.Name y p1, .Name "ValueError" p2] [] p3) [st] [] p4) (tSX X.K C g (.iff (.cst (.bool true)) [s] [])) := by
  subst hc hd
  have pv : PE (X.suite g.a ((g.a, oe) :: pn)) (.Name y p1) (tVar i) := pe_var hN hv d1 d2
  have pt : PE (X.suite g.a ((g.a, oe) :: pn)) (.Name "ValueError" p2) (tC (.ty "ValueError")) := pe_bltn g2 m2 (by decide +kernel) rfl
  refine ps_weak (ps_if (pt_val (pe_callB (call_isX T hz hf) g1 m1 (by decide +kernel) (pa_cons pv (pa_cons pt pa_nil)))) (xsx_one h) pss_nil) fun D σ H ⟨F, φ, st, δ, s, d, o, h⟩ => ?_
  simp only [evS, evB, evE, bool?, liftO, Out.bind] at h
  exact ⟨_, o.at_ i hi, _, .type "ValueError", true, _, rfl, fun u hu => hu, hk, o.xd, true, rfl, iteT ⟨F, φ, st, δ, s, d, o, h⟩⟩
end
/-- a suite's reading, told of the exception's address, class and dict -/
def tsOf (K : PySem.W.Frag) (C : CE) (xa : List (Str × Addr)) (n : Nat) (i : Option Nat) (su : List S) : SuR := fun a cls d D σ H =>
  ∃ g : Gx, g.a = a ∧ cls = .ref g.C ∧ d = some g.d ∧ g.i = i ∧ g.n = n ∧ XdOk 3 g.v g.nm g.fs ∧ (∃ (c : Nat) (nm : Str), xa[c]? = some (nm, g.C)) ∧ tSsX K C g su D σ H
/-- the clauses of the text, and what the core language has for them -/
inductive HsOk (X : Cx) (C : CE) (xa : List (Str × Addr)) : List ExceptHandler → List (Nat × Option Nat × List S) → Prop
  | nil : HsOk X C xa [] []
  | cons {x nm : Str} {A : Addr} {n : Option Str} {i : Option Nat} {c' : Nat} {su : List S} {b₀ : Stmt} {suite : List Stmt} {np pp : Pos} {hds : List ExceptHandler} {l : List (Nat × Option Nat × List S)} (hx : xa[c']? = some (nm, A)) (hc : Names X x (.ref A)) (hn : NmOk X n i)
      (hi : ∀ j, i = some j → j < X.N.length)
      (hsu : ∀ (g : Gx) (oe : Obj) (cls : Value) (d : Option Addr) (pn : List (Addr × Obj)), cls = .ref g.C → d = some g.d → g.i = i → g.n = X.N.length → XdOk 3 g.v g.nm g.fs → (∃ (c : Nat) (nm : Str), xa[c]? = some (nm, g.C)) → Zc cls d oe → (∃ vs, oe.data = .fields vs) →
        PSs (X.suite g.a ((g.a, oe) :: pn)) (b₀ :: suite) (tSsX X.K C g su)) (r : HsOk X C xa hds l) :
      HsOk X C xa (.ExceptHandler (some (.Name x np)) n (b₀ :: suite) pp :: hds) ((c', i, su) :: l)
/-- the same as data of the hand layer -/
inductive Lk (K : PySem.W.Frag) (C : CE) (xa : List (Str × Addr)) (n : Nat) : List (Value × Option Nat × SuR) → List (Nat × Option Nat × List S) → Prop
  | nil : Lk K C xa n [] []
  | cons {nm : Str} {A : Addr} {i : Option Nat} {c' : Nat} {su : List S} {l : List (Value × Option Nat × SuR)} {l' : List (Nat × Option Nat × List S)} (hx : xa[c']? = some (nm, A)) (hi : ∀ j, i = some j → j < n) (r : Lk K C xa n l l') :
      Lk K C xa n ((.ref A, i, tsOf K C xa n i su) :: l) ((c', i, su) :: l')
theorem hs_lk {X : Cx} {C : CE} {xa : List (Str × Addr)} {hds : List ExceptHandler} {l' : List (Nat × Option Nat × List S)} (h : HsOk X C xa hds l') : ∃ l, HdN X hds l ∧ Lk X.K C xa X.N.length l l' := by
  induction h with
  | nil => exact ⟨_, .nil, .nil⟩
  | @cons x nm A n i c' su b₀ suite np pp hds l hx hc hn hi hsu r ih =>
    obtain ⟨l0, h1, h2⟩ := ih
    refine ⟨_, .cons hc hn (fun a oe cls d pn hz hf => ?_) h1, .cons hx hi h2⟩
    refine ⟨fun pins s σ H D I ⟨g, e1, e2, e3, e4, e5, e6, e7, q⟩ => ?_⟩
    subst e1
    exact (hsu g oe cls d pn e2 e3 e4 e5 e6 e7 hz hf).run pins s σ H D I q
section
variable {K : PySem.W.Frag} {F : AP} {φ : List Addr} {st : Sto} {H H0 : Hp} {C : CE} {xa : List (Str × Addr)} {δ : Env} {σ : L2.St}
/-- a slot is emptied on both sides -/
theorem sl_clr {δ' : Env} {σ' σ2 : L2.St} (i : Option Nat) (hl : δ'.length = σ'.length) (hl2 : σ2.length = σ'.length) (k : ∀ (j : Nat) (w : W), δ'[j]? = some (some w) → ∃ v, σ'[j]? = some (some v) ∧ RW K (Or2 F (Live φ st)) H φ v w)
    (h2 : ∀ j, i ≠ some j → σ2[j]? = σ'[j]?) : Sl K F φ st H (clr i δ') σ2 := by
  refine ⟨by rw [clr_len, hl, hl2], fun j w e => ?_⟩
  by_cases hij : i = some j
  · subst hij
    have e : (δ'.set j none)[j]? = some (some w) := e
    have hj : j < (δ'.set j none).length := (List.getElem?_eq_some_iff.mp e).1
    rw [List.length_set] at hj
    rw [List.getElem?_set_self hj] at e
    cases e
  · have e2 : δ'[j]? = some (some w) := by
      cases i with
      | none => exact e
      | some i =>
        have e : (δ'.set i none)[j]? = some (some w) := e
        rwa [List.getElem?_set_ne (fun z => hij (by rw [z]))] at e
    obtain ⟨v, h1, h3⟩ := k j w e2
    exact ⟨v, by rw [h2 j hij]; exact h1, h3⟩
theorem setN_len {a : Addr} {i : Option Nat} : (setN a σ i).length = σ.length := by
  cases i with
  | none => rfl
  | some i => exact List.length_set ..
/-- the suite's slots -/
theorem sl_ex {g : Gx} {i : Option Nat} {p : D} (d : Sl K F φ st H δ σ) (hp : Den K (Or2 F (Live φ st)) H g.v p) : Sl K F φ st H (exEnv i δ p g.nm) (setN g.a σ i ++ g.gh) := by
  have d0 : Sl K F φ st H (clr i δ) (setN g.a σ i) := sl_clr i d.len setN_len d.slot fun j hj => by
    cases i with
    | none => rfl
    | some i => exact List.getElem?_set_ne fun z => hj (by rw [z])
  refine ⟨by unfold exEnv; rw [List.length_append, List.length_append, d0.len]; rfl, fun j w e => ?_⟩
  unfold exEnv at e
  by_cases hj : j < (setN g.a σ i).length
  · rw [List.getElem?_append_left (by rw [d0.len]; exact hj)] at e
    rw [List.getElem?_append_left hj]
    exact d0.slot j w e
  · have hj : (setN g.a σ i).length ≤ j := by omega
    rw [List.getElem?_append_right (by rw [d0.len]; exact hj), d0.len] at e
    rw [List.getElem?_append_right hj]
    generalize j - (setN g.a σ i).length = k at e ⊢
    match k, e with
    | 0, e => cases e; exact ⟨_, rfl, hp⟩
    | 1, e => cases e; exact ⟨_, rfl, Den.str g.nm⟩
    | k + 2, e => simp at e
/-- behind the suite -/
theorem sl_off {g : Gx} {i : Option Nat} {δ' : Env} {n : Nat} {σ' : L2.St} (hn : n = g.n) (d : Sl K F φ st H δ' (σ' ++ g.gh)) (hl' : σ'.length = g.n) : Sl K F φ st H (offI n i δ') (clr i σ') := by
  have e2 : (δ'.take n).length = σ'.length := by rw [List.length_take, d.len, List.length_append, hn, hl']; omega
  refine sl_clr i e2 (clr_len ..) (fun j w e => ?_) fun j hj => ?_
  · have hj : j < (δ'.take n).length := (List.getElem?_eq_some_iff.mp e).1
    rw [e2] at hj
    rw [List.getElem?_take_of_lt (by rw [hn, ← hl']; exact hj)] at e
    obtain ⟨v, h1, h2⟩ := d.slot j w e
    rw [List.getElem?_append_left hj] at h1
    exact ⟨v, h1, h2⟩
  · cases i with
    | none => rfl
    | some i => exact List.getElem?_set_ne fun z => hj (by rw [z])
theorem endN_rt {D : Ends} {i : Option Nat} : (endN D i).rt = D.rt := by cases i <;> rfl
theorem endN_nx {D : Ends} {i : Option Nat} {σ : L2.St} : (endN D i).nx σ H = D.nx (clr i σ) H := by cases i <;> rfl
theorem endN_bk {D : Ends} {i : Option Nat} {σ : L2.St} : (endN D i).bk σ H = D.bk (clr i σ) H := by cases i <;> rfl
theorem endN_ct {D : Ends} {i : Option Nat} {σ : L2.St} : (endN D i).ct σ H = D.ct (clr i σ) H := by cases i <;> rfl
/-- an exception of the body: what the clauses do is what is wished -/
theorem wish_on {XR : XRel} {W : WX} {D : Ends} {xn : List Str} {n c : Nat} {p : PyData} {cls : Value} {d : Option Addr} (hn : xn = xa.map (·.1)) (hX : XR = XRx K xa)
    (exm : ∀ (c c' : Nat) (nm nm' : Str) (A A' : Addr), xa[c]? = some (nm, A) → xa[c']? = some (nm', A') → PySem.W.exmOne K (.ref A) (.ref A') = some (subX c c')) (hal : ∀ a, H0 a ≠ none → H a ≠ none)
    (s : SC K F φ st H) (sl : Sl K F φ st H δ σ) (hl : σ.length = n) (xr : XR c p cls d (Or2 F (Live φ st)) H) : ∀ {l : List (Value × Option Nat × SuR)} {l' : List (Nat × Option Nat × List S)}, Lk K C xa n l l' →
      Post K F (exOf XR W σ) φ st H (evHs C xn l' c p δ st) (endS K F H0 D) → wOn K W D l cls d σ H
  | _, _, .nil, h => by
    simp only [evHs] at h
    exact h φ H (Step.refl s) cls d xr
  | _, _, .cons (nm := nm') (A := A') (i := i) (c' := c') (su := su) hx hi r, h => by
    obtain ⟨nm, A, dd, fs, v, x1, x2, x3, x4, x5, x6, x7⟩ := (show XRx K xa c p cls d (Or2 F (Live φ st)) H by rw [← hX]; exact xr)
    subst x2 x3
    refine ⟨subX c c', exm _ _ _ _ _ _ x1 hx, fun hb a ha => ?_, fun hb => ?_⟩
    · simp only [evHs] at h
      rw [hb] at h
      have hnm : nameX xn c = nm := by
        unfold nameX
        rw [List.getD_eq_getElem?_getD, hn, List.getElem?_map, x1]
        rfl
      rw [hnm] at h
      refine ⟨⟨a, A, dd, i, n, v, nm, fs⟩, rfl, rfl, rfl, rfl, rfl, x5, ⟨c, nm, x1⟩, F, φ, st, exEnv i δ p nm, s, sl_ex (g := ⟨a, A, dd, i, n, v, nm, fs⟩) sl x7, ⟨by rw [setN_len, hl], fun j hj => ?_, x4, x6⟩, ?_⟩
      · have hj : i = some j := hj
        subst hj
        show (σ.set j _)[j]? = _
        rw [List.getElem?_set_self (by rw [hl]; exact hi j rfl)]
      · have hd : δ.length = n := by rw [sl.len, hl]
        cases q : evSs C su (exEnv i δ p nm) st with
        | bad => rw [q] at h; exact h
        | exc c2 p2 st2 => rw [q] at h; exact h.elim
        | ok fl st2 =>
          rw [q] at h
          intro φ2 H2 t2
          have h2 := h φ2 H2 t2
          cases fl with
          | rt v =>
            intro u ru
            rw [endN_rt]
            exact h2 u (RU.weak hal ru)
          | nx δ2 =>
            intro σ2 d2 l2
            rw [endN_nx]
            exact h2 _ (sl_off (i := i) hd d2 l2)
          | bk δ2 =>
            intro σ2 d2 l2
            rw [endN_bk]
            exact h2 _ (sl_off (i := i) hd d2 l2)
          | ct δ2 =>
            intro σ2 d2 l2
            rw [endN_ct]
            exact h2 _ (sl_off (i := i) hd d2 l2)
    · simp only [evHs] at h
      rw [hb] at h
      exact wish_on hn hX exm hal s sl hl xr r h
end
section
variable {X : Cx} {P : Par} {C : CE} {xa : List (Str × Addr)}
theorem xs_tr {b : Stmt} {s : S} {h₀ : ExceptHandler} {hds : List ExceptHandler} {l' : List (Nat × Option Nat × List S)} {xn : List Str} {pos : Pos} (hn : xn = xa.map (·.1)) (hX : P.XR = XRx X.K xa)
    (exm : ∀ (c c' : Nat) (nm nm' : Str) (A A' : Addr), xa[c]? = some (nm, A) → xa[c']? = some (nm', A') → PySem.W.exmOne X.K (.ref A) (.ref A') = some (subX c c'))
    (hs : X.stack = X.env :: X.outer) (hf : X.env.frame = some X.env.locals) (hN : X.N.Nodup) (tk : Takes X P.W)
    (hb : ∀ (W : WX) (pn : List (Addr × Obj)) (xe : Value → Shared → Prop), Takes (X.tr pn xe) W → PassesOwn (model X.prog X.w) X.A X.env xe → PS (X.tr pn xe) b (tS X.K ⟨P.XR, W⟩ C s)) (hh : HsOk X C xa (h₀ :: hds) l') :
    PS X (.Try [b] (h₀ :: hds) [] [] pos) (tS X.K P C (.tr xn s l')) := by
  obtain ⟨l, hl, lk⟩ := hs_lk hh
  refine ps_weakN (ps_try_named (Wout := P.W) (l := l) (tb := fun W => tS X.K ⟨P.XR, W⟩ C s) hs hf hN tk (fun W pn xe tkW po => pss_one (hb W pn xe tkW po)) hl) fun D σ H hlen h => ?_
  obtain ⟨F, φ, st, δ, sc, sl, h⟩ := h
  simp only [evS] at h
  refine ⟨F, φ, st, δ, sc, sl, ?_⟩
  cases q : evS C s δ st with
  | bad => rw [q] at h; exact h.elim
  | ok fl st1 => rw [q] at h; exact h
  | exc c p st1 =>
    rw [q] at h
    intro φ1 H1 t1 cls d xr
    exact wish_on (H0 := H) hn hX exm t1.al t1.sc (sl.step sc t1) hlen xr lk (Post.step t1 h)
end
/-- what is known of the exception classes -/
structure XaOk (P : Program) (w : World) (K : PySem.W.Frag) (mg : Str → Option Value) (base : Heap) (xa : List (Str × Addr)) : Prop where
  at_ : ∀ (c : Nat) (nm : Str) (A : Addr), xa[c]? = some (nm, A) → mg nm = some (.ref A)
  ok : ∀ (c : Nat) (nm : Str) (A : Addr), xa[c]? = some (nm, A) → ∃ n, n ≤ 3 ∧ XcOk P w K mg base 2 n A nm
  exm : ∀ (c c' : Nat) (nm nm' : Str) (A A' : Addr), xa[c]? = some (nm, A) → xa[c']? = some (nm', A') → PySem.W.exmOne K (.ref A) (.ref A') = some (subX c c')
  ic : ∀ (c : Nat) (nm : Str) (A : Addr), xa[c]? = some (nm, A) → ExcC K A ∧ PySem.W.kitOne K (.ref A) (.type "ValueError") = some true
  ve : mg "ValueError" = none
end MP
set_option maxHeartbeats 1000001
/-! Ev12: from the text to the language. -/
namespace MP
open PySem PySem.Spec L2
/-- what is known where a text is read -/
structure CC where
  N : List Str
  sc : Scope
  fnp : Str → Bool
  fns : List (Str × Nat × Nat × List D)
  gls : List (Str × D)
  own : List Str
  xs : List Str
def CC.blk (c : CC) (scope : Scope) : CC := { c with sc := relS scope c.sc, fnp := fun x => scope.names.lookup x == some .cell }
def mapO {α β : Type} (f : α → Option β) : List α → Option (List β)
  | [] => some []
  | a :: as => (f a).bind fun b => (mapO f as).map (b :: ·)
theorem mapO_paired {α β : Type} {f : α → Option β} : ∀ {as : List α} {bs : List β}, mapO f as = some bs → Paired (fun a b => f a = some b) as bs
  | [], bs, e => by simp [mapO] at e; subst e; exact .nil
  | a :: as, bs, e => by
    simp only [mapO] at e
    cases q : f a with
    | none => rw [q]
          at e; cases e
    | some b =>
      rw [q] at e
      dsimp only [Option.bind_some] at e
      cases q2 : mapO f as with
      | none => rw [q2] at e; cases e
      | some bs' => rw [q2] at e; cases e; exact .cons q (mapO_paired q2)
def slotOf (N : List Str) (x : Str) : Option Nat := match N.findIdx? (fun y => decide (y = x)) with
  | some i => if N[i]? = some x then some i else none
  | none => none
theorem slotOf_ok {N : List Str} {x : Str} {i : Nat} (h : slotOf N x = some i) : N[i]? = some x := by
  unfold slotOf at h
  split at h
  · split at h
    · cases h; assumption
    · cases h
  · cases h
def visB (sc : Scope) (x : Str) : Bool := match sc.names.lookup x with
  | some .local => true
  | some .cell => true
  | some .free => true
  | _ => false
theorem visB_ok {sc : Scope} {x : Str} (h : visB sc x = true) : Vis sc x := by
  unfold visB at h
  split at h
  · exact .inl (by assumption)
  · exact .inr (.inl (by assumption))
  · exact .inr (.inr (by assumption))
  · cases h
/-- a name that may be stored -/
def locB (c : CC) (x : Str) : Bool := match c.sc.names.lookup x with
  | some .local => true
  | some .cell => c.fnp x
  | _ => false
theorem locB_ok {c : CC} {x : Str} (h : locB c x = true) : c.sc.names.lookup x = some .local ∨ (c.sc.names.lookup x = some .cell ∧ c.fnp x = true) := by
  unfold locB at h
  split at h
  · exact .inl (by assumption)
  · exact .inr ⟨by assumption, h⟩
  · cases h
def glB (sc : Scope) (x : Str) : Bool := decide (sc.names.lookup x = some .globalImplicit)
def opB : Operator → Bool
  | .Add => true | .Sub => true | .Mult => true | .FloorDiv => true | .Mod => true | .Pow => true
  | _ => false
def cstOf : Const → Option D
  | .int i => some (.int i)
  | .str x => some (.str x)
  | .bool b => some (.bool b)
  | .none => some .none
  | _ => none
def tyB (x : Str) : Option Ty :=
  if x = "int" then some .int else if x = "str" then some .str else if x = "bool" then some .bool else if x = "tuple" then some .tuple else if x = "list" then some .list else if x = "dict" then some .dict else none
def bltB (x : Str) : Option Blt :=
  if x = "len" then some .len else if x = "abs" then some .abs else if x = "int" then some .int else if x = "str" then some .str else if x = "tuple" then some .tuple else if x = "list" then some .list else if x = "any" then some .any
  else if x = "all" then some .all else if x = "sum" then some .sum else if x = "max" then some .max else if x = "min" then some .min else if x = "dict" then some .dict else none
def mthB (x : Str) : Option Mth :=
  if x = "append" then some .append else if x = "join" then some .join else if x = "replace" then some .replace else if x = "split" then some .split else none
def noStar : Expr → Bool
  | .Starred _ _ => false
  | _ => true
def noSlice : Expr → Bool
  | .Slice _ _ _ _ => false
  | _ => true
def noCall : Expr → Bool
  | .Call (.Name _ _) _ _ _ => false
  | _ => true
def noSet : Expr → Bool
  | .Set _ _ _ => false
  | _ => true
def noComp : Expr → Bool
  | .ListComp _ _ _ _ => false
  | .SetComp _ _ _ _ => false
  | .DictComp _ _ _ _ _ => false
  | _ => true
/-- as a test: no a if b else c within -/
def tstB : Nat → Expr → Bool
  | 0, _ => false
  | n + 1, e => match e with
    | .IfExp _ _ _ _ => false
    | .UnaryOp .Not a _ => tstB n a
    | .BoolOp _ vs _ => vs.all (tstB n)
    | .Compare _ [_] _ _ => true
    | .Compare _ _ _ _ => false
    | _ => true
def boolE (op : BoolOp) : List E → Option E
  | [] => none
  | [e] => some e
  | e :: es => (boolE op es).map fun f => match op with
    | .And => .an e f
    | .Or => .orr e f
def glob (c : CC) (x : Str) : Option E := if glB c.sc x then (c.gls.lookup x).map .cst else none
def fnAt (c : CC) (x : Str) (n : Nat) : Option (Nat × List D) := match c.fns.find? fun q => decide (q.1 = x ∧ q.2.2.1 = n) with
  | some q => if q.1 = x ∧ q.2.2.1 = n then some (q.2.1, q.2.2.2) else none
  | none => none
mutual
def compT (c : CC) : Expr → Option Tg
  | .Name x _ => if locB c x then (slotOf c.N x).map .nm else none
  | .Tuple es _ _ => (compTs c es).map .tp
  | _ => none
def compTs (c : CC) : List Expr → Option (List Tg)
  | [] => some []
  | e :: es => (compT c e).bind fun t => (compTs c es).map (t :: ·)
end
def isTup : Expr → Bool
  | .Tuple _ _ _ => true
  | _ => false
def ownL (N : List Str) : List (Str × NameKind) → List (Str × Nat)
  | [] => []
  | (x, k) :: r => match k, slotOf N x with
    | .local, some i => (x, i) :: ownL N r
    | .cell, some i => (x, i) :: ownL N r
    | _, _ => ownL N r
def tysOf (c : CC) : List Expr → Option (List Ty)
  | [] => some []
  | .Name y _ :: r => if glB c.sc y then (tyB y).bind fun t => (tysOf c r).map (t :: ·) else none
  | _ :: _ => none
def compSrc (f : Expr → Option E) (c : CC) (tg it : Expr) : Option Src :=
  match it with
  | .Call (.Name x _) args [] pos =>
    if glB c.sc x then
      if x = "range" then (match args with
        | [a] => (f a).bind fun e => if noStar a then some (.rng1 [e]) else none
        | [a, b] => (f a).bind fun e => (f b).bind fun e2 => if noStar a && noStar b then some (.rng2 [e, e2]) else none
        | _ => none)
      else if x = "enumerate" then (match args with
        | [a] => (f a).bind fun e => if noStar a && isTup tg then some (.enm [e]) else none
        | _ => none)
      else if x = "zip" then (match args with
        | [a, b] => (f a).bind fun e => (f b).bind fun e2 => if noStar a && noStar b && isTup tg then some (.zp [e, e2]) else none
        | _ => none)
      else if x = "reversed" then (match args with
        | [a] => (f a).bind fun e => if noStar a then some (.rv e) else none
        | _ => none)
      else (f it).map .it
    else (f it).map .it
  | it => (f it).map .it
/-- a fresh list or dict within a list: a cell, where the def asks for it -/
def celB : E → Bool
  | .lst _ _ => true
  | .lc _ _ _ _ _ => true
  | .dis _ => true
  | .blt .list _ => true
  | .blt .dict _ => true
  | _ => false
def celIf (c : CC) (e : E) : E := if (decide (("[]" : Str) ∈ c.own) && celB e) = true then .cel e else e
def celOwn (c : CC) (x : Str) (e : E) : E := if decide (x ∈ c.own) = true then .cel e else e
def comp : Nat → CC → Expr → Option E
  | 0, _, _ => none
  | n + 1, c, e => match e with
    | .Name x _ => if x = "__debug__" ∨ x = "__classdict__" then none else match slotOf c.N x with
      | some i => if visB c.sc x then some (.var i) else glob c x
      | none => glob c x
    | .Constant k _ _ => (cstOf k).map .cst
    | .BinOp a op b _ => if opB op then (comp n c a).bind fun x => (comp n c b).map fun y => .bin op x y else none
    | .UnaryOp .Not a _ => (comp n c a).map .nt
    | .UnaryOp .USub a _ => (comp n c a).map .neg
    | .BoolOp op vs _ => (mapO (comp n c) vs).bind fun es => boolE op es
    | .IfExp t a b _ => if tstB n t then (comp n c t).bind fun g => (comp n c a).bind fun x => (comp n c b).map fun y => .ife g x y else none
    | .Compare a [op] [b] _ => if behindInMarks op b then none else (comp n c a).bind fun x => (comp n c b).map fun y => .cmp op x y
    | .Compare a [o1, o2] [b, d] _ => if lastMarks [o1, o2] [b, d] then none else (comp n c a).bind fun x => (comp n c b).bind fun y => (comp n c d).map fun z => .cmp2 o1 o2 x y z
    | .Tuple es _ _ => if es.all noStar then (mapO (comp n c) es).map .tup else none
    | .List es _ => if es.all noStar then (mapO (comp n c) es).map fun xs => .lst false (xs.map (celIf c)) else none
    | .Subscript a (.Slice lo hi none _) _ => (comp n c a).bind fun x => (match lo with
        | none => some none
        | some l => (comp n c l).map some).bind fun l => (match hi with
        | none => some none
        | some h => (comp n c h).map some).map fun h => .sl x l h
    | .Subscript a b _ => if noSlice b then (comp n c a).bind fun x => (comp n c b).map fun y => .ix x y else none
    | .Call (.Name x _) (a :: as) [] _ =>
      if glB c.sc x && (a :: as).all noStar && !decide (x = "__debug__") then
        if x = "isinstance" then (match as with
          | [.Name y _] => if glB c.sc y then (tyB y).bind fun t => (comp n c a).map fun e => .isi e [t] else none
          | [.Tuple ys _ _] => (tysOf c ys).bind fun ts => (match ts with
            | [] => none
            | t :: ts => if (t :: ts).length ≤ 100 then (comp n c a).map fun e => .isi e (t :: ts) else none)
          | _ => none)
        else match bltB x with
          | some b => (mapO (comp n c) (a :: as)).map fun es => .blt b es
          | none => (fnAt c x (a :: as).length).bind fun q => (mapO (comp n c) (a :: as)).map fun es => .call q.1 es q.2
      else none
    | .Call (.Attribute o name apos) (a :: as) [] cpos => if noCall o && (a :: as).all noStar && (apos.endLine == cpos.line) && decide ((a :: as).length < 20) then
        (mthB name).bind fun m => (comp n c o).bind fun x => (mapO (comp n c) (a :: as)).map fun es => .mth m x (es.map (celIf c))
      else none
    | .Call (.Attribute o name apos) [] [] cpos => if noCall o && (apos.endLine == cpos.line) && decide (name = "pop") then (comp n c o).map fun x => .mth .pop x [] else none
    | .ListComp elt [⟨tg, it, ifs, 0⟩] scope _ => if noSet it then
        let own := ownL c.N scope.names
        let c' := c.blk scope
        if blkC c.N c.sc scope own then (compT c' tg).bind fun t => if t.slots.all (fun i => decide (i ∈ own.map Prod.snd)) then
          (compSrc (comp n c) c tg it).bind fun s => (match ifs with
            | [] => some []
            | [i] => if tstB n i then (comp n c' i).map fun x => [x] else none
            | _ => none).bind fun cs => (comp n c' elt).map fun e => .lc (own.map Prod.snd) t s cs e
          else none
        else none
      else none
    | .Dict [] [] _ => some (.dis [])
    | _ => none
/-! ### what a place is -/
structure Good (X : Cx) (P : Par) (C : CE) (c : CC) : Prop where
  calm : X.calm = true
  nd : X.N.Nodup
  hN : X.N = c.N
  sc : X.env.scope = c.sc
  fn : ∀ x, c.fnp x = true → X.fn x = true
  k : ∃ k, Room k X.A ∧ ∀ x i n dfl, (x, i, n, dfl) ∈ c.fns → ∃ f fd ps dvs ds np, X.mg x = some (.ref f) ∧ PySem.W.keepIn X.K (.ref f) = true ∧ FnOk X.prog X.w X.K X.mg X.base (L2.CX X.prog X.w) k f fd ps (spR X.K P.XR np (C.run i)) ∧
    Binds X.K fd ps ds ∧ Vals dvs ds ∧ (∀ L H, DenAll X.K L H dvs dfl) ∧ ∀ ws st, ws.length ≠ np → C.run i ws st = .bad
  px : ∀ σ, PassesAt (L2.CX X.prog X.w) X σ (WE P.W σ)
  bl : ∀ x : Str, x ∈ (["len", "abs", "int", "str", "bool", "tuple", "list", "any", "all", "sum", "max", "min", "dict", "isinstance", "range", "enumerate", "zip", "reversed"] : List Str) → X.mg x = none
  gl : ∀ x d, c.gls.lookup x = some d → ∃ v u, X.mg x = some u ∧ RelV v u ∧ ∀ L H, Den X.K L H v d
  xa : XAnti P.XR
  xc : ∃ xa : List (Str × Addr), XaOk X.prog X.w X.K X.mg X.base xa ∧ c.xs = xa.map (·.1) ∧ P.XR = XRx X.K xa
  r3 : Room 3 X.A
theorem star_cons {a : Expr} {as : List Expr} {en : PySem.Env} (h : noStar a = true) : starEach (a :: as) en = (false, eval a en) :: starEach as en := by
  cases a <;> first | rfl | (simp [noStar] at h)
theorem star_no {en : PySem.Env} {pos : Pos} : ∀ {as : List Expr}, as.all noStar = true → (backTo pos (starEach as en)).any (·.1) = false
  | [], _ => rfl
  | a :: as, h => by
    rw [List.all_cons,
          Bool.and_eq_true] at h
    rw [star_cons h.1]
    show (false || (backTo pos (starEach as en)).any (·.1)) = false
    rw [star_no h.2]; rfl
theorem star_all {en : PySem.Env} {pos : Pos} : ∀ {as : List Expr}, as.all noStar = true → (backTo pos (starEach as en)).all (fun x => !x.1) = true
  | [], _ => rfl
  | a :: as, h => by
    rw [List.all_cons,
          Bool.and_eq_true] at h
    rw [star_cons h.1]
    show (true && (backTo pos (starEach as en)).all (fun x => !x.1)) = true
    rw [star_all h.2]; rfl
theorem plain_ix {b : Expr} (h : noSlice b = true) : PlainIx b := fun o i => by
  cases b <;> first | rfl | (simp [noSlice] at h)
theorem att_base {o : Expr} {x : Str} {en : PySem.Env} (h : noCall o = true) : attributeBase o x en (eval o en) = eval o en := by
  cases o with
  | Call f as ks p => cases f <;> first | rfl | (simp [noCall] at h)
  | _ => rfl
theorem fold_set {it : Expr} {en : PySem.Env} (h : noSet it = true) : ∀ x, foldedSetIterable it en x = pure x := fun x => by
  cases it <;> first | rfl | (simp [noSet] at h)
theorem swaps_no {a : Expr} {t : Option Expr} {l : Nat} {en : PySem.Env} (h : noComp a = true) : swapsWith a t l en = pure false := by
  cases a <;> first | rfl | (simp [noComp] at h)
theorem paired_mono {α β : Type} {P Q : α → β → Prop} {as : List α} {bs : List β} (h : Paired P as bs) (k : ∀ a b, a ∈ as → P a b → Q a b) : Paired Q as bs := by
  induction h with
  | nil => exact .nil
  | cons a r ih => exact .cons (k _ _ (List.mem_cons_self ..) a) (ih fun a b m => k a b (List.mem_cons_of_mem _ m))
section
variable {X : Cx} {P : Par} {C : CE} {c : CC}
theorem Good.gl' (g : Good X P C c) {x : Str} (h : glB c.sc x = true) : Gl X x := by
  unfold Gl
  show X.env.scope.names.lookup x = _
  rw [g.sc]
  simpa [glB] using h
theorem xa_list {as : List Expr} {es : List E} (hs : as.all noStar = true) (h : Paired (fun a e => PE X a (tE X.K P C e)) as es) : PA X as (tEs X.K P C es) := by
  induction h with
  | nil => exact xa_nil
  | cons a r ih =>
    rw [List.all_cons, Bool.and_eq_true] at hs
    exact xa_cons a (ih hs.2) (star_cons hs.1)
theorem Good.units (g : Good X P C c) : X.A.units + 65 < cLine := by
  obtain ⟨k, r, _⟩ := g.k
  have := r.un
  omega
theorem xe_glob (g : Good X P C c) {x : Str} {e : E} {pos : Pos} (hd : (x == ("__debug__" : Str)) = false) (h : glob c x = some e) : PE X (.Name x pos) (tE X.K P C e) := by
  unfold glob at h
  split at h
  · rename_i hg
    cases q : c.gls.lookup x with
    | none => rw [q] at h; cases h
    | some d =>
      rw [q] at h; cases h
      obtain ⟨v, u, hm, r, hd'⟩ := g.gl x d q
      exact xe_cst (pe_glob (g.gl' hg) hm r hd) hd'
  · cases h
theorem ty_name (g : Good X P C c) {y : Str} {t : Ty} {pos : Pos} (hg : glB c.sc y = true) (h : tyB y = some t) : PE X (.Name y pos) (tC (tyV' t)) := by
  unfold tyB at h
  split at h
  · cases h; subst y; exact pe_bltn (g.gl' hg) (g.bl _ (by decide)) (by decide +kernel) rfl
  · split at h
    · cases h; subst y; exact pe_bltn (g.gl' hg) (g.bl _ (by decide)) (by decide +kernel) rfl
    · split at h
      · cases h; subst y; exact pe_bltn (g.gl' hg) (g.bl _ (by decide)) (by decide +kernel) rfl
      · split at h
        · cases h; subst y; exact pe_bltn (g.gl' hg) (g.bl _ (by decide)) (by decide +kernel) rfl
        · split at h
          · cases h; subst y; exact pe_bltn (g.gl' hg) (g.bl _ (by decide)) (by decide +kernel) rfl
          · split at h
            · cases h; subst y; exact pe_bltn (g.gl' hg) (g.bl _ (by decide)) (by decide +kernel) rfl
            · cases h
theorem tys_names (g : Good X P C c) : ∀ {ys : List Expr} {ts : List Ty}, tysOf c ys = some ts → PA X ys (tTys ts)
  | [], ts, h => by simp [tysOf] at h; subst h; exact pa_weak pa_nil fun _ _ _ h => h
  | y :: r, ts, h => by
    cases y with
    | Name y p =>
      simp only [tysOf] at h
      split at h
      · rename_i hg
        cases q : tyB y with
        | none => rw [q] at h; cases h
        | some t =>
          rw [q] at h
          dsimp only [Option.bind_some] at h
          cases q2 : tysOf c r with
          | none => rw [q2] at h; cases h
          | some ts' =>
            rw [q2] at h; cases h
            exact pa_weak (pa_cons (ty_name g hg q) (tys_names g q2) rfl) fun _ _ _ h => h
      · cases h
    | _ => simp [tysOf] at h
theorem op_ok (g : Good X P C c) {op : Operator} (h : opB op = true) : OpR X (binaryOp op) (rTwo X.K (binV op)) := by
  cases op <;> first | exact ob_add | exact ob_sub | exact ob_mul | exact ob_fdiv | exact ob_mod | exact ob_pow | (simp [opB] at h)
theorem cmp_ok (g : Good X P C c) (op : CmpOp) : OpR X (compareOp op) (rTwoB X.K (cmpV op)) := by
  have hu := g.units
  have hu' : X.A.units + 64 < cLine := by omega
  cases op
  · exact oc_eq hu'
  · exact oc_ne hu'
  · exact oc_lt
  · exact oc_le
  · exact oc_gt
  · exact oc_ge
  · exact oc_is
  · exact oc_isnot
  · exact oc_in hu
  · exact oc_notin hu
theorem blt_call (g : Good X P C c) {x : Str} {b : Blt} {a : Expr} {as : List Expr} {es : List E} {p pos : Pos} (hb : bltB x = some b) (hg : glB c.sc x = true) (hs : (a :: as).all noStar = true) (ha : PA X (a :: as) (tEs X.K P C es)) :
    PE X (.Call (.Name x p) (a :: as) [] pos) (tE X.K P C (.blt b es)) := by
  have hs' := hs
  rw [List.all_cons, Bool.and_eq_true] at hs'
  have he := star_cons (as := as) (en := X.env) hs'.1
  have hpl := star_no (pos := pos) (en := X.env) hs'.2
  have hgl := g.gl' hg
  unfold bltB at hb
  repeat' split at hb
  all_goals first
    | (cases hb; done)
    | (cases hb
       subst x
       first
        | exact xe_bltB cb_len hgl (g.bl _ (by decide)) (by decide +kernel) ha (by decide) (by decide) he hpl
        | exact xe_bltB cb_abs hgl (g.bl _ (by decide)) (by decide +kernel) ha (by decide) (by decide) he hpl
        | exact xe_bltT cb_int hgl (g.bl _ (by decide)) (by decide +kernel) ha (by decide) (by decide) he hpl
        | exact xe_bltT cb_str hgl (g.bl _ (by decide)) (by decide +kernel) ha (by decide) (by decide) he hpl
        | exact xe_bltT (cb_tuple g.calm) hgl (g.bl _ (by decide)) (by decide +kernel) ha (by decide) (by decide) he hpl
        | exact xe_bltT cb_list hgl (g.bl _ (by decide)) (by decide +kernel) ha (by decide) (by decide) he hpl
        | exact xe_bltB (cb_any g.calm) hgl (g.bl _ (by decide)) (by decide +kernel) ha (by decide) (by decide) he hpl
        | exact xe_bltB (cb_all g.calm) hgl (g.bl _ (by decide)) (by decide +kernel) ha (by decide) (by decide) he hpl
        | exact xe_bltB (cb_sum g.calm) hgl (g.bl _ (by decide)) (by decide +kernel) ha (by decide) (by decide) he hpl
        | exact xe_bltB (cb_max g.calm) hgl (g.bl _ (by decide)) (by decide +kernel) ha (by decide) (by decide) he hpl
        | exact xe_bltB (cb_min g.calm) hgl (g.bl _ (by decide)) (by decide +kernel) ha (by decide) (by decide) he hpl
        | exact xe_bltT (cb_dict g.calm) hgl (g.bl _ (by decide)) (by decide +kernel) ha (by decide) (by decide) he hpl)
end
end MP
set_option maxHeartbeats 1000001
/-! Ev13: an expression of the text does what its term tells. -/
namespace MP
open PySem PySem.Spec L2
theorem not_debug {x : Str} (h : ¬ x = "__debug__") : (x == ("__debug__" : Str)) = false := by simpa using h
theorem isTrue_any {a : Expr} {en : PySem.Env} (h : ∀ x p, a ≠ .UnaryOp .Not x p) (h2 : ∀ o v p, a ≠ .BoolOp o v p) (h3 : ∀ x y z p, a ≠ .IfExp x y z p) (h4 : ∀ x y z p, a ≠ .Compare x y z p) (whole : Sem Value) :
    isTrue a en whole = (do let v ← whole; standAt a.pos; holding [v] (truthy v)) := by
  cases a with
  | UnaryOp op x p => cases op <;> first | rfl | exact absurd rfl (h _ _)
  | BoolOp _ _ _ => exact absurd rfl (h2 _ _ _)
  | IfExp _ _ _ _ => exact absurd rfl (h3 _ _ _ _)
  | Compare _ _ _ _ => exact absurd rfl (h4 _ _ _ _)
  | _ => rfl
theorem each_cons {e : Expr} {es : List Expr} {en : PySem.Env} (h : noStar e = true) : assignEach (e :: es) en = (false, assign e en) :: assignEach es en := by
  cases e <;> first | rfl | (simp [noStar] at h)
section
variable {X : Cx} {P : Par} {C : CE} {c : CC}
theorem compT_star {e : Expr} {t : Tg} (h : compT c e = some t) : noStar e = true := by
  cases e <;> first | rfl | (simp [compT] at h)
theorem each_len : ∀ {es : List Expr} {ts : List Tg}, compTs c es = some ts → (assignEach es X.env).length = ts.length ∧ (assignEach es X.env).findIdx? (·.1) = none
  | [], ts, h => by simp [compTs] at h; subst h; exact ⟨rfl, rfl⟩
  | e :: es, ts, h => by
    simp only [compTs] at h
    cases q : compT c e with
    | none => rw [q] at h; cases h
    | some t =>
      rw [q] at h
      dsimp only [Option.bind_some] at h
      cases q2 : compTs c es with
      | none => rw [q2] at h; cases h
      | some ts' =>
        rw [q2] at h; cases h
        obtain ⟨h1, h2⟩ := each_len q2
        rw [each_cons (compT_star q)]
        refine ⟨congrArg Nat.succ h1, ?_⟩
        rw [List.findIdx?_cons, h2]; rfl
mutual
theorem compT_ok (g : Good X P C c) : ∀ {e : Expr} {t : Tg}, compT c e = some t → PG X e (gT X.K t)
  | .Name x p, t, h => by
    simp only [compT] at h
    split at h
    · rename_i hl
      cases q : slotOf c.N x with
      | none => rw [q] at h; cases h
      | some i =>
        rw [q] at h; cases h
        have q := slotOf_ok q
        rw [← g.hN] at q
        have hl := locB_ok hl
        rw [← g.sc] at hl
        simp only [gT]
        exact pg_name g.nd q (hl.imp id (·.1)) (hl.symm.imp (fun z => g.fn _ z.2) id)
    · cases h
  | .Tuple es k p, t, h => by
    simp only [compT] at h
    cases q : compTs c es with
    | none => rw [q] at h; cases h
    | some ts =>
      rw [q] at h; cases h
      simp only [gT]
      exact pg_tup g.calm (compTs_ok g q) (each_len q).1 (each_len q).2
  | .BoolOp .., t, h => by simp [compT] at h
  | .NamedExpr .., t, h => by simp [compT] at h
  | .BinOp .., t, h => by simp [compT] at h
  | .UnaryOp .., t, h => by simp [compT] at h
  | .Lambda .., t, h => by simp [compT] at h
  | .IfExp .., t, h => by simp [compT] at h
  | .Dict .., t, h => by simp [compT] at h
  | .Set .., t, h => by simp [compT] at h
  | .ListComp .., t, h => by simp [compT] at h
  | .SetComp .., t, h => by simp [compT] at h
  | .DictComp .., t, h => by simp [compT] at h
  | .GeneratorExp .., t, h => by simp [compT] at h
  | .Await .., t, h => by simp [compT] at h
  | .Yield .., t, h => by simp [compT] at h
  | .YieldFrom .., t, h => by simp [compT] at h
  | .Compare .., t, h => by simp [compT] at h
  | .Call .., t, h => by simp [compT] at h
  | .FormattedValue .., t, h => by simp [compT] at h
  | .JoinedStr .., t, h => by simp [compT] at h
  | .Constant .., t, h => by simp [compT] at h
  | .Attribute .., t, h => by simp [compT] at h
  | .Subscript .., t, h => by simp [compT] at h
  | .Starred .., t, h => by simp [compT] at h
  | .List .., t, h => by simp [compT] at h
  | .Slice .., t, h => by simp [compT] at h
theorem compTs_ok (g : Good X P C c) : ∀ {es : List Expr} {ts : List Tg}, compTs c es = some ts → PGs X es (gTs X.K ts)
  | [], ts, h => by simp [compTs] at h; subst h; simp only [gTs]; exact pgs_nil
  | e :: es, ts, h => by
    simp only [compTs] at h
    cases q : compT c e with
    | none => rw [q] at h; cases h
    | some t =>
      rw [q] at h
      dsimp only [Option.bind_some] at h
      cases q2 : compTs c es with
      | none => rw [q2] at h; cases h
      | some ts' =>
        rw [q2] at h; cases h
        simp only [gTs]
        exact pgs_cons (compT_ok g q) (compTs_ok g q2) (by rw [each_cons (compT_star q)]; rfl)
end
theorem bool_pe {op : BoolOp} {pos : Pos} : ∀ {vs : List Expr} {es : List E} {f : E}, Paired (fun a e => PE X a (tE X.K P C e)) vs es → boolE op es = some f → PE X (.BoolOp op vs pos) (tE X.K P C f)
  | [], _, f, .nil, h => by simp [boolE] at h
  | [v], _, f, .cons a .nil, h => by simp [boolE] at h; subst h; exact pe_one a
  | v :: w :: vs, _, f, .cons (b := e) a (.cons (b := e2) (l₂ := es) b r), h => by
    simp only [boolE] at h
    cases q : boolE op (e2 :: es) with
    | none => rw [q] at h; cases h
    | some g =>
      rw [q] at h
      have rr := bool_pe (pos := pos) (.cons b r) q
      cases op with
      | And => cases h; exact xe_an a rr
      | Or => cases h; exact xe_or a rr
theorem bool_pw {op : BoolOp} {pos : Pos} : ∀ {vs : List Expr} {es : List E} {f : E}, Paired (fun a e => PT X a (tT X.K P C e)) vs es → boolE op es = some f → PW X (.BoolOp op vs pos) (tT X.K P C f)
  | [], _, f, .nil, h => by simp [boolE] at h
  | [v], _, f, .cons a .nil, h => by
    simp [boolE] at h; subst h
    cases op with
    | And => exact pw_and1 a
    | Or => exact pw_or1 a
  | v :: w :: vs, _, f, .cons (b := e) a (.cons (b := e2) (l₂ := es) b r), h => by
    simp only [boolE] at h
    cases q : boolE op (e2 :: es) with
    | none => rw [q] at h; cases h
    | some g =>
      rw [q] at h
      have rr := bool_pw (pos := pos) (.cons b r) q
      cases op with
      | And => cases h; exact xt_an a rr
      | Or => cases h; exact xt_or a rr
/-- within a comprehension's block -/
theorem Good.blk (g : Good X P C c) (scope : Scope) (s : Shared) (H : Hp) (D : Addr) (cl : List (Str × Addr)) (fp : List Addr) : Good (X.blk s H scope (compEnvC scope cl D X.env) fp) ⟨P.XR, fun _ _ _ _ => False⟩ C (c.blk scope) where
  calm := g.calm
  nd := g.nd
  hN := g.hN
  sc := by show relS scope X.env.scope = relS scope c.sc; rw [g.sc]
  fn := fun x h => h
  k := g.k
  px := fun σ _ _ _ _ _ _ h => by
    obtain ⟨_, _, _, _, _, _,
          _, _, _, _, _, _, z⟩ := h
    exact z.elim
  bl := g.bl
  gl := g.gl
  xa := g.xa
  xc := g.xc
  r3 := g.r3
/-- within a try's body -/
theorem Good.tr (g : Good X P C c) {pn : List (Addr × Obj)} {xe : Value → Shared → Prop} {W : WX} (tk : Takes (X.tr pn xe) W) : Good (X.tr pn xe) ⟨P.XR, W⟩ C c where
  calm := g.calm
  nd := g.nd
  hN := g.hN
  sc := g.sc
  fn := g.fn
  k := g.k
  px := fun σ => passAt tk σ
  bl := g.bl
  gl := g.gl
  xa := g.xa
  xc := g.xc
  r3 := g.r3
theorem fnAt_ok {x : Str} {n : Nat} {q : Nat × List D} (h : fnAt c x n = some q) : ∃ m, (x, q.1, m, q.2) ∈ c.fns := by
  unfold fnAt at h
  split at h
  · rename_i p hp
    split at h
    · rename_i e
      cases h
      obtain ⟨e1, e2⟩ := e
      exact ⟨p.2.2.1, by
        have := List.mem_of_find?_eq_some hp
        rw [← e1]; exact this⟩
    · cases h
  · cases h
theorem paired_comp {f : Expr → Option E} {Q : Expr → E → Prop} {as : List Expr} {es : List E} (h : mapO f as = some es) (k : ∀ a e, a ∈ as → f a = some e → Q a e) : Paired Q as es := paired_mono (mapO_paired h) k
theorem src_ok (g : Good X P C c) {f : Expr → Option E} (ih : ∀ a e, f a = some e → PE X a (tE X.K P C e)) {tg it : Expr} {s : Src} (h : compSrc f c tg it = some s) : PI X tg it (tSrc X.K P C s) := by
  have other : ∀ {s}, (f it).map Src.it = some s → PI X tg it (tSrc X.K P C s) := fun {s} h => by
    cases q : f it with
    | none => rw [q] at h; cases h
    | some e => rw [q] at h; cases h; exact src_it (ih _ _ q)
  have tup : ∀ {a : Expr}, isTup a = true → ∃ es k p, a = .Tuple es k p := fun {a} h => by
    cases a <;> first | exact ⟨_, _, _, rfl⟩ | (simp [isTup] at h)
  unfold compSrc at h
  split at h
  · rename_i x p args pos
    split at h
    · rename_i hg
      split at h
      · subst x
        split at h
        · rename_i a
          cases q : f a with
          | none => rw [q] at h; cases h
          | some e =>
            rw [q] at h
            dsimp only [Option.bind_some] at h
            split at h
            · rename_i hs
              cases h
              exact src_rng1 (g.gl' hg) (g.bl _ (by decide)) (xa_cons (ih _ _ q) xa_nil (star_cons hs)) (star_cons hs)
            · cases h
        · rename_i a b
          cases q : f a with
          | none => rw [q] at h; cases h
          | some e =>
            rw [q] at h
            dsimp only [Option.bind_some] at h
            cases q2 : f b with
            | none => rw [q2] at h; cases h
            | some e2 =>
              rw [q2] at h
              dsimp only [Option.bind_some] at h
              split at h
              · rename_i hs
                cases h
                rw [Bool.and_eq_true] at hs
                exact src_rng2 (g.gl' hg) (g.bl _ (by decide)) (xa_cons (ih _ _ q) (xa_cons (ih _ _ q2) xa_nil (star_cons hs.2)) (star_cons hs.1)) (by rw [star_cons hs.1, star_cons hs.2]; rfl) (star_cons hs.2)
              · cases h
        · cases h
      · split at h
        · subst x
          split at h
          · rename_i a
            cases q : f a with
            | none => rw [q] at h; cases h
            | some e =>
              rw [q] at h
              dsimp only [Option.bind_some] at h
              split at h
              · rename_i hs
                cases h
                rw [Bool.and_eq_true] at hs
                obtain ⟨es, k, p, rfl⟩ := tup hs.2
                exact src_enm (g.gl' hg) (g.bl _ (by decide)) (xa_cons (ih _ _ q) xa_nil (star_cons hs.1)) (star_cons hs.1)
              · cases h
          · cases h
        · split at h
          · subst x
            split at h
            · rename_i a b
              cases q : f a with
              | none => rw [q] at h; cases h
              | some e =>
                rw [q] at h
                dsimp only [Option.bind_some] at h
                cases q2 : f b with
                | none => rw [q2] at h; cases h
                | some e2 =>
                  rw [q2] at h
                  dsimp only [Option.bind_some] at h
                  split at h
                  · rename_i hs
                    cases h
                    rw [Bool.and_eq_true, Bool.and_eq_true] at hs
                    obtain ⟨es, k, p, rfl⟩ := tup hs.2
                    exact src_zp (g.gl' hg) (g.bl _ (by decide)) (xa_cons (ih _ _ q) (xa_cons (ih _ _ q2) xa_nil (star_cons hs.1.2)) (star_cons hs.1.1)) (star_cons hs.1.1) (star_no (by rw [List.all_cons, hs.1.2]; rfl))
                  · cases h
            · cases h
          · split at h
            · subst x
              split at h
              · rename_i a
                cases q : f a with
                | none => rw [q] at h; cases h
                | some e =>
                  rw [q] at h
                  dsimp only [Option.bind_some] at h
                  split at h
                  · rename_i hs
                    cases h
                    exact src_rv (g.gl' hg) (g.bl _ (by decide)) (ih _ _ q) (star_cons hs)
                  · cases h
              · cases h
            · exact other h
    · exact other h
  · exact other h
end
end MP
set_option maxHeartbeats 2000001
/-! Ev14: an expression of the text does what its term tells: the whole. -/
namespace MP
open PySem PySem.Spec L2
theorem opt_bind {α β : Type} {o : Option α} {f : α → Option β} {b : β} (h : o.bind f = some b) : ∃ a, o = some a ∧ f a = some b := by
  cases o with
  | none => cases h
  | some a => exact ⟨a, rfl, h⟩
theorem opt_map {α β : Type} {o : Option α} {f : α → β} {b : β} (h : o.map f = some b) : ∃ a, o = some a ∧ f a = b := by
  cases o with
  | none => cases h
  | some a => exact ⟨a, rfl, Option.some.inj h⟩
theorem ite_some {α : Type} {p : Prop} [Decidable p] {o : Option α} {b : α} (h : (if p then o else none) = some b) : p ∧ o = some b := by
  split at h
  · exact ⟨by assumption, h⟩
  · cases h
section
variable {X : Cx} {P : Par} {C : CE} {c : CC}
theorem xe_dis {pos : Pos} : PE X (.Dict [] [] pos) (tE X.K P C (.dis [])) := pe_weak pe_dnewK fun σ H Q ⟨F, φ, st, δ, s, d, h⟩ => by
  simp only [evE, evKvs] at h
  exact fun p hp => h φ _ (Step.laid s hp) _ (RU.dict s hp .nil)
theorem cel_map {as : List Expr} {es : List E} (h : Paired (fun a e => PE X a (tE X.K P C e)) as es) : Paired (fun a e => PE X a (tE X.K P C e)) as (es.map (celIf c)) := by
  induction h with
  | nil => exact .nil
  | cons a r ih =>
    refine .cons ?_ ih
    unfold celIf
    split
    · exact xe_cel a
    · exact a
def StE (n : Nat) : Prop := ∀ (X : Cx) (P : Par) (C : CE) (c : CC), Good X P C c → ∀ e e', comp n c e = some e' → PE X e (tE X.K P C e') ∧ ∀ m, tstB m e = true → PT X e (tT X.K P C e')
theorem comp_pe (n : Nat) (ih : StE n) (g : Good X P C c) (e : Expr) (e' : E) (h : comp (n + 1) c e = some e') : PE X e (tE X.K P C e') := by
  have ihe : ∀ a x, comp n c a = some x → PE X a (tE X.K P C x) := fun a x q => (ih X P C c g a x q).1
  have iht : ∀ m a x, tstB m a = true → comp n c a = some x → PT X a (tT X.K P C x) := fun m a x t q => (ih X P C c g a x q).2 m t
  unfold comp at h
  split at h
  case h_1 x p =>
    split at h
    · cases h
    · rename_i hd
      have hd1 : ¬ x = "__debug__" := fun z => hd (.inl z)
      have hd2 : ¬ x = "__classdict__" := fun z => hd (.inr z)
      split at h
      · rename_i i hi
        split at h
        · rename_i hv
          cases h
          have hi := slotOf_ok hi
          rw [← g.hN] at hi
          have hv := visB_ok hv
          rw [← g.sc] at hv
          exact xe_var (pe_var hi hv (not_debug hd1) (by simpa using hd2))
        · exact xe_glob g (not_debug hd1) h
      · exact xe_glob g (not_debug hd1) h
  case h_2 k k2 p =>
    cases k with
    | int i => cases h; exact xe_cst pe_int fun _ _ => Den.int i
    | str x => cases h; exact xe_cst pe_str fun _ _ => Den.str x
    | bool b => cases h; exact xe_cst pe_bl fun _ _ => Den.bl b
    | none => cases h; exact xe_cst pe_non fun _ _ => Den.non
    | _ => cases h
  case h_3 a op b p =>
    replace h := ite_some h; obtain ⟨ho, h⟩ := h
    obtain ⟨x, hx, h⟩ := opt_bind h
    obtain ⟨y, hy, h⟩ := opt_map h
    subst h
    exact xe_bin (op_ok g ho) (ihe _ _ hx) (ihe _ _ hy)
  case h_4 a p =>
    obtain ⟨x, hx, h⟩ := opt_map h
    subst h
    exact xe_nt (ihe _ _ hx)
  case h_5 a p =>
    obtain ⟨x, hx, h⟩ := opt_map h
    subst h
    exact xe_neg (ihe _ _ hx)
  case h_6 op vs p =>
    obtain ⟨es, hx, h⟩ := opt_bind h
    exact bool_pe (paired_comp hx fun a e _ q => ihe a e q) h
  case h_7 t a b p =>
    replace h := ite_some h; obtain ⟨ht, h⟩ := h
    obtain ⟨w, hw, h⟩ := opt_bind h
    obtain ⟨x, hx, h⟩ := opt_bind h
    obtain ⟨y, hy, h⟩ := opt_map h
    subst h
    exact xe_ife (iht _ _ _ ht hw) (ihe _ _ hx) (ihe _ _ hy)
  case h_8 a op b p =>
    split at h
    · cases h
    · rename_i hm
      obtain ⟨x, hx, h⟩ := opt_bind h
      obtain ⟨y, hy, h⟩ := opt_map h
      subst h
      exact xe_cmp (cmp_ok g op) (ihe _ _ hx) (ihe _ _ hy) (by simpa using hm)
  case h_9 a o1 o2 b d p =>
    split at h
    · cases h
    · rename_i hm
      obtain ⟨x, hx, h⟩ := opt_bind h
      obtain ⟨y, hy, h⟩ := opt_bind h
      obtain ⟨z, hz, h⟩ := opt_map h
      subst h
      exact xe_cmp2 (cmp_ok g o1) (cmp_ok g o2) (ihe _ _ hx) (ihe _ _ hy) (ihe _ _ hz) (by simpa using hm)
  case h_10 es k p =>
    replace h := ite_some h; obtain ⟨hs, h⟩ := h
    obtain ⟨x, hx, h⟩ := opt_map h
    subst h
    exact xe_tup (xa_list hs (paired_comp hx fun a e _ q => ihe a e q))
  case h_11 es p =>
    replace h := ite_some h; obtain ⟨hs, h⟩ := h
    obtain ⟨x, hx, h⟩ := opt_map h
    subst h
    exact xe_lst (xa_list hs (cel_map (paired_comp hx fun a e _ q => ihe a e q)))
  case h_12 a lo hi p2 p =>
    obtain ⟨x, hx, h⟩ := opt_bind h
    obtain ⟨l, hl, h⟩ := opt_bind h
    obtain ⟨r, hr, h⟩ := opt_map h
    subst h
    refine xe_sl (ihe _ _ hx) ?_ ?_
    · cases lo with
      | none => cases hl; exact xo_none
      | some l => obtain ⟨y, hy, h⟩ := opt_map hl; subst h; exact xo_some (ihe _ _ hy)
    · cases hi with
      | none => cases hr; exact xo_none
      | some l => obtain ⟨y, hy, h⟩ := opt_map hr; subst h; exact xo_some (ihe _ _ hy)
  case h_13 a b p _ =>
    replace h := ite_some h; obtain ⟨hs, h⟩ := h
    obtain ⟨x, hx, h⟩ := opt_bind h
    obtain ⟨y, hy, h⟩ := opt_map h
    subst h
    have hu := g.units
    exact xe_ix (by omega) (ihe _ _ hx) (ihe _ _ hy) (plain_ix hs)
  case h_14 x px a as p =>
    replace h := ite_some h; obtain ⟨hh, h⟩ := h
    rw [Bool.and_eq_true, Bool.and_eq_true] at hh
    obtain ⟨⟨hg, hs⟩, hd⟩ := hh
    have hd : ¬ x = "__debug__" := by simpa using hd
    have hs' := hs
    rw [List.all_cons, Bool.and_eq_true] at hs'
    split at h
    · subst x
      split at h
      · rename_i y py
        replace h := ite_some h; obtain ⟨hgy, h⟩ := h
        obtain ⟨t, ht, h⟩ := opt_bind h
        obtain ⟨e, he, h⟩ := opt_map h
        subst h
        exact xe_isi (g.gl' hg) (g.bl _ (by decide)) (by decide +kernel) (ihe _ _ he) (ty_name g hgy ht) (star_cons hs'.1) rfl (star_no hs'.2)
      · rename_i ys k p2
        obtain ⟨ts, hts, h⟩ := opt_bind h
        split at h
        · cases h
        · rename_i t ts
          replace h := ite_some h; obtain ⟨hl, h⟩ := h
          obtain ⟨e, he, h⟩ := opt_map h
          subst h
          exact xe_isiT (g.gl' hg) (g.bl _ (by decide)) (by decide +kernel) (ihe _ _ he) (tys_names g hts) (Nat.le_trans hl (by decide)) (star_cons hs'.1) (star_no hs'.2)
      · cases h
    · split at h
      · rename_i b hb
        obtain ⟨es, hes, h⟩ := opt_map h
        subst h
        exact blt_call g hb hg hs (xa_list hs (paired_comp hes fun a e _ q => ihe a e q))
      · obtain ⟨q, hq, h⟩ := opt_bind h
        obtain ⟨es, hes, h⟩ := opt_map h
        subst h
        obtain ⟨m, hm⟩ := fnAt_ok hq
        obtain ⟨k, hr, hk⟩ := g.k
        obtain ⟨f, fd, ps, dvs, ds, np, e1, e2, e3, e4, e5, e6, e7⟩ := hk _ _ _ _ hm
        exact xe_call g.xa e3 hr (g.gl' hg) e1 e2 e4 e5 g.px e6 e7 (xa_list hs (paired_comp hes fun a e _ q => ihe a e q)) (not_debug hd) (star_cons hs'.1) (star_no hs'.2)
  case h_15 o name apos a as cpos =>
    replace h := ite_some h; obtain ⟨hh, h⟩ := h
    simp only [Bool.and_eq_true, decide_eq_true_eq] at hh
    obtain ⟨⟨⟨hc, hs⟩, hl⟩, hn⟩ := hh
    obtain ⟨m, hm, h⟩ := opt_bind h
    obtain ⟨x, hx, h⟩ := opt_bind h
    obtain ⟨es, hes, h⟩ := opt_map h
    subst h
    have hs' := hs
    rw [List.all_cons, Bool.and_eq_true] at hs'
    have ha := xa_list hs (cel_map (c := c) (paired_comp hes fun a e _ q => ihe a e q))
    have hfew : ((backTo cpos (starEach (a :: as) X.env)).all (fun x => !x.1) && (backToKw cpos (keywordEach [] X.env)).all (fun x => x.1.isSome)
      && decide ((a :: as).length + ([] : List Keyword).length + (if ([] : List Keyword).isEmpty then 0 else 1) < 30)) = true := by
      rw [star_all hs]
      have : (a :: as).length + 0 < 30 := by omega
      simpa [backToKw, keywordEach] using this
    unfold mthB at hm
    split at hm
    · subst name; cases hm
      exact pe_weak (pe_bm PySem.F.plainAttrs_list PySem.F.slot_list_append PySem.F.type_list_append mm_append (ihe _ _ hx) ha (att_base hc) hfew hl (star_cons hs'.1) (star_no hs'.2)) fun _ _ _ h => ds_mth ty_list_app h
    · split at hm
      · subst name; cases hm
        exact pe_weak (pe_bm PySem.F.plainAttrs_str PySem.F.slot_str_join PySem.F.type_str_join mm_join (ihe _ _ hx) ha (att_base hc) hfew hl (star_cons hs'.1) (star_no hs'.2)) fun _ _ _ h => ds_mth ty_str_join h
      · split at hm
        · subst name; cases hm
          exact pe_weak (pe_bm PySem.F.plainAttrs_str PySem.F.slot_str_replace PySem.F.type_str_replace mm_replace (ihe _ _ hx) ha (att_base hc) hfew hl (star_cons hs'.1) (star_no hs'.2)) fun _ _ _ h => ds_mth ty_str_replace h
        · split at hm
          · subst name; cases hm
            exact pe_weak (pe_bm PySem.F.plainAttrs_str PySem.F.slot_str_split PySem.F.type_str_split mm_split (ihe _ _ hx) ha (att_base hc) hfew hl (star_cons hs'.1) (star_no hs'.2)) fun _ _ _ h => ds_mth ty_str_split h
          · cases hm
  case h_16 o name apos cpos =>
    replace h := ite_some h; obtain ⟨hh, h⟩ := h
    simp only [Bool.and_eq_true, decide_eq_true_eq] at hh
    obtain ⟨⟨hc, hl⟩, hn⟩ := hh
    subst hn
    obtain ⟨x, hx, h⟩ := opt_map h
    subst h
    exact pe_weak (pe_bm0 PySem.F.plainAttrs_list PySem.F.slot_list_pop PySem.F.type_list_pop mm_pop (ihe _ _ hx) (att_base hc) hl) fun _ _ _ h => ds_mth0 ty_list_pop h
  case h_17 elt tg it ifs scope p =>
    replace h := ite_some h; obtain ⟨hit, h⟩ := h
    replace h := ite_some h; obtain ⟨hb, h⟩ := h
    obtain ⟨t, ht, h⟩ := opt_bind h
    replace h := ite_some h; obtain ⟨hsl, h⟩ := h
    obtain ⟨s, hs, h⟩ := opt_bind h
    obtain ⟨cs, hcs, h⟩ := opt_bind h
    obtain ⟨x, hx, h⟩ := opt_map h
    subst h
    have ok : BlkOk X.N X.env.scope scope (ownL c.N scope.names) := by rw [g.hN, g.sc]; exact blkOk_by hb
    refine pe_weak (pe_lc g.calm g.nd (src_ok g ihe hs) ok (fun s H D cl fp => compT_ok (g.blk scope s H D cl fp) ht) (fun s H D cl fp => ?_) (fun s H D cl fp => (ih _ _ C _ (g.blk scope s H D cl fp) elt x hx).1) (fold_set hit)) fun σ H Q h => ds_lc (P0 := ⟨P.XR, fun _ _ _ _ => False⟩) (fun i hi => by simpa using List.all_eq_true.mp hsl i hi) h
    split at hcs
    · cases hcs; exact xc_nil
    · replace hcs := ite_some hcs; obtain ⟨hti, hcs⟩ := hcs
      obtain ⟨y, hy, hcs⟩ := opt_map hcs
      subst hcs
      exact xc_one ((ih _ _ C _ (g.blk scope s H D cl fp) _ y hy).2 _ hti)
    · cases hcs
  case h_18 p => cases h; exact xe_dis
  case h_19 => cases h
theorem comp_pt (n : Nat) (ih : StE n) (g : Good X P C c) (m : Nat) (e : Expr) (e' : E) (ht : tstB m e = true) (h : comp (n + 1) c e = some e') : PT X e (tT X.K P C e') := by
  have iht : ∀ m a x, tstB m a = true → comp n c a = some x → PT X a (tT X.K P C x) := fun m a x t q => (ih X P C c g a x q).2 m t
  have ihe : ∀ a x, comp n c a = some x → PE X a (tE X.K P C x) := fun a x q => (ih X P C c g a x q).1
  have pe := comp_pe n ih g e e' h
  cases m with
  | zero => simp [tstB] at ht
  | succ m =>
    cases e with
    | UnaryOp op a p =>
      cases op with
      | Not =>
        simp only [tstB] at ht
        simp only [comp] at h
        replace h := opt_map h; obtain ⟨x, hx, h⟩ := h
        subst h
        exact xt_not (iht m a x ht hx)
      | _ => exact xt_val pe fun w => isTrue_any (fun _ _ z => by cases z) (fun _ _ _ z => by cases z) (fun _ _ _ _ z => by cases z) (fun _ _ _ _ z => by cases z) w
    | BoolOp op vs p =>
      simp only [tstB] at ht
      simp only [comp] at h
      replace h := opt_bind h; obtain ⟨es, hx, h⟩ := h
      exact (bool_pw (paired_comp hx fun a x ha q => iht m a x (List.all_eq_true.mp ht a ha) q) h).pt
    | IfExp _ _ _ _ => simp [tstB] at ht
    | Compare a ops cs p =>
      match ops, cs, ht, h with
      | [op], [b], ht, h =>
        simp only [comp] at h
        split at h
        · cases h
        · rename_i hm
          replace h := opt_bind h; obtain ⟨x, hx, h⟩ := h
          replace h := opt_map h; obtain ⟨y, hy, h⟩ := h
          subst h
          exact xt_cmp (cmp_ok g op) (ihe _ _ hx) (ihe _ _ hy) (by simpa using hm)
      | [op], [], ht, h => simp [comp] at h
      | [op], _ :: _ :: _, ht, h => simp [comp] at h
      | [], _, ht, h => simp [tstB] at ht
      | _ :: _ :: _, _, ht, h => simp [tstB] at ht
    | _ => exact xt_val pe fun w => isTrue_any (fun _ _ z => by cases z) (fun _ _ _ z => by cases z) (fun _ _ _ _ z => by cases z) (fun _ _ _ _ z => by cases z) w
end
theorem comp_st : ∀ n, StE n
  | 0 => fun X P C c g e e' h => by simp [comp] at h
  | n + 1 => fun X P C c g e e' h => ⟨comp_pe n (comp_st n) g e e' h, fun m ht => comp_pt n (comp_st n) g m e e' ht h⟩
end MP
set_option maxHeartbeats 2000001
/-! EvY: except suites of the text. -/
namespace MP
open PySem PySem.Spec L2 MX
/-- an expression in a suite, where y names the exception -/
def compX : Nat → CC → Option Str → Expr → Option E
  | 0, _, _, _ => none
  | n + 1, c, y, e => match e with
    | .Attribute (.Name z _) f _ => if some z = y ∧ ¬ z = "__debug__" ∧ ¬ z = "__classdict__" then (if f = "place" then some (.var (c.N.length + 0)) else if f = "name" then some (.var (c.N.length + 1)) else none) else none
    | .Name x _ => if x = "__debug__" ∨ x = "__classdict__" ∨ some x = y then none else match slotOf c.N x with
      | some i => if visB c.sc x then some (.var i) else none
      | none => none
    | .Constant k _ _ => (cstOf k).map .cst
    | .Tuple es _ _ => if es.all noStar then (mapO (compX n c y) es).map .tup else none
    | .Subscript a b _ => if noSlice b then (compX n c y a).bind fun x => (compX n c y b).map fun z => .ix x z else none
    | _ => none
/-- a suite of one statement -/
def compSX (c : CC) (y : Option Str) : Stmt → Option S
  | .Return none _ => some (.ret none)
  | .Return (some a) _ => (compX 20 c y a).map fun e => .ret (some e)
  | .Break _ => some .brk
  | .Continue _ => some .cnt
  | .Pass _ => some .pss
  | .Expr (.Call (.Attribute o name apos) [a] [] cpos) _ => if name = "append" ∧ noCall o = true ∧ noStar a = true ∧ (apos.endLine == cpos.line) = true then (compX 20 c y o).bind fun x => (compX 20 c y a).map fun e => .ex (.mth .append x [e]) else none
  | .If (.Call (.Name f _) [.Name z _, .Name t _] [] _) [st] [] _ => if f = "isinstance" ∧ t = "ValueError" ∧ some z = y ∧ glB c.sc "isinstance" = true ∧ glB c.sc "ValueError" = true ∧ ¬ z = "__debug__" ∧ ¬ z = "__classdict__" then (compSX c y st).map fun s => .iff (.cst (.bool true)) [s] [] else none
  | _ => none
def compNm (c : CC) : Option Str → Option (Option Nat)
  | none => some none
  | some y => if c.sc.names.lookup y = some .local then (slotOf c.N y).map some else none
def compH (c : CC) : ExceptHandler → Option (Nat × Option Nat × List S)
  | .ExceptHandler (some (.Name x _)) n [st] _ => if glB c.sc x && !decide (x = "__debug__") then (slotOf c.xs x).bind fun k => (compNm c n).bind fun i => (compSX c n st).map fun s => (k, i, [s]) else none
  | _ => none
/-- a try's body of one statement -/
def compTB (c : CC) : Stmt → Option S
  | .Return (some a) _ => (comp 60 c a).map fun e => .ret (some e)
  | .Expr (.Constant _ _ _) _ => none
  | .Expr a _ => if noComp a then (comp 60 c a).map .ex else none
  | .Assign [.Name y _] a _ => if locB c y && noComp a then (slotOf c.N y).bind fun i => (comp 60 c a).map fun e => .asg (decide (y ∈ c.own)) i e else none
  | _ => none
section
variable {X : Cx} {P : Par} {C : CE} {c : CC}
theorem compTB_ok (g : Good X P C c) {b : Stmt} {s : S} (h : compTB c b = some s) (W : WX) (pn : List (Addr × Obj)) (xe : Value → Shared → Prop) (tk : Takes (X.tr pn xe) W) : PS (X.tr pn xe) b (tS X.K ⟨P.XR, W⟩ C s) := by
  have gt := g.tr tk
  have ihe : ∀ a x, comp 60 c a = some x → PE (X.tr pn xe) a (tE X.K ⟨P.XR, W⟩ C x) := fun a x q => (comp_st 60 _ _ C c gt a x q).1
  unfold compTB at h
  split at h
  · obtain ⟨e, he, rfl⟩ := opt_map h
    exact ps_weak (ps_ret (ihe _ _ he)) fun D σ H h => ds_ret (X := X.tr pn xe) h
  · cases h
  · replace h := ite_some h; obtain ⟨hc, h⟩ := h
    obtain ⟨e, he, rfl⟩ := opt_map h
    exact ps_weak (ps_expr (ihe _ _ he) (swaps_no hc)) fun D σ H h => ds_ex (X := X.tr pn xe) h
  · rename_i y py a pos
    replace h := ite_some h; obtain ⟨hc, h⟩ := h
    rw [Bool.and_eq_true] at hc
    obtain ⟨i, hi, h⟩ := opt_bind h
    obtain ⟨e, he, rfl⟩ := opt_map h
    have l : X.env.scope.names.lookup y = some .local ∨ (X.env.scope.names.lookup y = some .cell ∧ X.fn y = true) := by rw [g.sc]; exact (locB_ok hc.1).imp id fun z => ⟨z.1, g.fn _ z.2⟩
    exact xs_asg (X := X.tr pn xe) g.nd (by show X.N[i]? = _; rw [g.hN]; exact slotOf_ok hi) l (ihe _ _ he) (swaps_no hc.2)
  · cases h
/-- what a suite's context is -/
structure InX (X : Cx) (c : CC) (y : Option Str) (g : Gx) (cls : Value) (d : Option Addr) (oe : Obj) : Prop where
  hN : X.N = c.N
  sc : X.env.scope = c.sc
  un : X.A.units + 1 < cLine
  hc : cls = .ref g.C
  hd : d = some g.d
  hn : g.n = X.N.length
  xd : XdOk 3 g.v g.nm g.fs
  xf : XfC X.K g.C
  na : noAt X.K g.C
  hz : Zc cls d oe
  hf : ∃ vs, oe.data = .fields vs
  ic : ExcC X.K g.C
  ik : PySem.W.kitOne X.K (.ref g.C) (.type "ValueError") = some true
  m1 : X.mg "isinstance" = none
  m2 : X.mg "ValueError" = none
  nm : ∀ z, y = some z → ∃ i, g.i = some i ∧ X.N[i]? = some z ∧ X.env.scope.names.lookup z = some .local
theorem compX_ok {y : Option Str} {g : Gx} {cls : Value} {d : Option Addr} {oe : Obj} (T : InX X c y g cls d oe) (pn : List (Addr × Obj)) : ∀ (n : Nat) (e : Expr) (x : E), compX n c y e = some x → PE (X.suite g.a ((g.a, oe) :: pn)) e (tEX X.K C g x)
  | 0, e, x, h => by simp [compX] at h
  | n + 1, e, x, h => by
    unfold compX at h
    split at h
    · rename_i z pz f pf
      replace h := ite_some h; obtain ⟨⟨hz, h1, h2⟩, h⟩ := h
      obtain ⟨i, e1, e2, e3⟩ := T.nm z hz.symm
      have hgn : g.n = c.N.length := by rw [T.hn, T.hN]
      rw [← hgn] at h
      have hv : PE (X.suite g.a ((g.a, oe) :: pn)) (.Name z pz) (tVar i) := pe_var e2 (.inl e3) (not_debug h1) (by simpa using h2)
      split at h
      · cases h; subst f
        exact xx_at (X := X.suite g.a ((g.a, oe) :: pn)) (j := 0) (pe_xf T.xf T.na.1 T.hz T.hf hv rfl) T.hc T.hd e1 T.xd.pl rfl
      · split at h
        · cases h; subst f
          exact xx_at (X := X.suite g.a ((g.a, oe) :: pn)) (j := 1) (pe_xf T.xf T.na.2 T.hz T.hf hv rfl) T.hc T.hd e1 T.xd.nm rfl
        · cases h
    · rename_i z pz
      split at h
      · cases h
      · rename_i hd
        have hd1 : ¬ z = "__debug__" := fun q => hd (.inl q)
        have hd2 : ¬ z = "__classdict__" := fun q => hd (.inr (.inl q))
        split at h
        · rename_i i hi
          replace h := ite_some h; obtain ⟨hv, h⟩ := h
          cases h
          have hi := slotOf_ok hi
          rw [← T.hN] at hi
          have hv := visB_ok hv
          rw [← T.sc] at hv
          exact xx_var (X := X.suite g.a ((g.a, oe) :: pn)) (pe_var hi hv (not_debug hd1) (by simpa using hd2)) (by rw [T.hn]; exact (List.getElem?_eq_some_iff.mp hi).1)
        · cases h
    · rename_i k k2 p
      cases k with
      | int i => cases h; exact xx_cst (X := X.suite g.a ((g.a, oe) :: pn)) pe_int fun _ _ => Den.int i
      | str x => cases h; exact xx_cst (X := X.suite g.a ((g.a, oe) :: pn)) pe_str fun _ _ => Den.str x
      | bool b => cases h; exact xx_cst (X := X.suite g.a ((g.a, oe) :: pn)) pe_bl fun _ _ => Den.bl b
      | none => cases h; exact xx_cst (X := X.suite g.a ((g.a, oe) :: pn)) pe_non fun _ _ => Den.non
      | _ => cases h
    · rename_i es k p
      replace h := ite_some h; obtain ⟨hs, h⟩ := h
      obtain ⟨xs, hx, rfl⟩ := opt_map h
      have hp := mapO_paired hx
      refine xx_tup (X := X.suite g.a ((g.a, oe) :: pn)) ?_
      clear hx h
      induction hp with
      | nil => exact xxs_nil
      | cons a r ih =>
        rw [List.all_cons, Bool.and_eq_true] at hs
        exact xxs_cons (compX_ok T pn n _ _ a) (ih hs.2) (star_cons hs.1)
    · rename_i a b p
      replace h := ite_some h; obtain ⟨hs, h⟩ := h
      obtain ⟨x, hx, h⟩ := opt_bind h
      obtain ⟨z, hz, rfl⟩ := opt_map h
      exact xx_ix (X := X.suite g.a ((g.a, oe) :: pn)) T.un (compX_ok T pn n _ _ hx) (compX_ok T pn n _ _ hz) (plain_ix hs)
    · cases h
theorem compSX_ok {y : Option Str} {g : Gx} {cls : Value} {d : Option Addr} {oe : Obj} (T : InX X c y g cls d oe) (pn : List (Addr × Obj)) (st : Stmt) (s : S) (h : compSX c y st = some s) : PS (X.suite g.a ((g.a, oe) :: pn)) st (tSX X.K C g s) := by
  unfold compSX at h
  split at h
  · cases h; exact xsx_retN (X := X.suite g.a ((g.a, oe) :: pn))
  · obtain ⟨e, he, rfl⟩ := opt_map h
    exact xsx_ret (X := X.suite g.a ((g.a, oe) :: pn)) (compX_ok T pn _ _ _ he)
  · cases h; exact xsx_brk (X := X.suite g.a ((g.a, oe) :: pn))
  · cases h; exact xsx_cnt (X := X.suite g.a ((g.a, oe) :: pn))
  · cases h; exact xsx_pss (X := X.suite g.a ((g.a, oe) :: pn))
  · rename_i o name apos a cpos p
    replace h := ite_some h; obtain ⟨⟨h1, h2, h3, h4⟩, h⟩ := h
    subst name
    obtain ⟨x, hx, h⟩ := opt_bind h
    obtain ⟨e, he, rfl⟩ := opt_map h
    refine xsx_ex (X := X.suite g.a ((g.a, oe) :: pn)) ?_ rfl
    refine pe_weak (pe_bm PySem.F.plainAttrs_list PySem.F.slot_list_append PySem.F.type_list_append mm_append (compX_ok T pn _ _ _ hx) (xxs_cons (compX_ok T pn _ _ _ he) xxs_nil (star_cons h3)) (att_base h2) ?_ h4 (star_cons h3) (star_no (as := []) rfl)) fun _ _ _ h => dsx_mth (X := X.suite g.a ((g.a, oe) :: pn)) ty_list_app h
    have hall := star_all (as := [a]) (en := (X.suite g.a ((g.a, oe) :: pn)).env) (pos := cpos) (by simp [h3])
    rw [hall]
    rfl
  · rename_i f p0 z p1 t p2 p3 st p4
    replace h := ite_some h; obtain ⟨⟨h1, h2, h3, h4, h5, h6, h7⟩, h⟩ := h
    subst f t
    obtain ⟨s, hs, rfl⟩ := opt_map h
    obtain ⟨i, e1, e2, e3⟩ := T.nm z h3.symm
    have gl : ∀ {x : Str}, glB c.sc x = true → Gl X x := fun {x} q => by
      unfold Gl
      show X.env.scope.names.lookup x = _
      rw [T.sc]
      simpa [glB] using q
    exact xsx_is T.ic T.ik T.hc T.hd e1 T.hz T.hf (gl h4) (gl h5) T.m1 T.m2 e2 (.inl e3) (not_debug h6) (by simpa using h7) (compSX_ok T pn st s hs)
  · cases h
theorem compH_ok (g : Good X P C c) {xa : List (Str × Addr)} (xo : XaOk X.prog X.w X.K X.mg X.base xa) (hxs : c.xs = xa.map (·.1)) : ∀ {hds : List ExceptHandler} {l : List (Nat × Option Nat × List S)}, Paired (fun a b => compH c a = some b) hds l → HsOk X C xa hds l
  | [], _, .nil => .nil
  | h :: hds, _, .cons (b := b) q r => by
    have ih := compH_ok g xo hxs r
    unfold compH at q
    split at q
    · rename_i x np n st pp
      replace q := ite_some q; obtain ⟨hg, q⟩ := q
      rw [Bool.and_eq_true] at hg
      obtain ⟨k, hk, q⟩ := opt_bind q
      obtain ⟨i, hi, q⟩ := opt_bind q
      obtain ⟨s, hs, rfl⟩ := opt_map q
      have hk := slotOf_ok hk
      rw [hxs, List.getElem?_map] at hk
      cases q2 : xa[k]? with
      | none => rw [q2] at hk; cases hk
      | some pA =>
        obtain ⟨nm, A⟩ := pA
        rw [q2] at hk
        cases hk
        have hnm : NmOk X n i ∧ (∀ j, i = some j → j < X.N.length) ∧ ∀ z, n = some z → ∃ j, i = some j ∧ X.N[j]? = some z ∧ X.env.scope.names.lookup z = some .local := by
          unfold compNm at hi
          cases n with
          | none => cases hi; exact ⟨trivial, ⟨(fun j e => nomatch e), (fun z e => nomatch e)⟩⟩
          | some y =>
            replace hi := ite_some hi; obtain ⟨hl, hi⟩ := hi
            obtain ⟨j, hj, rfl⟩ := opt_map hi
            have hj := slotOf_ok hj
            rw [← g.hN] at hj
            rw [← g.sc] at hl
            exact ⟨⟨hj, hl⟩, ⟨fun j' e => by cases e; exact (List.getElem?_eq_some_iff.mp hj).1, fun z e => by cases e; exact ⟨j, rfl, hj, hl⟩⟩⟩
        refine .cons q2 ⟨g.gl' hg.1, not_debug (by simpa using hg.2), .inl (xo.at_ _ _ _ q2)⟩ hnm.1 hnm.2.1 (fun gx oe cls d pn e1 e2 e3 e4 xd hA hz hf => ?_) ih
        obtain ⟨c0, nm0, hA⟩ := hA
        obtain ⟨n0, _, xk⟩ := xo.ok _ _ _ hA
        have hu := g.units
        refine xsx_one (X := X.suite gx.a ((gx.a, oe) :: pn)) (compSX_ok (y := n) ⟨g.hN, g.sc, by omega, e1, e2, e4, xd, xk.xf, xk.na, hz, hf, (xo.ic _ _ _ hA).1, (xo.ic _ _ _ hA).2, g.bl _ (by decide), xo.ve, fun z hz => ?_⟩ pn _ _ hs)
        obtain ⟨j, f1, f2, f3⟩ := hnm.2.2 z hz
        exact ⟨j, by rw [e3, f1], f2, f3⟩
    · cases q
end
end MP
set_option maxHeartbeats 2000001
/-! Ev15: statements of the text. -/
namespace MP
open PySem PySem.Spec L2
def fuelE : Nat := 60
def swapB (c : CC) (x y : Str) (px py : Pos) (a b : Expr) : Bool :=
  decide (c.sc.names.lookup x = some .local) && decide (c.sc.names.lookup y = some .local) && !decide (x = y) && (py.line == px.line) && noStar a && noStar b && !([a, b].all (foldedForSure 8)) && !([a, b].all (constantsAlone 8))
def lcSwap (c : CC) (y : Str) (py : Pos) : Expr → Bool
  | .ListComp _ [⟨_, _, _, 0⟩] scope p => decide (c.sc.names.lookup y = some .local) && (py.line == p.line) && !(scope.names.any fun (n, k) => n == y && (k == .local || k == .cell))
  | _ => false
def kfun (sc : Scope) : Bool := match sc.kind with
  | .function => true
  | _ => false
def compS : Nat → CC → Stmt → Option S
  | 0, _, _ => none
  | n + 1, c, s => match s with
    | .Assign [.Name y py] a pos => if locB c y then (slotOf c.N y).bind fun i => (comp fuelE c a).bind fun e =>
        if noComp a then some (.asg (decide (y ∈ c.own)) i e) else if lcSwap c y py a then some (.asg (decide (y ∈ c.own)) i e) else none
      else none
    | .Assign [.Tuple [.Name x px, .Name y py] _ _] (.Tuple [a, b] _ _) _ => if swapB c x y px py a b then (slotOf c.N x).bind fun i => (slotOf c.N y).bind fun j => if i = j then none else (comp fuelE c a).bind fun e => (comp fuelE c b).map fun f => .par i j (celOwn c x e) (celOwn c y f)
      else if [a, b].all (foldedForSure 8) && noStar a && noStar b && decide (c.sc.names.lookup x = some .local) && decide (c.sc.names.lookup y = some .local) && !decide (x = y) && (py.line == px.line) then
        (slotOf c.N x).bind fun i => (slotOf c.N y).bind fun j => (comp fuelE c a).bind fun e => (comp fuelE c b).map fun f => .unp [.nm i, .nm j] (.tup [e, f])
      else none
    | .Assign [.Tuple ts _ _] a _ => if !isTup a && noComp a then (compTs c ts).bind fun ts => (comp fuelE c a).map fun e => .unp ts e else none
    | .Assign [.Subscript o i _] a _ => if noComp a then (comp fuelE c o).bind fun x => (comp fuelE c i).bind fun y => (comp fuelE c a).map fun e => .setI x y e else none
    | .AugAssign (.Name x _) .Add a _ => if locB c x then (slotOf c.N x).bind fun i => (comp fuelE c a).map fun e => .aug i .Add e else none
    | .AugAssign (.Name x _) .Sub a _ => if locB c x then (slotOf c.N x).bind fun i => (comp fuelE c a).map fun e => .aug i .Sub e else none
    | .Expr (.Constant (.str _) _ _) _ => some .pss
    | .Expr a _ => if noComp a then (comp fuelE c a).map .ex else none
    | .If t a b _ => if tstB fuelE t then (comp fuelE c t).bind fun e => (mapO (compS n c) a).bind fun x => (mapO (compS n c) b).map fun y => .iff e x y else none
    | .For tg it b [] _ => if noSet it then (compT c tg).bind fun t => (compSrc (comp fuelE c) c tg it).bind fun s => (mapO (compS n c) b).map fun x => .fr t s x else none
    | .While t b [] _ => if tstB fuelE t then (comp fuelE c t).bind fun e => (mapO (compS n c) b).map fun x => .wh e x else none
    | .Return none _ => some (.ret none)
    | .Return (some a) _ => (comp fuelE c a).map fun e => .ret (some e)
    | .Break _ => some .brk
    | .Continue _ => some .cnt
    | .Pass _ => some .pss
    | .Raise (some (.Call (.Name x _) [a] [] _)) none _ => if glB c.sc x && noStar a && !decide (x = "__debug__") then (slotOf c.xs x).bind fun i => (comp fuelE c a).map fun e => .rse i e else none
    | .Try [b] (h :: hs) [] [] _ => (compTB c b).bind fun s => (mapO (compH c) (h :: hs)).map fun l => .tr c.xs s l
    | _ => none
structure GoodS (X : Cx) (P : Par) (C : CE) (c : CC) : Prop extends Good X P C c where
  po : PassesOwn (model X.prog X.w) X.A X.env X.xe
  wf : WFree P.W
  kd : X.env.scope.kind = .function
  tk : Takes X P.W
  hs : X.stack = X.env :: X.outer
  hf : X.env.frame = some X.env.locals
section
variable {X : Cx} {P : Par} {C : CE} {c : CC}
theorem cel_own {x : Str} {a : Expr} {e : E} (h : PE X a (tE X.K P C e)) : PE X a (tE X.K P C (celOwn c x e)) := by
  unfold celOwn
  split
  · exact xe_cel h
  · exact h
theorem blockKind_fn {en : PySem.Env} (h : en.scope.kind = .function) : en.blockKind = .function := by unfold Env.blockKind; rw [h]; rfl
theorem swap_two {x y : Str} {px py pt pt2 : Pos} {kt k2 : Nat} {a b : Expr} {en : PySem.Env} (hk : en.scope.kind = .function) (hx : en.scope.names.lookup x = some .local) (hy : en.scope.names.lookup y = some .local) (hne : ¬ x = y) (hl : (py.line == px.line) = true)
    (na : noStar a = true) (nb : noStar b = true) (h1 : ([a, b].all (foldedForSure 8)) = false) (h2 : ([a, b].all (constantsAlone 8)) = false) :
    swappedStores [.Tuple [.Name x px, .Name y py] kt pt] (.Tuple [a, b] k2 pt2) en = pure (some [x, y]) := by
  have kx : en.kindOf x = some .local := hx
  have ky : en.kindOf y = some .local := hy
  have ha : ∀ {a : Expr}, noStar a = true → (match a with | .Starred .. => true | _ => false) = false := fun {a} h => by
    cases a <;> first | rfl | (simp [noStar] at h)
  unfold swappedStores
  simp only [blockKind_fn hk, h1, h2, List.length_cons, List.length_nil, List.filterMap_cons, List.filterMap_nil, kx, ky, List.head?_cons, Option.map_some, Option.getD_some, Expr.pos, hl, beq_self_eq_true, Bool.and_self, if_true]
  have e : ([x, y].eraseDups).length = 2 := by
    have : ¬ y = x := fun z => hne z.symm
    simp [List.eraseDups_cons, this]
  simp [e]
  intro h
  exfalso
  rcases h with h | h
  · cases a <;> first | (cases h; done) | (simp [noStar] at na)
  · cases b <;> first | (cases h; done) | (simp [noStar] at nb)
theorem swap_folded {x y : Str} {px py pt pt2 : Pos} {kt k2 : Nat} {a b : Expr} {en : PySem.Env} (hk : en.scope.kind = .function) (hx : en.scope.names.lookup x = some .local) (hy : en.scope.names.lookup y = some .local) (hne : ¬ x = y) (hl : (py.line == px.line) = true)
    (na : noStar a = true) (nb : noStar b = true) (h1 : ([a, b].all (foldedForSure 8)) = true) :
    swappedStores [.Tuple [.Name x px, .Name y py] kt pt] (.Tuple [a, b] k2 pt2) en = pure none := by
  have kx : en.kindOf x = some .local := hx
  have ky : en.kindOf y = some .local := hy
  have ha : ∀ {a : Expr}, noStar a = true → (match a with | .Starred .. => true | _ => false) = false := fun {a} h => by
    cases a <;> first | rfl | (simp [noStar] at h)
  unfold swappedStores
  simp only [blockKind_fn hk, h1, List.length_cons, List.length_nil, List.filterMap_cons, List.filterMap_nil, kx, ky, List.head?_cons, Option.map_some, Option.getD_some, Expr.pos, hl, beq_self_eq_true, Bool.and_self, if_true]
  have e : ([x, y].eraseDups).length = 2 := by
    have : ¬ y = x := fun z => hne z.symm
    simp [List.eraseDups_cons, this]
  simp [e, ha na, ha nb]
theorem sole_no {a t : Expr} {l : Nat} {en : PySem.Env} (h : noComp a = true) : swapsWithSole [t] a l en = pure false := by
  unfold swapsWithSole
  exact swaps_no h
theorem swap_other {ts : List Expr} {kt : Nat} {pt : Pos} {a : Expr} {en : PySem.Env} (h : isTup a = false) : swappedStores [.Tuple ts kt pt] a en = pure none := by
  cases a <;> first | rfl | (simp [isTup] at h)
theorem pss_list (hW : WFree P.W) : ∀ {ss : List Stmt} {xs : List S}, Paired (fun s x => PS X s (tS X.K P C x)) ss xs → PSs X ss (tSs X.K P C xs)
  | [], _, .nil => pss_weak pss_nil fun D σ H h => ds_nil h
  | _ :: _, _, .cons a r => pss_weak (pss_cons a (pss_list hW r)) fun D σ H h => ds_seq hW h
theorem ds_pss {D : Ends} {σ : L2.St} {H : Hp} (h : tS X.K P C .pss D σ H) : D.nx σ H := by
  obtain ⟨F, φ, st, δ, s, d, h⟩ := h
  simp only [evS] at h
  exact h φ H (Step.refl s) σ d
theorem ds_brk {D : Ends} {σ : L2.St} {H : Hp} (h : tS X.K P C .brk D σ H) : D.bk σ H := by
  obtain ⟨F, φ, st, δ, s, d, h⟩ := h
  simp only [evS] at h
  exact h φ H (Step.refl s) σ d
theorem ds_cnt {D : Ends} {σ : L2.St} {H : Hp} (h : tS X.K P C .cnt D σ H) : D.ct σ H := by
  obtain ⟨F, φ, st, δ, s, d, h⟩ := h
  simp only [evS] at h
  exact h φ H (Step.refl s) σ d
theorem compOk {n : Nat} {i : Expr} {y : E} (h : comp n c i = some y) : noSlice i = true := by
  cases n with
  | zero => simp [comp] at h
  | succ n => cases i <;> first | rfl | (simp [comp] at h)
theorem asg_sub {o i : Expr} {sp : Pos} {en : PySem.Env} (h : noSlice i = true) (v : Value) : assign (.Subscript o i sp) en v = (do
      let ov ← holding [v] (eval o en)
      let iv ← holding [v, ov] (eval i en)
      standAt sp
      holding [v, ov, iv]
            (setItem ov iv v)
      release [v, ov, iv] []) := by
  cases i <;> first | rfl | (simp [noSlice] at h)
theorem setLc (n : Nat) (g : GoodS X P C c) {own : Bool} {i : Nat} {y : Str} {py : Pos} {a : Expr} {e : E} {pos : Pos} (hi : X.N[i]? = some y) (hc : lcSwap c y py a = true) (h : comp (n + 1) c a = some e) : PS X (.Assign [.Name y py] a pos) (tS X.K P C (.asg own i e)) := by
  unfold lcSwap at hc
  split at hc
  · rename_i elt tg it ifs scope p
    simp only [comp] at h
    replace h := ite_some h; obtain ⟨hit, h⟩ := h
    replace h := ite_some h; obtain ⟨hb, h⟩ := h
    replace h := opt_bind h; obtain ⟨t, ht, h⟩ := h
    replace h := ite_some h; obtain ⟨hsl, h⟩ := h
    replace h := opt_bind h; obtain ⟨s, hs, h⟩ := h
    replace h := opt_bind h; obtain ⟨cs, hcs, h⟩ := h
    replace h := opt_map h; obtain ⟨x, hx, h⟩ := h
    subst h
    have gg := g.toGood
    have ihe : ∀ a x, comp n c a = some x → PE X a (tE X.K P C x) := fun a x q => (comp_st n X P C c gg a x q).1
    have ok : BlkOk X.N X.env.scope scope (ownL c.N scope.names) := by rw [g.hN, g.sc]; exact blkOk_by hb
    simp only [Bool.and_eq_true, Bool.not_eq_true'] at hc
    obtain ⟨⟨c1, c2⟩, c3⟩ := hc
    have hyl : X.env.scope.names.lookup y = some .local := by rw [g.sc]; simpa using c1
    refine ps_weak (ps_setLc g.calm g.nd hi hyl (sw_true g.kd hyl c2 c3) (src_ok gg ihe hs) ok (fun s H D cl fp => compT_ok (gg.blk scope s H D cl fp) ht) (fun s H D cl fp => ?_) (fun s H D cl fp => (comp_st n _ _ C _ (gg.blk scope s H D cl fp) elt x hx).1) (fold_set hit))
      fun D σ H h => ds_lc (P0 := ⟨P.XR, fun _ _ _ _ => False⟩) (fun i hi => by simpa using List.all_eq_true.mp hsl i hi) (ds_asg h)
    split at hcs
    · cases hcs; exact xc_nil
    · replace hcs := ite_some hcs; obtain ⟨hti, hcs⟩ := hcs
      replace hcs := opt_map hcs; obtain ⟨y, hy, hcs⟩ := hcs
      subst hcs
      exact xc_one ((comp_st n _ _ C _ (gg.blk scope s H D cl fp) _ y hy).2 _ hti)
    · cases hcs
  · cases hc
theorem compS_ok : ∀ (n : Nat) (g : GoodS X P C c) (s : Stmt) (x : S), compS n c s = some x → PS X s (tS X.K P C x)
  | 0, g, s, x, h => by simp [compS] at h
  | n + 1, g, s, x, h => by
    have ihe : ∀ a x, comp fuelE c a = some x → PE X a (tE X.K P C x) := fun a x q => (comp_st fuelE X P C c g.toGood a x q).1
    have iht : ∀ a x, tstB fuelE a = true → comp fuelE c a = some x → PT X a (tT X.K P C x) := fun a x t q => (comp_st fuelE X P C c g.toGood a x q).2 _ t
    have ihs : ∀ {ss xs}, mapO (compS n c) ss = some xs → PSs X ss (tSs X.K P C xs) := fun {ss xs} q => pss_list g.wf (paired_mono (mapO_paired q) fun s x _ q => compS_ok n g s x q)
    have slot : ∀ {y i}, slotOf c.N y = some i → X.N[i]? = some y := fun {y i} q => by rw [g.hN]; exact slotOf_ok q
    have loc : ∀ {y : Str}, locB c y = true → X.env.scope.names.lookup y = some .local ∨ (X.env.scope.names.lookup y = some .cell ∧ X.fn y = true) := fun {y} q => by
      rw [g.sc]; exact (locB_ok q).imp id fun z => ⟨z.1, g.fn _ z.2⟩
    have lcl : ∀ {y : Str}, decide (c.sc.names.lookup y = some .local) = true → X.env.scope.names.lookup y = some .local := fun {y} q => by rw [g.sc]; simpa using q
    unfold compS at h
    split at h
    case h_1 y py a pos =>
      replace h := ite_some h; obtain ⟨hl, h⟩ := h
      replace h := opt_bind h; obtain ⟨i, hi, h⟩ := h
      replace h := opt_bind h; obtain ⟨e, he, h⟩ := h
      split at h
      · rename_i hc
        cases h
        exact xs_asg g.nd (slot hi) (loc hl) (ihe _ _ he) (swaps_no hc)
      · replace h := ite_some h; obtain ⟨hc, h⟩ := h
        cases h
        exact setLc 59 g (slot hi) hc he
    case h_2 x px y py kt pt a b k2 pt2 pos =>
      split at h
      · rename_i hb
        replace h := opt_bind h; obtain ⟨i, hi, h⟩ := h
        replace h := opt_bind h; obtain ⟨j, hj, h⟩ := h
        split at h
        · cases h
        · rename_i hij
          replace h := opt_bind h; obtain ⟨e, he, h⟩ := h
          replace h := opt_map h; obtain ⟨f, hf, h⟩ := h
          subst h
          unfold swapB at hb
          simp only [Bool.and_eq_true, Bool.not_eq_true'] at hb
          obtain ⟨⟨⟨⟨⟨⟨⟨b1, b2⟩, b3⟩, b4⟩, b5⟩, b6⟩, b7⟩, b8⟩ := hb
          exact ps_weak (ps_par g.calm g.nd (slot hi) (slot hj) hij (lcl b1) (lcl b2) (xa_cons (cel_own (ihe _ _ he)) (xa_cons (cel_own (ihe _ _ hf)) xa_nil (star_cons b6)) (star_cons b5)) (swap_two g.kd (lcl b1) (lcl b2) (by simpa using b3) b4 b5 b6 b7 b8) rfl) fun D σ H h => ds_par h
      · replace h := ite_some h; obtain ⟨hb, h⟩ := h
        replace h := opt_bind h; obtain ⟨i, hi, h⟩ := h
        replace h := opt_bind h; obtain ⟨j, hj, h⟩ := h
        replace h := opt_bind h; obtain ⟨e, he, h⟩ := h
        replace h := opt_map h; obtain ⟨f, hf, h⟩ := h
        subst h
        simp only [Bool.and_eq_true, Bool.not_eq_true'] at hb
        obtain ⟨⟨⟨⟨⟨⟨b1, b2⟩, b3⟩, b4⟩, b5⟩, b6⟩, b7⟩ := hb
        have pg : PG X (.Tuple [.Name x px, .Name y py] kt pt) (gT X.K (.tp [.nm i, .nm j])) := by
          simp only [gT, gTs]
          exact pg_tup g.calm (pgs_cons (pg_name g.nd (slot hi) (.inl (lcl b4)) (.inr (lcl b4))) (pgs_cons (pg_name g.nd (slot hj) (.inl (lcl b5)) (.inr (lcl b5))) pgs_nil rfl) rfl) rfl rfl
        exact ps_weak (ps_asg (xe_tup (xa_cons (ihe _ _ he) (xa_cons (ihe _ _ hf) xa_nil (star_cons b3)) (star_cons b2))) pg rfl (swap_folded g.kd (lcl b4) (lcl b5) (by simpa using b6) b7 b2 b3 b1) rfl) fun D σ H h => ds_unp h
    case h_3 ts kt pt a pos _ =>
      replace h := ite_some h; obtain ⟨hb, h⟩ := h
      replace h := opt_bind h; obtain ⟨tg, ht, h⟩ := h
      replace h := opt_map h; obtain ⟨e, he, h⟩ := h
      subst h
      simp only [Bool.and_eq_true, Bool.not_eq_true'] at hb
      have pg : PG X (.Tuple ts kt pt) (gT X.K (.tp tg)) := by
        simp only [gT]
        exact pg_tup g.calm (compTs_ok g.toGood ht) (each_len ht).1 (each_len ht).2
      exact ps_weak (ps_asg (ihe _ _ he) pg (sole_no hb.2) (swap_other hb.1) rfl) fun D σ H h => ds_unp h
    case h_4 o i sp a pos =>
      replace h := ite_some h; obtain ⟨hb, h⟩ := h
      replace h := opt_bind h; obtain ⟨x, hx, h⟩ := h
      replace h := opt_bind h; obtain ⟨y, hy, h⟩ := h
      replace h := opt_map h; obtain ⟨e, he, h⟩ := h
      subst h
      have hu := g.units
      have hw : swappedStores [.Subscript o i sp] a X.env = pure none := by cases a <;> rfl
      exact ps_weak (ps_asg (ihe _ _ he) (pg_sub (ihe _ _ hx) (ihe _ _ hy) (set_any (by omega)) (asg_sub (compOk hy))) (sole_no hb) hw rfl) fun D σ H h => ds_set h
    case h_5 x p a pos =>
      replace h := ite_some h; obtain ⟨hl, h⟩ := h
      replace h := opt_bind h; obtain ⟨i, hi, h⟩ := h
      replace h := opt_map h; obtain ⟨e, he, h⟩ := h
      subst h
      have l := loc hl
      exact ps_weak (ps_aug g.nd (slot hi) (l.imp id (·.1)) (ihe _ _ he) ip_add (l.symm.imp (·.2) id)) fun D σ H h => ds_augI aug_add h
    case h_6 x p a pos =>
      replace h := ite_some h; obtain ⟨hl, h⟩ := h
      replace h := opt_bind h; obtain ⟨i, hi, h⟩ := h
      replace h := opt_map h; obtain ⟨e, he, h⟩ := h
      subst h
      have l := loc hl
      exact ps_weak (ps_aug g.nd (slot hi) (l.imp id (·.1)) (ihe _ _ he) ip_sub (l.symm.imp (·.2) id)) fun D σ H h => ds_augI aug_sub h
    case h_7 z k p pos => cases h; exact ps_weak ps_doc fun D σ H h => ds_pss h
    case h_8 a pos _ =>
      replace h := ite_some h; obtain ⟨hc, h⟩ := h
      replace h := opt_map h; obtain ⟨e, he, h⟩ := h
      subst h
      exact ps_weak (ps_expr (ihe _ _ he) (swaps_no hc)) fun D σ H h => ds_ex h
    case h_9 t a b pos =>
      replace h := ite_some h; obtain ⟨hc, h⟩ := h
      replace h := opt_bind h; obtain ⟨e, he, h⟩ := h
      replace h := opt_bind h; obtain ⟨u, hu, h⟩ := h
      replace h := opt_map h; obtain ⟨v, hv, h⟩ := h
      subst h
      exact ps_weak (ps_if (iht _ _ hc he) (ihs hu) (ihs hv)) fun D σ H h => ds_if h
    case h_10 tg it b pos =>
      replace h := ite_some h; obtain ⟨hc, h⟩ := h
      replace h := opt_bind h; obtain ⟨t, ht, h⟩ := h
      replace h := opt_bind h; obtain ⟨s, hs, h⟩ := h
      replace h := opt_map h; obtain ⟨v, hv, h⟩ := h
      subst h
      exact ps_weak (ps_for g.po g.calm (src_ok g.toGood ihe hs) (compT_ok g.toGood ht) (ihs hv) (fold_set hc)) fun D σ H h => ds_for g.wf h
    case h_11 t b pos =>
      replace h := ite_some h; obtain ⟨hc, h⟩ := h
      replace h := opt_bind h; obtain ⟨e, he, h⟩ := h
      replace h := opt_map h; obtain ⟨v, hv, h⟩ := h
      subst h
      exact ps_weak (ps_while g.po (iht _ _ hc he) (ihs hv)) fun D σ H h => ds_while g.wf h
    case h_12 pos => cases h; exact ps_weak ps_retN fun D σ H h => ds_retN h
    case h_13 a pos =>
      replace h := opt_map h; obtain ⟨e, he, h⟩ := h
      subst h
      exact ps_weak (ps_ret (ihe _ _ he)) fun D σ H h => ds_ret h
    case h_14 pos => cases h; exact ps_weak ps_break fun D σ H h => ds_brk h
    case h_15 pos => cases h; exact ps_weak ps_continue fun D σ H h => ds_cnt h
    case h_16 pos => cases h; exact ps_weak ps_pass fun D σ H h => ds_pss h
    case h_17 x px a p2 pos =>
      replace h := ite_some h; obtain ⟨hb, h⟩ := h
      simp only [Bool.and_eq_true] at hb
      obtain ⟨⟨b1, b2⟩, b3⟩ := hb
      obtain ⟨i, hi, h⟩ := opt_bind h
      obtain ⟨e, he, h⟩ := opt_map h
      subst h
      obtain ⟨xa, xo, hxs, hX⟩ := g.xc
      have hk := slotOf_ok hi
      rw [hxs, List.getElem?_map] at hk
      cases q2 : xa[i]? with
      | none => rw [q2] at hk; cases hk
      | some pA =>
        obtain ⟨nm, A⟩ := pA
        rw [q2] at hk
        cases hk
        obtain ⟨n0, hn0, xk⟩ := xo.ok _ _ _ q2
        obtain ⟨ok, hok, pmk⟩ := MX.pmk_xn (pos := p2) (p := px) xk g.r3 (g.gl' b1) (xo.at_ _ _ _ q2) (ihe _ _ he) (not_debug (by simpa using b3)) (star_cons b2)
        exact ps_weak (ps_raise g.calm g.tk pmk) fun D σ H h => ds_rse hX q2 hn0 hok h
    case h_18 b h0 hs pos =>
      obtain ⟨s, hs1, h⟩ := opt_bind h
      obtain ⟨l, hl, h⟩ := opt_map h
      subst h
      obtain ⟨xa, xo, hxs, hX⟩ := g.xc
      exact xs_tr hxs hX xo.exm g.hs g.hf g.nd g.tk (fun W pn xe tk _ => compTB_ok g.toGood hs1 W pn xe tk) (compH_ok g.toGood xo hxs (mapO_paired hl))
    case h_19 => cases h
end
end MP
set_option maxHeartbeats 2000001
/-! Ev16: the table of defs; the end. -/
namespace MP
open PySem PySem.Spec L2
/-- a def of the text: its datum, its names, which of them hold lists and dicts of their own -/
structure DDef where
  d : He.DefD
  N : List Str
  own : List Str
  pr : Option ((Nat → List W → Sto → Out Val) → List W → Sto → Out Val)
def DDef.ps (e : DDef) : List Str := e.d.params.args.map (·.arg)
def DDef.cc (fns : List (Str × Nat × Nat × List D)) (gls : List (Str × D)) (xs : List Str) (e : DDef) : CC := ⟨e.N, e.d.scope, fun _ => true, fns, gls, e.own, xs⟩
def DDef.fn (fns : List (Str × Nat × Nat × List D)) (gls : List (Str × D)) (xs : List Str) (e : DDef) : Option Fn :=
  match e.pr with
  | some g => some ⟨e.ps.length, 0, [], some g⟩
  | none => if C8.scC e.N e.ps e.d.scope then (mapO (compS 40 (e.cc fns gls xs)) e.d.body).map fun b => ⟨e.ps.length, e.N.length, b, none⟩ else none
/-- a def told by hand, at wrong arguments too -/
def prG (e : DDef) (g : List W → Sto → Out Val) : List W → Sto → Out Val := fun ws st => if ws.length = e.ps.length then g ws st else .bad
theorem DDef.fn_np {fns : List (Str × Nat × Nat × List D)} {gls : List (Str × D)} {xs : List Str} {e : DDef} {fn : Fn} (h : e.fn fns gls xs = some fn) : fn.np = e.ps.length ∧ fn.pr = e.pr := by
  unfold DDef.fn at h
  split at h
  · rename_i g hg
    cases h
    exact ⟨rfl, hg.symm⟩
  · rename_i hg
    replace h := ite_some h; obtain ⟨hs, h⟩ := h
    replace h := opt_map h; obtain ⟨body, hb, h⟩ := h
    rw [← h]
    exact ⟨rfl, hg.symm⟩
abbrev DDef.Is (K : PySem.W.Frag) (e : DDef) (fd : FuncData) : Prop := FunD K e.d.name e.d.qual e.d.params e.d.body e.d.scope (e.d.dvs K) (e.d.kws K) (He.fAd K e.d.at_) fd
theorem entry_sl {K : PySem.W.Frag} {F : AP} {φ : List Addr} {st : Sto} {H : Hp} {fn : Fn} {N : List Str} {vs : List V} {ws : List W} (hn : fn.ns = N.length) (hp : fn.np = vs.length) (r : RWs K (Or2 F (Live φ st)) H φ vs ws) : Sl K F φ st H (entry fn ws) (start N vs) := by
  have hl := paired_len r
  refine ⟨by simp [entry, L2.start, hl, hn, hp], fun i w e => ?_⟩
  unfold entry at e
  by_cases hi : i < (ws.map some).length
  · rw [List.getElem?_append_left hi, List.getElem?_map] at e
    cases q : ws[i]? with
    | none => rw [q]
          at e; cases e
    | some w' =>
      rw [q] at e; cases e
      obtain ⟨v, hv, rv⟩ := paired_get r q
      refine ⟨v, ?_, rv⟩
      unfold L2.start
      rw [List.getElem?_append_left (by rw [List.length_map] at hi ⊢; omega), List.getElem?_map, hv]; rfl
  · rw [List.getElem?_append_right (by omega)] at e
    have := List.mem_of_getElem? e
    rw [List.mem_replicate] at this
    cases this.2
section
variable {P : Program} {w : World} {K : PySem.W.Frag} {mg : Str → Option Value} {base : Heap} {XR : XRel}
theorem def_ok {xa : List (Str × Addr)} {xs : List Str} (xo : XaOk P w K mg base xa) (hxs : xs = xa.map (·.1)) {T : Nat → Option Fn} {lf n i : Nat} {fns : List (Str × Nat × Nat × List D)} {gls : List (Str × D)} {e : DDef} {fd : FuncData} {fn : Fn} (hpr : e.pr = none) (hf : e.fn fns gls xs = some fn) (hT : T i = some fn) (F : e.Is K fd)
    (bl : ∀ x : Str, x ∈ (["len", "abs", "int", "str", "bool", "tuple", "list", "any", "all", "sum", "max", "min", "dict", "isinstance", "range", "enumerate", "zip", "reversed"] : List Str) → mg x = none)
    (gl : ∀ x d, gls.lookup x = some d → ∃ v u, mg x = some u ∧ RelV v u ∧ ∀ L H, Den K L H v d)
    (cl : ∀ x i m dfl, (x, i, m, dfl) ∈ fns → ∃ f fd ps dvs ds np, mg x = some (.ref f) ∧ PySem.W.keepIn K (.ref f) = true ∧ FnOk P w K mg base (L2.CX P w) (n + 3) f fd ps (spR K (XRx K xa) np (runAt T lf n i)) ∧
      Binds K fd ps ds ∧ Vals dvs ds ∧ (∀ L H, DenAll K L H dvs dfl) ∧ ∀ ws st, ws.length ≠ np → runAt T lf n i ws st = .bad) :
    FnOk P w K mg base (L2.CX P w) (n + 1 + 3) (He.fAd K e.d.at_) fd e.ps (spR K (XRx K xa) e.ps.length (runAt T lf (n + 1) i)) := by
  unfold DDef.fn at hf
  rw [hpr] at hf
  replace hf := ite_some hf; obtain ⟨hs, hf⟩ := hf
  replace hf := opt_map hf; obtain ⟨body, hb, hf⟩ := hf
  have S := C8.fnScope_by hs
  refine FunD.ok F S (fun vs H Q E h => h.1) fun cdv A outer s H vs Q E hr hsp => ?_
  obtain ⟨hl, F0, φ, st, ws, sc, rws, post⟩ := hsp
  have hr' : Room (n + 3) _ := hr.mono (by omega)
  refine ⟨tSs K ⟨XRx K xa, fun cls d _ H => E cls d H⟩ ⟨runAt T lf n, lf⟩ body, ?_, ?_⟩
  · have tk : Takes (cxOf (L2.CX P w) P w K mg base e.N e.d.qual e.d.scope (He.fAd K e.d.at_) cdv A outer s H E) (fun cls d _ H => E cls d H) := takes_of rfl rfl rfl rfl
    have g : GoodS (cxOf (L2.CX P w) P w K mg base e.N e.d.qual e.d.scope (He.fAd K e.d.at_) cdv A outer s H E) ⟨XRx K xa, fun cls d _ H => E cls d H⟩ ⟨runAt T lf n, lf⟩ (e.cc fns gls xs) :=
      { calm := rfl, nd := S.nd, hN := rfl, sc := rfl, fn := fun _ _ => rfl, k := ⟨n + 3, hr', cl⟩, px := fun σ => passAt tk σ, bl := bl, gl := gl, xa := xaX, po := passes_of rfl, wf := fun _ _ _ _ _ h => h, kd := S.kind, xc := ⟨xa, xo, hxs, rfl⟩, r3 := hr'.mono (by omega), tk := tk, hs := rfl, hf := rfl }
    exact pss_list g.wf (paired_mono (mapO_paired hb) fun s x _ q => compS_ok 40 g s x q)
  · have hnp : fn.np = vs.length := by rw [← hf]; exact hl.symm
    have hns : fn.ns = e.N.length := by rw [← hf]
    refine ⟨F0, φ, st, entry fn ws, sc, entry_sl hns hnp rws, ?_⟩
    have hrun : runAt T lf (n + 1) i ws st = retOf (evSs ⟨runAt T lf n, lf⟩ body (entry fn ws) st) := by
      have hq : fn.pr = none := by rw [← hf]
      simp only [runAt, hT, runFn, hq]
      rw [if_pos (by rw [← paired_len rws, hnp]), ← hf]
    rw [hrun] at post
    cases q : evSs ⟨runAt T lf n, lf⟩ body (entry fn ws) st with
    | bad => rw [q] at post; exact post
    | exc c p st1 => rw [q] at post; exact post
    | ok fl st1 =>
      rw [q] at post
      cases fl with
      | rt v => exact post
      | nx δ => exact fun φ1 H1 t1 σ _ => post φ1 H1 t1 .non RU.non
      | bk δ => exact post.elim
      | ct δ => exact post.elim
theorem bad_len {T : Nat → Option Fn} {lf n i : Nat} {fn : Fn} (hT : T i = some fn) : ∀ ws st, ws.length ≠ fn.np → runAt T lf n i ws st = .bad := fun ws st h => by
  cases n with
  | zero => rfl
  | succ n =>
    simp only [runAt, hT]
    split
    · exact if_neg h
    · simp only [runFn, if_neg h]
/-- what the top says of the defs -/
structure Top (P : Program) (w : World) (K : PySem.W.Frag) (mg : Str → Option Value) (es : List DDef) (Fs : List Fn) (fns : List (Str × Nat × Nat × List D)) (gls : List (Str × D)) (xs : List Str) : Prop where
  comp : mapO (DDef.fn fns gls xs) es = some Fs
  is : ∀ e ∈ es, ∃ fd, e.Is K fd
  pr : ∀ base, K.In base → ∀ (XR : XRel) (i : Nat) (e : DDef) (g : (Nat → List W → Sto → Out Val) → List W → Sto → Out Val), es[i]? = some e → e.pr = some g → ∀ (fd : FuncData) (n : Nat) (run : Nat → List W → Sto → Out Val), e.Is K fd → XAnti XR →
    (∀ (j : Nat) (e' : DDef) (fd' : FuncData), es[j]? = some e' → e'.Is K fd' → FnOk P w K mg base (L2.CX P w) (n + 3) (He.fAd K e'.d.at_) fd' e'.ps (spR K XR e'.ps.length (run j)) ∧ ∀ ws st, ws.length ≠ e'.ps.length → run j ws st = .bad) →
    FnOk P w K mg base (L2.CX P w) (n + 4) (He.fAd K e.d.at_) fd e.ps (spR K XR e.ps.length (prG e (g run)))
  xc : ∃ xa : List (Str × Addr), xs = xa.map (·.1) ∧ ∀ base, K.In base → XaOk P w K mg base xa
  bl : ∀ x : Str, x ∈ (["len", "abs", "int", "str", "bool", "tuple", "list", "any", "all", "sum", "max", "min", "dict", "isinstance", "range", "enumerate", "zip", "reversed"] : List Str) → mg x = none
  gl : ∀ x d, gls.lookup x = some d → ∃ v u, mg x = some u ∧ RelV v u ∧ ∀ L H, Den K L H v d
  cl : ∀ x i m dfl, (x, i, m, dfl) ∈ fns → ∃ e, es[i]? = some e ∧ mg x = some (.ref (He.fAd K e.d.at_)) ∧ ∀ fd, e.Is K fd → ∃ dvs ds, Binds K fd e.ps ds ∧ Vals dvs ds ∧ ∀ L H, DenAll K L H dvs dfl
theorem paired_at {α β : Type} {R : α → β → Prop} : ∀ {as : List α} {bs : List β} {i : Nat} {a : α}, Paired R as bs → as[i]? = some a → ∃ b, bs[i]? = some b ∧ R a b
  | _, _, _, _, .nil,
        e => by simp at e
  | _, _, 0, _, .cons r _, e
        => by simp at e; subst e; exact ⟨_, rfl, r⟩
  | _, _, i + 1, _, .cons _ r, e => by
    obtain ⟨u, h1, h2⟩ := paired_at (i := i) r (by simpa using e)
    exact ⟨u, by simpa
          using h1, h2⟩
theorem table_ok (KB : K.In base) {xs : List Str} {xa : List (Str × Addr)} (xo : XaOk P w K mg base xa) (hxs : xs = xa.map (·.1)) {es : List DDef} {Fs : List Fn} {fns : List (Str × Nat × Nat × List D)} {gls : List (Str × D)} (t : Top P w K mg es Fs fns gls xs) (lf : Nat) :
    ∀ (n i : Nat) (e : DDef) (fd : FuncData), es[i]? = some e → e.Is K fd → FnOk P w K mg base (L2.CX P w) (n + 3) (He.fAd K e.d.at_) fd e.ps (spR K (XRx K xa) e.ps.length (runAt (fun i => Fs[i]?) lf n i))
  | 0, i, e, fd, hi, F => ⟨fun vs H Q E h => h.1, fun A outer s H args us vs Q E _ _ _ _ h => by
      obtain ⟨_, _, _, _, _, _, _, z⟩ := h
      exact z.elim⟩
  | n + 1, i, e, fd, hi, F => by
    obtain ⟨fn, hT, hf⟩ := paired_at (mapO_paired t.comp) hi
    cases hpr : e.pr with
    | some g =>
      have e1 : runAt (fun i => Fs[i]?) lf (n + 1) i = prG e (g (runAt (fun i => Fs[i]?) lf n)) := by
        funext ws st
        have ⟨h1, h2⟩ := DDef.fn_np hf
        simp only [runAt, hT, h2, hpr, h1, prG]
      rw [e1]
      refine t.pr base KB (XRx K xa) i e g hi hpr fd n (runAt (fun i => Fs[i]?) lf n) F xaX fun j e' fd' he' F' => ⟨table_ok KB xo hxs t lf n j e' fd' he' F', ?_⟩
      obtain ⟨fn', hT', hf'⟩ := paired_at (mapO_paired t.comp) he'
      exact fun ws st h => bad_len (fn := fn') hT' ws st (by rw [(DDef.fn_np hf').1]; exact h)
    | none =>
    refine def_ok xo hxs hpr hf hT F t.bl t.gl fun x j m dfl hm => ?_
    obtain ⟨e', he', hmg, hb⟩ := t.cl x j m dfl hm
    obtain ⟨fd', F'⟩ := t.is e' (List.mem_of_getElem? he')
    obtain ⟨dvs, ds, b1, b2, b3⟩ := hb fd' F'
    obtain ⟨fn', hT', hf'⟩ := paired_at (mapO_paired t.comp) he'
    have hnp : fn'.np = e'.ps.length := (DDef.fn_np hf').1
    exact ⟨_, fd', e'.ps, dvs, ds, e'.ps.length, hmg, F'.kp, table_ok KB xo hxs t lf n j e' fd' he' F', b1, b2, b3, fun ws st h => bad_len (fn := fn') hT' ws st (by rw [hnp]; exact h)⟩
end
/-! ### the end -/
theorem end_sp {K : PySem.W.Frag} {XR : XRel} {H : Hp} {a : Addr} {ns : List Int} {run : List W → Sto → Out Val} (hO : Only H) (hS : SqL K H a (ns.map V.int)) (h : ∃ st, run [.fz (ns.map PyData.int)] [] = .ok (vBool true) st) :
    spR K XR 1 run [.ref a] H (fun v _ => v = .bl true) fun _ _ _ => False := by
  obtain ⟨st1, h⟩ := h
  have hF : SqF K H a (ns.map V.int) := by
    rcases hS with (hS | hS) | hS
    · rcases hO a with e | ⟨o, xs, e⟩
      · rw [e] at hS; cases hS
      · rw [e] at hS; cases hS
    · exact .inl hS
    · exact .inr hS
  have hd : ∀ (L : AP) (ns : List Int), DenAll K L H (ns.map V.int) (ns.map PyData.int) := fun L ns => by
    induction ns with
    | nil => exact .nil
    | cons n r ih => exact .cons (.int n) ih
  refine ⟨rfl, fun _ => False, [], [], [.fz (ns.map PyData.int)], ?_, .cons ⟨a, _, rfl, hF, hd _ _⟩ .nil, ?_⟩
  · refine ⟨rfl, List.nodup_nil, ?_, ?_, ?_, ?_, ?_⟩
    · intro a h; cases h
    · intro a h; exact h.elim
    · intro a h; exact h.elim
    · intro a h; exact h.elim
    · intro i a c e _; simp at e
  · rw [h]
    exact fun φ1 H1 t1 u r => Den.bl_inv r
theorem walk_EB {l : PySem.W.OpenLaw} {n k : Nat} {q : Program} {loose : List Str} {XP : (Str → Option Value) → Heap → Prop} {YP : World → Heap → Prop} {d : DefRec} {CX : World → CXT} {x : Str}
    (hn : l.most = some n) (hn2
          : n ≤ sizeLine) (hdf : d.params.defaults = []) (hr : Room k callerA)
    (F : ∀ (w : World) (mg : Str
          → Option Value) (fa : Addr) (h : Heap), YP w h → h.Ns mainGlobals mg → mg d.name = some (.ref fa) →
      ∃ (K : PySem.W.Frag) (fd :
            FuncData) (sp : Sp), K.In h ∧ (∀ (s : Shared) (u : Value), BindsTo s fd ⟨[u], []⟩ [(x, u)]) ∧
        (∀ (H : Hp) (a : Addr) (ns : List Int), ns.length ≤ n → (∀ z ∈ ns, Builtin.Int.intBits z ≤ 1048576) → Only H → SqL K H a (ns.map V.int) → sp [.ref a] H (fun v _ => v = .bl true) fun _ _ _ => False) ∧
        ∀ base : Heap, K.In base → base.Ns mainGlobals mg → FnOk l.prog w K mg base (CX w) k fa fd [x] sp)
    (hCX : ∀ (w : World) (H :
          Hp) (s : Shared) (e : Value) (s' : Shared), CX w [] H s (fun _ _ _ => False) e s' → False) :
    PySem.W.WalkO q loose XP YP
          l.row.toRowW d [] (fun f vs => PySem.call f vs) := by
  refine Att.attach_callB hn
        hdf fun w s₀ s₁ mg mb fa o pm cd doc a vs ns G Y ho hd hcd hmg hobj hints hlen hbits hg => ?_
  obtain ⟨K, fd, sp, KX, hb,
        hsp, hF⟩ := F w mg fa _ Y G.T.g hmg
  exact law_call KX G.T.g G.T.b G.T.builtins G.T.nolimit hg hobj hints (Nat.le_trans hlen hn2) hr hF hb (fun H hO hS => hsp H a ns hlen hbits hO hS) fun H e s' => hCX w H s₁ e s'
theorem CX_no {P : Program} {w : World} {H : Hp} {s : Shared} {e : Value} {s' : Shared} : L2.CX P w [] H s (fun _ _ _ => False) e s' → False := fun h => by
  obtain ⟨_, _, _, _, _, _,
        _, _, _, _, _, _, z⟩ := h
  exact z
/-- the law's end: what the top says, and that the run of the law's def (the last) gives True -/
theorem law_end {l : PySem.W.OpenLaw} {q : Program} {loose : List Str} {XP : (Str → Option Value) → Heap → Prop} {YP : World → Heap → Prop} {d : DefRec} {k lf iL : Nat} {es : List DDef} {Fs : List Fn} {fns : List (Str × Nat × Nat × List D)} {gls : List (Str × D)} {xs : List Str} {eL : DDef}
    (hn : l.most = some 63) (hdf : d.params.defaults = []) (hr : Room (k + 3) callerA) (hL : es[iL]? = some eL) (hps : eL.ps = [("script" : Str)])
    (hY : ∀ (w : World) (mg : Str → Option Value) (fa : Addr) (h : Heap), YP w h → h.Ns mainGlobals mg → mg d.name = some (.ref fa) → ∃ K : PySem.W.Frag, K.In h ∧ Top l.prog w K mg es Fs fns gls xs ∧ fa = He.fAd K eL.d.at_ ∧
      ∀ fd, eL.Is K fd → ∀ (s : Shared) (u : Value), BindsTo s fd ⟨[u], []⟩ [("script", u)])
    (hrun : ∀ ns : List Int, ns.length ≤ 63 → (∀ z ∈ ns, Builtin.Int.intBits z ≤ 1048576) → ∃ st, runAt (fun i => Fs[i]?) lf k iL [.fz (ns.map PyData.int)] [] = .ok (vBool true) st) :
    PySem.W.WalkO q loose XP YP
          l.row.toRowW d [] (fun f vs => PySem.call f vs) := by
  refine walk_EB (n := 63) (k := k + 3) (x := "script") (CX := fun w => L2.CX l.prog w) hn (by decide) hdf hr (fun w mg fa h Y G hmg => ?_) fun w H s e s' => CX_no
  obtain ⟨K, KX, t, hfa, hb⟩ := hY w mg fa h Y G hmg
  obtain ⟨fd, F⟩ := t.is eL (List.mem_of_getElem? hL)
  obtain ⟨xa, hxs, xo⟩ := t.xc
  subst hfa
  refine ⟨K, fd, spR K (XRx K xa) 1 (runAt (fun i => Fs[i]?) lf k iL), KX, hb fd F, fun H a ns hlen hbits hO hS => end_sp hO hS (hrun ns hlen hbits), fun base KB _ => ?_⟩
  have := table_ok (P := l.prog) (w := w) (base := base) KB (xo base KB) hxs t lf k iL eL fd hL F
  rw [hps] at this
  exact this
end MP
set_option maxHeartbeats 4000001
/-! EvH: the exception classes of a text, from the head's Bool. -/
namespace MP
open PySem PySem.Spec L2 MX
def excCB (K : PySem.W.Frag) (D : Addr) : Bool := decide (PySem.W.findIn K (.ref D) "__getattribute__" = some (some (.builtin "BaseException.__getattribute__"))) && (decide (PySem.W.findIn K (.ref D) "__getattr__" = some none) && (decide (PySem.W.subIn K (.ref D) (.type "BaseException") = some true) && (PySem.W.hasDictIn K D &&
  (decide (PySem.W.findIn K (.ref D) "__class__" = some (some (.builtin "object.__class__"))) && (decide (PySem.W.specialIn K (.builtin "object.__class__") "__get__" = some (some (.builtin "getset_descriptor.__get__"))) && (decide (PySem.W.takesIn K (.builtin "object.__class__") = some true) &&
  (decide (PySem.W.mroIn K D (.type "object") = some true) && decide (PySem.W.kitOne K (.ref D) (.type "ValueError") = some true))))))))
theorem excCB_ok {K : PySem.W.Frag} {D : Addr} (h : excCB K D = true) : ExcC K D ∧ PySem.W.kitOne K (.ref D) (.type "ValueError") = some true := by
  unfold excCB at h
  simp only [Bool.and_eq_true,
        decide_eq_true_eq] at h
  obtain ⟨h1, h2, h3, h4, h5, h6, h7, h8, h9⟩ := h
  exact ⟨⟨h1, h2, h3, h4, h5, h6, h7, h8⟩, h9⟩
def clsB (K : PySem.W.Frag) (file : Str) (b : Addr) (bs : Bool) (nm : Str) : Bool :=
  excCB K (He.ga K nm) && (oexB K (He.ga K nm) && (xfB K (He.ga K nm) && (noAtB K (He.ga K nm) && (decide (PySem.W.findIn K (.ref (He.ga K nm)) "__init__" = some (some (.ref (He.ma K (He.ga K nm) "__init__")))) && (decide (PySem.W.typeIn K (.ref (He.ma K (He.ga K nm) "__init__")) = some (.type "function")) &&
    (defIB K file (He.ma K (He.ga K nm) "__init__") (He.ga K nm) nm bs && (supVB K (He.ga K nm) b && (decide (PySem.W.nsIn K mainGlobals nm = some (some (.ref (He.ga K nm)))) && (bs || supOB K (He.ga K nm) (He.ga K nm) (He.ma K b "__init__"))))))))))
def exB (file : Str) (xs : List Str) (K : PySem.W.Frag) : Bool := match xs with
  | [] => true
  | b :: r => clsB K file (He.ga K b) true b && (r.all (clsB K file (He.ga K b) false) && (List.range xs.length).all fun c => (List.range xs.length).all fun c' => decide (PySem.W.exmOne K (.ref (He.ga K (xs.getD c ⟨#[]⟩))) (.ref (He.ga K (xs.getD c' ⟨#[]⟩))) = some (subX c c')))
section
variable {P : Program} {w : World} {K : PySem.W.Frag} {mg : Str → Option Value} {base h : Heap}
theorem body_base {nm : Str} {body : List Stmt} (h : bodyB nm true body = true) : ∃ p0 p1 p2 p3 p4 p5 q0 q1 q2 q3 j r0 r1 r2 r3, body = bodyI p0 p1 p2 p3 p4 p5 [setPl q0 q1 q2 q3, setNm nm j r0 r1 r2 r3] ∧ (p2.endLine == p4.line) = true := by
  unfold bodyB at h
  split at h
  · simp only [Bool.true_and, Bool.and_eq_true] at h
    obtain ⟨h1, h2, h3⟩ := h
    obtain ⟨p0, p1, p2, p3, p4, p5, rfl, hl⟩ := headB_ok h1
    obtain ⟨q0, q1, q2, q3, rfl⟩ := plB_ok h2
    obtain ⟨j, r0, r1, r2, r3, rfl⟩ := nmB_ok h3
    exact ⟨p0, p1, p2, p3, p4, p5, q0, q1, q2, q3, j, r0, r1, r2, r3, rfl, hl⟩
  · simp at h
  · cases h
theorem body_more {nm : Str} {body : List Stmt} (h : bodyB nm false body = true) : ∃ p0 p1 p2 p3 p4 p5 j r0 r1 r2 r3, body = bodyI p0 p1 p2 p3 p4 p5 [setNm nm j r0 r1 r2 r3] ∧ (p2.endLine == p4.line) = true := by
  unfold bodyB at h
  split at h
  · simp at h
  · simp only [Bool.not_false, Bool.true_and, Bool.and_eq_true] at h
    obtain ⟨h1, h3⟩ := h
    obtain ⟨p0, p1, p2, p3, p4, p5, rfl, hl⟩ := headB_ok h1
    obtain ⟨j, r0, r1, r2, r3, rfl⟩ := nmB_ok h3
    exact ⟨p0, p1, p2, p3, p4, p5, j, r0, r1, r2, r3, rfl, hl⟩
  · cases h
theorem xa_ok {xs : List Str} (e : exB P.main.file xs K = true) (X : K.In h) (G : h.Ns mainGlobals mg) (top : xs ≠ [] → (P.main.scope.names.lookup ("super" : Str)).isSome = false) (hmg : mg "super" = none) (hve : mg "ValueError" = none) :
    XaOk P w K mg base (xs.map fun nm => (nm, He.ga K nm)) := by
  cases xs with
  | nil => exact ⟨fun c nm A h => by simp at h, fun c nm A h => by simp at h, fun c c' nm nm' A A' h => by simp at h, fun c nm A h => by simp at h, hve⟩
  | cons b r =>
    have top := top (by simp)
    simp only [exB, Bool.and_eq_true, List.all_eq_true, decide_eq_true_eq, List.mem_range] at e
    obtain ⟨e1, e2, e3⟩ := e
    have parts : ∀ {nm : Str} {bs : Bool}, clsB K P.main.file (He.ga K b) bs nm = true → OexC K (He.ga K nm) ∧ XfC K (He.ga K nm) ∧ noAt K (He.ga K nm) ∧ PySem.W.findIn K (.ref (He.ga K nm)) "__init__" = some (some (.ref (He.ma K (He.ga K nm) "__init__"))) ∧
        PySem.W.typeIn K (.ref (He.ma K (He.ga K nm) "__init__")) = some (.type "function") ∧ defIB K P.main.file (He.ma K (He.ga K nm) "__init__") (He.ga K nm) nm bs = true ∧ SupV K (He.ga K nm) (He.ga K b) ∧ PySem.W.nsIn K mainGlobals nm = some (some (.ref (He.ga K nm))) ∧
        (bs = false → SupO K (He.ga K nm) (He.ga K nm) (He.ma K (He.ga K b) "__init__")) ∧ ExcC K (He.ga K nm) ∧ PySem.W.kitOne K (.ref (He.ga K nm)) (.type "ValueError") = some true := fun {nm bs} q => by
      unfold clsB at q
      simp only [Bool.and_eq_true, Bool.or_eq_true, decide_eq_true_eq] at q
      obtain ⟨q0, q1, q2, q3, q4, q5, q6, q7, q8, q9⟩ := q
      exact ⟨oexB_ok q1, xfB_ok q2, noAtB_ok q3, q4, q5, q6, supVB_ok q7, q8, fun z => q9.elim (fun y => by rw [z] at y; cases y) supOB_ok, excCB_ok q0⟩
    have pb := parts e1
    obtain ⟨cda, cc, q, params, body, sc, fdB, T, hb, bnd⟩ := defIB_ok (P := P) (mg := mg) pb.2.2.2.2.2.1 top hmg
    obtain ⟨p0, p1, p2, p3, p4, p5, q0, q1, q2, q3, j, r0, r1, r2, r3, rfl, hl⟩ := body_base hb
    have G1 : ∀ k, FnOk P w K mg base (L2.CX P w) (k + 1) (He.ma K (He.ga K b) "__init__") fdB ["self", "place"] (spI 2 (okV K (He.ga K b)) b) := fun k => base_ok hl T
    have at_ : ∀ (c : Nat) (nm : Str) (A : Addr), ((b :: r).map fun nm => (nm, He.ga K nm))[c]? = some (nm, A) → (b :: r)[c]? = some nm ∧ A = He.ga K nm := fun c nm A h => by
      rw [List.getElem?_map] at h
      cases z : (b :: r)[c]? with
      | none => rw [z] at h; cases h
      | some n => rw [z] at h; cases h; exact ⟨rfl, rfl⟩
    have cl : ∀ (c : Nat) (nm : Str), (b :: r)[c]? = some nm → ∃ bs, clsB K P.main.file (He.ga K b) bs nm = true ∧ (bs = true → nm = b) := fun c nm h => by
      cases c with
      | zero => cases h; exact ⟨true, e1, fun _ => rfl⟩
      | succ c => exact ⟨false, e2 nm (List.mem_of_getElem? (i := c) (by simpa using h)), fun z => by cases z⟩
    refine ⟨fun c nm A h => ?_, fun c nm A h => ?_, fun c c' nm nm' A A' h h' => ?_, fun c nm A h => ?_, hve⟩
    · obtain ⟨h1, rfl⟩ := at_ c nm A h
      obtain ⟨bs, hc, _⟩ := cl c nm h1
      exact PySem.W.mg_of X G (parts hc).2.2.2.2.2.2.2.1
    · obtain ⟨h1, rfl⟩ := at_ c nm A h
      obtain ⟨bs, hc, hbs⟩ := cl c nm h1
      have pc := parts hc
      cases bs with
      | true =>
        have := hbs rfl
        subst this
        exact ⟨2, by decide, pc.1, pc.2.1, pc.2.2.1, _, fdB, _, pc.2.2.2.1, pc.2.2.2.2.1, ⟨pc.2.2.2.2.2.2.1, pc.2.2.1⟩, G1 1, bnd⟩
      | false =>
        obtain ⟨cda', cc', q', params', body', sc', fd', T', hb', bnd'⟩ := defIB_ok (P := P) (mg := mg) pc.2.2.2.2.2.1 top hmg
        obtain ⟨a0, a1, a2, a3, a4, a5, j', b0, b1, b2, b3, rfl, hl'⟩ := body_more hb'
        exact ⟨3, by decide, pc.1, pc.2.1, pc.2.2.1, _, fd', _, pc.2.2.2.1, pc.2.2.2.2.1, ⟨pc.2.2.2.2.2.2.2.2.1 rfl, ⟨pc.2.2.2.2.2.2.1, pc.2.2.1⟩, pc.2.2.1⟩, more_ok hl' (by decide) T' (G1 0) bnd, bnd'⟩
    · obtain ⟨h1, rfl⟩ := at_ c nm A h
      obtain ⟨h2, rfl⟩ := at_ c' nm' A' h'
      have := e3 c (List.getElem?_eq_some_iff.mp h1).1 c' (List.getElem?_eq_some_iff.mp h2).1
      rw [List.getD_eq_getElem?_getD, List.getD_eq_getElem?_getD, h1, h2] at this
      exact this
    · obtain ⟨h1, rfl⟩ := at_ c nm A h
      obtain ⟨bs, hc, _⟩ := cl c nm h1
      exact (parts hc).2.2.2.2.2.2.2.2.2
end
end MP
set_option maxHeartbeats 2000001
/-! Ev17: what the head tells, as Top asks it. -/
namespace MP
open PySem PySem.Spec L2 MX
def blNames : List Str := ["len", "abs", "int", "str", "bool", "tuple", "list", "any", "all", "sum", "max", "min", "dict", "isinstance", "range", "enumerate", "zip", "reversed"]
def suNames : List Str := ["super", "ValueError"]
def faGl : Str × D → He.Fa
  | (x, .int i) => .int x i
  | (x, .str z) => .str x z
  | (x, _) => .free x
def glB1 : Str × D → Bool
  | (_, .int _) => true
  | (_, .str _) => true
  | _ => false
def faOf (es : List DDef) (gls : List (Str × D)) : List He.Fa := (es.map fun e => He.Fa.glo e.d.at_.1) ++ (blNames.map He.Fa.free ++ (gls.map faGl ++ suNames.map He.Fa.free))
theorem lookup_in {α β : Type} [BEq α] [LawfulBEq α] : ∀ {l : List (α × β)} {x : α} {d : β}, l.lookup x = some d → (x, d) ∈ l
  | [], x, d, h => by cases h
  | (y, e) :: r, x, d, h => by
    rw [List.lookup_cons] at h
    split at h
    · rename_i hy
      cases h
      have : x = y := by simpa using hy
      subst this
      exact List.mem_cons_self ..
    · exact List.mem_cons_of_mem _ (lookup_in h)
section
variable {K : PySem.W.Frag} {h : Heap} {mg : Str → Option Value} {es : List DDef} {gls : List (Str × D)} {fns : List (Str × Nat × Nat × List D)} {Fs : List Fn} {xs : List Str} {P : Program} {w : World}
theorem fa_glo (c : He.SaysD (faOf es gls) (es.map (·.d)) K) (X : K.In h) (G : h.Ns mainGlobals mg) {e : DDef} (he : e ∈ es) {x : Str} (hx : e.d.at_ = (x, none)) : mg x = some (.ref (He.fAd K e.d.at_)) := by
  have := He.glo_ok X G (c.facts (f := .glo e.d.at_.1) (List.mem_append_left _ (List.mem_map.mpr ⟨e, he, rfl⟩)))
  rw [hx] at this ⊢
  exact this
/-- what a def told by hand may lean on -/
def PrOk (P : Program) (w : World) (es : List DDef) (fns : List (Str × Nat × Nat × List D)) : Prop := ∀ (K : PySem.W.Frag) (mg : Str → Option Value), (∀ x ∈ blNames, mg x = none) → (∀ e ∈ es, ∀ x, e.d.at_ = (x, none) → mg x = some (.ref (He.fAd K e.d.at_))) → (∀ e ∈ es, ∃ fd, e.Is K fd) →
  (∀ x i m dfl, (x, i, m, dfl) ∈ fns → ∃ e, es[i]? = some e ∧ mg x = some (.ref (He.fAd K e.d.at_)) ∧ ∀ fd, e.Is K fd → ∃ dvs ds, Binds K fd e.ps ds ∧ Vals dvs ds ∧ ∀ L H, DenAll K L H dvs dfl) →
  ∀ base, K.In base → ∀ (XR : XRel) (i : Nat) (e : DDef) (g : (Nat → List W → Sto → Out Val) → List W → Sto → Out Val), es[i]? = some e → e.pr = some g → ∀ (fd : FuncData) (n : Nat) (run : Nat → List W → Sto → Out Val), e.Is K fd → XAnti XR →
    (∀ (j : Nat) (e' : DDef) (fd' : FuncData), es[j]? = some e' → e'.Is K fd' → FnOk P w K mg base (L2.CX P w) (n + 3) (He.fAd K e'.d.at_) fd' e'.ps (spR K XR e'.ps.length (run j)) ∧ ∀ ws st, ws.length ≠ e'.ps.length → run j ws st = .bad) →
    FnOk P w K mg base (L2.CX P w) (n + 4) (He.fAd K e.d.at_) fd e.ps (spR K XR e.ps.length (prG e (g run)))
theorem prOk_none {es : List DDef} (h : es.all (fun e => e.pr.isNone) = true) : PrOk P w es fns := fun K mg _ _ _ _ base _ XR i e g hi hg => by
  have := List.all_eq_true.mp h e (List.mem_of_getElem? hi)
  rw [hg] at this
  cases this
theorem top_mk (pk : PrOk P w es fns) (c : He.SaysD (faOf es gls) (es.map (·.d)) K) (ex : exB P.main.file xs K = true) (htop : xs ≠ [] → (P.main.scope.names.lookup ("super" : Str)).isSome = false) (X : K.In h) (G : h.Ns mainGlobals mg) (hc : mapO (DDef.fn fns gls xs) es = some Fs) (hg : gls.all glB1 = true)
    (cl : ∀ x i m dfl, (x, i, m, dfl) ∈ fns → ∃ e, es[i]? = some e ∧ e.d.at_ = (x, none) ∧ ∀ fd, e.Is K fd → ∃ dvs ds, Binds K fd e.ps ds ∧ Vals dvs ds ∧ ∀ L H, DenAll K L H dvs dfl) : Top P w K mg es Fs fns gls xs where
  comp := hc
  xc := ⟨_, by rw [List.map_map]; exact (List.map_id _).symm, fun base _ => xa_ok ex X G htop (He.free_ok X G (c.facts (f := .free "super") (List.mem_append_right _ (List.mem_append_right _ (List.mem_append_right _ (by simp [suNames])))))) (He.free_ok X G (c.facts (f := .free "ValueError") (List.mem_append_right _ (List.mem_append_right _ (List.mem_append_right _ (by simp [suNames]))))))⟩
  is := fun e he => c.defs (d := e.d) (List.mem_map.mpr ⟨e, he, rfl⟩)
  pr := pk K mg (fun x hx => He.free_ok X G (c.facts (f := .free x) (List.mem_append_right _ (List.mem_append_left _ (List.mem_map.mpr ⟨x, hx, rfl⟩)))))
    (fun e he x hx => fa_glo c X G he hx) (fun e he => c.defs (d := e.d) (List.mem_map.mpr ⟨e, he, rfl⟩))
    (fun x i m dfl hm => by
      obtain ⟨e, he, hx, hb⟩ := cl x i m dfl hm
      exact ⟨e, he, fa_glo c X G (List.mem_of_getElem? he) hx, hb⟩)
  bl := fun x hx => He.free_ok X G (c.facts (f := .free x) (List.mem_append_right _ (List.mem_append_left _ (List.mem_map.mpr ⟨x, hx, rfl⟩))))
  gl := fun x d hd => by
    have hm := lookup_in hd
    have hf := c.facts (f := faGl (x, d)) (List.mem_append_right _ (List.mem_append_right _ (List.mem_append_left _ (List.mem_map.mpr ⟨_, hm, rfl⟩))))
    have hb := List.all_eq_true.mp hg _ hm
    cases d with
    | int i => obtain ⟨t, e⟩ := He.int_ok X G hf; exact ⟨.int i, _, e, ⟨_, rfl⟩, fun _ _ => .int i⟩
    | str z => obtain ⟨t, e⟩ := He.str_ok X G hf; exact ⟨.str z, _, e, ⟨_, rfl⟩, fun _ _ => .str z⟩
    | _ => cases hb
  cl := fun x i m dfl hm => by
    obtain ⟨e, he, hx, hb⟩ := cl x i m dfl hm
    exact ⟨e, he, fa_glo c X G (List.mem_of_getElem? he) hx, hb⟩
end
end MP
set_option maxHeartbeats 2000001
/-! Ev18: the evaluator, step by step, as rules. -/
namespace MP
open PySem
section
variable {C : CE} {σ σ' : Env} {st s1 s2 s3 : Sto} {a b c e : E} {x y z : Val} {w : W}
def pick {α : Type} (b : Bool) (t f : α) : α := match b with
  | true => t
  | false => f
theorem pick_t {α : Type} {t f : α} {o : α} (h : t = o) : pick true t f = o := h
theorem pick_f {α : Type} {t f : α} {o : α} (h : f = o) : pick false t f = o := h
theorem pick_tE {α : Type} {b : Bool} {t f : α} {o : α} (hb : b = true) (h : t = o) : pick b t f = o := by rw [hb]; exact h
theorem pick_fE {α : Type} {b : Bool} {t f : α} {o : α} (hb : b = false) (h : f = o) : pick b t f = o := by rw [hb]; exact h
theorem rngOk_nat (n : Nat) (h : n ≤ 1000000) : rngOk (n : Int) = true := by
  unfold rngOk
  apply decide_eq_true
  constructor
  · have : (0 : Int) ≤ (n : Int) := Int.natCast_nonneg _
    have h2 : (-(2 ^ 62) : Int) ≤ 0 := by simp
    exact Int.le_trans h2 this
  · have : (n : Int) < 1000001 := by omega
    have h2 : (1000001 : Int) ≤ 2 ^ 62 := by simp
    exact Int.lt_of_lt_of_le this h2
theorem rng1_of (i : Int) (hk : rngOk i = true) : rng1V [vInt i] = some (rngW 0 i) := by
  unfold rng1V
  show (if rngOk i = true then some (rngW 0 i) else none) = _
  exact if_pos hk
theorem rng_ok (n : Nat) (h : n ≤ 1000000) : rng1V [vInt n] = some (rngW 0 n) := rng1_of n (rngOk_nat n h)
theorem ev_var {i : Nat} (h : σ[i]? = some (some w)) : evE C (.var i) σ st = .ok (.w w) st := by simp only [evE, h]
theorem ev_cst {d : D} : evE C (.cst d) σ st = .ok (.w (.d d)) st := by simp only [evE]
theorem ev_bin {op : Operator} (h1 : evE C a σ st = .ok x s1) (h2 : evE C b σ s1 = .ok y s2) (h3 : binV op s2 x y = some z) : evE C (.bin op a b) σ st = .ok z s2 := by simp only [evE, h1, h2, h3, Out.bind, liftO]
theorem ev_neg (h1 : evE C a σ st = .ok x s1) (h3 : negV x = some z) : evE C (.neg a) σ st = .ok z s1 := by simp only [evE, h1, h3, Out.bind, liftO]
theorem ev_nt {r : Bool} (h1 : evE C a σ st = .ok x s1) (h3 : bool? x = some r) : evE C (.nt a) σ st = .ok (vBool (!r)) s1 := by simp only [evE, h1, h3, Out.bind, liftO, Option.map]
theorem ev_an {r : Bool} (h1 : evE C a σ st = .ok x s1) (h3 : bool? x = some r) (h4 : pick r (evE C b σ s1) (.ok (vBool false) s1) = .ok z s2) : evE C (.an a b) σ st = .ok z s2 := by
  simp only [evE, h1, h3, Out.bind]; cases r <;> exact h4
theorem ev_orr {r : Bool} (h1 : evE C a σ st = .ok x s1) (h3 : bool? x = some r) (h4 : pick r (.ok (vBool true) s1) (evE C b σ s1) = .ok z s2) : evE C (.orr a b) σ st = .ok z s2 := by
  simp only [evE, h1, h3, Out.bind]; cases r <;> exact h4
theorem ev_ife {r : Bool} (h1 : evE C c σ st = .ok x s1) (h3 : bool? x = some r) (h4 : pick r (evE C a σ s1) (evE C b σ s1) = .ok z s2) : evE C (.ife c a b) σ st = .ok z s2 := by
  simp only [evE, h1, h3, Out.bind]; cases r <;> exact h4
theorem ev_cmp {op : CmpOp} {r : Bool} (h1 : evE C a σ st = .ok x s1) (h2 : evE C b σ s1 = .ok y s2) (h3 : cmpV op s2 x y = some r) : evE C (.cmp op a b) σ st = .ok (vBool r) s2 := by simp only [evE, h1, h2, h3, Out.bind, liftO, cmpB]
theorem ev_cmp2 {o1 o2 : CmpOp} {r : Bool} (h1 : evE C a σ st = .ok x s1) (h2 : evE C b σ s1 = .ok y s2) (h3 : cmpV o1 s2 x y = some r) (h4 : pick r ((evE C c σ s2).bind fun z st => (cmpB o2 st y z).bind fun r st => .ok (vBool r) st) (.ok (vBool false) s2) = .ok z s3) : evE C (.cmp2 o1 o2 a b c) σ st = .ok z s3 := by
  simp only [evE, h1, h2, h3, Out.bind, liftO, cmpB] at h4 ⊢; cases r <;> exact h4
theorem ev_cmp2b {o2 : CmpOp} {r : Bool} (h1 : evE C c σ s2 = .ok z s3) (h2 : cmpV o2 s3 y z = some r) : ((evE C c σ s2).bind fun z st => (cmpB o2 st y z).bind fun r st => Out.ok (vBool r) st) = .ok (vBool r) s3 := by
  simp only [h1, h2, Out.bind, liftO, cmpB]
theorem ev_tup {es : List E} {vs : List Val} {ds : List D} (h1 : evEs C es σ st = .ok vs s1) (h2 : dsOf vs = some ds) (h3 : decide (ds.length ≤ line) = true) : evE C (.tup es) σ st = .ok (vTup ds) s1 := by
  simp only [evE, h1, h2, Out.bind, liftO, Option.bind, if_pos (of_decide_eq_true h3)]
theorem ev_lst {es : List E} {vs : List Val} {ws : List W} (h1 : evEs C es σ st = .ok vs s1) (h2 : wsOf vs = some ws) (h3 : decide (ws.length ≤ line) = true) : evE C (.lst false es) σ st = .ok (.fl ws) s1 := by
  simp only [evE, h1, h2, Out.bind, liftO, Option.bind, if_pos (of_decide_eq_true h3)]
theorem ev_dis : evE C (.dis []) σ st = .ok (.fd []) st := by simp only [evE, evKvs, Out.bind]
theorem ev_ix (h1 : evE C a σ st = .ok x s1) (h2 : evE C b σ s1 = .ok y s2) (h3 : ixV s2 x y = some z) : evE C (.ix a b) σ st = .ok z s2 := by simp only [evE, h1, h2, h3, Out.bind, liftO]
theorem ev_sl {lo hi : Option E} {l h : Option Int} (h1 : evE C a σ st = .ok x s1) (h2 : evO C lo σ s1 = .ok l s2) (h3 : evO C hi σ s2 = .ok h s3) (h4 : slV s3 x l h = some z) : evE C (.sl a lo hi) σ st = .ok z s3 := by simp only [evE, h1, h2, h3, h4, Out.bind, liftO]
theorem eo_none : evO C none σ st = .ok none st := by simp only [evO]
theorem eo_some {i : Int} (h1 : evE C a σ st = .ok x s1) (h2 : int? x = some i) : evO C (some a) σ st = .ok (some i) s1 := by simp only [evO, h1, h2, Out.bind, liftO, Option.map]
theorem ev_call {f : Nat} {es : List E} {dfl : List D} {vs : List Val} {ws : List W} (h1 : evEs C es σ st = .ok vs s1) (h2 : wsOf vs = some ws) (h3 : callV C f (ws ++ dfl.map .d) s1 = .ok z s2) : evE C (.call f es dfl) σ st = .ok z s2 := by simp only [evE, h1, h2, h3, Out.bind, liftO]
theorem ev_blt {bl : Blt} {es : List E} {vs : List Val} (h1 : evEs C es σ st = .ok vs s1) (h2 : bltV bl s1 vs = some z) : evE C (.blt bl es) σ st = .ok z s1 := by simp only [evE, h1, h2, Out.bind, liftO]
theorem ev_mth {m : Mth} {es : List E} {vs : List Val} {r : Val × Sto} (h1 : evE C a σ st = .ok x s1) (h0 : recvOk m s1 x = true) (h2 : evEs C es σ s1 = .ok vs s2) (h3 : mthV m s2 x vs = some r) : evE C (.mth m a es) σ st = .ok r.1 r.2 := by simp only [evE, h1, h0, h2, h3, Out.bind]
theorem ev_isi {ts : List Ty} {r : Bool} (h1 : evE C a σ st = .ok x s1) (h2 : isTys s1 x ts = some r) : evE C (.isi a ts) σ st = .ok (vBool r) s1 := by simp only [evE, h1, h2, Out.bind, liftO, Option.map]
/-- a comprehension's turn -/
def lcF (C : CE) (own : List Nat) (t : Tg) (cs : List E) (e : E) (σ : Env) : W → Sto → Out (Option W) := fun x st => match bindT t x (wipeE σ own) with
  | none => .bad
  | some σ' => (evCs C cs σ' st).noX.bind fun b st => match b with
    | true => (evE C e σ' st).noX.bind fun v st => liftO ((wOf v).map some) st
    | false => .ok none st
theorem ev_lc {own : List Nat} {t : Tg} {s : Src} {cs : List E} {it : Itx} {ys : List W} (h0 : (s.isW && !t.isTp) = false) (h1 : evSrc C s σ st = .ok it s1) (h2 : gathOf C.lf (lcF C own t cs e σ) it s1 = .ok ys s2) : evE C (.lc own t s cs e) σ st = .ok (.fl ys) s2 := by
  simp only [evE, h0, h1, Out.bind_ok, Bool.false_eq_true, if_false]
  show Out.bind (gathOf C.lf (lcF C own t cs e σ) it s1) _ = _
  rw [h2]
  rfl
theorem lcF_ok {own : List Nat} {t : Tg} {cs : List E} {r : Bool} {oy : Option W} (h1 : bindT t w (wipeE σ own) = some σ') (h2 : evCs C cs σ' st = .ok r s1) (h3 : pick r ((evE C e σ' s1).bind fun v st => liftO ((wOf v).map some) st) (.ok none s1) = .ok oy s2) : lcF C own t cs e σ w st = .ok oy s2 := by
  cases r with
  | false => simp only [lcF, h1, h2, Out.bind, Out.noX]; exact h3
  | true =>
    simp only [lcF, h1, h2, Out.bind, Out.noX]
    cases q : evE C e σ' s1 with
    | ok v st' => rw [q] at h3; exact h3
    | exc c p st' => rw [q] at h3; cases h3
    | bad => rw [q] at h3; cases h3
theorem lcE {w' : W} (h3 : evE C e σ st = .ok x s1) (h4 : wOf x = some w') : ((evE C e σ st).bind fun v st => liftO ((wOf v).map some) st) = .ok (some w') s1 := by simp only [h3, h4, Out.bind, liftO, Option.map]
theorem ec_nil : evCs C [] σ st = .ok true st := by simp only [evCs]
theorem ec_one {r : Bool} (h1 : evE C a σ st = .ok x s1) (h2 : bool? x = some r) : evCs C [a] σ st = .ok r s1 := by
  simp only [evCs, h1, h2, Out.bind]; cases r <;> rfl
theorem ga_items {f : W → Sto → Out (Option W)} {xs ys : List W} {lf : Nat} (h : gath f xs [] st = .ok ys s1) : gathOf lf f (.items xs) st = .ok ys s1 := h
theorem ga_nil {f : W → Sto → Out (Option W)} {acc : List W} : gath f [] acc st = .ok acc st := rfl
def nextG (oy : Option W) (acc : List W) (k : List W → Out (List W)) : Out (List W) := match oy with
  | some y => if acc.length < line then k (acc ++ [y]) else .bad
  | none => k acc
theorem ng_none {acc : List W} {k : List W → Out (List W)} {o : Out (List W)} (h : k acc = o) : nextG none acc k = o := h
theorem ng_some {acc : List W} {y : W} {k : List W → Out (List W)} {o : Out (List W)} (h0 : decide (acc.length < line) = true) (h : k (acc ++ [y]) = o) : nextG (some y) acc k = o := by
  simp only [nextG, if_pos (of_decide_eq_true h0), h]
theorem ga_cons {f : W → Sto → Out (Option W)} {x : W} {oy : Option W} {xs acc ys : List W} (h1 : f x st = .ok oy s1) (h2 : nextG oy acc (fun acc' => gath f xs acc' s1) = .ok ys s2) : gath f (x :: xs) acc st = .ok ys s2 := by
  simp only [gath, h1, Out.bind]; cases oy <;> exact h2
theorem es_nil : evEs C [] σ st = .ok [] st := by simp only [evEs]
theorem es_cons {es : List E} {vs : List Val} (h1 : evE C a σ st = .ok x s1) (h2 : evEs C es σ s1 = .ok vs s2) : evEs C (a :: es) σ st = .ok (x :: vs) s2 := by simp only [evEs, h1, h2, Out.bind]
theorem sr_it {it : Itx} (h1 : evE C a σ st = .ok x s1) (h2 : itOf s1 x = some it) : evSrc C (.it a) σ st = .ok it s1 := by simp only [evSrc, h1, h2, Out.bind, liftO]
theorem sr_rng1 {es : List E} {vs : List Val} {xs : List W} (h1 : evEs C es σ st = .ok vs s1) (h2 : rng1V vs = some xs) : evSrc C (.rng1 es) σ st = .ok (.items xs) s1 := by simp only [evSrc, h1, h2, Out.bind, liftO, Option.map]
theorem sr_rng2 {es : List E} {vs : List Val} {xs : List W} (h1 : evEs C es σ st = .ok vs s1) (h2 : rng2V vs = some xs) : evSrc C (.rng2 es) σ st = .ok (.items xs) s1 := by simp only [evSrc, h1, h2, Out.bind, liftO, Option.map]
theorem sr_enm {es : List E} {vs : List Val} {xs : List W} (h1 : evEs C es σ st = .ok vs s1) (h2 : enmV vs = some xs) : evSrc C (.enm es) σ st = .ok (.items xs) s1 := by simp only [evSrc, h1, h2, Out.bind, liftO, Option.map]
theorem sr_zp {es : List E} {vs : List Val} {xs : List W} (h1 : evEs C es σ st = .ok vs s1) (h2 : zpV vs = some xs) : evSrc C (.zp es) σ st = .ok (.items xs) s1 := by simp only [evSrc, h1, h2, Out.bind, liftO, Option.map]
/-! statements -/
def nextS (fl : Fl) (st : Sto) (k : Env → Out Fl) : Out Fl := match fl with
  | .nx σ => k σ
  | fl => .ok fl st
theorem nx_nx {k : Env → Out Fl} {o : Out Fl} (h : k σ = o) : nextS (.nx σ) st k = o := h
theorem nx_rt {k : Env → Out Fl} : nextS (.rt x) st k = .ok (.rt x) st := rfl
theorem nx_bk {k : Env → Out Fl} : nextS (.bk σ) st k = .ok (.bk σ) st := rfl
theorem nx_ct {k : Env → Out Fl} : nextS (.ct σ) st k = .ok (.ct σ) st := rfl
theorem ss_nil : evSs C [] σ st = .ok (.nx σ) st := by simp only [evSs]
theorem ss_cons {s : S} {r : List S} {fl fl' : Fl} (h1 : evS C s σ st = .ok fl s1) (h2 : nextS fl s1 (fun σ' => evSs C r σ' s1) = .ok fl' s2) : evSs C (s :: r) σ st = .ok fl' s2 := by
  simp only [evSs, h1, Out.bind]; cases fl <;> exact h2
theorem s_asg {i : Nat} (h1 : evE C e σ st = .ok x s1) (h2 : wOf x = some w) : evS C (.asg false i e) σ st = .ok (.nx (σ.set i (some w))) s1 := by
  simp only [evS, h1, Out.bind, h2]
def ownV : Val → Option Cell
  | .fl xs => some (.lst xs)
  | .fd xs => some (.dct xs)
  | _ => none
theorem s_own {i : Nat} {c : Cell} (h1 : evE C e σ st = .ok x s1) (h2 : ownV x = some c) : evS C (.asg true i e) σ st = .ok (.nx (σ.set i (some (.ref s1.length)))) (s1 ++ [c]) := by
  cases x with
  | w w => cases h2
  | fl xs => cases h2; simp only [evS, h1, Out.bind]
  | fd xs => cases h2; simp only [evS, h1, Out.bind]
theorem s_unp {ts : List Tg} (h1 : evE C e σ st = .ok (.w w) s1) (h2 : bindT (.tp ts) w σ = some σ') : evS C (.unp ts e) σ st = .ok (.nx σ') s1 := by simp only [evS, h1, Out.bind, h2, liftO, Option.map]
theorem s_par {i j : Nat} {w' : W} (h1 : evE C a σ st = .ok x s1) (h2 : evE C b σ s1 = .ok y s2) (h3 : wOf x = some w) (h4 : wOf y = some w') : evS C (.par i j a b) σ st = .ok (.nx ((σ.set i (some w)).set j (some w'))) s2 := by simp only [evS, h1, h2, h3, h4, Out.bind]
theorem s_set {o i : E} {ov iv : Val} {s' : Sto} (h1 : evE C e σ st = .ok x s1) (h2 : evE C o σ s1 = .ok ov s2) (h3 : evE C i σ s2 = .ok iv s3) (h4 : wOf x = some w) (h5 : setCell s3 ov iv w = some s') : evS C (.setI o i e) σ st = .ok (.nx σ) s' := by
  simp only [evS, h1, h2, h3, Out.bind, h4, Option.bind, h5]
theorem s_ex (h1 : evE C e σ st = .ok x s1) : evS C (.ex e) σ st = .ok (.nx σ) s1 := by simp only [evS, h1, Out.bind]
theorem s_iff {p q : List S} {r : Bool} {fl : Fl} (h1 : evE C c σ st = .ok x s1) (h2 : bool? x = some r) (h3 : pick r (evSs C p σ s1) (evSs C q σ s1) = .ok fl s2) : evS C (.iff c p q) σ st = .ok fl s2 := by
  simp only [evS, evB, h1, h2, Out.bind, liftO]; cases r <;> exact h3
theorem s_ret (h1 : evE C e σ st = .ok x s1) : evS C (.ret (some e)) σ st = .ok (.rt x) s1 := by simp only [evS, h1, Out.bind]
theorem s_retN : evS C (.ret none) σ st = .ok (.rt vNone) st := by simp only [evS]
theorem s_pss : evS C .pss σ st = .ok (.nx σ) st := by simp only [evS]
theorem s_brk : evS C .brk σ st = .ok (.bk σ) st := by simp only [evS]
theorem s_cnt : evS C .cnt σ st = .ok (.ct σ) st := by simp only [evS]
/-- a loop's turn -/
def frF (C : CE) (t : Tg) (b : List S) : W → Env → Sto → Out Fl := fun x σ st => match bindT t x σ with
  | none => .bad
  | some σ' => evSs C b σ' st
theorem s_fr {t : Tg} {s : Src} {p : List S} {it : Itx} {fl : Fl} (h0 : (s.isW && !t.isTp) = false) (h1 : evSrc C s σ st = .ok it s1) (h2 : forOf C.lf (frF C t p) it σ s1 = .ok fl s2) : evS C (.fr t s p) σ st = .ok fl s2 := by
  simp only [evS, h0, h1, Out.bind_ok, Bool.false_eq_true, if_false]
  show forOf C.lf (frF C t p) it σ s1 = _
  exact h2
theorem fo_items {f : W → Env → Sto → Out Fl} {xs : List W} {lf : Nat} {fl : Fl} (h : forItems f xs σ st = .ok fl s1) : forOf lf f (.items xs) σ st = .ok fl s1 := h
theorem fo_nil {f : W → Env → Sto → Out Fl} : forItems f [] σ st = .ok (.nx σ) st := rfl
def nextF (fl : Fl) (st : Sto) (k : Env → Out Fl) : Out Fl := match fl with
  | .nx σ => k σ
  | .ct σ => k σ
  | .bk σ => .ok (.nx σ) st
  | .rt v => .ok (.rt v) st
theorem nf_nx {k : Env → Out Fl} {o : Out Fl} (h : k σ = o) : nextF (.nx σ) st k = o := h
theorem nf_ct {k : Env → Out Fl} {o : Out Fl} (h : k σ = o) : nextF (.ct σ) st k = o := h
theorem nf_rt {k : Env → Out Fl} : nextF (.rt x) st k = .ok (.rt x) st := rfl
theorem nf_bk {k : Env → Out Fl} : nextF (.bk σ) st k = .ok (.nx σ) st := rfl
theorem fo_cons {f : W → Env → Sto → Out Fl} {x : W} {xs : List W} {fl fl' : Fl} (h1 : f x σ st = .ok fl s1) (h2 : nextF fl s1 (fun σ' => forItems f xs σ' s1) = .ok fl' s2) : forItems f (x :: xs) σ st = .ok fl' s2 := by
  simp only [forItems, h1, Out.bind]; cases fl <;> exact h2
theorem frF_ok {t : Tg} {p : List S} {fl : Fl} (h1 : bindT t w σ = some σ') (h2 : evSs C p σ' st = .ok fl s1) : frF C t p w σ st = .ok fl s1 := by simp only [frF, h1, h2]
/-! calls -/
theorem cl_pure {f : Nat} {ws : List W} {v v' : Val} (h0 : ws.all W.pur = true) (h1 : C.run f ws [] = .ok v s1) (h2 : valBelow 0 s1 v = some v') : callV C f ws st = .ok v' st := by
  simp only [callV, h0, h1, gcAt, List.take_zero, List.all_nil, if_true, h2, onto]
theorem cl_heap {f : Nat} {ws : List W} {v v' : Val} (h0 : ws.all W.pur = false) (h1 : C.run f ws st = .ok v s1) (h2 : (s1.take st.length).all (Cell.below st.length) = true) (h3 : valBelow st.length s1 v = some v') : callV C f ws st = .ok v' (s1.take st.length) := by
  simp only [callV, h0, h1, gcAt, h2, if_true, h3]
theorem run_fn {T : Nat → Option Fn} {lf n i : Nat} {fn : Fn} {ws : List W} {v : Val} (h : T i = some fn) (h0 : fn.pr = none) (h1 : ws.length = fn.np) (h2 : evSs ⟨runAt T lf n, lf⟩ fn.body (entry fn ws) st = .ok (.rt v) s1) : runAt T lf (n + 1) i ws st = .ok v s1 := by
  simp only [runAt, h, h0, runFn, if_pos h1, h2, retOf]
theorem run_pr {T : Nat → Option Fn} {lf n i : Nat} {fn : Fn} {g : (Nat → List W → Sto → Out Val) → List W → Sto → Out Val} {ws : List W} {v : Val} (h : T i = some fn) (h0 : fn.pr = some g) (h1 : ws.length = fn.np) (h2 : g (runAt T lf n) ws st = .ok v s1) : runAt T lf (n + 1) i ws st = .ok v s1 := by
  simp only [runAt, h, h0, if_pos h1, h2]
def celV : Val → Option Cell
  | .fl xs => some (.lst xs)
  | .fd xs => some (.dct xs)
  | _ => none
theorem ev_cel {c : Cell} (h1 : evE C e σ st = .ok x s1) (h2 : celV x = some c) : evE C (.cel e) σ st = .ok (.w (.ref s1.length)) (s1 ++ [c]) := by
  cases x with
  | w w => cases h2
  | fl xs => cases h2; simp only [evE, h1, Out.bind]
  | fd xs => cases h2; simp only [evE, h1, Out.bind]
theorem ev_celW (h1 : evE C e σ st = .ok (.w w) s1) : evE C (.cel e) σ st = .ok (.w w) s1 := by simp only [evE, h1, Out.bind]
end
end MP
set_option maxHeartbeats 2000001
/-! PrS: return f(x.replace(..).replace(..).replace(..)), told by hand: replacing wants a token given out. -/
namespace MP
open PySem PySem.Spec L2 CwR
def zA : Str := "("
def zB : Str := " ( "
def zC : Str := ")"
def zD : Str := " ) "
def zE : Str := ⟨#[10]⟩
def zF : Str := " "
def repl3 (x : Str) : Str := Txt.replace (Txt.replace (Txt.replace x zA zB) zC zD) zE zF
def tokG (iB : Nat) : (Nat → List W → Sto → Out Val) → List W → Sto → Out Val := fun run ws st => match ws with
  | [.d (.str x)] => if x.length ≤ 10000 then callV ⟨run, 0⟩ iB [.d (.str (repl3 x))] st else .bad
  | _ => .bad
/-- the body's shape -/
def tokB : List Stmt → Bool
  | [.Return (some (.Call (.Name b p0) [.Call (.Attribute (.Call (.Attribute (.Call (.Attribute (.Name x p1) r1 a1) [.Constant (.str y1) j1 c1, .Constant (.str z1) k1 d1] [] q1) r2 a2) [.Constant (.str y2) j2 c2, .Constant (.str z2) k2 d2] [] q2) r3 a3) [.Constant (.str y3) j3 c3, .Constant (.str z3) k3 d3] [] q3] [] pos)) rp] =>
    decide (b = "blank_words" ∧ x = "text" ∧ r1 = "replace" ∧ r2 = "replace" ∧ r3 = "replace" ∧ y1 = zA ∧ z1 = zB ∧ y2 = zC ∧ z2 = zD ∧ y3 = zE ∧ z3 = zF) && (a1.endLine == q1.line) && (a2.endLine == q2.line) && (a3.endLine == q3.line)
  | _ => false
section
variable {X : Cx} {CX : CXT} {k : Nat} {f : Addr} {fd : FuncData} {ps : List Str} {sp : Sp} {dvs : List V} {ds : List Value} {E : L2.St → XK} {x : Str} {p pos : Pos} {e : Expr} {es : List Expr} {t : TA}
/-- a call, a token given out -/
theorem call_tok (F : FnOk X.prog X.w X.K X.mg X.base CX k f fd ps sp) (hr : Room k X.A) (hg : Gl X x) (hm : X.mg x = some (.ref f)) (hk : PySem.W.keepIn X.K (.ref f) = true) (hb : Binds X.K fd ps ds) (hd : Vals dvs ds) (hx : ∀ σ, PassesAt CX X σ (E σ))
    (ha : PAT X (e :: es) t) (hdb : (x == ("__debug__" : Str)) = false) (he : starEach (e :: es) X.env = (false, eval e X.env) :: starEach es X.env) (hpl : (backTo pos (starEach es X.env)).any (·.1) = false) :
    PET X (.Call (.Name x p) (e :: es) [] pos) (tCallSD sp dvs E t) := fun pins s σ H Q one I h =>
  wpAny_Call_Name_kw (ld_glob I hg hm (PySem.W.callWith_K (h₀ := X.base) I.ok.mod.kin hk
    (thn (ha pos pins s σ H _ one I h) fun us s1 ⟨vs, H1, I1, r, q⟩ => ⟨I1.kIn, run_fnSD F hr hb hd (hx σ) I1 r q⟩) he hpl) hdb)
end
theorem rep_few {x y z : Str} {a b : Nat} (h : x.length ≤ a) (hz : z.length ≤ b) : (Txt.replace x y z).length ≤ a + (a + 1) * b :=
  Nat.le_trans (TK.replace_len x y z) (Nat.add_le_add h (Nat.mul_le_mul (by omega) hz))
section
variable {P : Program} {w :
      World} {K : PySem.W.Frag} {mg : Str → Option Value} {base : Heap}
theorem tok_fn {e eB : DDef} {fd fB : FuncData} {XR : XRel} {run : Nat → List W → Sto → Out Val} {iB n : Nat} (F : e.Is K fd) (xa : XAnti XR) (hb : tokB e.d.body = true) (hs : C8.scC e.N e.ps e.d.scope = true) (hN : e.N = [("text" : Str)]) (hps : e.ps = [("text" : Str)])
    (hnc : e.d.scope.names.all (fun y => !decide (y.2 = .cell)) = true) (hg : glB e.d.scope "blank_words" = true) (hv : visB e.d.scope "text" = true) (FB : eB.Is K fB) (hm : mg "blank_words" = some (.ref (He.fAd K eB.d.at_))) (hB : eB.ps.length = 1)
    (bi : ∃ dvs ds, Binds K fB eB.ps ds ∧ Vals dvs ds ∧ ∀ L H, DenAll K L H dvs ([] : List D))
    (ok : FnOk P w K mg base (L2.CX P w) (n + 3) (He.fAd K eB.d.at_) fB eB.ps (spR K XR 1 (run iB))) (bad : ∀ ws st, ws.length ≠ 1 → run iB ws st = .bad) :
    FnOk P w K mg base (L2.CX P w) (n + 4) (He.fAd K e.d.at_) fd e.ps (spR K XR e.ps.length (prG e (tokG iB run))) := by
  obtain ⟨oc, od, dV, kV, doc,
        pm, an, cdv, ct, osl, rfl, lk, hcd, _, _⟩ := F.ex
  obtain ⟨dvs, ds, b1, b2, b3⟩ := bi
  have S := C8.fnScope_by hs
  have hd0 : dvs = [] := by
    have := b3 (fun _ => False) (fun _ => none)
    cases this; rfl
  subst hd0
  refine fn_ofT lk hcd S (fun y hy z => ?_) (by rw [hps]; decide) (fun vs H Q E h => h.1) fun A outer s H vs Q E hr hsp => ?_
  · have := List.all_eq_true.mp hnc y hy
    simp [z] at this
  obtain ⟨hl, F0, φ, st, ws, sc, rws, post⟩ := hsp
  -- the argument is a text
  have hl1 : vs.length = 1 := by rw [hl, hps]; rfl
  have hw1 : ws.length = 1 := by rw [← paired_len rws]; exact hl1
  obtain ⟨w0, rfl⟩ : ∃ w0, ws = [w0] := match ws, hw1 with
    | [w0], _ => ⟨w0, rfl⟩
  obtain ⟨v0, rfl⟩ : ∃ v0, vs = [v0] := match vs, hl1 with
    | [v0], _ => ⟨v0, rfl⟩
  unfold prG at post
  rw [if_pos (by rw [hps]; rfl)] at post
  unfold tokG at post
  split at post
  · rename_i x hx
    cases hx
    split at post
    · rename_i hlen
      cases rws with
      | cons r0 _ =>
      obtain rfl : v0 = .str x := Den.str_inv r0
      have tk : Takes (cxOf (L2.CX P w) P w K mg base e.N e.d.qual e.d.scope (He.fAd K e.d.at_) cdv A outer s H E) (fun cls d _ H => E cls d H) := takes_of rfl rfl rfl rfl
      unfold tokB at hb
      split at hb
      · rename_i b p0 x1 p1 r1 a1 y1 j1 c1 z1 k1 d1 q1 r2 a2 y2 j2 c2 z2 k2 d2 q2 r3 a3 y3 j3 c3 z3 k3 d3 q3 pos rp hbody
        simp only [Bool.and_eq_true, decide_eq_true_eq] at hb
        obtain ⟨⟨⟨⟨rfl, rfl, rfl, rfl, rfl, rfl, rfl, rfl, rfl, rfl, rfl⟩, l1⟩, l2⟩, l3⟩ := hb
        rw [hbody]
        have pv := pe_var (X := cxOf (L2.CX P w) P w K mg base e.N e.d.qual e.d.scope (He.fAd K e.d.at_) cdv A outer s H E) (i := 0) (x := "text") (pos := p1) (by show e.N[0]? = _; rw [hN]; rfl) (visB_ok hv)
        have e1 := pet_replC (c0 := c1) (c1 := d1) (j := j1) (k := k1) (apos := a1) (pos := q1) (y := zA) (z := zB) pv (by decide) rfl rfl l1
        have e2 := pet_replT (c0 := c2) (c1 := d2) (j := j2) (k := k2) (apos := a2) (pos := q2) (y := zC) (z := zD) e1 (by decide) rfl rfl l2
        have e3 := pet_replT (c0 := c3) (c1 := d3) (j := j3) (k := k3) (apos := a3) (pos := q3) (y := zE) (z := zF) e2 (by decide) rfl rfl l3
        have hgl : Gl (cxOf (L2.CX P w) P w K mg base e.N e.d.qual e.d.scope (He.fAd K e.d.at_) cdv A outer s H E) "blank_words" := by
          unfold Gl
          show e.d.scope.names.lookup ("blank_words" : Str) = _
          simpa [glB] using hg
        have ec := call_tok (p := p0) (pos := pos) (E := fun σ => WE (fun cls d _ H => E cls d H) σ) ok hr hgl hm FB.kp b1 b2 (fun σ => passAt tk σ) (pat_cons e3 pat_nil rfl) (by decide) rfl rfl
        refine ⟨_, psst_one (pst_ret ec), ?_⟩
        refine ⟨.str x, ?_, x, rfl, ?_, ?_⟩
        · rw [hN]; rfl
        · have : (zB.length) = 3 := rfl
          rw [this]; omega
        have h1 := rep_few (x := x) (y := zA) (z := zB) hlen (show zB.length ≤ 3 by decide)
        refine ⟨_, rfl, ?_, ?_⟩
        · have : (zD.length) = 3 := rfl
          rw [this]; omega
        have h2 := rep_few (x := Txt.replace x zA zB) (y := zC) (z := zD) h1 (show zD.length ≤ 3 by decide)
        refine ⟨_, rfl, ?_, ?_⟩
        · have : (zF.length) = 1 := rfl
          rw [this]; omega
        show spR K XR 1 (run iB) ([.str (repl3 x)] ++ []) H Q _
        exact call_sp (X := cxOf (L2.CX P w) P w K mg base e.N e.d.qual e.d.scope (He.fAd K e.d.at_) cdv A outer s H E) (P := ⟨XR, fun cls d _ H => E cls d H⟩) (C := ⟨run, 0⟩) (ws := [.d (.str (repl3 x))]) (st := st) xa sc (.cons (Den.str _) .nil) bad (fun a h => h) post
      · cases hb
    · exact post.elim
  · exact post.elim
end
end MP
set_option maxHeartbeats 0
namespace K1
open PySem PySem.Spec L2 MP
def top (i : Nat) : Stmt := PySem.Challenge.pw_onetongue_k01_whole_expressions_in_brack.main.body.getD i (.Pass ⟨0, 0, 0, 0⟩)
def xs : List Str := []
def d0 : He.DefD := ⟨("blank_words", none), "blank_words", "blank_words", defArgs (top 2), defBody (top 2), defScope (top 2), [], []⟩
def e0 : DDef := ⟨d0, ["row", "word"], [], none⟩
def b0 : List S := [(.ret (some (.lc [1] (.nm 1) (.it (.mth .split (.mth .replace (.var 0) [(.cst (.str ⟨#[9]⟩)), (.cst (.str ⟨#[32]⟩))]) [(.cst (.str ⟨#[32]⟩))])) [(.cmp .NotEq (.var 1) (.cst (.str ⟨#[]⟩)))] (.var 1))))]
def f0 : Fn := ⟨1, 2, b0, none⟩
def d1 : He.DefD := ⟨("sexpr_tokens", none), "sexpr_tokens", "sexpr_tokens", defArgs (top 3), defBody (top 3), defScope (top 3), [], []⟩
def e1 : DDef := ⟨d1, ["text"], [], some (tokG 0)⟩
def b1 : List S := []
def f1 : Fn := ⟨1, 0, b1, some (tokG 0)⟩
def d2 : He.DefD := ⟨("read_sexpr", none), "read_sexpr", "read_sexpr", defArgs (top 4), defBody (top 4), defScope (top 4), [], []⟩
def e2 : DDef := ⟨d2, ["text", "stack", "token", "done"], ["[]", "stack"], none⟩
def b2 : List S := [(.asg true 1 (.lst false [(.cel (.lst false []))])), (.fr (.nm 2) (.it (.call 1 [(.var 0)] [])) [(.iff (.cmp .Eq (.var 2) (.cst (.str ⟨#[40]⟩))) [(.ex (.mth .append (.var 1) [(.cel (.lst false []))]))] [(.iff (.cmp .NotEq (.var 2) (.cst (.str ⟨#[41]⟩))) [(.ex (.mth .append (.ix (.var 1) (.neg (.cst (.int 1)))) [(.var 2)]))] [(.iff (.cmp .Eq (.blt .len [(.var 1)]) (.cst (.int 1))) [(.ret (some (.cst PyData.none)))] [(.asg false 3 (.blt .tuple [(.mth .pop (.var 1) [])])), (.ex (.mth .append (.ix (.var 1) (.neg (.cst (.int 1)))) [(.var 3)]))])])]), (.iff (.cmp .Gt (.blt .len [(.var 1)]) (.cst (.int 20))) [(.ret (some (.cst PyData.none)))] [])]), (.ret (some (.ife (.an (.cmp .Eq (.blt .len [(.var 1)]) (.cst (.int 1))) (.cmp .Eq (.blt .len [(.ix (.var 1) (.cst (.int 0)))]) (.cst (.int 1)))) (.ix (.ix (.var 1) (.cst (.int 0))) (.cst (.int 0))) (.cst PyData.none))))]
def f2 : Fn := ⟨1, 4, b2, none⟩
def d3 : He.DefD := ⟨("sexpr_text", none), "sexpr_text", "sexpr_text", defArgs (top 5), defBody (top 5), defScope (top 5), [], []⟩
def e3 : DDef := ⟨d3, ["value", "one"], [], none⟩
def b3 : List S := [(.iff (.isi (.var 0) [.str]) [(.ret (some (.var 0)))] []), (.ret (some (.bin .Add (.bin .Add (.cst (.str ⟨#[40]⟩)) (.mth .join (.cst (.str ⟨#[32]⟩)) [(.lc [1] (.nm 1) (.it (.var 0)) [] (.call 3 [(.var 1)] []))])) (.cst (.str ⟨#[41]⟩)))))]
def f3 : Fn := ⟨1, 2, b3, none⟩
def d4 : He.DefD := ⟨("is_sexpr", none), "is_sexpr", "is_sexpr", defArgs (top 6), defBody (top 6), defScope (top 6), [.int 1], []⟩
def e4 : DDef := ⟨d4, ["value", "depth", "one"], [], none⟩
def b4 : List S := [(.iff (.isi (.var 0) [.str]) [(.ret (some (.an (.cmp .NotEq (.var 0) (.cst (.str ⟨#[]⟩))) (.nt (.blt .any [(.lc [2] (.nm 2) (.it (.var 0)) [] (.cmp .In (.var 2) (.cst (.str ⟨#[40, 41, 32, 10, 9]⟩))))])))))] []), (.iff (.orr (.nt (.isi (.var 0) [.tuple])) (.cmp .GtE (.var 1) (.cst (.int 20)))) [(.ret (some (.cst (.bool false))))] []), (.ret (some (.blt .all [(.lc [2] (.nm 2) (.it (.var 0)) [] (.call 4 [(.var 2), (.bin .Add (.var 1) (.cst (.int 1)))] []))])))]
def f4 : Fn := ⟨2, 3, b4, none⟩
def d5 : He.DefD := ⟨("_law_next", none), "_law_next", "_law_next", defArgs (top 8), defBody (top 8), defScope (top 8), [], []⟩
def e5 : DDef := ⟨d5, ["tape", "many", "rest", "cell"], [], none⟩
def b5 : List S := [(.asg false 2 (.ix (.var 0) (.cst (.int 2)))), (.iff (.cmp .Eq (.var 2) (.cst (.int 0))) [(.asg false 3 (.cst (.int 0))), (.iff (.cmp .Lt (.ix (.var 0) (.cst (.int 1))) (.blt .len [(.ix (.var 0) (.cst (.int 0)))])) [(.asg false 3 (.blt .abs [(.blt .int [(.ix (.ix (.var 0) (.cst (.int 0))) (.ix (.var 0) (.cst (.int 1))))])])), (.setI (.var 0) (.cst (.int 1)) (.bin .Add (.ix (.var 0) (.cst (.int 1))) (.cst (.int 1))))] []), (.asg false 2 (.var 3)), (.iff (.cmp .Lt (.var 3) (.bin .Pow (.cst (.int 10)) (.cst (.int 18)))) [(.setI (.var 0) (.cst (.int 3)) (.bin .Mod (.blt .int [(.bin .Add (.bin .Add (.bin .Mult (.ix (.var 0) (.cst (.int 3))) (.cst (.int 69621))) (.bin .Mult (.var 3) (.cst (.int 40692)))) (.cst (.int 17)))]) (.cst (.int 2147483647)))), (.ret (some (.bin .Mod (.bin .Mod (.blt .int [(.bin .Mult (.blt .int [(.bin .FloorDiv (.ix (.var 0) (.cst (.int 3))) (.cst (.int 5)))]) (.cst (.int 48271)))]) (.cst (.int 2147483647))) (.var 1))))] [])] []), (.setI (.var 0) (.cst (.int 2)) (.bin .FloorDiv (.var 2) (.var 1))), (.ret (some (.bin .Mod (.blt .int [(.var 2)]) (.var 1))))]
def f5 : Fn := ⟨2, 4, b5, none⟩
def d6 : He.DefD := ⟨("_law_same", none), "_law_same", "_law_same", defArgs (top 9), defBody (top 9), defScope (top 9), [], []⟩
def e6 : DDef := ⟨d6, ["told", "due", "k"], [], none⟩
def b6 : List S := [(.iff (.cmp .Is (.var 1) (.cst PyData.none)) [(.ret (some (.cmp .Is (.var 0) (.cst PyData.none))))] []), (.iff (.isi (.var 1) [.bool]) [(.ret (some (.an (.isi (.var 0) [.bool]) (.cmp .Eq (.var 0) (.var 1)))))] []), (.iff (.isi (.var 1) [.int]) [(.ret (some (.an (.isi (.var 0) [.int]) (.an (.nt (.isi (.var 0) [.bool])) (.cmp .Eq (.var 0) (.var 1))))))] []), (.iff (.isi (.var 1) [.str]) [(.ret (some (.an (.isi (.var 0) [.str]) (.cmp .Eq (.var 0) (.var 1)))))] []), (.iff (.orr (.an (.isi (.var 1) [.list]) (.nt (.isi (.var 0) [.list]))) (.an (.isi (.var 1) [.tuple]) (.nt (.isi (.var 0) [.tuple])))) [(.ret (some (.cst (.bool false))))] []), (.ret (some (.an (.cmp .Eq (.blt .len [(.var 0)]) (.blt .len [(.var 1)])) (.cmp .Eq (.lc [2] (.nm 2) (.rng1 [(.blt .len [(.var 1)])]) [(.nt (.call 6 [(.ix (.var 0) (.var 2)), (.ix (.var 1) (.var 2))] []))] (.cst (.int 1))) (.lst false [])))))]
def f6 : Fn := ⟨2, 3, b6, none⟩
def d7 : He.DefD := ⟨("_law_drawn", none), "_law_drawn", "_law_drawn", defArgs (top 10), defBody (top 10), defScope (top 10), [], []⟩
def e7 : DDef := ⟨d7, ["tape", "deep", "k"], [], none⟩
def b7 : List S := [(.iff (.orr (.cmp .Eq (.var 1) (.cst (.int 0))) (.cmp .Eq (.call 5 [(.var 0), (.cst (.int 3))] []) (.cst (.int 0)))) [(.ret (some (.ix (.tup [(.cst (.str ⟨#[97]⟩)), (.cst (.str ⟨#[98, 57]⟩)), (.cst (.str ⟨#[61, 120]⟩)), (.cst (.str ⟨#[36, 115]⟩)), (.cst (.str ⟨#[49, 50]⟩)), (.cst (.str ⟨#[58, 61]⟩)), (.cst (.str ⟨#[35]⟩))]) (.call 5 [(.var 0), (.cst (.int 7))] []))))] []), (.ret (some (.blt .tuple [(.lc [2] (.nm 2) (.rng1 [(.call 5 [(.var 0), (.cst (.int 4))] [])]) [] (.call 7 [(.var 0), (.bin .Sub (.var 1) (.cst (.int 1)))] []))])))]
def f7 : Fn := ⟨2, 3, b7, none⟩
def d8 : He.DefD := ⟨("_law_text", none), "_law_text", "_law_text", defArgs (top 11), defBody (top 11), defScope (top 11), [], []⟩
def e8 : DDef := ⟨d8, ["value", "one"], [], none⟩
def b8 : List S := [(.ret (some (.ife (.isi (.var 0) [.str]) (.var 0) (.bin .Add (.bin .Add (.cst (.str ⟨#[40]⟩)) (.mth .join (.cst (.str ⟨#[32]⟩)) [(.lc [1] (.nm 1) (.it (.var 0)) [] (.call 8 [(.var 1)] []))])) (.cst (.str ⟨#[41]⟩))))))]
def f8 : Fn := ⟨1, 2, b8, none⟩
def d9 : He.DefD := ⟨("_law_tokens", none), "_law_tokens", "_law_tokens", defArgs (top 12), defBody (top 12), defScope (top 12), [], []⟩
def e9 : DDef := ⟨d9, ["text", "found", "word", "sign"], ["found"], none⟩
def b9 : List S := [(.par 1 2 (.cel (.lst false [])) (.cst (.str ⟨#[]⟩))), (.fr (.nm 3) (.it (.bin .Add (.var 0) (.cst (.str ⟨#[32]⟩)))) [(.iff (.cmp .In (.var 3) (.cst (.str ⟨#[40, 41, 32, 10]⟩))) [(.par 1 2 (.cel (.bin .Add (.var 1) (.ife (.cmp .NotEq (.var 2) (.cst (.str ⟨#[]⟩))) (.lst false [(.var 2)]) (.lst false [])))) (.cst (.str ⟨#[]⟩)))] [(.asg false 2 (.bin .Add (.var 2) (.var 3)))]), (.iff (.cmp .In (.var 3) (.cst (.str ⟨#[40, 41]⟩))) [(.ex (.mth .append (.var 1) [(.var 3)]))] [])]), (.ret (some (.var 1)))]
def f9 : Fn := ⟨1, 4, b9, none⟩
def d10 : He.DefD := ⟨("_law_read", none), "_law_read", "_law_read", defArgs (top 13), defBody (top 13), defScope (top 13), [], []⟩
def e10 : DDef := ⟨d10, ["tokens", "at", "deep", "found", "one"], ["found"], none⟩
def b10 : List S := [(.iff (.orr (.cmp .GtE (.var 1) (.blt .len [(.var 0)])) (.orr (.cmp .Eq (.ix (.var 0) (.var 1)) (.cst (.str ⟨#[41]⟩))) (.cmp .Gt (.var 2) (.cst (.int 20))))) [(.ret (some (.tup [(.cst PyData.none), (.var 1)])))] []), (.iff (.cmp .NotEq (.ix (.var 0) (.var 1)) (.cst (.str ⟨#[40]⟩))) [(.ret (some (.tup [(.ix (.var 0) (.var 1)), (.bin .Add (.var 1) (.cst (.int 1)))])))] []), (.par 3 1 (.cel (.lst false [])) (.bin .Add (.var 1) (.cst (.int 1)))), (.wh (.an (.cmp .Lt (.var 1) (.blt .len [(.var 0)])) (.cmp .NotEq (.ix (.var 0) (.var 1)) (.cst (.str ⟨#[41]⟩)))) [(.unp [(.nm 4), (.nm 1)] (.call 10 [(.var 0), (.var 1), (.bin .Add (.var 2) (.cst (.int 1)))] [])), (.iff (.cmp .Is (.var 4) (.cst PyData.none)) [(.ret (some (.tup [(.cst PyData.none), (.var 1)])))] []), (.ex (.mth .append (.var 3) [(.var 4)]))]), (.ret (some (.ife (.cmp .Lt (.var 1) (.blt .len [(.var 0)])) (.tup [(.blt .tuple [(.var 3)]), (.bin .Add (.var 1) (.cst (.int 1)))]) (.tup [(.cst PyData.none), (.var 1)]))))]
def f10 : Fn := ⟨3, 5, b10, none⟩
def d11 : He.DefD := ⟨("_law_whole", none), "_law_whole", "_law_whole", defArgs (top 14), defBody (top 14), defScope (top 14), [], []⟩
def e11 : DDef := ⟨d11, ["text", "tokens", "value", "at"], [], none⟩
def b11 : List S := [(.asg false 1 (.call 9 [(.var 0)] [])), (.unp [(.nm 2), (.nm 3)] (.call 10 [(.var 1), (.cst (.int 0)), (.cst (.int 1))] [])), (.ret (some (.ife (.cmp .Eq (.var 3) (.blt .len [(.var 1)])) (.var 2) (.cst PyData.none))))]
def f11 : Fn := ⟨1, 4, b11, none⟩
def d12 : He.DefD := ⟨("_law_deep", none), "_law_deep", "_law_deep", defArgs (top 15), defBody (top 15), defScope (top 15), [], []⟩
def e12 : DDef := ⟨d12, ["value", "one"], [], none⟩
def b12 : List S := [(.ret (some (.ife (.isi (.var 0) [.str]) (.cst (.int 1)) (.bin .Add (.cst (.int 1)) (.blt .max [(.bin .Add (.lst false [(.cst (.int 0))]) (.lc [1] (.nm 1) (.it (.var 0)) [] (.call 12 [(.var 1)] [])))])))))]
def f12 : Fn := ⟨1, 2, b12, none⟩
def d13 : He.DefD := ⟨("law", none), "law", "law", defArgs (top 16), defBody (top 16), defScope (top 16), [], []⟩
def e13 : DDef := ⟨d13, ["script", "tape", "value", "text", "loose", "one", "turn", "at", "sign", "bent", "deep", "many", "k", "odd"], ["tape"], none⟩
def b13 : List S := [(.asg true 1 (.lst false [(.blt .list [(.var 0)]), (.cst (.int 0)), (.cst (.int 0)), (.cst (.int 1))])), (.asg false 2 (.call 7 [(.var 1), (.cst (.int 4))] [])), (.asg false 3 (.call 8 [(.var 2)] [])), (.asg false 4 (.mth .join (.cst (.str ⟨#[]⟩)) [(.lc [5] (.nm 5) (.it (.var 3)) [] (.ife (.cmp .In (.var 5) (.cst (.str ⟨#[40, 41, 32]⟩))) (.ix (.tup [(.var 5), (.bin .Add (.var 5) (.cst (.str ⟨#[32]⟩))), (.bin .Add (.bin .Add (.cst (.str ⟨#[10]⟩)) (.var 5)) (.cst (.str ⟨#[32, 32]⟩)))]) (.call 5 [(.var 1), (.cst (.int 3))] [])) (.var 5)))])), (.iff (.nt (.call 6 [(.lst false [(.call 3 [(.var 2)] []), (.call 2 [(.var 3)] []), (.call 2 [(.var 4)] []), (.call 1 [(.var 4)] []), (.call 4 [(.var 2)] [(.int 1)])]), (.lst false [(.var 3), (.var 2), (.var 2), (.call 9 [(.var 4)] []), (.cst (.bool true))])] [])) [(.ret (some (.cst (.bool false))))] []), (.fr (.nm 6) (.rng1 [(.cst (.int 4))]) [(.par 7 8 (.call 5 [(.var 1), (.bin .Add (.blt .len [(.var 3)]) (.cst (.int 1)))] []) (.ix (.cst (.str ⟨#[40, 41, 32, 97]⟩)) (.call 5 [(.var 1), (.cst (.int 4))] []))), (.asg false 9 (.ix (.tup [(.bin .Add (.sl (.var 3) none (some (.var 7))) (.sl (.var 3) (some (.bin .Add (.var 7) (.cst (.int 1)))) none)), (.bin .Add (.bin .Add (.sl (.var 3) none (some (.var 7))) (.var 8)) (.sl (.var 3) (some (.var 7)) none)), (.sl (.var 3) none (some (.var 7)))]) (.call 5 [(.var 1), (.cst (.int 3))] []))), (.iff (.nt (.call 6 [(.call 2 [(.var 9)] []), (.call 11 [(.var 9)] [])] [])) [(.ret (some (.cst (.bool false))))] [])]), (.par 10 11 (.cst (.str ⟨#[97]⟩)) (.bin .Add (.cst (.int 15)) (.call 5 [(.var 1), (.cst (.int 8))] []))), (.fr (.nm 12) (.rng1 [(.var 11)]) [(.asg false 10 (.tup [(.var 10)]))]), (.iff (.orr (.nt (.call 6 [(.lst false [(.call 4 [(.var 10)] [(.int 1)]), (.call 2 [(.call 8 [(.var 10)] [])] [])]), (.lst false [(.cmp .LtE (.var 11) (.cst (.int 19))), (.ife (.cmp .LtE (.var 11) (.cst (.int 19))) (.var 10) (.cst PyData.none))])] [])) (.cmp .NotEq (.call 12 [(.var 10)] []) (.bin .Add (.var 11) (.cst (.int 1))))) [(.ret (some (.cst (.bool false))))] []), (.asg false 13 (.lst false [(.cst (.str ⟨#[]⟩)), (.cst (.str ⟨#[97, 32, 98]⟩)), (.cst (.str ⟨#[40]⟩)), (.lst false [(.cst (.str ⟨#[97]⟩))]), (.tup [(.cst (.str ⟨#[97]⟩)), (.cst PyData.none)]), (.cst (.int 1)), (.cst PyData.none), (.tup [(.cst (.str ⟨#[97]⟩)), (.cst (.str ⟨#[]⟩))]), (.tup [(.cst (.str ⟨#[97, 10]⟩))])])), (.ret (some (.call 6 [(.lst false [(.lc [5] (.nm 5) (.it (.var 13)) [] (.call 4 [(.var 5)] [(.int 1)])), (.lc [5] (.nm 5) (.it (.tup [(.cst (.str ⟨#[]⟩)), (.cst (.str ⟨#[41]⟩)), (.cst (.str ⟨#[97, 32, 98]⟩)), (.cst (.str ⟨#[40, 41, 32, 40, 41]⟩))])) [] (.call 2 [(.var 5)] [])), (.cst (.int 20))]), (.lst false [(.bin .Mult (.lst false [(.cst (.bool false))]) (.cst (.int 9))), (.bin .Mult (.lst false [(.cst PyData.none)]) (.cst (.int 4))), (.cst (.int 20))])] [])))]
def f13 : Fn := ⟨1, 14, b13, none⟩
def es : List DDef := [e0, e1, e2, e3, e4, e5, e6, e7, e8, e9, e10, e11, e12, e13]
def Fs : List Fn := [f0, f1, f2, f3, f4, f5, f6, f7, f8, f9, f10, f11, f12, f13]
def fns : List (Str × Nat × Nat × List D) := [("blank_words", 0, 1, []), ("sexpr_tokens", 1, 1, []), ("read_sexpr", 2, 1, []), ("sexpr_text", 3, 1, []), ("is_sexpr", 4, 1, [(.int 1)]), ("is_sexpr", 4, 2, []), ("_law_next", 5, 2, []), ("_law_same", 6, 2, []), ("_law_drawn", 7, 2, []), ("_law_text", 8, 1, []), ("_law_tokens", 9, 1, []), ("_law_read", 10, 3, []), ("_law_whole", 11, 1, []), ("_law_deep", 12, 1, [])]
def gls : List (Str × D) := [("MOST_DEPTH_TEXT", (.int 20))]
theorem comp_ok : mapO (DDef.fn fns gls xs) es = some Fs := by kernel_rfl
def fileP : Str := PySem.Challenge.pw_onetongue_k01_whole_expressions_in_brack.main.file
abbrev hk : PySem.W.Hook := MX.hookE 4 (faOf es gls) (es.map (·.d)) (exB fileP xs)
def ob (s : PySem.W.SharedT) : MX.AlE := MX.obsE 4 (faOf es gls) (es.map (·.d)) (exB fileP xs) (HandSHeadRun.getT s)
theorem ob_eq (s : PySem.W.SharedT) : ob s = hk.obs s.abs := MX.obsE_eq (HandSHeadRun.getT_eq s)
abbrev R : PySem.W.OpenRow := PySem.W.OpenLaw.row PySem.Challenge.rw_onetongue_k01_whole_expressions_in_brack
theorem run (w : World) : HandSHeadRun.RunEq R (PySem.W.view R.prog [16]) hk ob 20000 ["MOST_DEPTH_TEXT", "blank_words", "sexpr_tokens", "read_sexpr", "sexpr_text", "is_sexpr", "_law_next", "_law_same", "_law_drawn", "_law_text", "_law_tokens", "_law_read", "_law_whole", "_law_deep"] w := by
  intro os
  kernel_rfl
section
variable {K : PySem.W.Frag} {fd : FuncData}
theorem c0_1 (F : e0.Is K fd) : ∃ dvs ds, Binds K fd e0.ps ds ∧ Vals dvs ds ∧ ∀ L H, DenAll K L H dvs ([] : List D) :=
  ⟨[], [], FunD.bindsN (ps := ["row"]) F fun _ _ _ _ _ _ us hl => match us, hl with | [_], _ => rfl, .nil, fun _ _ => .nil⟩
theorem c1_1 (F : e1.Is K fd) : ∃ dvs ds, Binds K fd e1.ps ds ∧ Vals dvs ds ∧ ∀ L H, DenAll K L H dvs ([] : List D) :=
  ⟨[], [], FunD.bindsN (ps := ["text"]) F fun _ _ _ _ _ _ us hl => match us, hl with | [_], _ => rfl, .nil, fun _ _ => .nil⟩
theorem c2_1 (F : e2.Is K fd) : ∃ dvs ds, Binds K fd e2.ps ds ∧ Vals dvs ds ∧ ∀ L H, DenAll K L H dvs ([] : List D) :=
  ⟨[], [], FunD.bindsN (ps := ["text"]) F fun _ _ _ _ _ _ us hl => match us, hl with | [_], _ => rfl, .nil, fun _ _ => .nil⟩
theorem c3_1 (F : e3.Is K fd) : ∃ dvs ds, Binds K fd e3.ps ds ∧ Vals dvs ds ∧ ∀ L H, DenAll K L H dvs ([] : List D) :=
  ⟨[], [], FunD.bindsN (ps := ["value"]) F fun _ _ _ _ _ _ us hl => match us, hl with | [_], _ => rfl, .nil, fun _ _ => .nil⟩
theorem c4_1 (F : e4.Is K fd) : ∃ dvs ds, Binds K fd e4.ps ds ∧ Vals dvs ds ∧ ∀ L H, DenAll K L H dvs ([(.int 1)] : List D) := by
  obtain ⟨ds, h1, h2⟩ := FunD.binds1 (ps := ["value", "depth"]) F 1 0 (by intro z; cases z) rfl fun T kV doc pm an cdv ct us its hl hl2 => match us, its, hl, hl2 with | [_], [_], _, _ => ⟨_, rfl, rfl⟩
  exact ⟨_, ds, h2, h1, fun _ _ => .cons (.int _) (.nil)⟩
theorem c4_2 (F : e4.Is K fd) : ∃ dvs ds, Binds K fd e4.ps ds ∧ Vals dvs ds ∧ ∀ L H, DenAll K L H dvs ([] : List D) := by
  obtain ⟨ds, h1, h2⟩ := FunD.binds1 (ps := ["value", "depth"]) F 2 1 (by intro z; cases z) rfl fun T kV doc pm an cdv ct us its hl hl2 => match us, its, hl, hl2 with | [_, _], [_], _, _ => ⟨_, rfl, rfl⟩
  exact ⟨_, ds, h2, h1, fun _ _ => .nil⟩
theorem c5_2 (F : e5.Is K fd) : ∃ dvs ds, Binds K fd e5.ps ds ∧ Vals dvs ds ∧ ∀ L H, DenAll K L H dvs ([] : List D) :=
  ⟨[], [], FunD.bindsN (ps := ["tape", "many"]) F fun _ _ _ _ _ _ us hl => match us, hl with | [_, _], _ => rfl, .nil, fun _ _ => .nil⟩
theorem c6_2 (F : e6.Is K fd) : ∃ dvs ds, Binds K fd e6.ps ds ∧ Vals dvs ds ∧ ∀ L H, DenAll K L H dvs ([] : List D) :=
  ⟨[], [], FunD.bindsN (ps := ["told", "due"]) F fun _ _ _ _ _ _ us hl => match us, hl with | [_, _], _ => rfl, .nil, fun _ _ => .nil⟩
theorem c7_2 (F : e7.Is K fd) : ∃ dvs ds, Binds K fd e7.ps ds ∧ Vals dvs ds ∧ ∀ L H, DenAll K L H dvs ([] : List D) :=
  ⟨[], [], FunD.bindsN (ps := ["tape", "deep"]) F fun _ _ _ _ _ _ us hl => match us, hl with | [_, _], _ => rfl, .nil, fun _ _ => .nil⟩
theorem c8_1 (F : e8.Is K fd) : ∃ dvs ds, Binds K fd e8.ps ds ∧ Vals dvs ds ∧ ∀ L H, DenAll K L H dvs ([] : List D) :=
  ⟨[], [], FunD.bindsN (ps := ["value"]) F fun _ _ _ _ _ _ us hl => match us, hl with | [_], _ => rfl, .nil, fun _ _ => .nil⟩
theorem c9_1 (F : e9.Is K fd) : ∃ dvs ds, Binds K fd e9.ps ds ∧ Vals dvs ds ∧ ∀ L H, DenAll K L H dvs ([] : List D) :=
  ⟨[], [], FunD.bindsN (ps := ["text"]) F fun _ _ _ _ _ _ us hl => match us, hl with | [_], _ => rfl, .nil, fun _ _ => .nil⟩
theorem c10_3 (F : e10.Is K fd) : ∃ dvs ds, Binds K fd e10.ps ds ∧ Vals dvs ds ∧ ∀ L H, DenAll K L H dvs ([] : List D) :=
  ⟨[], [], FunD.bindsN (ps := ["tokens", "at", "deep"]) F fun _ _ _ _ _ _ us hl => match us, hl with | [_, _, _], _ => rfl, .nil, fun _ _ => .nil⟩
theorem c11_1 (F : e11.Is K fd) : ∃ dvs ds, Binds K fd e11.ps ds ∧ Vals dvs ds ∧ ∀ L H, DenAll K L H dvs ([] : List D) :=
  ⟨[], [], FunD.bindsN (ps := ["text"]) F fun _ _ _ _ _ _ us hl => match us, hl with | [_], _ => rfl, .nil, fun _ _ => .nil⟩
theorem c12_1 (F : e12.Is K fd) : ∃ dvs ds, Binds K fd e12.ps ds ∧ Vals dvs ds ∧ ∀ L H, DenAll K L H dvs ([] : List D) :=
  ⟨[], [], FunD.bindsN (ps := ["value"]) F fun _ _ _ _ _ _ us hl => match us, hl with | [_], _ => rfl, .nil, fun _ _ => .nil⟩
theorem law_b (F : e13.Is K fd) (s : Shared) (u : Value) : BindsTo s fd ⟨[u], []⟩ [("script", u)] :=
  FunD.bindsA (ps := ["script"]) F (fun _ _ _ _ _ _ us hl => match us, hl with | [_], _ => rfl) s [u] rfl
theorem cl : ∀ x i m dfl, (x, i, m, dfl) ∈ fns → ∃ e, es[i]? = some e ∧ e.d.at_ = (x, none) ∧ ∀ fd, e.Is K fd → ∃ dvs ds, Binds K fd e.ps ds ∧ Vals dvs ds ∧ ∀ L H, DenAll K L H dvs dfl := by
  intro x i m dfl h
  simp only [fns, List.mem_cons, List.not_mem_nil, or_false, Prod.mk.injEq] at h
  rcases h with ⟨rfl, rfl, rfl, rfl⟩ | ⟨rfl, rfl, rfl, rfl⟩ | ⟨rfl, rfl, rfl, rfl⟩ | ⟨rfl, rfl, rfl, rfl⟩ | ⟨rfl, rfl, rfl, rfl⟩ | ⟨rfl, rfl, rfl, rfl⟩ | ⟨rfl, rfl, rfl, rfl⟩ | ⟨rfl, rfl, rfl, rfl⟩ | ⟨rfl, rfl, rfl, rfl⟩ | ⟨rfl, rfl, rfl, rfl⟩ | ⟨rfl, rfl, rfl, rfl⟩ | ⟨rfl, rfl, rfl, rfl⟩ | ⟨rfl, rfl, rfl, rfl⟩ | ⟨rfl, rfl, rfl, rfl⟩
  · exact ⟨e0, rfl, rfl, fun fd F => c0_1 F⟩
  · exact ⟨e1, rfl, rfl, fun fd F => c1_1 F⟩
  · exact ⟨e2, rfl, rfl, fun fd F => c2_1 F⟩
  · exact ⟨e3, rfl, rfl, fun fd F => c3_1 F⟩
  · exact ⟨e4, rfl, rfl, fun fd F => c4_1 F⟩
  · exact ⟨e4, rfl, rfl, fun fd F => c4_2 F⟩
  · exact ⟨e5, rfl, rfl, fun fd F => c5_2 F⟩
  · exact ⟨e6, rfl, rfl, fun fd F => c6_2 F⟩
  · exact ⟨e7, rfl, rfl, fun fd F => c7_2 F⟩
  · exact ⟨e8, rfl, rfl, fun fd F => c8_1 F⟩
  · exact ⟨e9, rfl, rfl, fun fd F => c9_1 F⟩
  · exact ⟨e10, rfl, rfl, fun fd F => c10_3 F⟩
  · exact ⟨e11, rfl, rfl, fun fd F => c11_1 F⟩
  · exact ⟨e12, rfl, rfl, fun fd F => c12_1 F⟩
end
theorem e1_tok : tokB e1.d.body = true := by kernel_rfl
theorem e1_sc : C8.scC e1.N e1.ps e1.d.scope = true := by kernel_rfl
theorem e1_nc : e1.d.scope.names.all (fun y => !decide (y.2 = .cell)) = true := by kernel_rfl
theorem e1_gl : glB e1.d.scope "blank_words" = true := by kernel_rfl
theorem e1_vi : visB e1.d.scope "text" = true := by kernel_rfl
theorem e1_ps : e1.ps = [("text" : Str)] := by kernel_rfl
theorem e0_ps : e0.ps.length = 1 := by kernel_rfl
theorem pr_is : ∀ (i : Nat) (e : DDef) (g : (Nat → List W → Sto → Out Val) → List W → Sto → Out Val), es[i]? = some e → e.pr = some g → e = e1 ∧ g = tokG 0 := by
  intro i e g hi hg
  have hm :=
        List.mem_of_getElem? hi
  simp only [es, List.mem_cons, List.not_mem_nil, or_false] at hm
  rcases hm with rfl | rfl | rfl | rfl | rfl | rfl | rfl | rfl | rfl | rfl | rfl | rfl | rfl | rfl
  all_goals first | (cases hg; exact ⟨rfl, rfl⟩) | (cases hg; done)
theorem PK {P : Program} {w : World} : PrOk P w es fns := by
  intro K mg bl gl is fn base KB XR i e g hi hg fd n run F xa rec
  obtain ⟨rfl, rfl⟩ := pr_is i e g hi hg
  obtain ⟨eB, hB, hm, bi⟩ := fn "blank_words" 0 1 [] (by simp [fns])
  cases hB
  obtain ⟨fB, FB⟩ := is e0 (List.mem_of_getElem? (i := 0) rfl)
  obtain ⟨ok, bad⟩ := rec 0 e0 fB rfl FB
  rw [e0_ps] at ok bad
  exact tok_fn F xa e1_tok e1_sc rfl e1_ps e1_nc e1_gl e1_vi FB hm e0_ps (bi fB FB) ok bad
/-- the law, from its run -/
theorem whole (hrun : ∀ ns : List Int, ns.length ≤ 63 → (∀ z ∈ ns, Builtin.Int.intBits z ≤ 1048576) → ∃ st, runAt (fun i => Fs[i]?) 10000 100 13 [.fz (ns.map PyData.int)] [] = .ok (vBool true) st) : PySem.Challenge.rw_onetongue_k01_whole_expressions_in_brack.Holds := by
  w_on; o_law
  refine HandSHeadRun.head_any (r := PySem.W.OpenLaw.row PySem.Challenge.rw_onetongue_k01_whole_expressions_in_brack) (q := PySem.W.view (PySem.W.OpenLaw.row PySem.Challenge.rw_onetongue_k01_whole_expressions_in_brack).prog [16]) (H := hk) (ob := ob) (M := 20000) (loose := ["MOST_DEPTH_TEXT", "blank_words", "sexpr_tokens", "read_sexpr", "sexpr_text", "is_sexpr", "_law_next", "_law_same", "_law_drawn", "_law_text", "_law_tokens", "_law_read", "_law_whole", "_law_deep"]) (d := HandSHeadRun.topDef (PySem.W.OpenLaw.row PySem.Challenge.rw_onetongue_k01_whole_expressions_in_brack).prog 16) (kwd := []) ob_eq
    (by kernel_rfl) (fun s => by kernel_rfl) run (by kernel_rfl) (by kernel_rfl) (by kernel_rfl) (by rfl) (by first | assumption | decide +kernel) (by decide +kernel) ⟨rfl, rfl, rfl, rfl, rfl, by decide +kernel⟩ ?hw ?hc
  case hw => w_witness2
  case hc =>
    refine law_end (l := PySem.Challenge.rw_onetongue_k01_whole_expressions_in_brack) (k := 100) (lf := 10000) (iL := 13) (es := es) (Fs := Fs) (fns := fns) (gls := gls) (xs := xs) (eL := e13) rfl (by kernel_rfl) ⟨rfl, by decide, by decide⟩ rfl (by kernel_rfl) ?Y hrun
    intro w mg fa h Y G hmg0
    obtain ⟨K, KX, c, cx⟩ := Y
    have hmg : mg ("law" : Str) = some (.ref fa) := by
      have e : (HandSHeadRun.topDef (PySem.W.OpenLaw.row PySem.Challenge.rw_onetongue_k01_whole_expressions_in_brack).prog 16).name = ("law" : Str) := by kernel_rfl
      rw [← e]; exact hmg0
    have h2 := fa_glo (x := "law") c KX G (e := e13) (List.mem_of_getElem? (i := 13) rfl) rfl
    exact ⟨K, KX, top_mk PK c cx (fun _ => by kernel_rfl) KX G comp_ok rfl cl, Value.ref.inj (Option.some.inj (hmg.symm.trans h2)), fun fd F => law_b F⟩
end K1
set_option maxHeartbeats 4000001
namespace K1
open PySem MP
abbrev T : Nat → Option Fn := fun i => Fs[i]?
abbrev lfN : Nat := 10000
abbrev Rn (n : Nat) := runAt T lfN n
abbrev CN (n : Nat) : CE := ⟨Rn n, lfN⟩
/-- a text of these signs -/
abbrev S (a : List Nat) : Str := ⟨a.toArray⟩
def atomL (k : Nat) : List Nat := ([[97], [98, 57], [61, 120], [36, 115], [49, 50], [58, 61], [35]] : List (List Nat)).getD k [97]
mutual
inductive Sx where
  | at (k : Nat)
  | nd (xs : Sxs)
inductive Sxs where
  | nil
  | cons (x : Sx) (r : Sxs)
end
mutual
def Sx.d : Sx → D
  | .at k => .str (S (atomL k))
  | .nd xs => .tuple xs.ds
def Sxs.ds : Sxs → List D
  | .nil => []
  | .cons x r => x.d :: r.ds
end
mutual
def Sx.dep : Sx → Nat
  | .at _ => 0
  | .nd xs => xs.deps + 1
def Sxs.deps : Sxs → Nat
  | .nil => 0
  | .cons x r => max x.dep r.deps
end
mutual
/-- its text -/
def Sx.tx : Sx → List Nat
  | .at k => atomL k
  | .nd xs => 40 :: (xs.txs ++ [41])
def Sxs.txs : Sxs → List Nat
  | .nil => []
  | .cons x .nil => x.tx
  | .cons x (.cons y r) => x.tx ++ 32 :: (Sxs.cons y r).txs
end
mutual
/-- how many nodes at most -/
def Sx.ok : Sx → Prop
  | .at k => k < 7
  | .nd xs => xs.oks ∧ xs.ds.length ≤ 3
def Sxs.oks : Sxs → Prop
  | .nil => True
  | .cons x r => x.ok ∧ r.oks
end
end K1
set_option maxHeartbeats 4000001
namespace K1
open PySem MP
local macro_rules | `(tactic| decreasing_trivial_pre_omega) => `(tactic| first
  | simp only [List.map_nil, List.append_nil, List.nil_append, List.cons_append, List.map_cons, List.set_cons_zero, List.set_cons_succ, List.length_nil]
  | with_reducible exact ev_cst | with_reducible apply ev_cel | with_reducible apply ev_var | with_reducible apply ev_bin | with_reducible apply ev_cmp | with_reducible apply ev_ix | with_reducible apply ev_nt | with_reducible apply ev_an | with_reducible apply ev_orr
  | with_reducible apply ev_ife | with_reducible apply ev_cmp2 | with_reducible apply ev_cmp2b | with_reducible apply ev_tup | with_reducible apply ev_lst | with_reducible exact ev_dis | with_reducible apply ev_neg | with_reducible apply ev_sl
  | with_reducible exact eo_none | with_reducible apply eo_some | with_reducible apply ev_call | with_reducible apply ev_blt | with_reducible apply ev_mth | with_reducible apply ev_isi | with_reducible apply ev_lc
  | with_reducible exact ec_nil | with_reducible apply ec_one | with_reducible exact es_nil | with_reducible apply es_cons | with_reducible apply sr_it | with_reducible apply sr_rng1 | with_reducible apply sr_rng2 | with_reducible apply sr_enm | with_reducible apply sr_zp
  | with_reducible apply pick_t | with_reducible apply pick_f | refine pick_tE (by rfl) ?_ | refine pick_fE (by rfl) ?_ | with_reducible apply nx_nx | with_reducible exact nx_rt | with_reducible exact nx_bk | with_reducible exact nx_ct | with_reducible exact ss_nil | with_reducible apply ss_cons | with_reducible apply s_asg | with_reducible apply s_own
  | with_reducible apply s_unp | with_reducible apply s_par | with_reducible apply s_set | with_reducible apply s_ex | with_reducible apply s_iff | with_reducible apply s_ret | with_reducible exact s_retN | with_reducible exact s_pss | with_reducible exact s_brk | with_reducible exact s_cnt
  | with_reducible apply s_fr | with_reducible apply fo_items | with_reducible exact fo_nil | with_reducible apply fo_cons | with_reducible apply frF_ok | with_reducible apply nf_nx | with_reducible apply nf_ct | with_reducible exact nf_rt | with_reducible exact nf_bk
  | with_reducible apply ga_items | with_reducible exact ga_nil | with_reducible apply ng_none | with_reducible apply ng_some | with_reducible apply lcF_ok | with_reducible apply lcE | with_reducible apply ga_cons)
def TP (ds : List D) (p : Nat) (q s : Int) : Sto := [.lst [.d (.list ds), .d (.int p), .d (.int q), .d (.int s)]]
theorem eq0 (st : Sto) (q : Int) : cmpV .Eq st (vInt q) (vInt 0) = some (decide (q = 0)) := by
  show some (PyData.eqv (.int q) (.int 0)) = _
  simp only [PyData.eqv]
  by_cases h : q = 0
  · subst h; rfl
  · simp [h]
theorem lt_int (st : Sto) (i j : Int) : cmpV .Lt st (vInt i) (vInt j) = some (decide (i < j)) := rfl
theorem len_list (st : Sto) (ds : List D) : bltV .len st [.w (.d (.list ds))] = some (vInt ds.length) := by
  show ((some (ds.map W.d)).map List.length).map (fun n : Nat => vInt n) = _
  simp
theorem ix_list (st : Sto) (ds : List D) (p : Nat) (z : D) (h : ds[p]? = some z) : ixV st (.w (.d (.list ds))) (vInt p) = some (.w (.d z)) := by
  have hl := (List.getElem?_eq_some_iff.mp h).1
  have e : L2.atI (ds.map W.d) (p : Int) = some (.d z) := L2.atI_nat (j := p) (by rw [List.getElem?_map, h]; rfl)
  show (L2.atI (ds.map W.d) (p : Int)).map Val.w = _
  rw [e]; rfl
theorem mul_c (st : Sto) (i c : Int) (h : -(2 ^ 64) < c ∧ c < 2 ^ 64) : binV .Mult st (vInt i) (vInt c) = some (vInt (i * c)) := by
  show (if mulOk i c = true then some (vInt (i * c)) else none) = _
  rw [if_pos (by unfold mulOk; exact decide_eq_true (.inr h))]
theorem mod_c (st : Sto) (i c : Int) (h : 0 < c) : binV .Mod st (vInt i) (vInt c) = some (vInt (i % c)) := by
  show (if 0 < c then some (vInt (i % c)) else none) = _
  rw [if_pos h]
theorem div_c (st : Sto) (i c : Int) (h : 0 < c ∧ c < 1073741824) : binV .FloorDiv st (vInt i) (vInt c) = some (vInt (i / c)) := by
  show (if 0 < c ∧ c < 1073741824 then some (vInt (i / c)) else none) = _
  rw [if_pos h]
theorem pow_c (st : Sto) : binV .Pow st (vInt 10) (vInt 18) = some (vInt 1000000000000000000) := rfl
theorem ix_cell (ds : List D) (p : Nat) (q s : Int) : ixV (TP ds p q s) (.w (.ref 0)) (vInt 0) = some (.w (.d (.list ds))) ∧ ixV (TP ds p q s) (.w (.ref 0)) (vInt 1) = some (vInt p) ∧ ixV (TP ds p q s) (.w (.ref 0)) (vInt 2) = some (vInt q) ∧ ixV (TP ds p q s) (.w (.ref 0)) (vInt 3) = some (vInt s) := ⟨rfl, rfl, rfl, rfl⟩
theorem set1 (ds : List D) (p : Nat) (q s : Int) : setCell (TP ds p q s) (.w (.ref 0)) (vInt 1) (.d (.int ((p : Int) + 1))) = some (TP ds (p + 1) q s) := rfl
theorem set2 (ds : List D) (p : Nat) (q s z : Int) : setCell (TP ds p q s) (.w (.ref 0)) (vInt 2) (.d (.int z)) = some (TP ds p z s) := rfl
theorem set3 (ds : List D) (p : Nat) (q s z : Int) : setCell (TP ds p q s) (.w (.ref 0)) (vInt 3) (.d (.int z)) = some (TP ds p q z) := rfl
theorem next_A (n : Nat) (ds : List D) (p : Nat) (q s m : Int) (hq : q ≠ 0) (hm : 0 < m ∧ m < 1073741824) : Rn (n + 1) 5 [.ref 0, .d (.int m)] (TP ds p q s) = .ok (vInt (q % m)) (TP ds p (q / m) s) := by
  have i2 := (ix_cell ds p q s).2.2.1
  have e0 := eq0 (TP ds p q s) q
  rw [decide_eq_false hq] at e0
  have h1 := div_c (TP ds p q s) q m hm
  have h2 := mod_c (TP ds p (q / m) s) q m hm.1
  have h3 := set2 ds p q s (q / m)
  apply run_fn (fn := f5) rfl rfl rfl
  simp only [f5, b5, entry, List.map_cons, List.map_nil, List.replicate, List.cons_append, List.nil_append, Nat.reduceSub]
  repeat' (first | with_reducible exact i2 | with_reducible exact e0 | with_reducible exact h1 | with_reducible exact h2 | with_reducible exact h3 | decreasing_trivial_pre_omega | rfl)
def mixS (s c : Int) : Int := (s * 69621 + c * 40692 + 17) % 2147483647
theorem next_B (n : Nat) (ds : List D) (p : Nat) (z s m : Int) (hp : ds[p]? = some (.int z)) (hz : (if z < 0 then -z else z) < 1000000000000000000) (hm : 0 < m ∧ m < 1073741824) :
    Rn (n + 1) 5 [.ref 0, .d (.int m)] (TP ds p 0 s) = .ok (vInt (mixS s (if z < 0 then -z else z) / 5 * 48271 % 2147483647 % m)) (TP ds (p + 1) 0 (mixS s (if z < 0 then -z else z))) := by
  have ⟨i0, i1, i2, i3⟩ := ix_cell ds p 0 s
  have ⟨j0, j1, j2, j3⟩ := ix_cell ds (p + 1) 0 s
  have ⟨k0, k1, k2, k3⟩ := ix_cell ds (p + 1) 0 (mixS s (if z < 0 then -z else z))
  have e0 : cmpV .Eq (TP ds p 0 s) (vInt 0) (vInt 0) = some true := eq0 (TP ds p 0 s) 0
  have hl := (List.getElem?_eq_some_iff.mp hp).1
  have l0 := len_list (TP ds p 0 s) ds
  have c0 := lt_int (TP ds p 0 s) p ds.length
  rw [decide_eq_true (show (p : Int) < ds.length by omega)] at c0
  have x0 := ix_list (TP ds p 0 s) ds p _ hp
  have a0 : bltV .abs (TP ds p 0 s) [vInt z] = some (vInt (if z < 0 then -z else z)) := rfl
  have s1 := set1 ds p 0 s
  have pw := pow_c (TP ds (p + 1) 0 s)
  have c1 := lt_int (TP ds (p + 1) 0 s) (if z < 0 then -z else z) 1000000000000000000
  rw [decide_eq_true hz] at c1
  generalize (if z < 0 then -z else z) = c at *
  have m1 := mul_c (TP ds (p + 1) 0 s) s 69621 (by decide)
  have m2 := mul_c (TP ds (p + 1) 0 s) c 40692 (by decide)
  have d1 := mod_c (TP ds (p + 1) 0 s) (s * 69621 + c * 40692 + 17) 2147483647 (by decide)
  have s3 := set3 ds (p + 1) 0 s (mixS s c)
  have q1 := div_c (TP ds (p + 1) 0 (mixS s c)) (mixS s c) 5 (by decide)
  have m3 := mul_c (TP ds (p + 1) 0 (mixS s c)) (mixS s c / 5) 48271 (by decide)
  have d2 := mod_c (TP ds (p + 1) 0 (mixS s c)) (mixS s c / 5 * 48271) 2147483647 (by decide)
  have d3 := mod_c (TP ds (p + 1) 0 (mixS s c)) (mixS s c / 5 * 48271 % 2147483647) m hm.1
  have d1 : binV .Mod (TP ds (p + 1) 0 s) (vInt (s * 69621 + c * 40692 + 17)) (vInt 2147483647) = some (vInt (mixS s c)) := d1
  apply run_fn (fn := f5) rfl rfl rfl
  simp only [f5, b5, entry, List.map_cons, List.map_nil, List.replicate, List.cons_append, List.nil_append, Nat.reduceSub]
  repeat' (first | with_reducible exact i0 | with_reducible exact i1 | with_reducible exact i2 | with_reducible exact e0 | with_reducible exact l0 | with_reducible exact c0 | with_reducible exact x0 | with_reducible exact a0 | with_reducible exact s1 | with_reducible exact pw | with_reducible exact c1 | with_reducible exact j3 | with_reducible exact m1 | with_reducible exact m2 | with_reducible exact d1 | with_reducible exact s3 | with_reducible exact k3 | with_reducible exact q1 | with_reducible exact m3 | with_reducible exact d2 | with_reducible exact d3 | decreasing_trivial_pre_omega | rfl)
theorem next_C (n : Nat) (ds : List D) (p : Nat) (z s m : Int) (hp : ds[p]? = some (.int z)) (hz : ¬ (if z < 0 then -z else z) < 1000000000000000000) (hm : 0 < m ∧ m < 1073741824) :
    Rn (n + 1) 5 [.ref 0, .d (.int m)] (TP ds p 0 s) = .ok (vInt ((if z < 0 then -z else z) % m)) (TP ds (p + 1) ((if z < 0 then -z else z) / m) s) := by
  have ⟨i0, i1, i2, i3⟩ := ix_cell ds p 0 s
  have e0 : cmpV .Eq (TP ds p 0 s) (vInt 0) (vInt 0) = some true := eq0 (TP ds p 0 s) 0
  have hl := (List.getElem?_eq_some_iff.mp hp).1
  have l0 := len_list (TP ds p 0 s) ds
  have c0 := lt_int (TP ds p 0 s) p ds.length
  rw [decide_eq_true (show (p : Int) < ds.length by omega)] at c0
  have x0 := ix_list (TP ds p 0 s) ds p _ hp
  have a0 : bltV .abs (TP ds p 0 s) [vInt z] = some (vInt (if z < 0 then -z else z)) := rfl
  have s1 := set1 ds p 0 s
  have pw := pow_c (TP ds (p + 1) 0 s)
  have c1 := lt_int (TP ds (p + 1) 0 s) (if z < 0 then -z else z) 1000000000000000000
  rw [decide_eq_false hz] at c1
  generalize (if z < 0 then -z else z) = c at *
  have h1 := div_c (TP ds (p + 1) 0 s) c m hm
  have h2 := mod_c (TP ds (p + 1) (c / m) s) c m hm.1
  have h3 := set2 ds (p + 1) 0 s (c / m)
  apply run_fn (fn := f5) rfl rfl rfl
  simp only [f5, b5, entry, List.map_cons, List.map_nil, List.replicate, List.cons_append, List.nil_append, Nat.reduceSub]
  repeat' (first | with_reducible exact i0 | with_reducible exact i1 | with_reducible exact i2 | with_reducible exact e0 | with_reducible exact l0 | with_reducible exact c0 | with_reducible exact x0 | with_reducible exact a0 | with_reducible exact s1 | with_reducible exact pw | with_reducible exact c1 | with_reducible exact h1 | with_reducible exact h2 | with_reducible exact h3 | decreasing_trivial_pre_omega | rfl)
theorem next_D (n : Nat) (ds : List D) (p : Nat) (s m : Int) (hp : ds.length ≤ p) (hm : 0 < m ∧ m < 1073741824) :
    Rn (n + 1) 5 [.ref 0, .d (.int m)] (TP ds p 0 s) = .ok (vInt (mixS s 0 / 5 * 48271 % 2147483647 % m)) (TP ds p 0 (mixS s 0)) := by
  have ⟨i0, i1, i2, i3⟩ := ix_cell ds p 0 s
  have ⟨k0, k1, k2, k3⟩ := ix_cell ds p 0 (mixS s 0)
  have e0 : cmpV .Eq (TP ds p 0 s) (vInt 0) (vInt 0) = some true := eq0 (TP ds p 0 s) 0
  have l0 := len_list (TP ds p 0 s) ds
  have c0 := lt_int (TP ds p 0 s) p ds.length
  rw [decide_eq_false (show ¬ (p : Int) < ds.length by omega)] at c0
  have pw := pow_c (TP ds p 0 s)
  have c1 : cmpV .Lt (TP ds p 0 s) (vInt 0) (vInt 1000000000000000000) = some true := rfl
  have m1 := mul_c (TP ds p 0 s) s 69621 (by decide)
  have m2 := mul_c (TP ds p 0 s) 0 40692 (by decide)
  have d1 : binV .Mod (TP ds p 0 s) (vInt (s * 69621 + 0 * 40692 + 17)) (vInt 2147483647) = some (vInt (mixS s 0)) := mod_c (TP ds p 0 s) (s * 69621 + 0 * 40692 + 17) 2147483647 (by decide)
  have s3 := set3 ds p 0 s (mixS s 0)
  have q1 := div_c (TP ds p 0 (mixS s 0)) (mixS s 0) 5 (by decide)
  have m3 := mul_c (TP ds p 0 (mixS s 0)) (mixS s 0 / 5) 48271 (by decide)
  have d2 := mod_c (TP ds p 0 (mixS s 0)) (mixS s 0 / 5 * 48271) 2147483647 (by decide)
  have d3 := mod_c (TP ds p 0 (mixS s 0)) (mixS s 0 / 5 * 48271 % 2147483647) m hm.1
  apply run_fn (fn := f5) rfl rfl rfl
  simp only [f5, b5, entry, List.map_cons, List.map_nil, List.replicate, List.cons_append, List.nil_append, Nat.reduceSub]
  repeat' (first | with_reducible exact i0 | with_reducible exact i1 | with_reducible exact i2 | with_reducible exact i3 | with_reducible exact e0 | with_reducible exact l0 | with_reducible exact c0 | with_reducible exact pw | with_reducible exact c1 | with_reducible exact m1 | with_reducible exact m2 | with_reducible exact d1 | with_reducible exact s3 | with_reducible exact k3 | with_reducible exact q1 | with_reducible exact m3 | with_reducible exact d2 | with_reducible exact d3 | decreasing_trivial_pre_omega | rfl)
/-- a call of _law_next -/
theorem next_ok (n : Nat) (ns : List Int) (p : Nat) (q s m : Int) (hq : 0 ≤ q) (hm : 0 < m ∧ m < 1073741824) : ∃ v p' q' s', 0 ≤ v ∧ v < m ∧ 0 ≤ q' ∧
    callV ⟨Rn (n + 1), lfN⟩ 5 [.ref 0, .d (.int m)] (TP (ns.map PyData.int) p q s) = .ok (vInt v) (TP (ns.map PyData.int) p' q' s') := by
  have key : ∀ {v p' q' s'}, Rn (n + 1) 5 [.ref 0, .d (.int m)] (TP (ns.map PyData.int) p q s) = .ok (vInt v) (TP (ns.map PyData.int) p' q' s') → callV ⟨Rn (n + 1), lfN⟩ 5 [.ref 0, .d (.int m)] (TP (ns.map PyData.int) p q s) = .ok (vInt v) (TP (ns.map PyData.int) p' q' s') := fun {v p' q' s'} h => (cl_heap (C := ⟨Rn (n + 1), lfN⟩) (s1 := TP (ns.map PyData.int) p' q' s') (v' := vInt v) rfl h rfl rfl).trans rfl
  have em : ∀ x : Int, 0 ≤ x % m ∧ x % m < m := fun x => ⟨Int.emod_nonneg x (by omega), Int.emod_lt_of_pos x hm.1⟩
  by_cases h : q = 0
  · subst h
    by_cases hp : p < ns.length
    · have hz : (ns.map PyData.int)[p]? = some (.int ns[p]) := by rw [List.getElem?_map, List.getElem?_eq_getElem hp]; rfl
      by_cases hc : (if ns[p] < 0 then -ns[p] else ns[p]) < 1000000000000000000
      · exact ⟨_, _, _, _, (em _).1, (em _).2, Int.le_refl _, key (next_B n _ p _ s m hz hc hm)⟩
      · refine ⟨_, _, _, _, (em _).1, (em _).2, ?_, key (next_C n _ p _ s m hz hc hm)⟩
        exact Int.ediv_nonneg (by split <;> omega) (by omega)
    · exact ⟨_, _, _, _, (em _).1, (em _).2, Int.le_refl _, key (next_D n _ p s m (by simpa using hp) hm)⟩
  · exact ⟨_, _, _, _, (em _).1, (em _).2, Int.ediv_nonneg hq (by omega), key (next_A n _ p q s m h hm)⟩
end K1
set_option maxHeartbeats 4000001
namespace K1
open PySem MP
local macro_rules | `(tactic| decreasing_trivial_pre_omega) => `(tactic| first
  | simp only [List.map_nil, List.append_nil, List.nil_append, List.cons_append, List.map_cons, List.set_cons_zero, List.set_cons_succ, List.length_nil]
  | with_reducible exact ev_cst | with_reducible apply ev_cel | with_reducible apply ev_var | with_reducible apply ev_bin | with_reducible apply ev_cmp | with_reducible apply ev_ix | with_reducible apply ev_nt | with_reducible apply ev_an | with_reducible apply ev_orr
  | with_reducible apply ev_ife | with_reducible apply ev_cmp2 | with_reducible apply ev_cmp2b | with_reducible apply ev_tup | with_reducible apply ev_lst | with_reducible exact ev_dis | with_reducible apply ev_neg | with_reducible apply ev_sl
  | with_reducible exact eo_none | with_reducible apply eo_some | with_reducible apply ev_call | with_reducible apply ev_blt | with_reducible apply ev_mth | with_reducible apply ev_isi | with_reducible apply ev_lc
  | with_reducible exact ec_nil | with_reducible apply ec_one | with_reducible exact es_nil | with_reducible apply es_cons | with_reducible apply sr_it | with_reducible apply sr_rng1 | with_reducible apply sr_rng2 | with_reducible apply sr_enm | with_reducible apply sr_zp
  | with_reducible apply pick_t | with_reducible apply pick_f | refine pick_tE (by rfl) ?_ | refine pick_fE (by rfl) ?_ | with_reducible apply nx_nx | with_reducible exact nx_rt | with_reducible exact nx_bk | with_reducible exact nx_ct | with_reducible exact ss_nil | with_reducible apply ss_cons | with_reducible apply s_asg | with_reducible apply s_own
  | with_reducible apply s_unp | with_reducible apply s_par | with_reducible apply s_set | with_reducible apply s_ex | with_reducible apply s_iff | with_reducible apply s_ret | with_reducible exact s_retN | with_reducible exact s_pss | with_reducible exact s_brk | with_reducible exact s_cnt
  | with_reducible apply s_fr | with_reducible apply fo_items | with_reducible exact fo_nil | with_reducible apply fo_cons | with_reducible apply frF_ok | with_reducible apply nf_nx | with_reducible apply nf_ct | with_reducible exact nf_rt | with_reducible exact nf_bk
  | with_reducible apply ga_items | with_reducible exact ga_nil | with_reducible apply ng_none | with_reducible apply ng_some | with_reducible apply lcF_ok | with_reducible apply lcE | with_reducible apply ga_cons)
theorem eq_str (st : Sto) (x : Str) : cmpV .Eq st (vStr x) (vStr x) = some true := by
  show some (PyData.eqv (.str x) (.str x)) = _
  simp [PyData.eqv]
theorem eq_int (st : Sto) (x : Int) : cmpV .Eq st (vInt x) (vInt x) = some true := by
  show some (PyData.eqv (.int x) (.int x)) = _
  simp [PyData.eqv]
theorem same_str (n : Nat) (x : Str) : Rn (n + 1) 6 [.d (.str x), .d (.str x)] [] = .ok (vBool true) [] := by
  have he := eq_str [] x
  apply run_fn (fn := f6) rfl rfl rfl
  simp only [f6, b6, entry, List.map_cons, List.map_nil, List.replicate, List.cons_append, List.nil_append, Nat.reduceSub]
  repeat' (first | with_reducible exact he | decreasing_trivial_pre_omega | rfl)
theorem same_bool (n : Nat) : Rn (n + 1) 6 [.d (.bool true), .d (.bool true)] [] = .ok (vBool true) [] := rfl
theorem gath_none {f : W → Sto → Out (Option W)} {st : Sto} {acc : List W} : ∀ {xs : List W}, (∀ x ∈ xs, f x st = .ok none st) → gath f xs acc st = .ok acc st
  | [], _ => rfl
  | x :: r, h => ga_cons (h x (List.mem_cons_self ..)) (ng_none (gath_none fun y hy => h y (List.mem_cons_of_mem _ hy)))
abbrev tstE : E := .nt (.call 6 [.ix (.var 0) (.var 2), .ix (.var 1) (.var 2)] [])
theorem same_turn (C : CE) (d1 d2 x y : D) (i : Int) (st : Sto) (h1 : ixV st (.w (.d d1)) (vInt i) = some (.w (.d x))) (h2 : ixV st (.w (.d d2)) (vInt i) = some (.w (.d y))) (h : callV C 6 [.d x, .d y] st = .ok (vBool true) st) :
    lcF C [2] (.nm 2) [tstE] (.cst (.int 1)) [some (.d d1), some (.d d2), none] (.d (.int i)) st = .ok none st := by
  repeat' (first | with_reducible exact h1 | with_reducible exact h2 | with_reducible exact h | decreasing_trivial_pre_omega | rfl)
theorem ix_tup (st : Sto) (ds : List D) (p : Nat) (z : D) (h : ds[p]? = some z) : ixV st (.w (.d (.tuple ds))) (vInt (0 + (p : Int))) = some (.w (.d z)) := by
  have e : L2.atI ds (0 + (p : Int)) = some z := by rw [Int.zero_add]; exact L2.atI_nat (j := p) h
  show (L2.atI ds (0 + (p : Int))).map (fun x => Val.w (.d x)) = _
  rw [e]; rfl
theorem same_tup (n : Nat) (L : List Str) (hL : L.length ≤ 1000) : Rn (n + 2) 6 [.d (.tuple (L.map .str)), .d (.tuple (L.map .str))] [] = .ok (vBool true) [] := by
  have hl : bltV .len [] [.w (.d (.tuple (L.map PyData.str)))] = some (vInt L.length) := by
    show (some (L.map PyData.str).length).map (fun n : Nat => vInt n) = _
    simp
  have he : cmpV .Eq [] (vInt L.length) (vInt L.length) = some true := by
    show some (PyData.eqv (.int L.length) (.int L.length)) = _
    simp [PyData.eqv]
  have hr := rng_ok L.length (by omega)
  have hg : gath (lcF ⟨Rn (n + 1), lfN⟩ [2] (.nm 2) [tstE] (.cst (.int 1)) [some (.d (.tuple (L.map .str))), some (.d (.tuple (L.map .str))), none]) (rngW 0 L.length) [] [] = .ok [] [] := by
    refine gath_none fun x hx => ?_
    unfold rngW at hx
    rw [List.mem_map] at hx
    obtain ⟨k, hk, rfl⟩ := hx
    have hk : k < L.length := by
      rw [List.mem_range] at hk; omega
    have hz : (L.map PyData.str)[k]? = some (.str L[k]) := by rw [List.getElem?_map, List.getElem?_eq_getElem hk]; rfl
    exact same_turn _ _ _ _ _ _ _ (ix_tup [] _ k _ hz) (ix_tup [] _ k _ hz) (cl_pure (C := ⟨Rn (n + 1), lfN⟩) rfl (same_str n L[k]) rfl)
  have hq : cmpV .Eq [] (.fl []) (.fl []) = some true := rfl
  apply run_fn (fn := f6) rfl rfl rfl
  simp only [f6, b6, entry, List.map_cons, List.map_nil, List.replicate, List.cons_append, List.nil_append, Nat.reduceSub]
  repeat' (first | with_reducible exact hl | with_reducible exact he | with_reducible exact hr | with_reducible exact hg | with_reducible exact hq | decreasing_trivial_pre_omega | rfl)
theorem ix_lst (st : Sto) (ds : List D) (p : Nat) (z : D) (h : ds[p]? = some z) : ixV st (.w (.d (.list ds))) (vInt (0 + (p : Int))) = some (.w (.d z)) := by
  have e : L2.atI (ds.map W.d) (0 + (p : Int)) = some (.d z) := by rw [Int.zero_add]; exact L2.atI_nat (j := p) (by rw [List.getElem?_map, h]; rfl)
  show (L2.atI (ds.map W.d) (0 + (p : Int))).map Val.w = _
  rw [e]; rfl
theorem same_lst (n : Nat) (L : List D) (hL : L.length ≤ 1000) (hx : ∀ x ∈ L, callV ⟨Rn n, lfN⟩ 6 [.d x, .d x] [] = .ok (vBool true) []) : Rn (n + 1) 6 [.d (.list L), .d (.list L)] [] = .ok (vBool true) [] := by
  have hl : bltV .len [] [.w (.d (.list L))] = some (vInt L.length) := by
    show ((some (L.map W.d)).map List.length).map (fun n : Nat => vInt n) = _
    simp
  have he := eq_int [] (L.length : Int)
  have hr := rng_ok L.length (by omega)
  have hg : gath (lcF ⟨Rn n, lfN⟩ [2] (.nm 2) [tstE] (.cst (.int 1)) [some (.d (.list L)), some (.d (.list L)), none]) (rngW 0 L.length) [] [] = .ok [] [] := by
    refine gath_none fun x hx' => ?_
    unfold rngW at hx'
    rw [List.mem_map] at hx'
    obtain ⟨k, hk, rfl⟩ := hx'
    have hk : k < L.length := by
      rw [List.mem_range] at hk; omega
    have hz : L[k]? = some L[k] := List.getElem?_eq_getElem hk
    exact same_turn _ _ _ _ _ _ _ (ix_lst [] _ k _ hz) (ix_lst [] _ k _ hz) (hx _ (List.getElem_mem hk))
  have hq : cmpV .Eq [] (.fl []) (.fl []) = some true := rfl
  apply run_fn (fn := f6) rfl rfl rfl
  simp only [f6, b6, entry, List.map_cons, List.map_nil, List.replicate, List.cons_append, List.nil_append, Nat.reduceSub]
  repeat' (first | with_reducible exact hl | with_reducible exact he | with_reducible exact hr | with_reducible exact hg | with_reducible exact hq | decreasing_trivial_pre_omega | rfl)
end K1
set_option maxHeartbeats 4000001
namespace K1
open PySem MP
local macro_rules | `(tactic| decreasing_trivial_pre_omega) => `(tactic| first
  | simp only [List.map_nil, List.append_nil, List.nil_append, List.cons_append, List.map_cons, List.set_cons_zero, List.set_cons_succ, List.length_nil]
  | with_reducible exact ev_cst | with_reducible apply ev_cel | with_reducible apply ev_var | with_reducible apply ev_bin | with_reducible apply ev_cmp | with_reducible apply ev_ix | with_reducible apply ev_nt | with_reducible apply ev_an | with_reducible apply ev_orr
  | with_reducible apply ev_ife | with_reducible apply ev_cmp2 | with_reducible apply ev_cmp2b | with_reducible apply ev_tup | with_reducible apply ev_lst | with_reducible exact ev_dis | with_reducible apply ev_neg | with_reducible apply ev_sl
  | with_reducible exact eo_none | with_reducible apply eo_some | with_reducible apply ev_call | with_reducible apply ev_blt | with_reducible apply ev_mth | with_reducible apply ev_isi | with_reducible apply ev_lc
  | with_reducible exact ec_nil | with_reducible apply ec_one | with_reducible exact es_nil | with_reducible apply es_cons | with_reducible apply sr_it | with_reducible apply sr_rng1 | with_reducible apply sr_rng2 | with_reducible apply sr_enm | with_reducible apply sr_zp
  | with_reducible apply pick_t | with_reducible apply pick_f | refine pick_tE (by rfl) ?_ | refine pick_fE (by rfl) ?_ | with_reducible apply nx_nx | with_reducible exact nx_rt | with_reducible exact nx_bk | with_reducible exact nx_ct | with_reducible exact ss_nil | with_reducible apply ss_cons | with_reducible apply s_asg | with_reducible apply s_own
  | with_reducible apply s_unp | with_reducible apply s_par | with_reducible apply s_set | with_reducible apply s_ex | with_reducible apply s_iff | with_reducible apply s_ret | with_reducible exact s_retN | with_reducible exact s_pss | with_reducible exact s_brk | with_reducible exact s_cnt
  | with_reducible apply s_fr | with_reducible apply fo_items | with_reducible exact fo_nil | with_reducible apply fo_cons | with_reducible apply frF_ok | with_reducible apply nf_nx | with_reducible apply nf_ct | with_reducible exact nf_rt | with_reducible exact nf_bk
  | with_reducible apply ga_items | with_reducible exact ga_nil | with_reducible apply ng_none | with_reducible apply ng_some | with_reducible apply lcF_ok | with_reducible apply lcE | with_reducible apply ga_cons)
theorem same_tupD (n : Nat) (L : List D) (hL : L.length ≤ 1000) (hx : ∀ x ∈ L, callV ⟨Rn n, lfN⟩ 6 [.d x, .d x] [] = .ok (vBool true) []) : Rn (n + 1) 6 [.d (.tuple L), .d (.tuple L)] [] = .ok (vBool true) [] := by
  have hl : bltV .len [] [.w (.d (.tuple L))] = some (vInt L.length) := by
    show (some L.length).map (fun n : Nat => vInt n) = _
    simp
  have he := eq_int [] (L.length : Int)
  have hr := rng_ok L.length (by omega)
  have hg : gath (lcF ⟨Rn n, lfN⟩ [2] (.nm 2) [tstE] (.cst (.int 1)) [some (.d (.tuple L)), some (.d (.tuple L)), none]) (rngW 0 L.length) [] [] = .ok [] [] := by
    refine gath_none fun x hx' => ?_
    unfold rngW at hx'
    rw [List.mem_map] at hx'
    obtain ⟨k, hk, rfl⟩ := hx'
    have hk : k < L.length := by
      rw [List.mem_range] at hk; omega
    have hz : L[k]? = some L[k] := List.getElem?_eq_getElem hk
    exact same_turn _ _ _ _ _ _ _ (ix_tup [] _ k _ hz) (ix_tup [] _ k _ hz) (hx _ (List.getElem_mem hk))
  have hq : cmpV .Eq [] (.fl []) (.fl []) = some true := rfl
  apply run_fn (fn := f6) rfl rfl rfl
  simp only [f6, b6, entry, List.map_cons, List.map_nil, List.replicate, List.cons_append, List.nil_append, Nat.reduceSub]
  repeat' (first | with_reducible exact hl | with_reducible exact he | with_reducible exact hr | with_reducible exact hg | with_reducible exact hq | decreasing_trivial_pre_omega | rfl)
theorem same_int (n : Nat) (x : Int) : Rn (n + 1) 6 [.d (.int x), .d (.int x)] [] = .ok (vBool true) [] := by
  have he := eq_int [] x
  apply run_fn (fn := f6) rfl rfl rfl
  simp only [f6, b6, entry, List.map_cons, List.map_nil, List.replicate, List.cons_append, List.nil_append, Nat.reduceSub]
  repeat' (first | with_reducible exact he | decreasing_trivial_pre_omega | rfl)
/-- what _law_same can look at -/
def sm : Nat → D → Bool
  | 0, _ => false
  | _ + 1, .none => true
  | _ + 1, .bool _ => true
  | _ + 1, .int _ => true
  | _ + 1, .str _ => true
  | k + 1, .tuple L => decide (L.length ≤ 1000) && L.all (sm k)
  | k + 1, .list L => decide (L.length ≤ 1000) && L.all (sm k)
  | _ + 1, _ => false
theorem same_any : ∀ (k n : Nat) (x : D), sm k x = true → Rn (n + k) 6 [.d x, .d x] [] = .ok (vBool true) []
  | 0, _, _, h => by simp [sm] at h
  | k + 1, n, x, h => by
    have ih : ∀ L : List D, L.all (sm k) = true → ∀ x ∈ L, callV ⟨Rn (n + k), lfN⟩ 6 [.d x, .d x] [] = .ok (vBool true) [] := fun L hL x hx =>
      cl_pure (C := ⟨Rn (n + k), lfN⟩) rfl (same_any k n x (List.all_eq_true.mp hL x hx)) rfl
    cases x with
    | none => rfl
    | bool b => cases b <;> rfl
    | int i => exact same_int (n + k) i
    | str z => exact same_str (n + k) z
    | tuple L =>
      simp only [sm, Bool.and_eq_true, decide_eq_true_eq] at h
      exact same_tupD (n + k) L h.1 (ih L h.2)
    | list L =>
      simp only [sm, Bool.and_eq_true, decide_eq_true_eq] at h
      exact same_lst (n + k) L h.1 (ih L h.2)
    | _ => simp [sm] at h
theorem same_call (k n : Nat) (x : D) (st : Sto) (h : sm k x = true) : callV ⟨Rn (n + k), lfN⟩ 6 [.d x, .d x] st = .ok (vBool true) st :=
  cl_pure (C := ⟨Rn (n + k), lfN⟩) rfl (same_any k n x h) rfl
end K1
set_option maxHeartbeats 1000001
namespace K1
open PySem MP
/-! signs replaced, words between blanks -/
def fm (f : Nat → List Nat) : List Nat → List Nat
  | [] => []
  | c :: r => f c ++ fm f r
theorem fm_app (f : Nat → List Nat) : ∀ a b, fm f (a ++ b) = fm f a ++ fm f b
  | [], b => rfl
  | c :: r, b => by simp only [List.cons_append, fm, fm_app f r b, List.append_assoc]
theorem fm_fm (f g : Nat → List Nat) : ∀ a, fm g (fm f a) = fm (fun c => fm g (f c)) a
  | [] => rfl
  | c :: r => by simp only [fm, fm_app, fm_fm f g r]
def sw (c : Nat) (z : List Nat) : Nat → List Nat := fun k => if k = c then z else [k]
theorem spl1_hit (c : Nat) (acc r : List Nat) : TL.spl [c] 0 acc (c :: r) = acc :: TL.spl [c] 0 [] r := TL.spl_hit (by simp [TL.pre])
theorem spl1_miss (c d : Nat) (acc r : List Nat) (h : d ≠ c) : TL.spl [c] 0 acc (d :: r) = TL.spl [c] 0 (acc ++ [d]) r := TL.spl_miss (by simp [TL.pre, h])
theorem spl_ne (c : Nat) : ∀ (a acc : List Nat), TL.spl [c] 0 acc a ≠ []
  | [], acc => by rw [TL.spl_nil]; simp
  | d :: r, acc => by
    by_cases h : d = c
    · subst h; rw [spl1_hit]; simp
    · rw [spl1_miss c d acc r h]; exact spl_ne c r _
theorem joinL_cons (z p : List Nat) {ps : List (List Nat)} (h : ps ≠ []) : TL.joinL z (p :: ps) = p ++ z ++ TL.joinL z ps := by
  cases ps with
  | nil => exact absurd rfl h
  | cons q r => simp [TL.joinL]
theorem join_spl (c : Nat) (z : List Nat) : ∀ (a acc : List Nat), TL.joinL z (TL.spl [c] 0 acc a) = acc ++ fm (sw c z) a
  | [], acc => by rw [TL.spl_nil]; simp [TL.joinL, fm]
  | d :: r, acc => by
    by_cases h : d = c
    · subst h
      rw [spl1_hit, joinL_cons z acc (spl_ne d r []), join_spl d z r []]
      simp [fm, sw]
    · rw [spl1_miss c d acc r h, join_spl c z r (acc ++ [d])]
      simp [fm, sw, h]
theorem repl_S (c : Nat) (hc : c < 256) (z a : List Nat) : Txt.replace (S a) (S [c]) (S z) = S (fm (sw c z) a) := by
  have h1 := PySem.StrLaws.replace_one (S a) (S z) c
  have h2 : Txt.split (S a) (S [c]) = (TL.spl [c] 0 [] a).map SX.S := SX.split_S (by simp) (by simp [hc])
  have h3 := SX.join_S z (TL.spl [c] 0 [] a)
  rw [TL.join_eq] at h3
  show Txt.replace (S a) ⟨#[c]⟩ (S z) = _
  rw [h1]
  have h2' : Txt.split (S a) ⟨#[c]⟩ = (TL.spl [c] 0 [] a).map SX.S := h2
  rw [h2']
  have e : TL.joinL z (TL.spl [c] 0 [] a) = fm (sw c z) a := join_spl c z a []
  rw [e] at h3
  exact h3
def fx : Nat → List Nat := fun c => if c = 40 then [32, 40, 32] else if c = 41 then [32, 41, 32] else if c = 10 then [32] else [c]
theorem repl3_S (a : List Nat) : repl3 (S a) = S (fm fx a) := by
  unfold repl3
  have e1 := repl_S 40 (by decide) [32, 40, 32] a
  have e2 := repl_S 41 (by decide) [32, 41, 32] (fm (sw 40 [32, 40, 32]) a)
  have e3 := repl_S 10 (by decide) [32] (fm (sw 41 [32, 41, 32]) (fm (sw 40 [32, 40, 32]) a))
  have zA' : zA = S [40] := rfl
  have zB' : zB = S [32, 40, 32] := rfl
  have zC' : zC = S [41] := rfl
  have zD' : zD = S [32, 41, 32] := rfl
  have zE' : zE = S [10] := rfl
  have zF' : zF = S [32] := rfl
  rw [zA', zB', zC', zD', zE', zF', e1, e2, e3, fm_fm, fm_fm]
  congr 2
  funext c
  unfold fx
  by_cases h1 : c = 40
  · subst h1; rfl
  · by_cases h2 : c = 41
    · subst h2; rfl
    · by_cases h3 : c = 10
      · subst h3; rfl
      · simp [sw, fm, h1, h2, h3]
/-- a word, if there is one -/
def fw (w : List Nat) : List (List Nat) := if w = [] then [] else [w]
def par? (c : Nat) : Bool := c == 40 || c == 41
def tk : List Nat → List Nat → List (List Nat)
  | w, [] => fw w
  | w, c :: r => if par? c = true then fw w ++ [c] :: tk [] r else if (c == 32 || c == 10) = true then fw w ++ tk [] r else tk (w ++ [c]) r
theorem fil_cons (w : List Nat) (r : List (List Nat)) : (w :: r).filter (fun p => decide (p ≠ [])) = fw w ++ r.filter (fun p => decide (p ≠ [])) := by
  unfold fw
  by_cases h : w = []
  · simp [h]
  · simp [h]
theorem words_tk : ∀ (a w : List Nat), (TL.spl [32] 0 w (fm fx a)).filter (fun p => decide (p ≠ [])) = tk w a
  | [], w => by
    simp only [fm, tk]
    rw [TL.spl_nil, fil_cons]; simp
  | c :: r, w => by
    by_cases h1 : c = 40
    · subst h1
      have e : fm fx (40 :: r) = 32 :: 40 :: 32 :: fm fx r := rfl
      rw [e, spl1_hit, spl1_miss 32 40 _ _ (by decide), List.nil_append, spl1_hit, fil_cons, fil_cons, words_tk r []]
      simp [tk, par?, fw]
    · by_cases h2 : c = 41
      · subst h2
        have e : fm fx (41 :: r) = 32 :: 41 :: 32 :: fm fx r := rfl
        rw [e, spl1_hit, spl1_miss 32 41 _ _ (by decide), List.nil_append, spl1_hit, fil_cons, fil_cons, words_tk r []]
        simp [tk, par?, fw]
      · by_cases h3 : c = 10
        · subst h3
          have e : fm fx (10 :: r) = 32 :: fm fx r := rfl
          rw [e, spl1_hit, fil_cons, words_tk r []]
          simp [tk, par?]
        · by_cases h4 : c = 32
          · subst h4
            have e : fm fx (32 :: r) = 32 :: fm fx r := rfl
            rw [e, spl1_hit, fil_cons, words_tk r []]
            simp [tk, par?]
          · have e : fm fx (c :: r) = c :: fm fx r := by simp [fm, fx, h1, h2, h3]
            rw [e, spl1_miss 32 c _ _ h4, words_tk r (w ++ [c])]
            simp [tk, par?, h1, h2, h3, h4]
theorem fm_len (a : List Nat) : (fm fx a).length ≤ 3 * a.length := by
  induction a with
  | nil => simp [fm]
  | cons c r ih =>
    have h : (fx c).length ≤ 3 := by
      unfold fx
      split
      · simp
      · split
        · simp
        · split <;> simp
    simp only [fm, List.length_append, List.length_cons]; omega
theorem fm_no9 (a : List Nat) (h : 9 ∉ a) : 9 ∉ fm fx a := by
  induction a with
  | nil => simp [fm]
  | cons c r ih =>
    simp only [List.mem_cons, not_or] at h
    simp only [fm, List.mem_append, not_or]
    refine ⟨?_, ih h.2⟩
    unfold fx
    split
    · decide
    · split
      · decide
      · split
        · decide
        · simp only [List.mem_singleton]; exact h.1
end K1
set_option maxHeartbeats 4000001
namespace K1
open PySem MP
local macro_rules | `(tactic| decreasing_trivial_pre_omega) => `(tactic| first
  | simp only [List.map_nil, List.append_nil, List.nil_append, List.cons_append, List.map_cons, List.set_cons_zero, List.set_cons_succ, List.length_nil]
  | with_reducible exact ev_cst | with_reducible apply ev_cel | with_reducible apply ev_var | with_reducible apply ev_bin | with_reducible apply ev_cmp | with_reducible apply ev_ix | with_reducible apply ev_nt | with_reducible apply ev_an | with_reducible apply ev_orr
  | with_reducible apply ev_ife | with_reducible apply ev_cmp2 | with_reducible apply ev_cmp2b | with_reducible apply ev_tup | with_reducible apply ev_lst | with_reducible exact ev_dis | with_reducible apply ev_neg | with_reducible apply ev_sl
  | with_reducible exact eo_none | with_reducible apply eo_some | with_reducible apply ev_call | with_reducible apply ev_blt | with_reducible apply ev_mth | with_reducible apply ev_isi | with_reducible apply ev_lc
  | with_reducible exact ec_nil | with_reducible apply ec_one | with_reducible exact es_nil | with_reducible apply es_cons | with_reducible apply sr_it | with_reducible apply sr_rng1 | with_reducible apply sr_rng2 | with_reducible apply sr_enm | with_reducible apply sr_zp
  | with_reducible apply pick_t | with_reducible apply pick_f | refine pick_tE (by rfl) ?_ | refine pick_fE (by rfl) ?_ | with_reducible apply nx_nx | with_reducible exact nx_rt | with_reducible exact nx_bk | with_reducible exact nx_ct | with_reducible exact ss_nil | with_reducible apply ss_cons | with_reducible apply s_asg | with_reducible apply s_own
  | with_reducible apply s_unp | with_reducible apply s_par | with_reducible apply s_set | with_reducible apply s_ex | with_reducible apply s_iff | with_reducible apply s_ret | with_reducible exact s_retN | with_reducible exact s_pss | with_reducible exact s_brk | with_reducible exact s_cnt
  | with_reducible apply s_fr | with_reducible apply fo_items | with_reducible exact fo_nil | with_reducible apply fo_cons | with_reducible apply frF_ok | with_reducible apply nf_nx | with_reducible apply nf_ct | with_reducible exact nf_rt | with_reducible exact nf_bk
  | with_reducible apply ga_items | with_reducible exact ga_nil | with_reducible apply ng_none | with_reducible apply ng_some | with_reducible apply lcF_ok | with_reducible apply lcE | with_reducible apply ga_cons)
abbrev dS (a : List Nat) : D := .str (S a)
theorem occ_none {c : Nat} {x : Str} (h : c ∉ x.cps.toList) : (Builtin.Str.occurrences x ⟨#[c]⟩ 0 x.length (x.length + 1)).isEmpty = true := by
  obtain ⟨f, hf⟩ := PySem.StrLaws.occ_chain x ⟨#[c]⟩ (x.length + 1)
  cases ho : Builtin.Str.occurrences x ⟨#[c]⟩ 0 x.length (x.length + 1) with
  | nil => rfl
  | cons i r =>
    rw [ho] at hf
    exact absurd (List.mem_of_getElem? ((PySem.StrLaws.subAt_one x c i).mp hf.2.1)) h
theorem eqv_S (a b : List Nat) : PyData.eqv (.str (S a)) (.str (S b)) = decide (a = b) := by
  simp only [PyData.eqv]
  exact SX.S_beq_eq
theorem ne_S (st : Sto) (a b : List Nat) : cmpV .NotEq st (vStr (S a)) (vStr (S b)) = some (!decide (a = b)) := by
  show (some (PyData.eqv (.str (S a)) (.str (S b)))).map (!·) = _
  rw [eqv_S]; rfl
theorem eq_S (st : Sto) (a b : List Nat) : cmpV .Eq st (vStr (S a)) (vStr (S b)) = some (decide (a = b)) := by
  show some (PyData.eqv (.str (S a)) (.str (S b))) = _
  rw [eqv_S]
abbrev neE : E := .cmp .NotEq (.var 1) (.cst (.str ⟨#[]⟩))
theorem wd_turn (C : CE) (w0 : Option W) (o1 : Option W) (p : List Nat) (st : Sto) : lcF C [1] (.nm 1) [neE] (.var 1) [w0, o1] (.d (dS p)) st = .ok (if p ≠ [] then some (.d (dS p)) else none) st := by
  have hc : cmpV .NotEq st (vStr (S p)) (vStr ⟨#[]⟩) = some (!decide (p = [])) := ne_S st p []
  by_cases h : p = []
  · rw [decide_eq_true h] at hc
    rw [if_neg (by simp [h])]
    repeat' (first | with_reducible exact hc | decreasing_trivial_pre_omega | rfl)
  · rw [decide_eq_false h] at hc
    rw [if_pos h]
    repeat' (first | with_reducible exact hc | decreasing_trivial_pre_omega | rfl)
abbrev wL (ps : List (List Nat)) : List W := ps.map fun p => W.d (dS p)
theorem wd_gath (C : CE) (w0 o1 : Option W) (st : Sto) : ∀ (ps out : List (List Nat)), out.length + ps.length ≤ 100000 →
    gath (lcF C [1] (.nm 1) [neE] (.var 1) [w0, o1]) (wL ps) (wL out) st = .ok (wL (out ++ ps.filter fun p => decide (p ≠ []))) st
  | [], out, h => by simp [gath]
  | p :: ps, out, h => by
    simp only [List.length_cons] at h
    refine ga_cons (wd_turn C w0 o1 p st) ?_
    by_cases hx : p = []
    · rw [if_neg (by simp [hx])]
      rw [List.filter_cons, if_neg (by simp [hx])]
      exact ng_none (wd_gath C w0 o1 st ps out (by omega))
    · rw [if_pos hx]
      rw [List.filter_cons, if_pos (by simp [hx])]
      refine ng_some (decide_eq_true (by simp only [wL, List.length_map, line]; omega)) ?_
      have h2 : wL out ++ [W.d (dS p)] = wL (out ++ [p]) := by simp [wL]
      rw [h2, wd_gath C w0 o1 st ps (out ++ [p]) (by simp; omega)]
      simp
theorem spl_len (c : Nat) : ∀ (a acc : List Nat), (TL.spl [c] 0 acc a).length ≤ a.length + 1
  | [], acc => by rw [TL.spl_nil]; simp
  | d :: r, acc => by
    by_cases h : d = c
    · subst h; rw [spl1_hit]; have := spl_len d r []; simp only [List.length_cons]; omega
    · rw [spl1_miss c d acc r h]; have := spl_len c r (acc ++ [d]); simp only [List.length_cons]; omega
theorem blank_ok (n : Nat) (a : List Nat) (h9 : 9 ∉ a) (hl : a.length ≤ 30000) : Rn (n + 1) 0 [.d (dS a)] [] = .ok (.fl (wL ((TL.spl [32] 0 [] a).filter fun p => decide (p ≠ [])))) [] := by
  have hr : mthV .replace [] (vStr (S a)) [vStr ⟨#[9]⟩, vStr ⟨#[32]⟩] = some (vStr (S a), []) := by
    show (if (Builtin.Str.occurrences (S a) ⟨#[9]⟩ 0 (S a).length ((S a).length + 1)).isEmpty = true then some (vStr (S a), ([] : Sto)) else none) = _
    rw [if_pos (occ_none h9)]
  have e : Txt.split (S a) (S [32]) = (TL.spl [32] 0 [] a).map SX.S := SX.split_S (by simp) (by decide)
  have hs : mthV .split [] (vStr (S a)) [vStr ⟨#[32]⟩] = some (.fl (wL (TL.spl [32] 0 [] a)), []) := by
    show (if ((⟨#[32]⟩ : Str).length == 0) = false ∧ (S a).length + 2 ≤ line then some (Val.fl ((Txt.split (S a) (S [32])).map fun z => .d (.str z)), ([] : Sto)) else none) = _
    rw [if_pos ⟨rfl, by rw [SX.S_len]; simp only [line]; omega⟩, e, List.map_map]
    rfl
  have hg := wd_gath (CN n) (some (.d (dS a))) none [] (TL.spl [32] 0 [] a) [] (by have := spl_len 32 a []; simp only [List.length_nil]; omega)
  rw [List.nil_append] at hg
  change gath _ _ [] _ = _ at hg
  have hm : evE (CN n) (.mth .replace (.var 0) [.cst (.str ⟨#[9]⟩), .cst (.str ⟨#[32]⟩)]) [some (.d (dS a)), none] [] = .ok (vStr (S a)) [] := by
    refine ev_mth (r := (vStr (S a), [])) (ev_var rfl) rfl (es_cons ev_cst (es_cons ev_cst es_nil)) hr
  have hm2 : evE (CN n) (.mth .split (.mth .replace (.var 0) [.cst (.str ⟨#[9]⟩), .cst (.str ⟨#[32]⟩)]) [.cst (.str ⟨#[32]⟩)]) [some (.d (dS a)), none] [] = .ok (.fl (wL (TL.spl [32] 0 [] a))) [] := by
    refine ev_mth (r := (.fl (wL (TL.spl [32] 0 [] a)), [])) hm rfl (es_cons ev_cst es_nil) hs
  apply run_fn (fn := f0) rfl rfl rfl
  simp only [f0, b0, entry, List.map_cons, List.map_nil, List.replicate, List.cons_append, List.nil_append, Nat.reduceSub]
  repeat' (first | with_reducible exact hm2 | with_reducible exact hg | decreasing_trivial_pre_omega | rfl)
theorem wl_below (n : Nat) (st : Sto) (ps : List (List Nat)) : valBelow n st (.fl (wL ps)) = some (.fl (wL ps)) := by
  have : (wL ps).all (W.below n) = true := by
    rw [List.all_eq_true]
    intro w hw
    obtain ⟨p, _, rfl⟩ := List.mem_map.mp hw
    rfl
  show (if (wL ps).all (W.below n) = true then some (Val.fl (wL ps)) else none) = _
  rw [if_pos this]
/-- the tokens of a text -/
def toks (a : List Nat) : List (List Nat) := tk [] a
theorem toks_ok (n : Nat) (a : List Nat) (st : Sto) (h9 : 9 ∉ a) (hl : a.length ≤ 10000) : Rn (n + 2) 1 [.d (dS a)] st = .ok (.fl (wL (toks a))) st := by
  apply run_pr (fn := f1) rfl rfl rfl
  show (if (S a).length ≤ 10000 then callV ⟨Rn (n + 1), 0⟩ 0 [.d (.str (repl3 (S a)))] st else Out.bad) = _
  rw [if_pos (by rw [SX.S_len]; exact hl), repl3_S]
  have h := blank_ok n (fm fx a) (fm_no9 a h9) (by have := fm_len a; omega)
  rw [words_tk a []] at h
  exact cl_pure (C := ⟨Rn (n + 1), 0⟩) rfl h (wl_below 0 [] _)
end K1
set_option maxHeartbeats 4000001
namespace K1
open PySem MP
local macro_rules | `(tactic| decreasing_trivial_pre_omega) => `(tactic| first
  | simp only [List.map_nil, List.append_nil, List.nil_append, List.cons_append, List.map_cons, List.set_cons_zero, List.set_cons_succ, List.length_nil]
  | with_reducible exact ev_cst | with_reducible apply ev_cel | with_reducible apply ev_var | with_reducible apply ev_bin | with_reducible apply ev_cmp | with_reducible apply ev_ix | with_reducible apply ev_nt | with_reducible apply ev_an | with_reducible apply ev_orr
  | with_reducible apply ev_ife | with_reducible apply ev_cmp2 | with_reducible apply ev_cmp2b | with_reducible apply ev_tup | with_reducible apply ev_lst | with_reducible exact ev_dis | with_reducible apply ev_neg | with_reducible apply ev_sl
  | with_reducible exact eo_none | with_reducible apply eo_some | with_reducible apply ev_call | with_reducible apply ev_blt | with_reducible apply ev_mth | with_reducible apply ev_isi | with_reducible apply ev_lc
  | with_reducible exact ec_nil | with_reducible apply ec_one | with_reducible exact es_nil | with_reducible apply es_cons | with_reducible apply sr_it | with_reducible apply sr_rng1 | with_reducible apply sr_rng2 | with_reducible apply sr_enm | with_reducible apply sr_zp
  | with_reducible apply pick_t | with_reducible apply pick_f | refine pick_tE (by rfl) ?_ | refine pick_fE (by rfl) ?_ | with_reducible apply nx_nx | with_reducible exact nx_rt | with_reducible exact nx_bk | with_reducible exact nx_ct | with_reducible exact ss_nil | with_reducible apply ss_cons | with_reducible apply s_asg | with_reducible apply s_own
  | with_reducible apply s_unp | with_reducible apply s_par | with_reducible apply s_set | with_reducible apply s_ex | with_reducible apply s_iff | with_reducible apply s_ret | with_reducible exact s_retN | with_reducible exact s_pss | with_reducible exact s_brk | with_reducible exact s_cnt
  | with_reducible apply s_fr | with_reducible apply fo_items | with_reducible exact fo_nil | with_reducible apply fo_cons | with_reducible apply frF_ok | with_reducible apply nf_nx | with_reducible apply nf_ct | with_reducible exact nf_rt | with_reducible exact nf_bk
  | with_reducible apply ga_items | with_reducible exact ga_nil | with_reducible apply ng_none | with_reducible apply ng_some | with_reducible apply lcF_ok | with_reducible apply lcE | with_reducible apply ga_cons)
abbrev dc (c : Nat) : D := .str ⟨#[c]⟩
theorem get_last (X : Sto) (c : Cell) : (X ++ [c])[X.length]? = some c := by simp
theorem set_last (X : Sto) (a b : Cell) : (X ++ [a]).set X.length b = X ++ [b] := by simp [List.set_append_right]
theorem list_last (X : Sto) (xs : List W) : listOf (X ++ [Cell.lst xs]) (.w (.ref X.length)) = some xs := by
  show (match (X ++ [Cell.lst xs])[X.length]? with | some (.lst xs) => some xs | _ => none) = _
  rw [get_last]
theorem recv_last (X : Sto) (xs : List W) : recvOk .append (X ++ [Cell.lst xs]) (.w (.ref X.length)) = true := by
  show (match (X ++ [Cell.lst xs])[X.length]? with | some (.lst _) => true | _ => false) = _
  rw [get_last]
theorem app_last (X : Sto) (xs : List W) (x : W) (h : xs.length ≤ 100000) : mthV .append (X ++ [Cell.lst xs]) (.w (.ref X.length)) [.w x] = some (vNone, X ++ [Cell.lst (xs ++ [x])]) := by
  show (match (X ++ [Cell.lst xs])[X.length]? with | some (.lst xs) => if xs.length < line then some (vNone, (X ++ [Cell.lst _]).set X.length (.lst (xs ++ [x]))) else none | _ => none) = _
  rw [get_last]
  dsimp only
  rw [if_pos (by simp only [line]; omega), set_last]
theorem add_last (X : Sto) (xs ys : List W) (h : xs.length + ys.length ≤ 100000) : binV .Add (X ++ [Cell.lst xs]) (.w (.ref X.length)) (.fl ys) = some (.fl (xs ++ ys)) := by
  show ((listOf (X ++ [Cell.lst xs]) (.w (.ref X.length))).bind fun xs => (listOf (X ++ [Cell.lst xs]) (.fl ys)).bind fun ys => if xs.length + ys.length ≤ line then some (Val.fl (xs ++ ys)) else none) = _
  rw [list_last]
  show (if xs.length + ys.length ≤ line then some (Val.fl (xs ++ ys)) else none) = _
  rw [if_pos (by simp only [line]; omega)]
abbrev bodyL : List MP.S := [(.iff (.cmp .In (.var 3) (.cst (.str ⟨#[40, 41, 32, 10]⟩))) [(.par 1 2 (.cel (.bin .Add (.var 1) (.ife (.cmp .NotEq (.var 2) (.cst (.str ⟨#[]⟩))) (.lst false [(.var 2)]) (.lst false [])))) (.cst (.str ⟨#[]⟩)))] [(.asg false 2 (.bin .Add (.var 2) (.var 3)))]), (.iff (.cmp .In (.var 3) (.cst (.str ⟨#[40, 41]⟩))) [(.ex (.mth .append (.var 1) [(.var 3)]))] [])]
abbrev sgL (t : D) (r : Nat) (w : List Nat) (o : Option W) : MP.Env := [some (.d t), some (.ref r), some (.d (dS w)), o]
theorem ife_w (C : CE) (t : D) (r : Nat) (w : List Nat) (o : Option W) (st : Sto) : evE C (.ife (.cmp .NotEq (.var 2) (.cst (.str ⟨#[]⟩))) (.lst false [(.var 2)]) (.lst false [])) (sgL t r w o) st = .ok (.fl (wL (fw w))) st := by
  have hc : cmpV .NotEq st (vStr (S w)) (vStr ⟨#[]⟩) = some (!decide (w = [])) := ne_S st w []
  by_cases h : w = []
  · rw [decide_eq_true h] at hc
    have e : fw w = [] := if_pos h
    rw [e]
    repeat' (first | with_reducible exact hc | decreasing_trivial_pre_omega | rfl)
  · rw [decide_eq_false h] at hc
    have e : fw w = [w] := if_neg h
    rw [e]
    repeat' (first | with_reducible exact hc | decreasing_trivial_pre_omega | rfl)
theorem fw_len (w : List Nat) : (fw w).length ≤ 1 := by unfold fw; split <;> simp
theorem wl_app (a b : List (List Nat)) : wL a ++ wL b = wL (a ++ b) := by simp [wL]
/-- a turn at a bracket -/
theorem turn_par (C : CE) (t : D) (w : List Nat) (o : Option W) (X : Sto) (acc : List (List Nat)) (c : Nat) (hc : par? c = true) (hl : acc.length ≤ 90000) :
    frF C (.nm 3) bodyL (.d (dc c)) (sgL t X.length w o) (X ++ [Cell.lst (wL acc)]) = .ok (.nx (sgL t (X ++ [Cell.lst (wL acc)]).length [] (some (.d (dc c))))) ((X ++ [Cell.lst (wL acc)]) ++ [Cell.lst (wL (acc ++ fw w ++ [[c]]))]) := by
  have hl2 := fw_len w
  have h1 : cmpV .In (X ++ [Cell.lst (wL acc)]) (vStr ⟨#[c]⟩) (vStr ⟨#[40, 41, 32, 10]⟩) = some true := by
    simp only [par?, Bool.or_eq_true, beq_iff_eq] at hc
    rcases hc with rfl | rfl <;> rfl
  have h2 : ∀ st, cmpV .In st (vStr ⟨#[c]⟩) (vStr ⟨#[40, 41]⟩) = some true := fun st => by
    simp only [par?, Bool.or_eq_true, beq_iff_eq] at hc
    rcases hc with rfl | rfl <;> rfl
  have hi := ife_w C t X.length w (some (.d (dc c))) (X ++ [Cell.lst (wL acc)])
  have ha := add_last X (wL acc) (wL (fw w)) (by simp only [wL, List.length_map]; omega)
  rw [wl_app] at ha
  have hr := recv_last (X ++ [Cell.lst (wL acc)]) (wL (acc ++ fw w))
  have hp := app_last (X ++ [Cell.lst (wL acc)]) (wL (acc ++ fw w)) (.d (dc c)) (by simp only [wL, List.length_map, List.length_append]; omega)
  have e : wL (acc ++ fw w) ++ [W.d (dc c)] = wL (acc ++ fw w ++ [[c]]) := by simp [wL]
  rw [e] at hp
  have hx : evE C (.mth .append (.var 1) [(.var 3)]) (sgL t (X ++ [Cell.lst (wL acc)]).length [] (some (.d (dc c)))) ((X ++ [Cell.lst (wL acc)]) ++ [Cell.lst (wL (acc ++ fw w))]) = .ok vNone ((X ++ [Cell.lst (wL acc)]) ++ [Cell.lst (wL (acc ++ fw w ++ [[c]]))]) :=
    ev_mth (r := (vNone, (X ++ [Cell.lst (wL acc)]) ++ [Cell.lst (wL (acc ++ fw w ++ [[c]]))])) (ev_var rfl) hr (es_cons (ev_var rfl) es_nil) hp
  apply frF_ok rfl
  refine ss_cons (s1 := (X ++ [Cell.lst (wL acc)]) ++ [Cell.lst (wL (acc ++ fw w))]) (fl := .nx (sgL t (X ++ [Cell.lst (wL acc)]).length [] (some (.d (dc c))))) ?_ (nx_nx ?_)
  · repeat' (first | with_reducible exact h1 | with_reducible exact hi | with_reducible exact ha | decreasing_trivial_pre_omega | rfl)
  · repeat' (first | with_reducible exact h2 _ | with_reducible exact hx | decreasing_trivial_pre_omega | rfl)
/-- at a blank -/
theorem turn_bl (C : CE) (t : D) (w : List Nat) (o : Option W) (X : Sto) (acc : List (List Nat)) (c : Nat) (hc : (c == 32 || c == 10) = true) (hl : acc.length ≤ 90000) :
    frF C (.nm 3) bodyL (.d (dc c)) (sgL t X.length w o) (X ++ [Cell.lst (wL acc)]) = .ok (.nx (sgL t (X ++ [Cell.lst (wL acc)]).length [] (some (.d (dc c))))) ((X ++ [Cell.lst (wL acc)]) ++ [Cell.lst (wL (acc ++ fw w))]) := by
  have hl2 := fw_len w
  have h1 : cmpV .In (X ++ [Cell.lst (wL acc)]) (vStr ⟨#[c]⟩) (vStr ⟨#[40, 41, 32, 10]⟩) = some true := by
    simp only [Bool.or_eq_true, beq_iff_eq] at hc
    rcases hc with rfl | rfl <;> rfl
  have h2 : ∀ st, cmpV .In st (vStr ⟨#[c]⟩) (vStr ⟨#[40, 41]⟩) = some false := fun st => by
    simp only [Bool.or_eq_true, beq_iff_eq] at hc
    rcases hc with rfl | rfl <;> rfl
  have hi := ife_w C t X.length w (some (.d (dc c))) (X ++ [Cell.lst (wL acc)])
  have ha := add_last X (wL acc) (wL (fw w)) (by simp only [wL, List.length_map]; omega)
  rw [wl_app] at ha
  apply frF_ok rfl
  refine ss_cons (s1 := (X ++ [Cell.lst (wL acc)]) ++ [Cell.lst (wL (acc ++ fw w))]) (fl := .nx (sgL t (X ++ [Cell.lst (wL acc)]).length [] (some (.d (dc c))))) ?_ (nx_nx ?_)
  · repeat' (first | with_reducible exact h1 | with_reducible exact hi | with_reducible exact ha | decreasing_trivial_pre_omega | rfl)
  · repeat' (first | with_reducible exact h2 _ | decreasing_trivial_pre_omega | rfl)
theorem in4 (st : Sto) (c : Nat) (hc : par? c = false) (hb : (c == 32 || c == 10) = false) : cmpV .In st (vStr ⟨#[c]⟩) (vStr ⟨#[40, 41, 32, 10]⟩) = some false := by
  show some (decide (c ∈ [40, 41, 32, 10])) = _
  simp only [par?, Bool.or_eq_false_iff, beq_eq_false_iff_ne] at hc hb
  rw [decide_eq_false]
  simp [hc.1, hc.2, hb.1, hb.2]
theorem in2 (st : Sto) (c : Nat) (hc : par? c = false) : cmpV .In st (vStr ⟨#[c]⟩) (vStr ⟨#[40, 41]⟩) = some false := by
  show some (decide (c ∈ [40, 41])) = _
  simp only [par?, Bool.or_eq_false_iff, beq_eq_false_iff_ne] at hc
  rw [decide_eq_false]
  simp [hc.1, hc.2]
theorem add_S (st : Sto) (a b : List Nat) (h : a.length + b.length ≤ 100000) : binV .Add st (vStr (S a)) (vStr (S b)) = some (vStr (S (a ++ b))) := by
  show (if (S a).length + (S b).length ≤ line then some (vStr (S a ++ S b)) else none) = _
  rw [SX.S_len, SX.S_len, SX.S_cat, if_pos (by simp only [line]; omega)]
/-- at another sign -/
theorem turn_ot (C : CE) (t : D) (w : List Nat) (o : Option W) (X : Sto) (acc : List (List Nat)) (c : Nat) (hc : par? c = false) (hb : (c == 32 || c == 10) = false) (hl : w.length ≤ 90000) :
    frF C (.nm 3) bodyL (.d (dc c)) (sgL t X.length w o) (X ++ [Cell.lst (wL acc)]) = .ok (.nx (sgL t X.length (w ++ [c]) (some (.d (dc c))))) (X ++ [Cell.lst (wL acc)]) := by
  have h1 := in4 (X ++ [Cell.lst (wL acc)]) c hc hb
  have h2 := in2 (X ++ [Cell.lst (wL acc)]) c hc
  have ha := add_S (X ++ [Cell.lst (wL acc)]) w [c] (by simp only [List.length_cons, List.length_nil]; omega)
  change binV .Add _ (vStr (S w)) (vStr ⟨#[c]⟩) = _ at ha
  repeat' (first | with_reducible exact h1 | with_reducible exact h2 | with_reducible exact ha | decreasing_trivial_pre_omega | rfl)
abbrev its (a : List Nat) : List W := a.map fun c => W.d (dc c)
/-- the walk over the signs -/
theorem walk_L (C : CE) (t : D) : ∀ (a w : List Nat) (acc : List (List Nat)) (X : Sto) (o : Option W), 2 * a.length + acc.length ≤ 80000 → a.length + w.length ≤ 80000 →
    ∃ X' o', forItems (frF C (.nm 3) bodyL) (its (a ++ [32])) (sgL t X.length w o) (X ++ [Cell.lst (wL acc)]) = .ok (.nx (sgL t X'.length [] o')) (X' ++ [Cell.lst (wL (acc ++ tk w a))])
  | [], w, acc, X, o, h1, h2 => by
    refine ⟨X ++ [Cell.lst (wL acc)], some (.d (dc 32)), ?_⟩
    exact fo_cons (turn_bl C t w o X acc 32 rfl (by simp only [List.length_nil] at h1; omega)) (nf_nx fo_nil)
  | c :: r, w, acc, X, o, h1, h2 => by
    simp only [List.length_cons] at h1 h2
    have hw := fw_len w
    by_cases hp : par? c = true
    · obtain ⟨X', o', ih⟩ := walk_L C t r [] (acc ++ fw w ++ [[c]]) (X ++ [Cell.lst (wL acc)]) (some (.d (dc c))) (by simp only [List.length_append, List.length_cons, List.length_nil]; omega) (by simp only [List.length_nil]; omega)
      refine ⟨X', o', fo_cons (turn_par C t w o X acc c hp (by omega)) (nf_nx ?_)⟩
      have e : acc ++ fw w ++ [[c]] ++ tk [] r = acc ++ tk w (c :: r) := by simp [tk, hp]
      rw [e] at ih
      exact ih
    · rw [Bool.not_eq_true] at hp
      by_cases hb : (c == 32 || c == 10) = true
      · obtain ⟨X', o', ih⟩ := walk_L C t r [] (acc ++ fw w) (X ++ [Cell.lst (wL acc)]) (some (.d (dc c))) (by simp only [List.length_append]; omega) (by simp only [List.length_nil]; omega)
        refine ⟨X', o', fo_cons (turn_bl C t w o X acc c hb (by omega)) (nf_nx ?_)⟩
        have e : acc ++ fw w ++ tk [] r = acc ++ tk w (c :: r) := by
          rw [tk, if_neg (by rw [hp]; exact Bool.false_ne_true), if_pos hb, List.append_assoc]
        rw [e] at ih
        exact ih
      · rw [Bool.not_eq_true] at hb
        obtain ⟨X', o', ih⟩ := walk_L C t r (w ++ [c]) acc X (some (.d (dc c))) (by omega) (by simp only [List.length_append, List.length_cons, List.length_nil]; omega)
        refine ⟨X', o', fo_cons (turn_ot C t w o X acc c hp hb (by omega)) (nf_nx ?_)⟩
        have e : tk (w ++ [c]) r = tk w (c :: r) := by
          rw [tk, if_neg (by rw [hp]; exact Bool.false_ne_true), if_neg (by rw [hb]; exact Bool.false_ne_true)]
        rw [e] at ih
        exact ih
theorem its_str (st : Sto) (a : List Nat) : itOf st (vStr (S a)) = some (.items (its a)) := rfl
theorem ltoks_ok (n : Nat) (a : List Nat) (hl : a.length ≤ 10000) : ∃ X, Rn (n + 1) 9 [.d (dS a)] [] = .ok (.w (.ref X.length)) (X ++ [Cell.lst (wL (toks a))]) := by
  obtain ⟨X', o', h⟩ := walk_L (CN n) (dS a) a [] [] [] none (by simp only [List.length_nil]; omega) (by simp only [List.length_nil]; omega)
  refine ⟨X', ?_⟩
  have h2 : forItems (frF (CN n) (.nm 3) bodyL) (its (a ++ [32])) [some (.d (dS a)), some (.ref 0), some (.d (.str ⟨#[]⟩)), none] [Cell.lst []] = .ok (.nx (sgL (dS a) X'.length [] o')) (X' ++ [Cell.lst (wL (toks a))]) := h
  have ha := add_S [Cell.lst []] a [32] (by simp only [List.length_cons, List.length_nil]; omega)
  change binV .Add _ _ (vStr ⟨#[32]⟩) = _ at ha
  have hs := its_str [Cell.lst []] (a ++ [32])
  apply run_fn (fn := f9) rfl rfl rfl
  simp only [f9, b9, entry, List.map_cons, List.map_nil, List.replicate, List.cons_append, List.nil_append, Nat.reduceSub]
  repeat' (first | with_reducible exact ha | with_reducible exact hs | with_reducible exact h2 | decreasing_trivial_pre_omega | rfl)
theorem ltoks_call (n : Nat) (a : List Nat) (st : Sto) (hl : a.length ≤ 10000) : callV (CN (n + 1)) 9 [.d (dS a)] st = .ok (.fl (wL (toks a))) st := by
  obtain ⟨X, h⟩ := ltoks_ok n a hl
  refine cl_pure (C := CN (n + 1)) rfl h ?_
  show (if X.length < 0 then some (Val.w (.ref X.length)) else match (X ++ [Cell.lst (wL (toks a))])[X.length]? with
    | some (.lst xs) => if xs.all (W.below 0) then some (.fl xs) else none
    | some (.dct kvs) => if kvs.all (fun kv => kv.2.below 0) then some (.fd kvs) else none
    | _ => none) = _
  rw [if_neg (by omega), get_last]
  exact wl_below 0 [] (toks a)
end K1
set_option maxHeartbeats 4000001
namespace K1
open PySem MP
local macro_rules | `(tactic| decreasing_trivial_pre_omega) => `(tactic| first
  | simp only [List.map_nil, List.append_nil, List.nil_append, List.cons_append, List.map_cons, List.set_cons_zero, List.set_cons_succ, List.length_nil]
  | with_reducible exact ev_cst | with_reducible apply ev_cel | with_reducible apply ev_var | with_reducible apply ev_bin | with_reducible apply ev_cmp | with_reducible apply ev_ix | with_reducible apply ev_nt | with_reducible apply ev_an | with_reducible apply ev_orr
  | with_reducible apply ev_ife | with_reducible apply ev_cmp2 | with_reducible apply ev_cmp2b | with_reducible apply ev_tup | with_reducible apply ev_lst | with_reducible exact ev_dis | with_reducible apply ev_neg | with_reducible apply ev_sl
  | with_reducible exact eo_none | with_reducible apply eo_some | with_reducible apply ev_call | with_reducible apply ev_blt | with_reducible apply ev_mth | with_reducible apply ev_isi | with_reducible apply ev_lc
  | with_reducible exact ec_nil | with_reducible apply ec_one | with_reducible exact es_nil | with_reducible apply es_cons | with_reducible apply sr_it | with_reducible apply sr_rng1 | with_reducible apply sr_rng2 | with_reducible apply sr_enm | with_reducible apply sr_zp
  | with_reducible apply pick_t | with_reducible apply pick_f | refine pick_tE (by rfl) ?_ | refine pick_fE (by rfl) ?_ | with_reducible apply nx_nx | with_reducible exact nx_rt | with_reducible exact nx_bk | with_reducible exact nx_ct | with_reducible exact ss_nil | with_reducible apply ss_cons | with_reducible apply s_asg | with_reducible apply s_own
  | with_reducible apply s_unp | with_reducible apply s_par | with_reducible apply s_set | with_reducible apply s_ex | with_reducible apply s_iff | with_reducible apply s_ret | with_reducible exact s_retN | with_reducible exact s_pss | with_reducible exact s_brk | with_reducible exact s_cnt
  | with_reducible apply s_fr | with_reducible apply fo_items | with_reducible exact fo_nil | with_reducible apply fo_cons | with_reducible apply frF_ok | with_reducible apply nf_nx | with_reducible apply nf_ct | with_reducible exact nf_rt | with_reducible exact nf_bk
  | with_reducible apply ga_items | with_reducible exact ga_nil | with_reducible apply ng_none | with_reducible apply ng_some | with_reducible apply lcF_ok | with_reducible apply lcE | with_reducible apply ga_cons)
/-! read_sexpr: a stack of lists -/
def At (st : Sto) (i : Nat) (ds : List D) : Prop := st[i]? = some (.lst (ds.map W.d))
structure Rep (st : Sto) (is : List Nat) (lv : List (List D)) : Prop where
  c1 : st[1]? = some (.lst (is.reverse.map W.ref))
  lvs : Paired (At st) is lv
  nd : is.Nodup
  n1 : 1 ∉ is
theorem at_lt {st : Sto} {i : Nat} {c : Cell} (h : st[i]? = some c) : i < st.length := (List.getElem?_eq_some_iff.mp h).1
theorem at_set {st : Sto} {i k : Nat} {ds : List D} {c : Cell} (h : At st i ds) (hk : k ≠ i) : At (st.set k c) i ds := by
  unfold At; rw [List.getElem?_set_ne hk]; exact h
theorem at_app {st : Sto} {i : Nat} {ds : List D} {c : Cell} (h : At st i ds) : At (st ++ [c]) i ds := by
  unfold At; rw [List.getElem?_append_left (at_lt h)]; exact h
theorem pat_imp {st st' : Sto} {is : List Nat} {lv : List (List D)} (h : Paired (At st) is lv) (k : ∀ i ds, i ∈ is → At st i ds → At st' i ds) : Paired (At st') is lv := by
  induction h with
  | nil => exact .nil
  | cons a r ih => exact .cons (k _ _ (List.mem_cons_self ..) a) (ih fun i ds hi => k i ds (List.mem_cons_of_mem _ hi))
theorem pat_lt {st : Sto} {is : List Nat} {lv : List (List D)} (h : Paired (At st) is lv) : ∀ i ∈ is, i < st.length := by
  induction h with
  | nil => intro i hi; cases hi
  | cons a r ih =>
    intro i hi
    rcases List.mem_cons.mp hi with rfl | hi
    · exact at_lt a
    · exact ih i hi
theorem get_set {st : Sto} {i : Nat} {c c' : Cell} (h : st[i]? = some c) : (st.set i c')[i]? = some c' := by
  rw [List.getElem?_set_self (at_lt h)]
/-- the spec: a token, the level at hand, those below -/
def stp (t : List Nat) (top : List D) (bel : List (List D)) : Option (List D × List (List D)) :=
  if t = [40] then some ([], top :: bel) else if t = [41] then (match bel with
    | [] => none
    | b :: r => some (b ++ [.tuple top], r)) else some (top ++ [dS t], bel)
def runS : List (List Nat) → List D → List (List D) → Option (List D × List (List D))
  | [], top, bel => some (top, bel)
  | t :: r, top, bel => match stp t top bel with
    | none => none
    | some q => if 20 ≤ q.2.length then none else runS r q.1 q.2
abbrev bodyR : List MP.S := [(.iff (.cmp .Eq (.var 2) (.cst (.str ⟨#[40]⟩))) [(.ex (.mth .append (.var 1) [(.cel (.lst false []))]))] [(.iff (.cmp .NotEq (.var 2) (.cst (.str ⟨#[41]⟩))) [(.ex (.mth .append (.ix (.var 1) (.neg (.cst (.int 1)))) [(.var 2)]))] [(.iff (.cmp .Eq (.blt .len [(.var 1)]) (.cst (.int 1))) [(.ret (some (.cst PyData.none)))] [(.asg false 3 (.blt .tuple [(.mth .pop (.var 1) [])])), (.ex (.mth .append (.ix (.var 1) (.neg (.cst (.int 1)))) [(.var 3)]))])])]), (.iff (.cmp .Gt (.blt .len [(.var 1)]) (.cst (.int 20))) [(.ret (some (.cst PyData.none)))] [])]
abbrev sgR (x : D) (o2 o3 : Option W) : MP.Env := [some (.d x), some (.ref 1), o2, o3]
theorem len_c {st : Sto} {is : List Nat} (h : st[1]? = some (.lst (is.reverse.map W.ref))) : bltV .len st [.w (.ref 1)] = some (vInt is.length) := by
  have e : lenOf st (.w (.ref 1)) = some is.length := by simp only [lenOf, h]; simp
  simp only [bltV, e]
  rfl
theorem recv_c {st : Sto} {i : Nat} {xs : List W} (h : st[i]? = some (.lst xs)) : recvOk .append st (.w (.ref i)) = true := by
  show (match st[i]? with | some (.lst _) => true | _ => false) = _
  rw [h]
theorem recvp_c {st : Sto} {i : Nat} {xs : List W} (h : st[i]? = some (.lst xs)) : recvOk .pop st (.w (.ref i)) = true := by
  show (match st[i]? with | some (.lst _) => true | _ => false) = _
  rw [h]
theorem app_c {st : Sto} {i : Nat} {xs : List W} {x : W} (h : st[i]? = some (.lst xs)) (hl : xs.length ≤ 100000) : mthV .append st (.w (.ref i)) [.w x] = some (vNone, st.set i (.lst (xs ++ [x]))) := by
  show (match st[i]? with | some (.lst xs) => if xs.length < line then some (vNone, st.set i (.lst (xs ++ [x]))) else none | _ => none) = _
  rw [h]
  dsimp only
  rw [if_pos (by simp only [line]; omega)]
theorem pop_c {st : Sto} {is : List Nat} {i : Nat} (h : st[1]? = some (.lst ((i :: is).reverse.map W.ref))) : mthV .pop st (.w (.ref 1)) [] = some (.w (.ref i), st.set 1 (.lst (is.reverse.map W.ref))) := by
  show (match st[1]? with | some (.lst xs) => xs.getLast?.map fun x => (Val.w x, st.set 1 (.lst xs.dropLast)) | _ => none) = _
  rw [h]
  simp
theorem last_c {st : Sto} {is : List Nat} {i : Nat} (h : st[1]? = some (.lst ((i :: is).reverse.map W.ref))) : ixV st (.w (.ref 1)) (vInt (-1)) = some (.w (.ref i)) := by
  show ((listOf' st (.w (.ref 1))).bind fun xs => (int? (vInt (-1))).bind fun i => (L2.atI xs i).map Val.w) = _
  have e : listOf' st (.w (.ref 1)) = some ((i :: is).reverse.map W.ref) := by
    show (match st[1]? with | some (Cell.lst xs) => some xs | _ => none) = _
    rw [h]
  rw [e]
  show (L2.atI ((i :: is).reverse.map W.ref) (-1)).map Val.w = _
  have : L2.atI ((i :: is).reverse.map W.ref) (-1) = some (.ref i) := by
    simp [L2.atI, L2.ixN]
    rw [if_pos (by omega)]
    simp only [Option.bind_some]
    have e3 : (-1 + ((is.length : Int) + 1)).toNat = is.length := by omega
    rw [e3]
    simp
  rw [this]; rfl
theorem tup_c {st : Sto} {i : Nat} {ds : List D} (h : At st i ds) : bltV .tuple st [.w (.ref i)] = some (vTup ds) := by
  unfold At at h
  simp only [bltV, h, datas_map, Option.map_some]
theorem gt20 (st : Sto) (n : Nat) : cmpV .Gt st (vInt n) (vInt 20) = some (decide (21 ≤ n)) := by
  show some (decide ((20 : Int) < n)) = _
  congr 1
  by_cases h : 21 ≤ n
  · rw [decide_eq_true h, decide_eq_true (by omega)]
  · rw [decide_eq_false h, decide_eq_false (by omega)]
theorem eq1 (st : Sto) (n : Nat) : cmpV .Eq st (vInt n) (vInt 1) = some (decide (n = 1)) := by
  show some (PyData.eqv (.int n) (.int 1)) = _
  simp only [PyData.eqv]
  by_cases h : n = 1
  · subst h; rfl
  · have : ¬ (n : Int) = 1 := by omega
    simp [h, this]
/-- the check at a turn's end -/
theorem chk (C : CE) (x : D) (o2 o3 : Option W) (st : Sto) (is : List Nat) (h : st[1]? = some (.lst (is.reverse.map W.ref))) :
    evSs C [(.iff (.cmp .Gt (.blt .len [(.var 1)]) (.cst (.int 20))) [(.ret (some (.cst PyData.none)))] [])] (sgR x o2 o3) st = .ok (if 21 ≤ is.length then .rt vNone else .nx (sgR x o2 o3)) st := by
  have h1 := len_c h
  have h2 := gt20 st is.length
  by_cases hl : 21 ≤ is.length
  · rw [decide_eq_true hl] at h2
    rw [if_pos hl]
    repeat' (first | with_reducible exact h1 | with_reducible exact h2 | decreasing_trivial_pre_omega | rfl)
  · rw [decide_eq_false hl] at h2
    rw [if_neg hl]
    repeat' (first | with_reducible exact h1 | with_reducible exact h2 | decreasing_trivial_pre_omega | rfl)
theorem turn_open (C : CE) (x : D) (o2 o3 : Option W) (st : Sto) (is : List Nat) (lv : List (List D)) (r : Rep st is lv) (hl : is.length ≤ 1000) :
    ∃ st', Rep st' (st.length :: is) ([] :: lv) ∧ frF C (.nm 2) bodyR (.d (dS [40])) (sgR x o2 o3) st = .ok (if 20 ≤ is.length then .rt vNone else .nx (sgR x (some (.d (dS [40]))) o3)) st' := by
  have g1 : (st ++ [Cell.lst []])[1]? = some (.lst (is.reverse.map W.ref)) := by rw [List.getElem?_append_left (at_lt r.c1)]; exact r.c1
  have rep : Rep ((st ++ [Cell.lst []]).set 1 (.lst (is.reverse.map W.ref ++ [.ref st.length]))) (st.length :: is) ([] :: lv) := by
    have l1 := at_lt r.c1
    refine ⟨?_, .cons ?_ (pat_imp r.lvs fun i ds hi h => at_set (at_app h) fun z => r.n1 (z ▸ hi)), ?_, ?_⟩
    · rw [get_set g1]; simp
    · exact at_set (by unfold At; simp) (by omega)
    · rw [List.nodup_cons]
      exact ⟨fun h => Nat.lt_irrefl _ (pat_lt r.lvs _ h), r.nd⟩
    · intro h
      rcases List.mem_cons.mp h with h | h
      · omega
      · exact r.n1 h
  refine ⟨_, rep, ?_⟩
  have h0 : cmpV .Eq st (vStr (S [40])) (vStr ⟨#[40]⟩) = some true := eq_S st [40] [40]
  have hr := recv_c r.c1
  have ha := app_c (x := .ref st.length) g1 (by simp only [List.length_map, List.length_reverse]; omega)
  have hx : evE C (.mth .append (.var 1) [(.cel (.lst false []))]) (sgR x (some (.d (dS [40]))) o3) st = .ok vNone ((st ++ [Cell.lst []]).set 1 (.lst (is.reverse.map W.ref ++ [.ref st.length]))) :=
    ev_mth (r := (vNone, _)) (ev_var rfl) hr (es_cons (ev_cel (ev_lst es_nil rfl rfl) rfl) es_nil) ha
  have hc := chk C x (some (.d (dS [40]))) o3 _ _ rep.c1
  have el : (21 ≤ (st.length :: is).length) = (20 ≤ is.length) := by simp only [List.length_cons]; exact propext ⟨fun h => by omega, fun h => by omega⟩
  simp only [el] at hc
  apply frF_ok rfl
  refine ss_cons (fl := .nx (sgR x (some (.d (dS [40]))) o3)) ?_ (nx_nx hc)
  repeat' (first | with_reducible exact h0 | with_reducible exact hx | decreasing_trivial_pre_omega | rfl)
theorem turn_atom (C : CE) (x : D) (o2 o3 : Option W) (st : Sto) (i : Nat) (is : List Nat) (top : List D) (lv : List (List D)) (t : List Nat) (r : Rep st (i :: is) (top :: lv)) (h40 : t ≠ [40]) (h41 : t ≠ [41]) (hl : is.length < 20) (ht : top.length ≤ 100000) :
    ∃ st', Rep st' (i :: is) ((top ++ [dS t]) :: lv) ∧ frF C (.nm 2) bodyR (.d (dS t)) (sgR x o2 o3) st = .ok (.nx (sgR x (some (.d (dS t))) o3)) st' := by
  cases r.lvs with
  | cons a rest =>
  have hnd := List.nodup_cons.mp r.nd
  have hi1 : i ≠ 1 := fun z => r.n1 (z ▸ List.mem_cons_self ..)
  have rep : Rep (st.set i (.lst (top.map W.d ++ [.d (dS t)]))) (i :: is) ((top ++ [dS t]) :: lv) := by
    refine ⟨?_, .cons ?_ (pat_imp rest fun j ds hj h => at_set h fun z => hnd.1 (z ▸ hj)), r.nd, r.n1⟩
    · rw [List.getElem?_set_ne hi1]; exact r.c1
    · show (st.set i _)[i]? = _
      rw [get_set a]; simp
  refine ⟨_, rep, ?_⟩
  have h0 : cmpV .Eq st (vStr (S t)) (vStr ⟨#[40]⟩) = some false := by
    have := eq_S st t [40]
    rw [decide_eq_false h40] at this
    exact this
  have h1 : cmpV .NotEq st (vStr (S t)) (vStr ⟨#[41]⟩) = some true := by
    have := ne_S st t [41]
    rw [decide_eq_false h41] at this
    exact this
  have hi := last_c r.c1
  have hr := recv_c a
  have ha := app_c (x := .d (dS t)) a (by rw [List.length_map]; exact ht)
  have hx : evE C (.mth .append (.ix (.var 1) (.neg (.cst (.int 1)))) [(.var 2)]) (sgR x (some (.d (dS t))) o3) st = .ok vNone (st.set i (.lst (top.map W.d ++ [.d (dS t)]))) :=
    ev_mth (r := (vNone, _)) (ev_ix (ev_var rfl) (ev_neg ev_cst rfl) hi) hr (es_cons (ev_var rfl) es_nil) ha
  have hc := chk C x (some (.d (dS t))) o3 _ _ rep.c1
  rw [if_neg (by simp only [List.length_cons]; omega)] at hc
  apply frF_ok rfl
  refine ss_cons (fl := .nx (sgR x (some (.d (dS t))) o3)) ?_ (nx_nx hc)
  repeat' (first | with_reducible exact h0 | with_reducible exact h1 | with_reducible exact hx | decreasing_trivial_pre_omega | rfl)
theorem turn_end (C : CE) (x : D) (o2 o3 : Option W) (st : Sto) (i : Nat) (top : List D) (r : Rep st [i] [top]) :
    frF C (.nm 2) bodyR (.d (dS [41])) (sgR x o2 o3) st = .ok (.rt vNone) st := by
  have h0 : cmpV .Eq st (vStr (S [41])) (vStr ⟨#[40]⟩) = some false := eq_S st [41] [40]
  have h1 : cmpV .NotEq st (vStr (S [41])) (vStr ⟨#[41]⟩) = some false := ne_S st [41] [41]
  have h2 := len_c r.c1
  have h3 := eq1 st 1
  repeat' (first | with_reducible exact h0 | with_reducible exact h1 | with_reducible exact h2 | with_reducible exact h3 | decreasing_trivial_pre_omega | rfl)
theorem turn_close (C : CE) (x : D) (o2 o3 : Option W) (st : Sto) (i j : Nat) (is : List Nat) (top b : List D) (lv : List (List D)) (r : Rep st (i :: j :: is) (top :: b :: lv)) (hl : is.length < 20) (ht : b.length ≤ 100000) :
    ∃ st', Rep st' (j :: is) ((b ++ [.tuple top]) :: lv) ∧ frF C (.nm 2) bodyR (.d (dS [41])) (sgR x o2 o3) st = .ok (.nx (sgR x (some (.d (dS [41]))) (some (.d (.tuple top))))) st' := by
  cases r.lvs with
  | cons a rest =>
  cases rest with
  | cons a2 rest =>
  have hnd := List.nodup_cons.mp r.nd
  have hnd2 := List.nodup_cons.mp hnd.2
  have hi1 : i ≠ 1 := fun z => r.n1 (z ▸ List.mem_cons_self ..)
  have hj1 : j ≠ 1 := fun z => r.n1 (z ▸ List.mem_cons_of_mem _ (List.mem_cons_self ..))
  have g1 : (st.set 1 (.lst ((j :: is).reverse.map W.ref)))[1]? = some (.lst ((j :: is).reverse.map W.ref)) := get_set r.c1
  have aj : At (st.set 1 (.lst ((j :: is).reverse.map W.ref))) j b := at_set a2 (fun z => hj1 z.symm)
  have ai : At (st.set 1 (.lst ((j :: is).reverse.map W.ref))) i top := at_set a (fun z => hi1 z.symm)
  have rep : Rep ((st.set 1 (.lst ((j :: is).reverse.map W.ref))).set j (.lst (b.map W.d ++ [.d (.tuple top)]))) (j :: is) ((b ++ [.tuple top]) :: lv) := by
    refine ⟨?_, .cons ?_ (pat_imp rest fun k ds hk h => at_set (at_set h fun z => r.n1 (z ▸ List.mem_cons_of_mem _ (List.mem_cons_of_mem _ hk))) fun z => hnd2.1 (z ▸ hk)), hnd.2, fun h => r.n1 (List.mem_cons_of_mem _ h)⟩
    · rw [List.getElem?_set_ne hj1]; exact g1
    · show (List.set _ j _)[j]? = _
      rw [get_set aj]; simp
  refine ⟨_, rep, ?_⟩
  have h0 : cmpV .Eq st (vStr (S [41])) (vStr ⟨#[40]⟩) = some false := eq_S st [41] [40]
  have h1 : cmpV .NotEq st (vStr (S [41])) (vStr ⟨#[41]⟩) = some false := ne_S st [41] [41]
  have h2 := len_c r.c1
  have h3 := eq1 st (i :: j :: is).length
  rw [decide_eq_false (by simp only [List.length_cons]; omega)] at h3
  have hp := pop_c r.c1
  have hrp := recvp_c r.c1
  have hpx : evE C (.mth .pop (.var 1) []) (sgR x (some (.d (dS [41]))) o3) st = .ok (.w (.ref i)) (st.set 1 (.lst ((j :: is).reverse.map W.ref))) :=
    ev_mth (r := (.w (.ref i), _)) (ev_var rfl) hrp es_nil hp
  have htp := tup_c ai
  have hi := last_c g1
  have hr := recv_c aj
  have ha := app_c (x := .d (.tuple top)) aj (by rw [List.length_map]; exact ht)
  have hx : evE C (.mth .append (.ix (.var 1) (.neg (.cst (.int 1)))) [(.var 3)]) (sgR x (some (.d (dS [41]))) (some (.d (.tuple top)))) (st.set 1 (.lst ((j :: is).reverse.map W.ref))) = .ok vNone ((st.set 1 (.lst ((j :: is).reverse.map W.ref))).set j (.lst (b.map W.d ++ [.d (.tuple top)]))) :=
    ev_mth (r := (vNone, _)) (ev_ix (ev_var rfl) (ev_neg ev_cst rfl) hi) hr (es_cons (ev_var rfl) es_nil) ha
  have hc := chk C x (some (.d (dS [41]))) (some (.d (.tuple top))) _ _ rep.c1
  rw [if_neg (by simp only [List.length_cons]; omega)] at hc
  apply frF_ok rfl
  refine ss_cons (fl := .nx (sgR x (some (.d (dS [41]))) (some (.d (.tuple top))))) ?_ (nx_nx hc)
  repeat' (first | with_reducible exact h0 | with_reducible exact h1 | with_reducible exact h2 | with_reducible exact h3 | with_reducible exact hpx | with_reducible exact htp | with_reducible exact hx | decreasing_trivial_pre_omega | rfl)
end K1
set_option maxHeartbeats 4000001
namespace K1
open PySem MP
local macro_rules | `(tactic| decreasing_trivial_pre_omega) => `(tactic| first
  | simp only [List.map_nil, List.append_nil, List.nil_append, List.cons_append, List.map_cons, List.set_cons_zero, List.set_cons_succ, List.length_nil]
  | with_reducible exact ev_cst | with_reducible apply ev_cel | with_reducible apply ev_var | with_reducible apply ev_bin | with_reducible apply ev_cmp | with_reducible apply ev_ix | with_reducible apply ev_nt | with_reducible apply ev_an | with_reducible apply ev_orr
  | with_reducible apply ev_ife | with_reducible apply ev_cmp2 | with_reducible apply ev_cmp2b | with_reducible apply ev_tup | with_reducible apply ev_lst | with_reducible exact ev_dis | with_reducible apply ev_neg | with_reducible apply ev_sl
  | with_reducible exact eo_none | with_reducible apply eo_some | with_reducible apply ev_call | with_reducible apply ev_blt | with_reducible apply ev_mth | with_reducible apply ev_isi | with_reducible apply ev_lc
  | with_reducible exact ec_nil | with_reducible apply ec_one | with_reducible exact es_nil | with_reducible apply es_cons | with_reducible apply sr_it | with_reducible apply sr_rng1 | with_reducible apply sr_rng2 | with_reducible apply sr_enm | with_reducible apply sr_zp
  | with_reducible apply pick_t | with_reducible apply pick_f | refine pick_tE (by rfl) ?_ | refine pick_fE (by rfl) ?_ | with_reducible apply nx_nx | with_reducible exact nx_rt | with_reducible exact nx_bk | with_reducible exact nx_ct | with_reducible exact ss_nil | with_reducible apply ss_cons | with_reducible apply s_asg | with_reducible apply s_own
  | with_reducible apply s_unp | with_reducible apply s_par | with_reducible apply s_set | with_reducible apply s_ex | with_reducible apply s_iff | with_reducible apply s_ret | with_reducible exact s_retN | with_reducible exact s_pss | with_reducible exact s_brk | with_reducible exact s_cnt
  | with_reducible apply s_fr | with_reducible apply fo_items | with_reducible exact fo_nil | with_reducible apply fo_cons | with_reducible apply frF_ok | with_reducible apply nf_nx | with_reducible apply nf_ct | with_reducible exact nf_rt | with_reducible exact nf_bk
  | with_reducible apply ga_items | with_reducible exact ga_nil | with_reducible apply ng_none | with_reducible apply ng_some | with_reducible apply lcF_ok | with_reducible apply lcE | with_reducible apply ga_cons)
theorem tk_len : ∀ (a w : List Nat), (tk w a).length ≤ 2 * a.length + 1
  | [], w => by have := fw_len w; simpa [tk] using this
  | c :: r, w => by
    have hw := fw_len w
    have h1 := tk_len r []
    have h2 := tk_len r (w ++ [c])
    simp only [List.length_cons]
    unfold tk
    split
    · simp only [List.length_append, List.length_cons]; omega
    · split
      · simp only [List.length_append]; omega
      · omega
def Fin1 (C : CE) (x : D) (ts : List (List Nat)) (top : List D) (bel : List (List D)) (st : Sto) (o2 o3 : Option W) : Prop :=
  match runS ts top bel with
  | none => ∃ st', forItems (frF C (.nm 2) bodyR) (wL ts) (sgR x o2 o3) st = .ok (.rt vNone) st'
  | some q => ∃ st' is' o2' o3', forItems (frF C (.nm 2) bodyR) (wL ts) (sgR x o2 o3) st = .ok (.nx (sgR x o2' o3')) st' ∧ Rep st' is' (q.1 :: q.2)
theorem fin_step {C : CE} {x : D} {t : List Nat} {ts : List (List Nat)} {top : List D} {bel : List (List D)} {st st' : Sto} {o2 o3 p2 p3 : Option W} {q : List D × List (List D)} (h1 : stp t top bel = some q) (h2 : ¬ 20 ≤ q.2.length)
    (h : frF C (.nm 2) bodyR (.d (dS t)) (sgR x o2 o3) st = .ok (.nx (sgR x p2 p3)) st') (k : Fin1 C x ts q.1 q.2 st' p2 p3) : Fin1 C x (t :: ts) top bel st o2 o3 := by
  have e : runS (t :: ts) top bel = runS ts q.1 q.2 := by simp only [runS, h1, if_neg h2]
  unfold Fin1 at k ⊢
  rw [e]
  cases q2 : runS ts q.1 q.2 with
  | none => rw [q2] at k; obtain ⟨s2, k⟩ := k; exact ⟨s2, fo_cons h (nf_nx k)⟩
  | some r => rw [q2] at k; obtain ⟨s2, is', a, b, k, r'⟩ := k; exact ⟨s2, is', a, b, fo_cons h (nf_nx k), r'⟩
theorem fin_stop {C : CE} {x : D} {t : List Nat} {ts : List (List Nat)} {top : List D} {bel : List (List D)} {st st' : Sto} {o2 o3 : Option W} (e : runS (t :: ts) top bel = none)
    (h : frF C (.nm 2) bodyR (.d (dS t)) (sgR x o2 o3) st = .ok (.rt vNone) st') : Fin1 C x (t :: ts) top bel st o2 o3 := by
  unfold Fin1
  rw [e]
  exact ⟨st', fo_cons h nf_rt⟩
theorem walk_R (C : CE) (x : D) : ∀ (ts : List (List Nat)) (top : List D) (bel : List (List D)) (is : List Nat) (st : Sto) (o2 o3 : Option W), Rep st is (top :: bel) → is.length ≤ 20 → (∀ l ∈ top :: bel, l.length + ts.length ≤ 100000) → Fin1 C x ts top bel st o2 o3
  | [], top, bel, is, st, o2, o3, r, hl, hs => ⟨st, is, o2, o3, fo_nil, r⟩
  | t :: ts, top, bel, is, st, o2, o3, r, hl, hs => by
    have hlen := paired_len r.lvs
    simp only
          [List.length_cons] at hlen
    have hs' : ∀ l ∈ top :: bel, l.length + ts.length + 1 ≤ 100000 := fun l h => by have := hs l h; simp only [List.length_cons] at this; omega
    have ht := hs' top (List.mem_cons_self ..)
    by_cases h40 : t = [40]
    · subst h40
      obtain ⟨st', rep, h⟩ := turn_open C x o2 o3 st is (top :: bel) r (by omega)
      have e1 : stp [40] top bel = some ([], top :: bel) := rfl
      by_cases hf : 20 ≤ is.length
      · rw [if_pos hf] at h
        refine fin_stop ?_ h
        simp only [runS, e1]
        rw [if_pos (by simp only [List.length_cons]; omega)]
      · rw [if_neg hf] at h
        refine fin_step e1 (by simp only [List.length_cons]; omega) h (walk_R C x ts _ _ _ _ _ _ rep (by simp only [List.length_cons]; omega) fun l hm => ?_)
        rcases List.mem_cons.mp
              hm with rfl | hm
        · simp only [List.length_nil]; omega
        · have := hs' l hm; omega
    · by_cases h41 : t = [41]
      · subst h41
        cases bel with
        | nil =>
          cases r.lvs with
          | cons a rest =>
          cases rest
          exact fin_stop rfl (turn_end C x o2 o3 st _ top r)
        | cons b rest =>
          cases r.lvs with
          | cons a r2 =>
          cases r2 with
          | cons a2 r2 =>
          have hb := hs' b (List.mem_cons_of_mem _ (List.mem_cons_self ..))
          simp only [List.length_cons] at hl hlen
          obtain ⟨st', rep, h⟩ := turn_close C x o2 o3 st _ _ _ top b rest r (by omega) (by omega)
          have e1 : stp [41] top (b :: rest) = some (b ++ [.tuple top], rest) := rfl
          refine fin_step e1 (by show ¬ 20 ≤ rest.length; omega) h (walk_R C x ts _ _ _ _ _ _ rep (by simp only [List.length_cons]; omega) fun l hm => ?_)
          rcases List.mem_cons.mp
                hm with rfl | hm
          · simp only [List.length_append, List.length_cons, List.length_nil]; omega
          · have := hs' l (List.mem_cons_of_mem _ (List.mem_cons_of_mem _ hm)); omega
      · cases r.lvs with
        | cons a rest =>
        simp only [List.length_cons] at hl hlen
        obtain ⟨st', rep, h⟩ := turn_atom C x o2 o3 st _ _ top bel t r h40 h41 (by omega) (by omega)
        have e1 : stp t top bel = some (top ++ [dS t], bel) := by simp only [stp, if_neg h40, if_neg h41]
        refine fin_step e1 (by show ¬ 20 ≤ bel.length; omega) h (walk_R C x ts _ _ _ _ _ _ rep (by simp only [List.length_cons]; omega) fun l hm => ?_)
        rcases List.mem_cons.mp
              hm with rfl | hm
        · simp only [List.length_append, List.length_cons, List.length_nil]; omega
        · have := hs' l (List.mem_cons_of_mem _ hm); omega
/-- what read_sexpr tells -/
def pickS : List D × List (List D) → D
  | ([v], []) => v
  | _ => .none
def readS (ts : List (List Nat)) : D := match runS ts [] [] with
  | some q => pickS q
  | none => .none
abbrev retR : E := .ife (.an (.cmp .Eq (.blt .len [(.var 1)]) (.cst (.int 1))) (.cmp .Eq (.blt .len [(.ix (.var 1) (.cst (.int 0)))]) (.cst (.int 1)))) (.ix (.ix (.var 1) (.cst (.int 0))) (.cst (.int 0))) (.cst PyData.none)
theorem len_i {st : Sto} {i : Nat} {ds : List D} (h : At st i ds) : bltV .len st [.w (.ref i)] = some (vInt ds.length) := by
  unfold At at h
  have e : lenOf st (.w (.ref i)) = some ds.length := by simp only [lenOf, h]; simp
  simp only [bltV, e]
  rfl
theorem ix_i {st : Sto} {i : Nat} {xs : List W} {w : W} (h : st[i]? = some (.lst xs)) (h0 : xs[0]? = some w) : ixV st (.w (.ref i)) (vInt 0) = some (.w w) := by
  have e : listOf' st (.w (.ref i)) = some xs := by
    show (match st[i]? with | some (Cell.lst xs) => some xs | _ => none) = _
    rw [h]
  have e2 : L2.atI xs 0 = some w := L2.atI_nat (j := 0) h0
  show ((listOf' st (.w (.ref i))).bind fun xs => (int? (vInt 0)).bind fun i => (L2.atI xs i).map Val.w) = _
  rw [e]
  show (L2.atI xs 0).map Val.w = _
  rw [e2]; rfl
theorem ret_ok (C : CE) (x : D) (o2 o3 : Option W) (st : Sto) (is : List Nat) (top : List D) (bel : List (List D)) (r : Rep st is (top :: bel)) :
    evE C retR (sgR x o2 o3) st = .ok (.w (.d (pickS (top, bel)))) st := by
  have h1 := len_c r.c1
  have h2 := eq1 st is.length
  have hlen := paired_len r.lvs
  cases bel with
  | cons b bel =>
    rw [decide_eq_false (by simp only [List.length_cons] at hlen; omega)] at h2
    have e : pickS (top, b :: bel) = .none := by cases top with
      | nil => rfl
      | cons y ys => cases ys <;> rfl
    rw [e]
    repeat' (first | with_reducible exact h1 | with_reducible exact h2 | decreasing_trivial_pre_omega | rfl)
  | nil =>
    rw [decide_eq_true (by simpa using hlen)] at h2
    cases r.lvs with
    | cons a rest =>
    cases rest
    rename_i i
    have hc : st[1]? = some (.lst [W.ref i]) := r.c1
    have h3 := ix_i hc rfl
    have h4 := len_i a
    have h5 := eq1 st top.length
    by_cases hz : top.length = 1
    · rw [decide_eq_true hz] at h5
      obtain ⟨v, rfl⟩ : ∃ v, top = [v] := by
        match top, hz with
        | [v], _ => exact ⟨v, rfl⟩
      have h6 : ixV st (.w (.ref i)) (vInt 0) = some (.w (.d (pickS ([v], [])))) := ix_i a rfl
      repeat' (first | with_reducible exact h1 | with_reducible exact h2 | with_reducible exact h3 | with_reducible exact h4 | with_reducible exact h5 | with_reducible exact h6 | decreasing_trivial_pre_omega | rfl)
    · rw [decide_eq_false hz] at h5
      have e : pickS (top, []) = .none := by
        match top, hz with
        | [], _ => rfl
        | [v], h => exact absurd rfl h
        | _ :: _ :: _, _ => rfl
      rw [e]
      repeat' (first | with_reducible exact h1 | with_reducible exact h2 | with_reducible exact h3 | with_reducible exact h4 | with_reducible exact h5 | decreasing_trivial_pre_omega | rfl)
theorem read_ok (n : Nat) (a : List Nat) (h9 : 9 ∉ a) (hl : a.length ≤ 10000) : ∃ st, Rn (n + 3) 2 [.d (dS a)] [] = .ok (.w (.d (readS (toks a)))) st := by
  have rep : Rep [Cell.lst [], Cell.lst [.ref 0]] [0] [[]] := ⟨rfl, .cons rfl .nil, by simp, by simp⟩
  have hw := walk_R (CN (n + 2)) (dS a) (toks a) [] [] [0] _ none none rep (by simp) (fun l hm => by
    rw [List.mem_singleton] at hm
    subst hm
    have := tk_len a []
    show 0 + (tk [] a).length ≤ 100000
    omega)
  have ht := toks_ok n a [] h9 hl
  have hcall : callV (CN (n + 2)) 1 [.d (dS a)] [Cell.lst [], Cell.lst [.ref 0]] = .ok (.fl (wL (toks a))) [Cell.lst [], Cell.lst [.ref 0]] := cl_pure (C := CN (n + 2)) rfl ht (wl_below 0 [] _)
  have hi : itOf [Cell.lst [], Cell.lst [.ref 0]] (.fl (wL (toks a))) = some (.items (wL (toks a))) := rfl
  unfold Fin1 at hw
  cases q : runS (toks a) [] [] with
  | none =>
    rw [q] at hw
    obtain ⟨st', hw⟩ := hw
    refine ⟨st', ?_⟩
    have hw : forItems (frF (CN (n + 2)) (.nm 2) bodyR) (wL (toks a)) [some (.d (dS a)), some (.ref [Cell.lst []].length), none, none] [Cell.lst [], Cell.lst [.ref 0]] = .ok (.rt vNone) st' := hw
    have e : readS (toks a) = .none := by unfold readS; rw [q]
    rw [e]
    apply run_fn (fn := f2) rfl rfl rfl
    simp only [f2, b2, entry, List.map_cons, List.map_nil, List.replicate, List.cons_append, List.nil_append, Nat.reduceSub]
    repeat' (first | with_reducible exact hcall | with_reducible exact hi | with_reducible exact hw | decreasing_trivial_pre_omega | rfl)
  | some r =>
    rw [q] at hw
    obtain ⟨st', is', o2, o3, hw, rep'⟩ := hw
    have hr := ret_ok (CN (n + 2)) (dS a) o2 o3 st' is' r.1 r.2 rep'
    refine ⟨st', ?_⟩
    have hw : forItems (frF (CN (n + 2)) (.nm 2) bodyR) (wL (toks a)) [some (.d (dS a)), some (.ref [Cell.lst []].length), none, none] [Cell.lst [], Cell.lst [.ref 0]] = .ok (.nx (sgR (dS a) o2 o3)) st' := hw
    have e : readS (toks a) = pickS (r.1, r.2) := by unfold readS; rw [q]
    rw [e]
    apply run_fn (fn := f2) rfl rfl rfl
    simp only [f2, b2, entry, List.map_cons, List.map_nil, List.replicate, List.cons_append, List.nil_append, Nat.reduceSub]
    repeat' (first | with_reducible exact hcall | with_reducible exact hi | with_reducible exact hw | with_reducible exact hr | decreasing_trivial_pre_omega | rfl)
end K1
set_option maxHeartbeats 4000001
namespace K1
open PySem MP
local macro_rules | `(tactic| decreasing_trivial_pre_omega) => `(tactic| first
  | simp only [List.map_nil, List.append_nil, List.nil_append, List.cons_append, List.map_cons, List.set_cons_zero, List.set_cons_succ, List.length_nil]
  | with_reducible exact ev_cst | with_reducible apply ev_cel | with_reducible apply ev_var | with_reducible apply ev_bin | with_reducible apply ev_cmp | with_reducible apply ev_ix | with_reducible apply ev_nt | with_reducible apply ev_an | with_reducible apply ev_orr
  | with_reducible apply ev_ife | with_reducible apply ev_cmp2 | with_reducible apply ev_cmp2b | with_reducible apply ev_tup | with_reducible apply ev_lst | with_reducible exact ev_dis | with_reducible apply ev_neg | with_reducible apply ev_sl
  | with_reducible exact eo_none | with_reducible apply eo_some | with_reducible apply ev_call | with_reducible apply ev_blt | with_reducible apply ev_mth | with_reducible apply ev_isi | with_reducible apply ev_lc
  | with_reducible exact ec_nil | with_reducible apply ec_one | with_reducible exact es_nil | with_reducible apply es_cons | with_reducible apply sr_it | with_reducible apply sr_rng1 | with_reducible apply sr_rng2 | with_reducible apply sr_enm | with_reducible apply sr_zp
  | with_reducible apply pick_t | with_reducible apply pick_f | refine pick_tE (by rfl) ?_ | refine pick_fE (by rfl) ?_ | with_reducible apply nx_nx | with_reducible exact nx_rt | with_reducible exact nx_bk | with_reducible exact nx_ct | with_reducible exact ss_nil | with_reducible apply ss_cons | with_reducible apply s_asg | with_reducible apply s_own
  | with_reducible apply s_unp | with_reducible apply s_par | with_reducible apply s_set | with_reducible apply s_ex | with_reducible apply s_iff | with_reducible apply s_ret | with_reducible exact s_retN | with_reducible exact s_pss | with_reducible exact s_brk | with_reducible exact s_cnt
  | with_reducible apply s_fr | with_reducible apply fo_items | with_reducible exact fo_nil | with_reducible apply fo_cons | with_reducible apply frF_ok | with_reducible apply nf_nx | with_reducible apply nf_ct | with_reducible exact nf_rt | with_reducible exact nf_bk
  | with_reducible apply ga_items | with_reducible exact ga_nil | with_reducible apply ng_none | with_reducible apply ng_some | with_reducible apply lcF_ok | with_reducible apply lcE | with_reducible apply ga_cons)
/-! _law_read: a reader that goes down -/
abbrev Tk := List (List Nat)
def rdL : Nat → Nat → Tk → List D → Option (List D) × Tk
  | 0, _, ts, _ => (none, ts)
  | _ + 1, _, [], _ => (none, [])
  | n + 1, deep, t :: r, acc => if t = [41] then (some acc, r) else if 20 < deep + 1 then (none, t :: r) else if t = [40] then (match rdL n (deep + 1) r [] with
      | (some vs, r') => rdL n deep r' (acc ++ [.tuple vs])
      | (none, r') => (none, r')) else rdL n deep r (acc ++ [dS t])
def rdC (n deep : Nat) : Tk → Option D × Tk
  | [] => (none, [])
  | t :: r => if t = [41] ∨ 20 < deep then (none, t :: r) else if t = [40] then (match rdL n deep r [] with
      | (some vs, r') => (some (.tuple vs), r')
      | (none, r') => (none, r')) else (some (dS t), r)
theorem rdL_len : ∀ (n deep : Nat) (ts : Tk) (acc : List D), (rdL n deep ts acc).2.length ≤ ts.length ∧ ((rdL n deep ts acc).1.isSome → (rdL n deep ts acc).2.length < ts.length)
  | 0, _, ts, _ => ⟨Nat.le_refl _, fun h => by simp [rdL] at h⟩
  | n + 1, _, [], _ => ⟨Nat.le_refl _, fun h => by simp [rdL] at h⟩
  | n + 1, deep, t :: r, acc => by
    simp only [rdL]
    split
    · exact ⟨by simp, fun _ => by simp⟩
    · split
      · exact ⟨Nat.le_refl _, fun h => by simp at h⟩
      · split
        · have h1 := rdL_len n (deep + 1) r []
          split
          · rename_i vs r' e
            rw [e] at h1
            have h2 := rdL_len n deep r' (acc ++ [.tuple vs])
            have h3 := h1.2 rfl
            simp only at h3
            simp only [List.length_cons]
            exact ⟨by omega, fun h => by have := h2.2 h; omega⟩
          · rename_i r' e
            rw [e] at h1
            simp only at h1
            simp only [List.length_cons]
            exact ⟨by omega, fun h => by simp at h⟩
        · have h2 := rdL_len n deep r (acc ++ [dS t])
          simp only [List.length_cons]
          exact ⟨by omega, fun h => by have := h2.2 h; omega⟩
theorem rdC_len (n deep : Nat) (ts : Tk) : (rdC n deep ts).2.length ≤ ts.length ∧ ((rdC n deep ts).1.isSome → (rdC n deep ts).2.length < ts.length) := by
  cases ts with
  | nil => exact ⟨Nat.le_refl _, fun h => by simp [rdC] at h⟩
  | cons t r =>
    simp only [rdC]
    split
    · exact ⟨Nat.le_refl _, fun h => by simp at h⟩
    · split
      · have h1 := rdL_len n deep r []
        split
        · rename_i vs r' e
          rw [e] at h1
          have := h1.2 rfl
          simp only at this
          simp only [List.length_cons]
          exact ⟨by omega,
                fun _ => by omega⟩
        · rename_i r' e
          rw [e] at h1
          simp only [List.length_cons]
          exact ⟨by simp only at h1; omega, fun h => by simp at h⟩
      · exact ⟨by simp, fun _ => by simp⟩
/-- one turn of the list's reading, by the reader of one -/
theorem rdL_step (n deep : Nat) (t : List Nat) (r : Tk) (acc : List D) (h : t ≠ [41]) : rdL (n + 1) deep (t :: r) acc = (match rdC n (deep + 1) (t :: r) with
    | (some v, r') => rdL n deep r' (acc ++ [v])
    | (none, r') => (none, r')) := by
  simp only [rdL, rdC, if_neg h]
  by_cases hd : 20 < deep + 1
  · simp [hd]
  · simp only [hd, if_false, h, false_or]
    by_cases h4 : t = [40]
    · simp only [h4, if_true]
      rcases rdL n (deep + 1) r [] with ⟨v, r'⟩
      cases v <;> rfl
    · simp [h4]
abbrev lD (L : Tk) : D := .list (L.map dS)
theorem len_L (st : Sto) (L : Tk) : bltV .len st [.w (.d (lD L))] = some (vInt L.length) := by
  have e : lenOf st (.w (.d (lD L))) = some L.length := by
    show (some ((L.map dS).map W.d)).map List.length = _
    simp
  simp only [bltV, e]
  rfl
theorem ix_L (st : Sto) (L : Tk) (p : Nat) (t : List Nat) (h : L[p]? = some t) : ixV st (.w (.d (lD L))) (vInt p) = some (vStr (S t)) := by
  refine ix_list st (L.map dS) p (dS t) ?_
  rw [List.getElem?_map, h]; rfl
theorem ge_n (st : Sto) (p n : Nat) : cmpV .GtE st (vInt p) (vInt n) = some (decide (n ≤ p)) := by
  show some (decide ((n : Int) ≤ (p : Int))) = _
  congr 1
  by_cases h : n ≤ p
  · rw [decide_eq_true h, decide_eq_true (by omega)]
  · rw [decide_eq_false h, decide_eq_false (by omega)]
theorem lt_n (st : Sto) (p n : Nat) : cmpV .Lt st (vInt p) (vInt n) = some (decide (p < n)) := by
  show some (decide ((p : Int) < (n : Int))) = _
  congr 1
  by_cases h : p < n
  · rw [decide_eq_true h, decide_eq_true (by omega)]
  · rw [decide_eq_false h, decide_eq_false (by omega)]
theorem drop_nil {L : Tk} {p : Nat} (h : L.drop p = []) : L.length ≤ p := List.drop_eq_nil_iff.mp h
theorem drop_cons {L : Tk} {p : Nat} {t : List Nat} {r : Tk} (h : L.drop p = t :: r) : p < L.length ∧ L[p]? = some t ∧ L.drop (p + 1) = r := by
  have hp : p < L.length := by
    by_cases hp : p < L.length
    · exact hp
    · rw [List.drop_eq_nil_of_le (by omega)] at h; cases h
  rw [List.drop_eq_getElem_cons hp] at h
  injection h with h1 h2
  exact ⟨hp, by rw [List.getElem?_eq_getElem hp, h1], h2⟩
abbrev sg10 (L : Tk) (p deep : Nat) (o : Option W) : MP.Env := [some (.d (lD L)), some (.d (.int p)), some (.d (.int deep)), some (.ref 0), o]
abbrev cW : E := .an (.cmp .Lt (.var 1) (.blt .len [(.var 0)])) (.cmp .NotEq (.ix (.var 0) (.var 1)) (.cst (.str ⟨#[41]⟩)))
abbrev bW : List MP.S := [(.unp [(.nm 4), (.nm 1)] (.call 10 [(.var 0), (.var 1), (.bin .Add (.var 2) (.cst (.int 1)))] [])), (.iff (.cmp .Is (.var 4) (.cst PyData.none)) [(.ret (some (.tup [(.cst PyData.none), (.var 1)])))] []), (.ex (.mth .append (.var 3) [(.var 4)]))]
/-- the loop's test -/
theorem tst_W (C : CE) (L : Tk) (p deep : Nat) (o : Option W) (st : Sto) : evB C cW (sg10 L p deep o) st = .ok (match L.drop p with | [] => false | t :: _ => decide (t ≠ [41])) st := by
  have h1 := len_L st L
  have h2 := lt_n st p L.length
  cases e : L.drop p with
  | nil =>
    rw [decide_eq_false (by have := drop_nil e; omega)] at h2
    have : evE C cW (sg10 L p deep o) st = .ok (vBool false) st := by
      repeat' (first | with_reducible exact h1 | with_reducible exact h2 | decreasing_trivial_pre_omega | rfl)
    simp only [evB, this, Out.bind]; rfl
  | cons t r =>
    obtain ⟨g1, g2, g3⟩ := drop_cons e
    rw [decide_eq_true g1] at h2
    have h3 := ix_L st L p t g2
    have h4 : cmpV .NotEq st (vStr (S t)) (vStr ⟨#[41]⟩) = some (!decide (t = [41])) := ne_S st t [41]
    have : evE C cW (sg10 L p deep o) st = .ok (vBool (!decide (t = [41]))) st := by
      repeat' (first | with_reducible exact h1 | with_reducible exact h2 | with_reducible exact h3 | with_reducible exact h4 | decreasing_trivial_pre_omega | rfl)
    simp only [evB, this, Out.bind]
    show Out.ok (!decide (t = [41])) st = _
    simp
theorem add1_ev (st : Sto) (p : Nat) : binV .Add st (vInt p) (vInt 1) = some (vInt ((p + 1 : Nat) : Int)) := rfl
/-- what a call of the reader tells -/
def Told (C : CE) (L : Tk) (p deep : Nat) (q : Option D × Tk) : Prop := ∃ p' : Nat, p' ≤ L.length ∧ L.drop p' = q.2 ∧ ∀ st, callV C 10 [.d (lD L), .d (.int p), .d (.int deep)] st = .ok (vTup [q.1.getD .none, .int p']) st
theorem turn_W (C : CE) (L : Tk) (p deep : Nat) (o : Option W) (xs : List W) (v : D) (p' : Nat) (hv : (∃ x, v = .str x) ∨ ∃ x, v = .tuple x) (hl : xs.length ≤ 100000)
    (hc : ∀ st, callV C 10 [.d (lD L), .d (.int p), .d (.int ((deep + 1 : Nat) : Int))] st = .ok (vTup [v, .int p']) st) :
    evSs C bW (sg10 L p deep o) [Cell.lst xs] = .ok (.nx (sg10 L p' deep (some (.d v)))) [Cell.lst (xs ++ [.d v])] := by
  have hc := hc [Cell.lst xs]
  have ha := add1_ev [Cell.lst xs] deep
  have hi : cmpV .Is [Cell.lst xs] (.w (.d v)) vNone = some false := by
    rcases hv with ⟨x, rfl⟩ | ⟨x, rfl⟩ <;> rfl
  have hr : recvOk .append [Cell.lst xs] (.w (.ref 0)) = true := rfl
  have hap : mthV .append [Cell.lst xs] (.w (.ref 0)) [.w (.d v)] = some (vNone, [Cell.lst (xs ++ [.d v])]) := app_last [] xs (.d v) hl
  have hx : evE C (.mth .append (.var 3) [(.var 4)]) (sg10 L p' deep (some (.d v))) [Cell.lst xs] = .ok vNone [Cell.lst (xs ++ [.d v])] :=
    ev_mth (r := (vNone, [Cell.lst (xs ++ [.d v])])) (ev_var rfl) hr (es_cons (ev_var rfl) es_nil) hap
  have hb : bindT (.tp [.nm 4, .nm 1]) (.d (.tuple [v, .int p'])) (sg10 L p deep o) = some (sg10 L p' deep (some (.d v))) := rfl
  repeat' (first | with_reducible exact hc | with_reducible exact ha | with_reducible exact hi | with_reducible exact hx | with_reducible exact hb | decreasing_trivial_pre_omega | rfl)
theorem turn_Wn (C : CE) (L : Tk) (p deep : Nat) (o : Option W) (xs : List W) (p' : Nat)
    (hc : ∀ st, callV C 10 [.d (lD L), .d (.int p), .d (.int ((deep + 1 : Nat) : Int))] st = .ok (vTup [.none, .int p']) st) :
    evSs C bW (sg10 L p deep o) [Cell.lst xs] = .ok (.rt (vTup [.none, .int p'])) [Cell.lst xs] := by
  have hc := hc [Cell.lst xs]
  have ha := add1_ev [Cell.lst xs] deep
  have hi : cmpV .Is [Cell.lst xs] vNone vNone = some true := rfl
  have hb : bindT (.tp [.nm 4, .nm 1]) (.d (.tuple [.none, .int p'])) (sg10 L p deep o) = some (sg10 L p' deep (some (.d .none))) := rfl
  repeat' (first | with_reducible exact hc | with_reducible exact ha | with_reducible exact hi | with_reducible exact hb | decreasing_trivial_pre_omega | rfl)
theorem rdC_kind (n deep : Nat) (ts : Tk) (v : D) (r : Tk) (h : rdC n deep ts = (some v, r)) : (∃ x, v = .str x) ∨ ∃ x, v = .tuple x := by
  cases ts with
  | nil => simp [rdC] at h
  | cons t r' =>
    simp only [rdC] at h
    split at h
    · cases h
    · split at h
      · split at h
        · cases h; exact .inr ⟨_, rfl⟩
        · cases h
      · cases h; exact .inl ⟨_, rfl⟩
/-- the loop, from what the calls within tell -/
theorem loop_W (C : CE) (L : Tk) (deep : Nat) : ∀ (n lf : Nat) (ts : Tk) (p : Nat) (acc : List D) (o : Option W), ts.length < n → ts.length < lf → L.drop p = ts → p ≤ L.length → acc.length + ts.length ≤ 100000 →
    (∀ (m p : Nat), m < n → (L.drop p).length ≤ m → p ≤ L.length → Told C L p (deep + 1) (rdC m (deep + 1) (L.drop p))) →
    match rdL n deep ts acc with
    | (some vs, r) => ∃ p' o', p' < L.length ∧ L.drop (p' + 1) = r ∧ whileL (evB C cW) (evSs C bW) lf (sg10 L p deep o) [Cell.lst (acc.map W.d)] = .ok (.nx (sg10 L p' deep o')) [Cell.lst (vs.map W.d)]
    | (none, r) => ∃ p', p' ≤ L.length ∧ L.drop p' = r ∧ ((∃ o' xs, whileL (evB C cW) (evSs C bW) lf (sg10 L p deep o) [Cell.lst (acc.map W.d)] = .ok (.nx (sg10 L p' deep o')) [Cell.lst xs] ∧ p' = L.length) ∨
        ∃ xs, whileL (evB C cW) (evSs C bW) lf (sg10 L p deep o) [Cell.lst (acc.map W.d)] = .ok (.rt (vTup [.none, .int p'])) [Cell.lst xs])
  | 0, lf, ts, p, acc, o, h, _, _, _, _, _ => by omega
  | n + 1, 0, ts, p, acc, o, _, h, _, _, _, _ => by omega
  | n + 1, lf + 1, [], p, acc, o, h1, h2, hd, hp, hs, ih => by
    have ht := tst_W C L p deep o [Cell.lst (acc.map W.d)]
    rw [hd] at ht
    have hle := drop_nil hd
    have e : p = L.length := by omega
    simp only [rdL]
    refine ⟨p, hp, hd, .inl ⟨o, acc.map W.d, ?_, e⟩⟩
    simp only [whileL, ht, Out.bind]
  | n + 1, lf + 1, t :: r, p, acc, o, h1, h2, hd, hp, hs, ih => by
    have ht := tst_W C L p deep o [Cell.lst (acc.map W.d)]
    rw [hd] at ht
    obtain ⟨g1, g2, g3⟩ := drop_cons hd
    simp only [List.length_cons] at h1 h2 hs
    by_cases h41 : t = [41]
    · subst h41
      have e : rdL (n + 1) deep ([41] :: r) acc = (some acc, r) := by simp [rdL]
      rw [e]
      refine ⟨p, o, g1, g3, ?_⟩
      simp only [ne_eq, not_true, decide_false] at ht
      simp only [whileL, ht, Out.bind]
    · rw [rdL_step n deep t r acc h41]
      have ht : evB C cW (sg10 L p deep o) [Cell.lst (acc.map W.d)] = .ok true [Cell.lst (acc.map W.d)] := by
        rw [ht]; simp [h41]
      have hcall := ih n p (by omega) (by rw [hd]; simp only [List.length_cons]; omega) hp
      rw [hd] at hcall
      obtain ⟨p', k1, k2, k3⟩ := hcall
      have hlen := rdC_len n (deep + 1) (t :: r)
      rcases q : rdC n (deep + 1) (t :: r) with ⟨v, r'⟩
      rw [q] at k2 k3 hlen
      cases v with
      | none =>
        simp only
        have hb := turn_Wn C L p deep o (acc.map W.d) p' k3
        refine ⟨p', k1, k2, .inr ⟨acc.map W.d, ?_⟩⟩
        simp only [whileL, ht, Out.bind, hb]
      | some v =>
        simp only
        have hlt := hlen.2 rfl
        simp only [List.length_cons] at hlt
        have hb := turn_W C L p deep o (acc.map W.d) v p' (rdC_kind _ _ _ _ _ q) (by rw [List.length_map]; omega) k3
        have e : acc.map W.d ++ [W.d v] = (acc ++ [v]).map W.d := by simp
        rw [e] at hb
        have hw : whileL (evB C cW) (evSs C bW) (lf + 1) (sg10 L p deep o) [Cell.lst (acc.map W.d)] = whileL (evB C cW) (evSs C bW) lf (sg10 L p' deep (some (.d v))) [Cell.lst ((acc ++ [v]).map W.d)] := by
          simp only [whileL, ht, Out.bind, hb]
        have rcc := loop_W C L deep n lf r' p' (acc ++ [v]) (some (.d v)) (by omega) (by omega) k2 k1 (by simp only [List.length_append, List.length_cons, List.length_nil]; omega) fun m p hm => ih m p (by omega)
        rw [← hw] at rcc
        exact rcc
end K1
set_option maxHeartbeats 4000001
namespace K1
open PySem MP
local macro_rules | `(tactic| decreasing_trivial_pre_omega) => `(tactic| first
  | simp only [List.map_nil, List.append_nil, List.nil_append, List.cons_append, List.map_cons, List.set_cons_zero, List.set_cons_succ, List.length_nil]
  | with_reducible exact ev_cst | with_reducible apply ev_cel | with_reducible apply ev_var | with_reducible apply ev_bin | with_reducible apply ev_cmp | with_reducible apply ev_ix | with_reducible apply ev_nt | with_reducible apply ev_an | with_reducible apply ev_orr
  | with_reducible apply ev_ife | with_reducible apply ev_cmp2 | with_reducible apply ev_cmp2b | with_reducible apply ev_tup | with_reducible apply ev_lst | with_reducible exact ev_dis | with_reducible apply ev_neg | with_reducible apply ev_sl
  | with_reducible exact eo_none | with_reducible apply eo_some | with_reducible apply ev_call | with_reducible apply ev_blt | with_reducible apply ev_mth | with_reducible apply ev_isi | with_reducible apply ev_lc
  | with_reducible exact ec_nil | with_reducible apply ec_one | with_reducible exact es_nil | with_reducible apply es_cons | with_reducible apply sr_it | with_reducible apply sr_rng1 | with_reducible apply sr_rng2 | with_reducible apply sr_enm | with_reducible apply sr_zp
  | with_reducible apply pick_t | with_reducible apply pick_f | refine pick_tE (by rfl) ?_ | refine pick_fE (by rfl) ?_ | with_reducible apply nx_nx | with_reducible exact nx_rt | with_reducible exact nx_bk | with_reducible exact nx_ct | with_reducible exact ss_nil | with_reducible apply ss_cons | with_reducible apply s_asg | with_reducible apply s_own
  | with_reducible apply s_unp | with_reducible apply s_par | with_reducible apply s_set | with_reducible apply s_ex | with_reducible apply s_iff | with_reducible apply s_ret | with_reducible exact s_retN | with_reducible exact s_pss | with_reducible exact s_brk | with_reducible exact s_cnt
  | with_reducible apply s_fr | with_reducible apply fo_items | with_reducible exact fo_nil | with_reducible apply fo_cons | with_reducible apply frF_ok | with_reducible apply nf_nx | with_reducible apply nf_ct | with_reducible exact nf_rt | with_reducible exact nf_bk
  | with_reducible apply ga_items | with_reducible exact ga_nil | with_reducible apply ng_none | with_reducible apply ng_some | with_reducible apply lcF_ok | with_reducible apply lcE | with_reducible apply ga_cons)
theorem s_wh {C : CE} {c : E} {b : List MP.S} {σ : MP.Env} {st s1 : Sto} {fl : Fl} (h : whileL (evB C c) (evSs C b) C.lf σ st = .ok fl s1) : evS C (.wh c b) σ st = .ok fl s1 := by simp only [evS]; exact h
theorem gt_n (st : Sto) (n : Nat) : cmpV .Gt st (vInt n) (vInt 20) = some (decide (20 < n)) := by
  show some (decide ((20 : Int) < n)) = _
  congr 1
  by_cases h : 20 < n
  · rw [decide_eq_true h, decide_eq_true (by omega)]
  · rw [decide_eq_false h, decide_eq_false (by omega)]
abbrev ev10 (L : Tk) (p deep : Nat) : MP.Env := [some (.d (lD L)), some (.d (.int p)), some (.d (.int deep)), none, none]
theorem told_of {k : Nat} {L : Tk} {p deep p' : Nat} {q : Option D × Tk} {v : D} (hp : p' ≤ L.length) (hd : L.drop p' = q.2) (hv : q.1.getD .none = v) {st' : Sto} (h : Rn k 10 [.d (lD L), .d (.int p), .d (.int deep)] [] = .ok (vTup [v, .int p']) st') : Told (CN k) L p deep q := by
  refine ⟨p', hp, hd, fun st => ?_⟩
  rw [hv]
  exact cl_pure (C := CN k) rfl h rfl
abbrev retE : E := .ife (.cmp .Lt (.var 1) (.blt .len [(.var 0)])) (.tup [(.blt .tuple [(.var 3)]), (.bin .Add (.var 1) (.cst (.int 1)))]) (.tup [(.cst PyData.none), (.var 1)])
theorem ret_t (C : CE) (L : Tk) (p deep : Nat) (o : Option W) (vs : List D) (h : p < L.length) : evE C retE (sg10 L p deep o) [Cell.lst (vs.map W.d)] = .ok (vTup [.tuple vs, .int ((p + 1 : Nat) : Int)]) [Cell.lst (vs.map W.d)] := by
  have h1 := len_L [Cell.lst (vs.map W.d)] L
  have h2 := lt_n [Cell.lst (vs.map W.d)] p L.length
  rw [decide_eq_true h] at h2
  have h3 : bltV .tuple [Cell.lst (vs.map W.d)] [.w (.ref 0)] = some (vTup vs) := tup_c (st := [Cell.lst (vs.map W.d)]) (i := 0) rfl
  have ha := add1_ev [Cell.lst (vs.map W.d)] p
  repeat' (first | with_reducible exact h1 | with_reducible exact h2 | with_reducible exact h3 | with_reducible exact ha | decreasing_trivial_pre_omega | rfl)
theorem ret_n (C : CE) (L : Tk) (p deep : Nat) (o : Option W) (xs : List W) (h : p = L.length) : evE C retE (sg10 L p deep o) [Cell.lst xs] = .ok (vTup [.none, .int p]) [Cell.lst xs] := by
  have h1 := len_L [Cell.lst xs] L
  have h2 := lt_n [Cell.lst xs] p L.length
  rw [decide_eq_false (by omega)] at h2
  repeat' (first | with_reducible exact h1 | with_reducible exact h2 | decreasing_trivial_pre_omega | rfl)
theorem run10_a (k : Nat) (L : Tk) (p deep : Nat) (h : L.drop p = []) : Rn (k + 1) 10 [.d (lD L), .d (.int p), .d (.int deep)] [] = .ok (vTup [.none, .int p]) [] := by
  have h1 := len_L [] L
  have h2 := ge_n [] p L.length
  rw [decide_eq_true (drop_nil h)] at h2
  apply run_fn (fn := f10) rfl rfl rfl
  simp only [f10, b10, entry, List.map_cons, List.map_nil, List.replicate, List.cons_append, List.nil_append, Nat.reduceSub]
  repeat' (first | with_reducible exact h1 | with_reducible exact h2 | decreasing_trivial_pre_omega | rfl)
theorem run10_b (k : Nat) (L : Tk) (p deep : Nat) (r : Tk) (h : L.drop p = [41] :: r) : Rn (k + 1) 10 [.d (lD L), .d (.int p), .d (.int deep)] [] = .ok (vTup [.none, .int p]) [] := by
  obtain ⟨g1, g2, g3⟩ := drop_cons h
  have h1 := len_L [] L
  have h2 := ge_n [] p L.length
  rw [decide_eq_false (by omega)] at h2
  have h3 := ix_L [] L p [41] g2
  have h4 : cmpV .Eq [] (vStr (S [41])) (vStr ⟨#[41]⟩) = some true := eq_S [] [41] [41]
  apply run_fn (fn := f10) rfl rfl rfl
  simp only [f10, b10, entry, List.map_cons, List.map_nil, List.replicate, List.cons_append, List.nil_append, Nat.reduceSub]
  repeat' (first | with_reducible exact h1 | with_reducible exact h2 | with_reducible exact h3 | with_reducible exact h4 | decreasing_trivial_pre_omega | rfl)
theorem run10_c (k : Nat) (L : Tk) (p deep : Nat) (t : List Nat) (r : Tk) (h : L.drop p = t :: r) (h41 : t ≠ [41]) (hd : 20 < deep) : Rn (k + 1) 10 [.d (lD L), .d (.int p), .d (.int deep)] [] = .ok (vTup [.none, .int p]) [] := by
  obtain ⟨g1, g2, g3⟩ := drop_cons h
  have h1 := len_L [] L
  have h2 := ge_n [] p L.length
  rw [decide_eq_false (by omega)] at h2
  have h3 := ix_L [] L p t g2
  have h4 : cmpV .Eq [] (vStr (S t)) (vStr ⟨#[41]⟩) = some false := by
    have := eq_S [] t [41]
    rw [decide_eq_false h41] at this
    exact this
  have h5 := gt_n [] deep
  rw [decide_eq_true hd] at h5
  apply run_fn (fn := f10) rfl rfl rfl
  simp only [f10, b10, entry, List.map_cons, List.map_nil, List.replicate, List.cons_append, List.nil_append, Nat.reduceSub]
  repeat' (first | with_reducible exact h1 | with_reducible exact h2 | with_reducible exact h3 | with_reducible exact h4 | with_reducible exact h5 | decreasing_trivial_pre_omega | rfl)
theorem run10_d (k : Nat) (L : Tk) (p deep : Nat) (t : List Nat) (r : Tk) (h : L.drop p = t :: r) (h41 : t ≠ [41]) (h40 : t ≠ [40]) (hd : ¬ 20 < deep) : Rn (k + 1) 10 [.d (lD L), .d (.int p), .d (.int deep)] [] = .ok (vTup [dS t, .int ((p + 1 : Nat) : Int)]) [] := by
  obtain ⟨g1, g2, g3⟩ := drop_cons h
  have h1 := len_L [] L
  have h2 := ge_n [] p L.length
  rw [decide_eq_false (by omega)] at h2
  have h3 := ix_L [] L p t g2
  have h4 : cmpV .Eq [] (vStr (S t)) (vStr ⟨#[41]⟩) = some false := by
    have := eq_S [] t [41]
    rw [decide_eq_false h41] at this
    exact this
  have h5 := gt_n [] deep
  rw [decide_eq_false hd] at h5
  have h6 : cmpV .NotEq [] (vStr (S t)) (vStr ⟨#[40]⟩) = some true := by
    have := ne_S [] t [40]
    rw [decide_eq_false h40] at this
    exact this
  have ha := add1_ev [] p
  apply run_fn (fn := f10) rfl rfl rfl
  simp only [f10, b10, entry, List.map_cons, List.map_nil, List.replicate, List.cons_append, List.nil_append, Nat.reduceSub]
  repeat' (first | with_reducible exact h1 | with_reducible exact h2 | with_reducible exact h3 | with_reducible exact h4 | with_reducible exact h5 | with_reducible exact h6 | with_reducible exact ha | decreasing_trivial_pre_omega | rfl)
/-- the list's way: up to the loop, and behind it -/
theorem run10_e (k : Nat) (L : Tk) (p deep : Nat) (r : Tk) (h : L.drop p = [40] :: r) (hd : ¬ 20 < deep) (v : Val) (st' : Sto)
    (hw : ∃ fl s1, whileL (evB (CN k) cW) (evSs (CN k) bW) lfN (sg10 L (p + 1) deep none) [Cell.lst []] = .ok fl s1 ∧ nextS fl s1 (fun σ' => evSs (CN k) [.ret (some retE)] σ' s1) = .ok (.rt v) st') : Rn (k + 1) 10 [.d (lD L), .d (.int p), .d (.int deep)] [] = .ok v st' := by
  obtain ⟨fl, s1, hw, hn⟩ := hw
  obtain ⟨g1, g2, g3⟩ := drop_cons h
  have h1 := len_L [] L
  have h2 := ge_n [] p L.length
  rw [decide_eq_false (by omega)] at h2
  have h3 := ix_L [] L p [40] g2
  have h4 : cmpV .Eq [] (vStr (S [40])) (vStr ⟨#[41]⟩) = some false := eq_S [] [40] [41]
  have h5 := gt_n [] deep
  rw [decide_eq_false hd] at h5
  have h6 : cmpV .NotEq [] (vStr (S [40])) (vStr ⟨#[40]⟩) = some false := ne_S [] [40] [40]
  have ha := add1_ev [Cell.lst []] p
  have hq : evSs (CN k) [.wh cW bW, .ret (some retE)] (sg10 L (p + 1) deep none) [Cell.lst []] = .ok (.rt v) st' := ss_cons (s_wh hw) hn
  apply run_fn (fn := f10) rfl rfl rfl
  simp only [f10, b10, entry, List.map_cons, List.map_nil, List.replicate, List.cons_append, List.nil_append, Nat.reduceSub]
  refine ss_cons (fl := .nx (ev10 L p deep)) (s1 := []) ?_ (nx_nx (ss_cons (fl := .nx (ev10 L p deep)) (s1 := []) ?_ (nx_nx (ss_cons (fl := .nx (sg10 L (p + 1) deep none)) (s1 := [Cell.lst []]) ?_ (nx_nx hq)))))
  all_goals repeat' (first | with_reducible exact h1 | with_reducible exact h2 | with_reducible exact h3 | with_reducible exact h4 | with_reducible exact h5 | with_reducible exact h6 | with_reducible exact ha | decreasing_trivial_pre_omega | rfl)
theorem rd_ok (L : Tk) (hL : L.length ≤ 5000) : ∀ (k n deep p : Nat), (L.drop p).length ≤ n → p ≤ L.length → deep ≤ 21 → 22 ≤ k + deep → Told (CN k) L p deep (rdC n deep (L.drop p))
  | 0, n, deep, p, h1, h2, h3, h4 => by omega
  | k + 1, n, deep, p, h1, h2, h3, h4 => by
    cases hd : L.drop p with
    | nil => exact told_of h2 hd rfl (run10_a k L p deep hd)
    | cons t r =>
      obtain ⟨g1, g2, g3⟩ := drop_cons hd
      rw [hd] at h1
      simp only [List.length_cons] at h1
      by_cases h41 : t = [41]
      · subst h41
        have e : rdC n deep ([41] :: r) = (none, [41] :: r) := by simp [rdC]
        rw [e]
        exact told_of h2 hd rfl (run10_b k L p deep r hd)
      · by_cases hdp : 20 < deep
        · have e : rdC n deep (t :: r) = (none, t :: r) := by simp [rdC, hdp]
          rw [e]
          exact told_of h2 hd rfl (run10_c k L p deep t r hd h41 hdp)
        · by_cases h40 : t = [40]
          · subst h40
            have lw := loop_W (CN k) L deep n lfN r (p + 1) [] none (by omega) (by
              have : r.length ≤ 5000 := by rw [← g3, List.length_drop]; omega
              show r.length < 10000
              omega) g3 (by omega) (by
              have : r.length ≤ 5000 := by rw [← g3, List.length_drop]; omega
              simp only [List.length_nil]; omega) fun m p' hm hl hp' => rd_ok L hL k m (deep + 1) p' hl hp' (by omega) (by omega)
            rcases q : rdL n deep r [] with ⟨vs, r'⟩
            have e : rdC n deep ([40] :: r) = (vs.map PyData.tuple, r') := by
              simp only [rdC]
              rw [if_neg (by simp [hdp]), if_true, q]
              cases vs <;> rfl
            rw [e]
            rw [q] at lw
            cases vs with
            | some vs =>
              obtain ⟨p', o', k1, k2, k3⟩ := lw
              exact told_of (p' := p' + 1) (v := .tuple vs) (st' := [Cell.lst (vs.map W.d)]) (by omega) k2 rfl (run10_e k L p deep r hd hdp _ _ ⟨_, _, k3, nx_nx (ss_cons (s_ret (ret_t (CN k) L p' deep o' vs k1)) nx_rt)⟩)
            | none =>
              obtain ⟨p', k1, k2, k3⟩ := lw
              rcases k3 with ⟨o', xs, k3, k4⟩ | ⟨xs, k3⟩
              · exact told_of (p' := p') (v := .none) (st' := [Cell.lst xs]) k1 k2 rfl (run10_e k L p deep r hd hdp _ _ ⟨_, _, k3, nx_nx (ss_cons (s_ret (ret_n (CN k) L p' deep o' xs k4)) nx_rt)⟩)
              · exact told_of (p' := p') (v := .none) (st' := [Cell.lst xs]) k1 k2 rfl (run10_e k L p deep r hd hdp _ _ ⟨_, _, k3, nx_rt⟩)
          · have e : rdC n deep (t :: r) = (some (dS t), r) := by simp [rdC, hdp, h41, h40]
            rw [e]
            exact told_of (p' := p + 1) (by omega) g3 rfl (run10_d k L p deep t r hd h41 h40 hdp)
/-- what _law_whole tells -/
def wholeS (ts : Tk) : D := match rdC ts.length 1 ts with
  | (some v, []) => v
  | _ => .none
theorem whole_ok (n : Nat) (a : List Nat) (hl : a.length ≤ 2000) : ∃ st, Rn (n + 23) 11 [.d (dS a)] [] = .ok (.w (.d (wholeS (toks a)))) st := by
  have ht := ltoks_call (n + 21) a [] (by omega)
  have hz := tk_len a []
  have hlen : (toks a).length ≤ 5000 := by show (tk [] a).length ≤ 5000; omega
  have hr := rd_ok (toks a) hlen (n + 22) (toks a).length 1 0 (by simp) (by omega) (by omega) (by omega)
  rw [List.drop_zero] at hr
  obtain ⟨p', k1, k2, k3⟩ := hr
  have hk := k3 []
  have hw : wOf (.fl (wL (toks a))) = some (.d (lD (toks a))) := by
    have : wL (toks a) = ((toks a).map dS).map W.d := by simp [wL]
    rw [this]
    simp only [wOf, datas_map, Option.map_some]
  have h1 := len_L [] (toks a)
  have h2 : cmpV .Eq [] (vInt p') (vInt (toks a).length) = some (decide (p' = (toks a).length)) := by
    show some (PyData.eqv (.int p') (.int (toks a).length)) = _
    simp only [PyData.eqv]
    by_cases h : p' = (toks a).length
    · rw [h]; simp
    · have : ¬ (p' : Int) = ((toks a).length : Int) := by omega
      simp [h, this]
  refine ⟨[], ?_⟩
  rcases q : rdC (toks a).length 1 (toks a) with ⟨v, r⟩
  rw [q] at hk k2
  have hk : callV (CN (n + 22)) 10 [.d (lD (toks a)), .d (.int 0), .d (.int 1)] [] = .ok (vTup [v.getD .none, .int p']) [] := hk
  have hb : bindT (.tp [.nm 2, .nm 3]) (.d (.tuple [v.getD .none, .int p'])) [some (.d (dS a)), some (.d (lD (toks a))), none, none] = some [some (.d (dS a)), some (.d (lD (toks a))), some (.d (v.getD .none)), some (.d (.int p'))] := rfl
  by_cases hp : p' = (toks a).length
  · rw [decide_eq_true hp] at h2
    have e : r = [] := by
      have : (toks a).drop p' = [] := List.drop_eq_nil_of_le (by omega)
      rw [k2] at this
      exact this
    have e2 : wholeS (toks a) = v.getD .none := by
      unfold wholeS
      rw [q, e]
      cases v <;> rfl
    rw [e2]
    apply run_fn (fn := f11) rfl rfl rfl
    simp only [f11, b11, entry, List.map_cons, List.map_nil, List.replicate, List.cons_append, List.nil_append, Nat.reduceSub]
    repeat' (first | with_reducible exact ht | with_reducible exact hw | with_reducible exact hk | with_reducible exact hb | with_reducible exact h1 | with_reducible exact h2 | decreasing_trivial_pre_omega | rfl)
  · rw [decide_eq_false hp] at h2
    have e : r ≠ [] := fun z => by
      simp only at k2
      rw [z] at k2
      have := drop_nil k2
      omega
    have e2 : wholeS (toks a) = .none := by
      unfold wholeS
      rw [q]
      cases v with
      | none => rfl
      | some v => cases r with
        | nil => exact absurd rfl e
        | cons _ _ => rfl
    rw [e2]
    apply run_fn (fn := f11) rfl rfl rfl
    simp only [f11, b11, entry, List.map_cons, List.map_nil, List.replicate, List.cons_append, List.nil_append, Nat.reduceSub]
    repeat' (first | with_reducible exact ht | with_reducible exact hw | with_reducible exact hk | with_reducible exact hb | with_reducible exact h1 | with_reducible exact h2 | decreasing_trivial_pre_omega | rfl)
end K1
set_option maxHeartbeats 1000001
namespace K1
open PySem MP
/-! the stack and the reader that goes down tell the same -/
def Bd : Nat → Tk → Prop
  | _, [] => True
  | d, t :: r => if t = [40] then d + 1 ≤ 19 ∧ Bd (d + 1) r else if t = [41] then Bd (d - 1) r else Bd d r
theorem run_open {r : Tk} {top : List D} {bel : List (List D)} (h : bel.length + 1 ≤ 19) : runS ([40] :: r) top bel = runS r [] (top :: bel) := by
  have e : stp [40] top bel = some ([], top :: bel) := rfl
  simp only [runS, e]
  rw [if_neg (by simp only [List.length_cons]; omega)]
theorem run_close {r : Tk} {top b : List D} {bel : List (List D)} (h : bel.length ≤ 19) : runS ([41] :: r) top (b :: bel) = runS r (b ++ [.tuple top]) bel := by
  have e : stp [41] top (b :: bel) = some (b ++ [.tuple top], bel) := rfl
  simp only [runS, e]
  rw [if_neg (by omega)]
theorem run_atom {t : List Nat} {r : Tk} {top : List D} {bel : List (List D)} (h40 : t ≠ [40]) (h41 : t ≠ [41]) (h : bel.length ≤ 19) : runS (t :: r) top bel = runS r (top ++ [dS t]) bel := by
  have e : stp t top bel = some (top ++ [dS t], bel) := by simp only [stp, if_neg h40, if_neg h41]
  simp only [runS, e]
  rw [if_neg (by omega)]
/-- within a list -/
theorem inner_eq : ∀ (n : Nat) (ts : Tk) (deep : Nat) (acc : List D) (bel : List (List D)), ts.length < n → bel.length = deep → 1 ≤ deep → deep ≤ 19 → Bd deep ts →
    match rdL n deep ts acc with
    | (some vs, r) => runS ts acc bel = runS ([41] :: r) vs bel ∧ Bd (deep - 1) r
    | (none, _) => ∃ top' bel', runS ts acc bel = some (top', bel') ∧ 1 ≤ bel'.length
  | 0, ts, deep, acc, bel, h, _, _, _, _ => by omega
  | n + 1, [], deep, acc, bel, h, hb, h1, h19, hB => ⟨acc, bel, rfl, by omega⟩
  | n + 1, t :: r, deep, acc, bel, h, hb, h1, h19, hB => by
    simp only [List.length_cons] at h
    by_cases h41 : t = [41]
    · subst h41
      have e : rdL (n + 1) deep ([41] :: r) acc = (some acc, r) := by simp [rdL]
      rw [e]
      refine ⟨rfl, ?_⟩
      simpa [Bd] using hB
    · by_cases h40 : t = [40]
      · subst h40
        have hB : deep + 1 ≤ 19 ∧ Bd (deep + 1) r := by simpa [Bd] using hB
        have ih := inner_eq n r (deep + 1) [] (acc :: bel) (by omega) (by simp [hb]) (by omega) hB.1 hB.2
        have ho := run_open (r := r) (top := acc) (bel := bel) (by omega)
        have hl := (rdL_len n (deep + 1) r [])
        rcases q : rdL n (deep + 1) r [] with ⟨vs, r'⟩
        have e : rdL (n + 1) deep ([40] :: r) acc = (match (vs, r') with
          | (some vs, r') => rdL n deep r' (acc ++ [.tuple vs])
          | (none, r') => (none, r')) := by
          simp only [rdL]
          rw [if_neg (by decide), if_neg (by omega), if_true, q]
          all_goals (cases vs <;> rfl)
        rw [q] at ih hl
        rw [e]
        cases vs with
        | none =>
          obtain ⟨top', bel', k1, k2⟩ := ih
          exact ⟨top', bel', by rw [ho]; exact k1, k2⟩
        | some vs =>
          obtain ⟨k1, k2⟩ := ih
          have hl2 := hl.2 rfl
          simp only at hl2
          rw [run_close (by omega)] at k1
          have ih2 := inner_eq n r' deep (acc ++ [.tuple vs]) bel (by omega) hb h1 h19 (by simpa using k2)
          simp only
          rw [ho, k1]
          exact ih2
      · have hB : Bd deep r := by simpa [Bd, h40, h41] using hB
        have e : rdL (n + 1) deep (t :: r) acc = rdL n deep r (acc ++ [dS t]) := by
          simp only [rdL]
          rw [if_neg h41, if_neg (by omega), if_neg h40]
        rw [e, run_atom h40 h41 (by omega)]
        exact inner_eq n r deep (acc ++ [dS t]) bel (by omega) hb h1 h19 hB
/-- more than one value stands at the bottom, or is to come -/
def More (top : List D) (bel : List (List D)) : Prop := (bel = [] ∧ 2 ≤ top.length) ∨ ∃ b r, bel = r ++ [b] ∧ 1 ≤ b.length
theorem more_pick {top : List D} {bel : List (List D)} (h : More top bel) : pickS (top, bel) = .none := by
  rcases h with ⟨rfl, h⟩ | ⟨b, r, rfl, h⟩
  · match top, h with
    | [], h => simp at h
    | [_], h => simp at h
    | _ :: _ :: _, _ => rfl
  · cases r with
    | nil => cases top with
      | nil => rfl
      | cons x xs => cases xs <;> rfl
    | cons x xs => cases top with
      | nil => rfl
      | cons x xs => cases xs <;> rfl
def fin (o : Option (List D × List (List D))) : D := match o with
  | some q => pickS q
  | none => .none
theorem more_run : ∀ (ts : Tk) (top : List D) (bel : List (List D)), More top bel → fin (runS ts top bel) = .none
  | [], top, bel, h => more_pick h
  | t :: r, top, bel, h => by
    simp only [runS]
    cases q : stp t top bel with
    | none => rfl
    | some s =>
      simp only
      split
      · rfl
      · refine more_run r s.1 s.2 ?_
        unfold stp at q
        split at q
        · cases q
          rcases h with ⟨rfl, h⟩ | ⟨b, r, rfl, h⟩
          · exact .inr ⟨top, [], rfl, by omega⟩
          · exact .inr ⟨b, top :: r, rfl, h⟩
        · split at q
          · split at q
            · cases q
            · rename_i b0 r0
              cases q
              rcases h with ⟨e, h⟩ | ⟨b, r, e, h⟩
              · cases e
              · cases r with
                | nil =>
                  simp only [List.nil_append, List.cons.injEq] at e
                  obtain ⟨rfl, rfl⟩ := e
                  exact .inl ⟨rfl, by simp only [List.length_append, List.length_cons, List.length_nil]; omega⟩
                | cons x xs =>
                  simp only [List.cons_append, List.cons.injEq] at e
                  obtain ⟨rfl, rfl⟩ := e
                  exact .inr ⟨b, xs, rfl, h⟩
          · cases q
            rcases h with ⟨rfl, h⟩ | ⟨b, r, rfl, h⟩
            · exact .inl ⟨rfl, by simp only [List.length_append, List.length_cons, List.length_nil]; omega⟩
            · exact .inr ⟨b, r, rfl, h⟩
/-- behind one value -/
theorem one_run (v : D) (ts : Tk) (h : ts ≠ []) : fin (runS ts [v] []) = .none := by
  cases ts with
  | nil => exact absurd rfl h
  | cons t r =>
    simp only [runS]
    cases q : stp t [v] [] with
    | none => rfl
    | some s =>
      simp only
      split
      · rfl
      · refine more_run r s.1 s.2 ?_
        unfold stp at q
        split at q
        · cases q; exact .inr ⟨[v], [], rfl, by simp⟩
        · split at q
          · cases q
          · cases q; exact .inl ⟨rfl, by simp⟩
theorem readS_fin (ts : Tk) : readS ts = fin (runS ts [] []) := by
  unfold readS fin
  cases runS ts [] [] <;> rfl
theorem read_whole (ts : Tk) (hB : Bd 0 ts) : readS ts = wholeS ts := by
  rw [readS_fin]
  unfold wholeS
  cases ts with
  | nil => rfl
  | cons t r =>
    by_cases h41 : t = [41]
    · subst h41
      have e : rdC ([41] :: r).length 1 ([41] :: r) = (none, [41] :: r) := by simp [rdC]
      rw [e]
      rfl
    · by_cases h40 : t = [40]
      · subst h40
        have hB : Bd 1 r := by simpa [Bd] using hB
        rw [run_open (by simp)]
        have ih := inner_eq (r.length + 1) r 1 [] [[]] (by omega) rfl (by omega) (by omega) hB
        rcases q : rdL (r.length + 1) 1 r [] with ⟨vs, r'⟩
        have e : rdC ([40] :: r).length 1 ([40] :: r) = (vs.map PyData.tuple, r') := by
          simp only [rdC, List.length_cons]
          rw [if_neg (by simp), if_true, q]
          cases vs <;> rfl
        rw [q] at ih
        rw [e]
        cases vs with
        | none =>
          obtain ⟨top', bel', k1, k2⟩ := ih
          rw [k1]
          show pickS (top', bel') = .none
          cases bel' with
          | nil => simp at k2
          | cons x xs => cases top' with
            | nil => rfl
            | cons y ys => cases ys <;> rfl
        | some vs =>
          obtain ⟨k1, k2⟩ := ih
          rw [k1, run_close (by simp)]
          cases r' with
          | nil => rfl
          | cons y ys => exact one_run (.tuple vs) (y :: ys) (by simp)
      · have e : rdC (t :: r).length 1 (t :: r) = (some (dS t), r) := by simp [rdC, h41, h40]
        rw [e, run_atom h40 h41 (by simp)]
        cases r with
        | nil => rfl
        | cons y ys => exact one_run (dS t) (y :: ys) (by simp)
end K1
set_option maxHeartbeats 1000001
namespace K1
open PySem MP
/-! the words of a drawn expression's text; blanks put in; signs taken out or put in -/
def plainC (c : Nat) : Bool := !(par? c) && !(c == 32 || c == 10)
def Stop : List Nat → Prop
  | [] => True
  | c :: _ => plainC c = false
theorem tk_word : ∀ (a w rest : List Nat), (∀ c ∈ a, plainC c = true) → tk w (a ++ rest) = tk (w ++ a) rest
  | [], w, rest, h => by simp
  | c :: r, w, rest, h => by
    have hc : plainC c = true := h c (by simp)
    simp only [plainC, Bool.and_eq_true, Bool.not_eq_true'] at hc
    have e : tk w ((c :: r) ++ rest) = tk (w ++ [c]) (r ++ rest) := by simp [tk, hc.1, hc.2]
    rw [e, tk_word r (w ++ [c]) rest fun x hx => h x (by simp [hx])]
    simp
theorem tk_stop (w : List Nat) : ∀ (r : List Nat), Stop r → tk w r = fw w ++ tk [] r
  | [], _ => by simp [tk, fw]
  | c :: r, h => by
    have h : plainC c = false := h
    by_cases h1 : par? c = true
    · simp [tk, h1, fw]
    · by_cases h2 : (c == 32 || c == 10) = true
      · simp only [tk, h1, h2, if_true, if_false, fw, if_pos, List.nil_append]
        simp
      · simp only [plainC] at h
        simp [h1, h2] at h
theorem tk_blank (r : List Nat) : tk [] (32 :: r) = tk [] r := by simp [tk, par?, fw]
theorem atom_ok (k : Nat) : (∀ c ∈ atomL k, plainC c = true) ∧ atomL k ≠ [] ∧ atomL k ≠ [40] ∧ atomL k ≠ [41] ∧ 9 ∉ atomL k ∧ (atomL k).length ≤ 2 := by
  match k with
  | 0 | 1 | 2 | 3 | 4 | 5 | 6 => decide
  | k + 7 =>
    have : atomL (k + 7) = [97] := rfl
    rw [this]; decide
mutual
def Sx.tks : Sx → Tk
  | .at k => [atomL k]
  | .nd xs => [40] :: (xs.tkss ++ [[41]])
def Sxs.tkss : Sxs → Tk
  | .nil => []
  | .cons x r => x.tks ++ r.tkss
end
theorem par40 : par? 40 = true := rfl
theorem par41 : par? 41 = true := rfl
theorem tk_par (c : Nat) (h : par? c = true) (r : List Nat) : tk [] (c :: r) = [c] :: tk [] r := by simp [tk, h, fw]
theorem stop32 (r : List Nat) : Stop (32 :: r) := rfl
theorem stop41 (r : List Nat) : Stop (41 :: r) := rfl
mutual
theorem tx_tk : ∀ (x : Sx) (rest : List Nat), Stop rest → tk [] (x.tx ++ rest) = x.tks ++ tk [] rest
  | .at k, rest, h => by
    have ha := atom_ok k
    show tk [] (atomL k ++ rest) = [atomL k] ++ tk [] rest
    rw [tk_word _ _ _ ha.1, List.nil_append, tk_stop _ _ h]
    simp [fw, ha.2.1]
  | .nd xs, rest, h => by
    show tk [] ((40 :: (xs.txs ++ [41])) ++ rest) = ([40] :: (xs.tkss ++ [[41]])) ++ tk [] rest
    have e : ((40 :: (xs.txs ++ [41])) ++ rest) = 40 :: (xs.txs ++ 41 :: rest) := by simp
    rw [e, tk_par 40 par40, txs_tk xs rest]
    simp
theorem txs_tk : ∀ (xs : Sxs) (rest : List Nat), tk [] (xs.txs ++ 41 :: rest) = xs.tkss ++ [41] :: tk [] rest
  | .nil, rest => by
    show tk [] (41 :: rest) = _
    rw [tk_par 41 par41]; rfl
  | .cons x .nil, rest => by
    show tk [] (x.tx ++ 41 :: rest) = (x.tks ++ []) ++ [41] :: tk [] rest
    rw [tx_tk x _ (stop41 rest), tk_par 41 par41]; simp
  | .cons x (.cons y r), rest => by
    have h := txs_tk (.cons y r) rest
    show tk [] ((x.tx ++ 32 :: (Sxs.cons y r).txs) ++ 41 :: rest) = (x.tks ++ (Sxs.cons y r).tkss) ++ [41] :: tk [] rest
    rw [List.append_assoc, List.cons_append, tx_tk x _ (stop32 _), tk_blank, h, List.append_assoc]
end
theorem toks_tx (x : Sx) : toks x.tx = x.tks := by
  have h := tx_tk x [] trivial
  rw [List.append_nil] at h
  show tk [] x.tx = _
  rw [h]
  simp [tk, fw]
mutual
theorem run_tks : ∀ (x : Sx) (r : Tk) (top : List D) (bel : List (List D)), bel.length + x.dep ≤ 19 → runS (x.tks ++ r) top bel = runS r (top ++ [x.d]) bel
  | .at k, r, top, bel, h => by
    have ha := atom_ok k
    simp only [Sx.dep] at h
    exact run_atom ha.2.2.1 ha.2.2.2.1 (by omega)
  | .nd xs, r, top, bel, h => by
    simp only [Sx.dep] at h
    show runS (([40] :: (xs.tkss ++ [[41]])) ++ r) top bel = runS r (top ++ [.tuple xs.ds]) bel
    have e : (([40] :: (xs.tkss ++ [[41]])) ++ r) = [40] :: (xs.tkss ++ [41] :: r) := by simp
    rw [e, run_open (by omega), run_tkss xs _ _ _ (by simp only [List.length_cons]; omega), run_close (by omega), List.nil_append]
theorem run_tkss : ∀ (xs : Sxs) (r : Tk) (top : List D) (bel : List (List D)), bel.length + xs.deps ≤ 19 → runS (xs.tkss ++ r) top bel = runS r (top ++ xs.ds) bel
  | .nil, r, top, bel, h => by simp [Sxs.tkss, Sxs.ds]
  | .cons x xs, r, top, bel, h => by
    simp only [Sxs.deps] at h
    show runS ((x.tks ++ xs.tkss) ++ r) top bel = runS r (top ++ x.d :: xs.ds) bel
    rw [List.append_assoc, run_tks x _ _ _ (by omega), run_tkss xs _ _ _ (by omega)]
    simp
end
theorem read_tx (x : Sx) (h : x.dep ≤ 19) : readS (toks x.tx) = x.d := by
  have e := run_tks x [] [] [] (by simpa using h)
  rw [List.append_nil] at e
  rw [toks_tx]
  unfold readS
  rw [e]
  rfl
/-! blanks put in -/
inductive Lo : List Nat → List Nat → Prop
  | nil : Lo [] []
  | pl (c : Nat) {a b : List Nat} : Lo a b → Lo (c :: a) (c :: b)
  | sp (c : Nat) {a b : List Nat} : (c = 40 ∨ c = 41 ∨ c = 32) → Lo a b → Lo (c :: a) (c :: 32 :: b)
  | nl (c : Nat) {a b : List Nat} : (c = 40 ∨ c = 41 ∨ c = 32) → Lo a b → Lo (c :: a) (10 :: c :: 32 :: 32 :: b)
theorem Lo.tk {a b : List Nat} (h : Lo a b) : ∀ w, K1.tk w b = K1.tk w a := by
  induction h with
  | nil => exact fun w => rfl
  | pl c h ih =>
    intro w
    simp only [K1.tk, ih]
  | sp c hc h ih =>
    intro w
    rcases hc with rfl | rfl | rfl
    · simp [K1.tk, par?, ih, fw]
    · simp [K1.tk, par?, ih, fw]
    · simp [K1.tk, par?, ih, fw]
  | nl c hc h ih =>
    intro w
    rcases hc with rfl | rfl | rfl
    · simp [K1.tk, par?, ih, fw]
    · simp [K1.tk, par?, ih, fw]
    · simp [K1.tk, par?, ih, fw]
theorem Lo.len {a b : List Nat} (h : Lo a b) : b.length ≤ 4 * a.length := by
  induction h with
  | nil => simp
  | pl c h ih => simp only [List.length_cons]; omega
  | sp c hc h ih => simp only [List.length_cons]; omega
  | nl c hc h ih => simp only [List.length_cons]; omega
theorem Lo.no9 {a b : List Nat} (h : Lo a b) : 9 ∉ a → 9 ∉ b := by
  induction h with
  | nil => simp
  | pl c h ih => simp only [List.mem_cons, not_or]; exact fun k => ⟨k.1, ih k.2⟩
  | sp c hc h ih => simp only [List.mem_cons, not_or]; exact fun k => ⟨k.1, by decide, ih k.2⟩
  | nl c hc h ih => simp only [List.mem_cons, not_or]; exact fun k => ⟨by decide, k.1, by decide, by decide, ih k.2⟩
/-! how deep signs lead -/
def bd (m : Nat) : Nat → List Nat → Prop
  | _, [] => True
  | d, c :: r => if c = 40 then d + 1 ≤ m ∧ bd m (d + 1) r else if c = 41 then bd m (d - 1) r else bd m d r
theorem bd_mon {m : Nat} (k : Nat) : ∀ (a : List Nat) (d d' : Nat), d' ≤ d + k → bd m d a → bd (m + k) d' a
  | [], _, _, _, _ => trivial
  | c :: r, d, d', hd, h => by
    simp only [bd] at h ⊢
    split
    · rename_i hc
      rw [if_pos hc] at h
      exact ⟨by omega, bd_mon k r (d + 1) (d' + 1) (by omega) h.2⟩
    · rename_i hc
      rw [if_neg hc] at h
      split
      · rename_i hc
        rw [if_pos hc] at h
        exact bd_mon k r (d - 1) (d' - 1) (by omega) h
      · rename_i hc
        rw [if_neg hc] at h
        exact bd_mon k r d d' hd h
theorem bd_take {m : Nat} : ∀ (a b : List Nat) (d : Nat), bd m d (a ++ b) → bd m d a
  | [], _, _, _ => trivial
  | c :: r, b, d, h => by
    simp only [List.cons_append, bd] at h ⊢
    split
    · rename_i hc
      rw [if_pos hc] at h
      exact ⟨h.1, bd_take r b _ h.2⟩
    · rename_i hc
      rw [if_neg hc] at h
      split
      · rename_i hc
        rw [if_pos hc] at h
        exact bd_take r b _ h
      · rename_i hc
        rw [if_neg hc] at h
        exact bd_take r b _ h
theorem bd_del {m : Nat} (c : Nat) (b : List Nat) : ∀ (a : List Nat) (d : Nat), bd m d (a ++ c :: b) → bd (m + 1) d (a ++ b)
  | [], d, h => by
    simp only [List.nil_append, bd] at h ⊢
    split at h
    · exact bd_mon 1 b (d + 1) d (by omega) h.2
    · split at h
      · exact bd_mon 1 b (d - 1) d (by omega) h
      · exact bd_mon 1 b d d (by omega) h
  | e :: r, d, h => by
    simp only [List.cons_append, bd] at h ⊢
    split
    · rename_i hc
      rw [if_pos hc] at h
      exact ⟨by omega, bd_del c b r _ h.2⟩
    · rename_i hc
      rw [if_neg hc] at h
      split
      · rename_i hc
        rw [if_pos hc] at h
        exact bd_del c b r _ h
      · rename_i hc
        rw [if_neg hc] at h
        exact bd_del c b r _ h
theorem bd_ins {m : Nat} (c : Nat) (b : List Nat) : ∀ (a : List Nat) (d : Nat), d ≤ m → bd m d (a ++ b) → bd (m + 1) d (a ++ c :: b)
  | [], d, hd, h => by
    simp only [List.nil_append, bd] at h ⊢
    split
    · exact ⟨by omega, bd_mon 1 b d (d + 1) (by omega) h⟩
    · split
      · exact bd_mon 1 b d (d - 1) (by omega) h
      · exact bd_mon 1 b d d (by omega) h
  | e :: r, d, hd, h => by
    simp only [List.cons_append, bd] at h ⊢
    split
    · rename_i hc
      rw [if_pos hc] at h
      exact ⟨by omega, bd_ins c b r _ h.1 h.2⟩
    · rename_i hc
      rw [if_neg hc] at h
      split
      · rename_i hc
        rw [if_pos hc] at h
        exact bd_ins c b r _ (by omega) h
      · rename_i hc
        rw [if_neg hc] at h
        exact bd_ins c b r _ hd h
theorem bd_plain {m : Nat} (r : List Nat) (d : Nat) : ∀ (a : List Nat), (∀ c ∈ a, plainC c = true) → bd m d r → bd m d (a ++ r)
  | [], _, h => h
  | c :: a, hp, h => by
    have hc : plainC c = true := hp c (by simp)
    have h40 : c ≠ 40 := fun e => by subst e; cases hc
    have h41 : c ≠ 41 := fun e => by subst e; cases hc
    simp only [List.cons_append, bd, if_neg h40, if_neg h41]
    exact bd_plain r d a (fun x hx => hp x (by simp [hx])) h
mutual
theorem bd_tx {m : Nat} : ∀ (x : Sx) (d : Nat) (r : List Nat), d + x.dep ≤ m → bd m d r → bd m d (x.tx ++ r)
  | .at k, d, r, _, h => bd_plain r d (atomL k) (atom_ok k).1 h
  | .nd xs, d, r, hd, h => by
    simp only [Sx.dep] at hd
    have e : ((Sx.nd xs).tx ++ r) = 40 :: (xs.txs ++ 41 :: r) := by simp [Sx.tx]
    rw [e]
    show d + 1 ≤ m ∧ bd m (d + 1) (xs.txs ++ 41 :: r)
    exact ⟨by omega, bd_txs xs (d + 1) (41 :: r) (by omega) (show bd m (d + 1 - 1) r from h)⟩
theorem bd_txs {m : Nat} : ∀ (xs : Sxs) (d : Nat) (r : List Nat), d + xs.deps ≤ m → bd m d r → bd m d (xs.txs ++ r)
  | .nil, d, r, _, h => h
  | .cons x .nil, d, r, hd, h => by
    simp only [Sxs.deps] at hd
    exact bd_tx x d r (by omega) h
  | .cons x (.cons y q), d, r, hd, h => by
    have hs := bd_txs (.cons y q) d r (by rw [Sxs.deps] at hd; omega) h
    show bd m d ((x.tx ++ 32 :: (Sxs.cons y q).txs) ++ r)
    rw [List.append_assoc, List.cons_append]
    exact bd_tx x d _ (by rw [Sxs.deps] at hd; omega) (show bd m d (32 :: ((Sxs.cons y q).txs ++ r)) from hs)
end
theorem Bd_fw {d : Nat} (w : List Nat) (ts : Tk) (h40 : 40 ∉ w) (h41 : 41 ∉ w) (h : Bd d ts) : Bd d (fw w ++ ts) := by
  unfold fw
  split
  · exact h
  · have e1 : w ≠ [40] := fun e => h40 (by simp [e])
    have e2 : w ≠ [41] := fun e => h41 (by simp [e])
    show Bd d (w :: ts)
    simp only [Bd, if_neg e1, if_neg e2]
    exact h
theorem bd_toks {m : Nat} (hm : m ≤ 19) : ∀ (a w : List Nat) (d : Nat), 40 ∉ w → 41 ∉ w → bd m d a → Bd d (tk w a)
  | [], w, d, h1, h2, h => by
    have := Bd_fw (d := d) w [] h1 h2 trivial
    rw [List.append_nil] at this
    exact this
  | c :: r, w, d, h1, h2, h => by
    simp only [bd] at h
    by_cases c40 : c = 40
    · subst c40
      rw [if_pos rfl] at h
      have e : tk w (40 :: r) = fw w ++ [40] :: tk [] r := by simp [tk, par?]
      rw [e]
      refine Bd_fw w _ h1 h2 ?_
      show d + 1 ≤ 19 ∧ Bd (d + 1) (tk [] r)
      exact ⟨by omega, bd_toks hm r [] (d + 1) (by simp) (by simp) h.2⟩
    · rw [if_neg c40] at h
      by_cases c41 : c = 41
      · subst c41
        rw [if_pos rfl] at h
        have e : tk w (41 :: r) = fw w ++ [41] :: tk [] r := by simp [tk, par?]
        rw [e]
        refine Bd_fw w _ h1 h2 ?_
        show Bd (d - 1) (tk [] r)
        exact bd_toks hm r [] (d - 1) (by simp) (by simp) h
      · rw [if_neg c41] at h
        have hp : par? c = false := by simp [par?, c40, c41]
        by_cases hb : (c == 32 || c == 10) = true
        · have e : tk w (c :: r) = fw w ++ tk [] r := by simp only [tk, hp, hb]; rfl
          rw [e]
          exact Bd_fw w _ h1 h2 (bd_toks hm r [] d (by simp) (by simp) h)
        · have e : tk w (c :: r) = tk (w ++ [c]) r := by simp only [tk, hp, hb]; rfl
          rw [e]
          refine bd_toks hm r (w ++ [c]) d ?_ ?_ h
          · simp only [List.mem_append, List.mem_singleton, not_or]; exact ⟨h1, fun e => c40 e.symm⟩
          · simp only [List.mem_append, List.mem_singleton, not_or]; exact ⟨h2, fun e => c41 e.symm⟩
theorem agree {m : Nat} (hm : m ≤ 19) (a : List Nat) (h : bd m 0 a) : readS (toks a) = wholeS (toks a) := read_whole _ (bd_toks hm a [] 0 (by simp) (by simp) h)
end K1
set_option maxHeartbeats 4000001
namespace K1
open PySem MP
local macro_rules | `(tactic| decreasing_trivial_pre_omega) => `(tactic| first
  | simp only [List.map_nil, List.append_nil, List.nil_append, List.cons_append, List.map_cons, List.set_cons_zero, List.set_cons_succ, List.length_nil]
  | with_reducible exact ev_cst | with_reducible apply ev_cel | with_reducible apply ev_var | with_reducible apply ev_bin | with_reducible apply ev_cmp | with_reducible apply ev_ix | with_reducible apply ev_nt | with_reducible apply ev_an | with_reducible apply ev_orr
  | with_reducible apply ev_ife | with_reducible apply ev_cmp2 | with_reducible apply ev_cmp2b | with_reducible apply ev_tup | with_reducible apply ev_lst | with_reducible exact ev_dis | with_reducible apply ev_neg | with_reducible apply ev_sl
  | with_reducible exact eo_none | with_reducible apply eo_some | with_reducible apply ev_call | with_reducible apply ev_blt | with_reducible apply ev_mth | with_reducible apply ev_isi | with_reducible apply ev_lc
  | with_reducible exact ec_nil | with_reducible apply ec_one | with_reducible exact es_nil | with_reducible apply es_cons | with_reducible apply sr_it | with_reducible apply sr_rng1 | with_reducible apply sr_rng2 | with_reducible apply sr_enm | with_reducible apply sr_zp
  | with_reducible apply pick_t | with_reducible apply pick_f | refine pick_tE (by rfl) ?_ | refine pick_fE (by rfl) ?_ | with_reducible apply nx_nx | with_reducible exact nx_rt | with_reducible exact nx_bk | with_reducible exact nx_ct | with_reducible exact ss_nil | with_reducible apply ss_cons | with_reducible apply s_asg | with_reducible apply s_own
  | with_reducible apply s_unp | with_reducible apply s_par | with_reducible apply s_set | with_reducible apply s_ex | with_reducible apply s_iff | with_reducible apply s_ret | with_reducible exact s_retN | with_reducible exact s_pss | with_reducible exact s_brk | with_reducible exact s_cnt
  | with_reducible apply s_fr | with_reducible apply fo_items | with_reducible exact fo_nil | with_reducible apply fo_cons | with_reducible apply frF_ok | with_reducible apply nf_nx | with_reducible apply nf_ct | with_reducible exact nf_rt | with_reducible exact nf_bk
  | with_reducible apply ga_items | with_reducible exact ga_nil | with_reducible apply ng_none | with_reducible apply ng_some | with_reducible apply lcF_ok | with_reducible apply lcE | with_reducible apply ga_cons)
/-! texts of drawn expressions -/
def Sxs.l : Sxs → List Sx
  | .nil => []
  | .cons x r => x :: r.l
theorem ds_l : ∀ xs : Sxs, xs.ds = xs.l.map Sx.d
  | .nil => rfl
  | .cons x r => by simp only [Sxs.ds, Sxs.l, List.map_cons, ds_l r]
theorem deps_l : ∀ (xs : Sxs) (y : Sx), y ∈ xs.l → y.dep ≤ xs.deps
  | .nil, y, h => by simp [Sxs.l] at h
  | .cons x r, y, h => by
    simp only [Sxs.l, List.mem_cons] at h
    simp only [Sxs.deps]
    rcases h with rfl | h
    · omega
    · have := deps_l r y h; omega
theorem txs_l : ∀ xs : Sxs, xs.txs = TL.joinL [32] (xs.l.map Sx.tx)
  | .nil => rfl
  | .cons x .nil => by simp [Sxs.txs, Sxs.l, TL.joinL]
  | .cons x (.cons y r) => by
    have h := txs_l (.cons y r)
    simp only [Sxs.l, List.map_cons] at h ⊢
    rw [joinL_cons _ _ (by simp), ← h]
    simp [Sxs.txs]
theorem joinL_len (z : List Nat) : ∀ ps : List (List Nat), (ps.map List.length).sum ≤ (TL.joinL z ps).length
  | [] => by simp
  | [p] => by simp [TL.joinL]
  | p :: q :: r => by
    have h := joinL_len z (q :: r)
    rw [joinL_cons z p (by simp)]
    simp only [List.map_cons, List.sum_cons, List.length_append] at h ⊢
    omega
theorem joinL_num (c : Nat) : ∀ ps : List (List Nat), ps.length ≤ (TL.joinL [c] ps).length + 1
  | [] => by simp
  | [p] => by simp
  | p :: q :: r => by
    have h := joinL_num c (q :: r)
    rw [joinL_cons [c] p (by simp)]
    simp only [List.length_append, List.length_cons, List.length_nil] at h ⊢
    omega
theorem mem_len {z : List Nat} {p : List Nat} {ps : List (List Nat)} (h : p ∈ ps) : p.length ≤ (TL.joinL z ps).length := by
  refine Nat.le_trans ?_ (joinL_len z ps)
  induction ps with
  | nil => simp at h
  | cons q r ih =>
    simp only [List.map_cons,
          List.sum_cons]
    rcases List.mem_cons.mp
          h with rfl | h
    · omega
    · have := ih h; omega
theorem gath_map {α : Type} {f : W → Sto → Out (Option W)} {g h : α → W} {st : Sto} : ∀ (L : List α) (acc : List W), (∀ y ∈ L, f (g y) st = .ok (some (h y)) st) → acc.length + L.length ≤ 100000 → gath f (L.map g) acc st = .ok (acc ++ L.map h) st
  | [], acc, _, _ => by simp [gath]
  | y :: r, acc, hf, hl => by
    simp only [List.length_cons] at hl
    have e := gath_map (f := f) (g := g) (h := h) (st := st) r (acc ++ [h y]) (fun z hz => hf z (List.mem_cons_of_mem _ hz)) (by simp only [List.length_append, List.length_cons, List.length_nil]; omega)
    rw [List.map_cons,
          List.map_cons]
    refine ga_cons (hf y (List.mem_cons_self ..)) (ng_some (decide_eq_true (by show acc.length < 16777216; omega)) ?_)
    rw [e]; simp
theorem strs_w : ∀ ps : List (List Nat), strsOf (wL ps) = some (ps.map S)
  | [] => rfl
  | p :: r => by
    show (strsOf (wL r)).map (S p :: ·) = _
    rw [strs_w r]; rfl
theorem size_sum (ps : List (List Nat)) : ((ps.map S).map (·.length)).sum = (ps.map List.length).sum := by
  rw [List.map_map]
  congr 1
theorem join_w (st : Sto) (z : List Nat) (ps : List (List Nat)) (h : (ps.map List.length).sum + ps.length * z.length ≤ 1000000) : mthV .join st (vStr (S z)) [.fl (wL ps)] = some (vStr (S (TL.joinL z ps)), st) := by
  show (some (wL ps)).bind (fun xs => (strsOf xs).bind fun ys => if (ys.map (·.length)).sum + ys.length * (S z).length ≤ 16777216 then some (vStr (Txt.join (S z) ys), st) else none) = _
  rw [Option.bind_some, strs_w, Option.bind_some, size_sum]
  have e : (S z).length = z.length := rfl
  rw [e, List.length_map, if_pos (by omega)]
  have := SX.join_S z ps
  rw [show Txt.join (S z) (ps.map S) = S (TL.joinL z ps) from this]
abbrev kid8 : E := .call 8 [(.var 1)] []
abbrev kid3 : E := .call 3 [(.var 1)] []
theorem turn8 (C : CE) (v d : D) (a : List Nat) (st : Sto) (h : callV C 8 [.d d] st = .ok (vStr (S a)) st) : lcF C [1] (.nm 1) [] kid8 [some (.d v), none] (.d d) st = .ok (some (.d (dS a))) st := by
  repeat' (first | with_reducible exact h | decreasing_trivial_pre_omega | rfl)
theorem turn3 (C : CE) (v d : D) (a : List Nat) (st : Sto) (h : callV C 3 [.d d] st = .ok (vStr (S a)) st) : lcF C [1] (.nm 1) [] kid3 [some (.d v), none] (.d d) st = .ok (some (.d (dS a))) st := by
  repeat' (first | with_reducible exact h | decreasing_trivial_pre_omega | rfl)
theorem text8 : ∀ (m : Nat) (x : Sx), x.dep < m → x.tx.length ≤ 3000 → ∀ n, Rn (n + m) 8 [.d x.d] [] = .ok (vStr (S x.tx)) []
  | 0, x, h, _, n => by omega
  | m + 1, .at k, h, hl, n => by
    show Rn ((n + m) + 1) 8 [.d (dS (atomL k))] [] = .ok (vStr (S (atomL k))) []
    apply run_fn (fn := f8) rfl rfl rfl
    simp only [f8, b8, entry, List.map_cons, List.map_nil, List.replicate, List.cons_append, List.nil_append, Nat.reduceSub]
    repeat' (first | decreasing_trivial_pre_omega | rfl)
  | m + 1, .nd xs, h, hl, n => by
    simp only [Sx.dep] at h
    have hlen : xs.txs.length ≤ 2998 := by
      simp only [Sx.tx, List.length_cons, List.length_append, List.length_nil] at hl; omega
    have hj := hlen
    rw [txs_l] at hj
    have hs := joinL_len [32] (xs.l.map Sx.tx)
    have hn := joinL_num 32 (xs.l.map Sx.tx)
    have hnl : xs.l.length ≤ 2999 := by rw [List.length_map] at hn; omega
    have hg : gath (lcF ⟨Rn (n + m), lfN⟩ [1] (.nm 1) [] kid8 [some (.d (.tuple xs.ds)), none]) (xs.ds.map W.d) [] [] = .ok (wL (xs.l.map Sx.tx)) [] := by
      have e := gath_map (f := lcF ⟨Rn (n + m), lfN⟩ [1] (.nm 1) [] kid8 [some (.d (.tuple xs.ds)), none]) (g := fun y : Sx => W.d y.d) (h := fun y : Sx => W.d (dS y.tx)) (st := []) xs.l [] (fun y hy =>
        turn8 _ _ _ _ _ (cl_pure (C := ⟨Rn (n + m), lfN⟩) rfl (text8 m y (by have := deps_l xs y hy; omega) (by
          have : y.tx ∈ xs.l.map Sx.tx := List.mem_map.mpr ⟨y, hy, rfl⟩
          have := mem_len (z := [32]) this
          omega) n) rfl)) (by simp only [List.length_nil]; omega)
      rw [ds_l, List.map_map]
      rw [List.nil_append] at e
      show gath _ (xs.l.map (fun y : Sx => W.d y.d)) [] [] = _
      rw [← ds_l]
      rw [e]
      simp [wL]
    have hjn : mthV .join [] (vStr ⟨#[32]⟩) [.fl (wL (xs.l.map Sx.tx))] = some (vStr (S xs.txs), []) := by
      have := join_w [] [32] (xs.l.map Sx.tx) (by simp only [List.length_map, List.length_cons, List.length_nil]; omega)
      rw [← txs_l] at this
      exact this
    have ha1 : binV .Add [] (vStr ⟨#[40]⟩) (vStr (S xs.txs)) = some (vStr (S (40 :: xs.txs))) := add_S [] [40] xs.txs (by simp only [List.length_cons, List.length_nil]; omega)
    have ha2 : binV .Add [] (vStr (S (40 :: xs.txs))) (vStr ⟨#[41]⟩) = some (vStr (S (40 :: (xs.txs ++ [41])))) := add_S [] (40 :: xs.txs) [41] (by simp only [List.length_cons, List.length_nil]; omega)
    show Rn ((n + m) + 1) 8 [.d (.tuple xs.ds)] [] = .ok (vStr (S (40 :: (xs.txs ++ [41])))) []
    have hr : recvOk .join [] (vStr ⟨#[32]⟩) = true := rfl
    have hx : evE ⟨Rn (n + m), lfN⟩ (.mth .join (.cst (.str ⟨#[32]⟩)) [(.lc [1] (.nm 1) (.it (.var 0)) [] kid8)]) [some (.d (.tuple xs.ds)), none] [] = .ok (vStr (S xs.txs)) [] :=
      ev_mth (r := (vStr (S xs.txs), [])) ev_cst hr (es_cons (ev_lc rfl (sr_it (ev_var rfl) rfl) (ga_items hg)) es_nil) hjn
    apply run_fn (fn := f8) rfl rfl rfl
    simp only [f8, b8, entry, List.map_cons, List.map_nil, List.replicate, List.cons_append, List.nil_append, Nat.reduceSub]
    repeat' (first | with_reducible exact hx | with_reducible exact ha1 | with_reducible exact ha2 | decreasing_trivial_pre_omega | rfl)
theorem text3 : ∀ (m : Nat) (x : Sx), x.dep < m → x.tx.length ≤ 3000 → ∀ n, Rn (n + m) 3 [.d x.d] [] = .ok (vStr (S x.tx)) []
  | 0, x, h, _, n => by omega
  | m + 1, .at k, h, hl, n => by
    show Rn ((n + m) + 1) 3 [.d (dS (atomL k))] [] = .ok (vStr (S (atomL k))) []
    apply run_fn (fn := f3) rfl rfl rfl
    simp only [f3, b3, entry, List.map_cons, List.map_nil, List.replicate, List.cons_append, List.nil_append, Nat.reduceSub]
    repeat' (first | decreasing_trivial_pre_omega | rfl)
  | m + 1, .nd xs, h, hl, n => by
    simp only [Sx.dep] at h
    have hlen : xs.txs.length ≤ 2998 := by
      simp only [Sx.tx, List.length_cons, List.length_append, List.length_nil] at hl; omega
    have hj := hlen
    rw [txs_l] at hj
    have hs := joinL_len [32] (xs.l.map Sx.tx)
    have hn := joinL_num 32 (xs.l.map Sx.tx)
    have hnl : xs.l.length ≤ 2999 := by rw [List.length_map] at hn; omega
    have hg : gath (lcF ⟨Rn (n + m), lfN⟩ [1] (.nm 1) [] kid3 [some (.d (.tuple xs.ds)), none]) (xs.ds.map W.d) [] [] = .ok (wL (xs.l.map Sx.tx)) [] := by
      have e := gath_map (f := lcF ⟨Rn (n + m), lfN⟩ [1] (.nm 1) [] kid3 [some (.d (.tuple xs.ds)), none]) (g := fun y : Sx => W.d y.d) (h := fun y : Sx => W.d (dS y.tx)) (st := []) xs.l [] (fun y hy =>
        turn3 _ _ _ _ _ (cl_pure (C := ⟨Rn (n + m), lfN⟩) rfl (text3 m y (by have := deps_l xs y hy; omega) (by
          have : y.tx ∈ xs.l.map Sx.tx := List.mem_map.mpr ⟨y, hy, rfl⟩
          have := mem_len (z := [32]) this
          omega) n) rfl)) (by simp only [List.length_nil]; omega)
      rw [ds_l, List.map_map]
      rw [List.nil_append] at e
      show gath _ (xs.l.map (fun y : Sx => W.d y.d)) [] [] = _
      rw [← ds_l]
      rw [e]
      simp [wL]
    have hjn : mthV .join [] (vStr ⟨#[32]⟩) [.fl (wL (xs.l.map Sx.tx))] = some (vStr (S xs.txs), []) := by
      have := join_w [] [32] (xs.l.map Sx.tx) (by simp only [List.length_map, List.length_cons, List.length_nil]; omega)
      rw [← txs_l] at this
      exact this
    have ha1 : binV .Add [] (vStr ⟨#[40]⟩) (vStr (S xs.txs)) = some (vStr (S (40 :: xs.txs))) := add_S [] [40] xs.txs (by simp only [List.length_cons, List.length_nil]; omega)
    have ha2 : binV .Add [] (vStr (S (40 :: xs.txs))) (vStr ⟨#[41]⟩) = some (vStr (S (40 :: (xs.txs ++ [41])))) := add_S [] (40 :: xs.txs) [41] (by simp only [List.length_cons, List.length_nil]; omega)
    show Rn ((n + m) + 1) 3 [.d (.tuple xs.ds)] [] = .ok (vStr (S (40 :: (xs.txs ++ [41])))) []
    have hr : recvOk .join [] (vStr ⟨#[32]⟩) = true := rfl
    have hx : evE ⟨Rn (n + m), lfN⟩ (.mth .join (.cst (.str ⟨#[32]⟩)) [(.lc [1] (.nm 1) (.it (.var 0)) [] kid3)]) [some (.d (.tuple xs.ds)), none] [] = .ok (vStr (S xs.txs)) [] :=
      ev_mth (r := (vStr (S xs.txs), [])) ev_cst hr (es_cons (ev_lc rfl (sr_it (ev_var rfl) rfl) (ga_items hg)) es_nil) hjn
    apply run_fn (fn := f3) rfl rfl rfl
    simp only [f3, b3, entry, List.map_cons, List.map_nil, List.replicate, List.cons_append, List.nil_append, Nat.reduceSub]
    repeat' (first | with_reducible exact hx | with_reducible exact ha1 | with_reducible exact ha2 | decreasing_trivial_pre_omega | rfl)
/-! is_sexpr -/
theorem is_atom (n k : Nat) (p : Int) : Rn (n + 1) 4 [.d (dS (atomL k)), .d (.int p)] [] = .ok (vBool true) [] := by
  match k with
  | 0 | 1 | 2 | 3 | 4 | 5 | 6 => rfl
  | k + 7 => rfl
abbrev kid4 : E := .call 4 [(.var 2), (.bin .Add (.var 1) (.cst (.int 1)))] []
theorem turn4 (C : CE) (v d : D) (p : Int) (st : Sto) (h : callV C 4 [.d d, .d (.int (p + 1))] st = .ok (vBool true) st) : lcF C [2] (.nm 2) [] kid4 [some (.d v), some (.d (.int p)), none] (.d d) st = .ok (some (.d (.bool true))) st := by
  repeat' (first | with_reducible exact h | decreasing_trivial_pre_omega | rfl)
theorem all_true : ∀ L : List Sx, bools (L.map fun _ => W.d (.bool true)) = some (L.map fun _ => true)
  | [] => rfl
  | x :: r => by
    show (bools (r.map fun _ => W.d (.bool true))).map (true :: ·) = _
    rw [all_true r]; rfl
theorem is_ok : ∀ (m : Nat) (x : Sx) (p : Int), x.dep < m → x.dep + p < 20 → x.tx.length ≤ 3000 → ∀ n, Rn (n + m) 4 [.d x.d, .d (.int p)] [] = .ok (vBool true) []
  | 0, x, p, h, _, _, n => by omega
  | m + 1, .at k, p, h, hp, hl, n => is_atom (n + m) k p
  | m + 1, .nd xs, p, h, hp, hl, n => by
    simp only [Sx.dep] at h hp
    have hlen : xs.txs.length ≤ 2998 := by
      simp only [Sx.tx, List.length_cons, List.length_append, List.length_nil] at hl; omega
    have hj := hlen
    rw [txs_l] at hj
    have hn := joinL_num 32 (xs.l.map Sx.tx)
    have hnl : xs.l.length ≤ 2999 := by rw [List.length_map] at hn; omega
    have hg : gath (lcF ⟨Rn (n + m), lfN⟩ [2] (.nm 2) [] kid4 [some (.d (.tuple xs.ds)), some (.d (.int p)), none]) (xs.ds.map W.d) [] [] = .ok (xs.l.map fun _ => W.d (.bool true)) [] := by
      have e := gath_map (f := lcF ⟨Rn (n + m), lfN⟩ [2] (.nm 2) [] kid4 [some (.d (.tuple xs.ds)), some (.d (.int p)), none]) (g := fun y : Sx => W.d y.d) (h := fun y : Sx => W.d (.bool true)) (st := []) xs.l [] (fun y hy =>
        turn4 _ _ _ _ _ (cl_pure (C := ⟨Rn (n + m), lfN⟩) rfl (is_ok m y (p + 1) (by have := deps_l xs y hy; omega) (by have := deps_l xs y hy; omega) (by
          have : y.tx ∈ xs.l.map Sx.tx := List.mem_map.mpr ⟨y, hy, rfl⟩
          have := mem_len (z := [32]) this
          omega) n) rfl)) (by simp only [List.length_nil]; omega)
      rw [ds_l, List.map_map]
      rw [List.nil_append] at e
      show gath _ (xs.l.map (fun y : Sx => W.d y.d)) [] [] = _
      rw [← ds_l]
      rw [e]
    have hge : cmpV .GtE [] (vInt p) (vInt 20) = some false := by
      show some (decide ((20 : Int) ≤ p)) = _
      rw [decide_eq_false
            (by omega)]
    have hall : bltV .all [] [.fl (xs.l.map fun _ => W.d (.bool true))] = some (vBool true) := by
      show (some (xs.l.map fun _ => W.d (.bool true))).bind (fun xs => (bools xs).map fun bs => vBool (bs.all id)) = _
      rw [Option.bind_some, all_true]
      simp
    have hi : isTys [] (.w (.d (.tuple xs.ds))) [.str] = some false := rfl
    have hi2 : isTys [] (.w (.d (.tuple xs.ds))) [.tuple] = some true := rfl
    show Rn ((n + m) + 1) 4 [.d (.tuple xs.ds), .d (.int p)] [] = .ok (vBool true) []
    apply run_fn (fn := f4) rfl rfl rfl
    simp only [f4, b4, entry, List.map_cons, List.map_nil, List.replicate, List.cons_append, List.nil_append, Nat.reduceSub]
    repeat' (first | with_reducible exact hi | with_reducible exact hi2 | with_reducible exact hge | with_reducible exact hg | with_reducible exact hall | decreasing_trivial_pre_omega | rfl)
end K1
set_option maxHeartbeats 4000001
namespace K1
open PySem MP
local macro_rules | `(tactic| decreasing_trivial_pre_omega) => `(tactic| first
  | simp only [List.map_nil, List.append_nil, List.nil_append, List.cons_append, List.map_cons, List.set_cons_zero, List.set_cons_succ, List.length_nil]
  | with_reducible exact ev_cst | with_reducible apply ev_cel | with_reducible apply ev_var | with_reducible apply ev_bin | with_reducible apply ev_cmp | with_reducible apply ev_ix | with_reducible apply ev_nt | with_reducible apply ev_an | with_reducible apply ev_orr
  | with_reducible apply ev_ife | with_reducible apply ev_cmp2 | with_reducible apply ev_cmp2b | with_reducible apply ev_tup | with_reducible apply ev_lst | with_reducible exact ev_dis | with_reducible apply ev_neg | with_reducible apply ev_sl
  | with_reducible exact eo_none | with_reducible apply eo_some | with_reducible apply ev_call | with_reducible apply ev_blt | with_reducible apply ev_mth | with_reducible apply ev_isi | with_reducible apply ev_lc
  | with_reducible exact ec_nil | with_reducible apply ec_one | with_reducible exact es_nil | with_reducible apply es_cons | with_reducible apply sr_it | with_reducible apply sr_rng1 | with_reducible apply sr_rng2 | with_reducible apply sr_enm | with_reducible apply sr_zp
  | with_reducible apply pick_t | with_reducible apply pick_f | refine pick_tE (by rfl) ?_ | refine pick_fE (by rfl) ?_ | with_reducible apply nx_nx | with_reducible exact nx_rt | with_reducible exact nx_bk | with_reducible exact nx_ct | with_reducible exact ss_nil | with_reducible apply ss_cons | with_reducible apply s_asg | with_reducible apply s_own
  | with_reducible apply s_unp | with_reducible apply s_par | with_reducible apply s_set | with_reducible apply s_ex | with_reducible apply s_iff | with_reducible apply s_ret | with_reducible exact s_retN | with_reducible exact s_pss | with_reducible exact s_brk | with_reducible exact s_cnt
  | with_reducible apply s_fr | with_reducible apply fo_items | with_reducible exact fo_nil | with_reducible apply fo_cons | with_reducible apply frF_ok | with_reducible apply nf_nx | with_reducible apply nf_ct | with_reducible exact nf_rt | with_reducible exact nf_bk
  | with_reducible apply ga_items | with_reducible exact ga_nil | with_reducible apply ng_none | with_reducible apply ng_some | with_reducible apply lcF_ok | with_reducible apply lcE | with_reducible apply ga_cons)
/-! what is drawn -/
theorem oks_l : ∀ (xs : Sxs), xs.oks → ∀ y ∈ xs.l, y.ok
  | .nil, _, y, h => by simp [Sxs.l] at h
  | .cons x r, k, y, h => by
    simp only [Sxs.l, List.mem_cons] at h
    rcases h with rfl | h
    · exact k.1
    · exact oks_l r k.2 y h
theorem txs_len (B : Nat) : ∀ (xs : Sxs), (∀ y ∈ xs.l, y.tx.length ≤ B) → xs.txs.length ≤ xs.l.length * (B + 1)
  | .nil, _ => Nat.zero_le _
  | .cons x .nil, h => by
    have := h x (by simp [Sxs.l])
    simp only [Sxs.txs, Sxs.l, List.length_cons, List.length_nil]; omega
  | .cons x (.cons y r), h => by
    have h1 := h x (by simp [Sxs.l])
    have ih := txs_len B (.cons y r) fun z hz => h z (by rw [Sxs.l]; exact List.mem_cons_of_mem _ hz)
    have e : (Sxs.cons x (.cons y r)).l.length = (Sxs.cons y r).l.length + 1 := rfl
    rw [e, Nat.add_mul, Sxs.txs, List.length_append, List.length_cons]
    omega
def fB : Nat → Nat
  | 0 => 2
  | d + 1 => 3 * fB d + 5
theorem tx_len : ∀ (m : Nat) (x : Sx), x.ok → x.dep ≤ m → x.tx.length ≤ fB m
  | 0, .at k, _, _ => (atom_ok k).2.2.2.2.2
  | m + 1, .at k, _, _ => by
    have := (atom_ok k).2.2.2.2.2
    show (atomL k).length ≤ 3 * fB m + 5
    omega
  | 0, .nd xs, _, h => by simp only [Sx.dep] at h; omega
  | m + 1, .nd xs, k, h => by
    simp only [Sx.dep] at h
    have k1 : xs.oks := k.1
    have k2 : xs.ds.length ≤ 3 := k.2
    have hb := txs_len (fB m) xs fun y hy => tx_len m y (oks_l xs k1 y hy) (by have := deps_l xs y hy; omega)
    rw [ds_l, List.length_map] at k2
    have hm : xs.l.length * (fB m + 1) ≤ 3 * (fB m + 1) := Nat.mul_le_mul_right _ k2
    simp only [Sx.tx, fB, List.length_cons, List.length_append, List.length_nil]
    omega
mutual
theorem tx_no9 : ∀ x : Sx, 9 ∉ x.tx
  | .at k => (atom_ok k).2.2.2.2.1
  | .nd xs => by
    simp only [Sx.tx, List.mem_cons, List.mem_append, List.not_mem_nil, not_or, or_false]
    exact ⟨by decide, txs_no9 xs, by decide⟩
theorem txs_no9 : ∀ xs : Sxs, 9 ∉ xs.txs
  | .nil => by simp [Sxs.txs]
  | .cons x .nil => tx_no9 x
  | .cons x (.cons y r) => by
    rw [Sxs.txs]
    simp only [List.mem_append, List.mem_cons, not_or]
    exact ⟨tx_no9 x, by decide, txs_no9 (.cons y r)⟩
end
theorem sm_d : ∀ (k : Nat) (x : Sx), x.ok → x.dep < k → sm k x.d = true
  | 0, x, _, h => by omega
  | k + 1, .at j, _, _ => rfl
  | k + 1, .nd xs, ho, h => by
    simp only [Sx.dep] at h
    have k1 : xs.oks := ho.1
    have k2 : xs.ds.length ≤ 3 := ho.2
    show (decide (xs.ds.length ≤ 1000) && xs.ds.all (sm k)) = true
    rw [decide_eq_true (by omega), Bool.true_and, List.all_eq_true]
    intro v hv
    rw [ds_l, List.mem_map] at hv
    obtain ⟨y, hy, rfl⟩ := hv
    exact sm_d k y (oks_l xs k1 y hy) (by have := deps_l xs y hy; omega)
/-! what is read -/
def Sm : Nat → List (List D) → Prop
  | _, [] => True
  | b, l :: r => (∀ v ∈ l, sm (20 - b) v = true) ∧ Sm (b - 1) r
theorem sm_run : ∀ (ts : Tk) (top : List D) (bel : List (List D)), bel.length ≤ 19 → Sm bel.length (top :: bel) → (∀ l ∈ top :: bel, l.length + ts.length ≤ 1000) → ∀ q, runS ts top bel = some q → Sm q.2.length (q.1 :: q.2)
  | [], top, bel, hb, h, hl, q, e => by
    simp only [runS, Option.some.injEq] at e
    subst e; exact h
  | t :: r, top, bel, hb, h, hl, q, e => by
    simp only [runS] at e
    cases hs : stp t top bel with
    | none => rw [hs] at e; cases e
    | some s =>
      rw [hs] at e
      simp only at e
      by_cases h20 : 20 ≤ s.2.length
      · rw [if_pos h20] at e; cases e
      · rw [if_neg h20] at e
        unfold stp at hs
        split at hs
        · cases hs
          have h20' : ¬ 20 ≤ (top :: bel).length := h20
          refine sm_run r [] (top :: bel) (by omega) ?_ ?_ q e
          · exact ⟨fun v hv => by simp at hv, h⟩
          · intro l hm
            rcases List.mem_cons.mp
                  hm with rfl | hm
            · have := hl top (by simp); simp only [List.length_cons, List.length_nil] at this ⊢; omega
            · have := hl l hm; simp only [List.length_cons] at this; omega
        · split at hs
          · cases bel with
            | nil => cases hs
            | cons b rr =>
              cases hs
              simp only [List.length_cons] at hb h20
              refine sm_run r (b ++ [.tuple top]) rr (by omega) ?_ ?_ q e
              · obtain ⟨h1, h2, h3⟩ := h
                refine ⟨fun v hv => ?_, ?_⟩
                · rcases List.mem_append.mp
                      hv with hv | hv
                  · exact h2 v hv
                  · rw [List.mem_singleton] at hv
                    subst hv
                    have e1 : 20 - rr.length = (20 - (b :: rr).length) + 1 := by simp only [List.length_cons]; omega
                    rw [e1]
                    show (decide (top.length ≤ 1000) && top.all (sm (20 - (b :: rr).length))) = true
                    rw [decide_eq_true (by have := hl top (by simp); omega), Bool.true_and, List.all_eq_true]
                    exact h1
                · exact h3
              · intro l hm
                rcases List.mem_cons.mp
                      hm with rfl | hm
                · have := hl b (by simp); simp only [List.length_append, List.length_cons, List.length_nil] at this ⊢; omega
                · have := hl l (by simp [hm]); simp only [List.length_cons] at this; omega
          · cases hs
            refine sm_run r (top ++ [dS t]) bel hb ?_ ?_ q e
            · refine ⟨fun v hv => ?_, h.2⟩
              rcases List.mem_append.mp hv with hv | hv
              · exact h.1 v hv
              · rw [List.mem_singleton] at hv
                subst hv
                have e1 : 20 - bel.length = (19 - bel.length) + 1 := by omega
                rw [e1]; rfl
            · intro l hm
              rcases List.mem_cons.mp
                    hm with rfl | hm
              · have := hl top (by simp); simp only [List.length_append, List.length_cons, List.length_nil] at this ⊢; omega
              · have := hl l (by simp [hm]); simp only [List.length_cons] at this; omega
theorem sm_read (ts : Tk) (h : ts.length ≤ 1000) : sm 20 (readS ts) = true := by
  unfold readS
  cases e : runS ts [] [] with
  | none => rfl
  | some q =>
    have hq := sm_run ts [] [] (by simp) ⟨fun v hv => by simp at hv, trivial⟩ (by intro l hm; simp at hm; subst hm; simpa using h) q e
    obtain ⟨a, b⟩ := q
    show sm 20 (pickS (a, b)) = true
    match a, b with
    | [], b => cases b <;> rfl
    | [v], [] => exact hq.1 v (by simp)
    | [v], _ :: _ => rfl
    | _ :: _ :: _, _ => rfl
theorem sm_toks (k : Nat) (ts : Tk) (h : ts.length ≤ 1000) : sm (k + 2) (lD ts) = true := by
  show (decide ((ts.map dS).length ≤ 1000) && (ts.map dS).all (sm (k + 1))) = true
  rw [decide_eq_true (by simpa using h), Bool.true_and, List.all_eq_true]
  intro v hv
  rw [List.mem_map] at hv
  obtain ⟨y, _, rfl⟩ := hv
  rfl
/-! drawing -/
def Dr (C : CE) (ns : List Int) (d : Nat) : Prop := ∀ (p : Nat) (q s : Int), 0 ≤ q → ∃ (x : Sx) (p' : Nat) (q' s' : Int), x.ok ∧ x.dep ≤ d ∧ 0 ≤ q' ∧ callV C 7 [.ref 0, .d (.int d)] (TP (ns.map PyData.int) p q s) = .ok (.w (.d x.d)) (TP (ns.map PyData.int) p' q' s')
abbrev kid7 : E := .call 7 [(.var 0), (.bin .Sub (.var 1) (.cst (.int 1)))] []
theorem turn7 (C : CE) (m i : Int) (d : D) (S0 S1 : Sto) (h : callV C 7 [.ref 0, .d (.int (m - 1))] S0 = .ok (.w (.d d)) S1) : lcF C [2] (.nm 2) [] kid7 [some (.ref 0), some (.d (.int m)), none] (.d (.int i)) S0 = .ok (some (.d d)) S1 := by
  repeat' (first | with_reducible exact h | decreasing_trivial_pre_omega | rfl)
theorem kids (C : CE) (ns : List Int) (d : Nat) (hd : Dr C ns d) : ∀ (its : List W) (acc : List W) (p : Nat) (q s : Int), (∀ w ∈ its, ∃ i, w = W.d (.int i)) → 0 ≤ q → acc.length + its.length ≤ 100 →
    ∃ (xs : Sxs) (p' : Nat) (q' s' : Int), xs.oks ∧ xs.deps ≤ d ∧ xs.ds.length = its.length ∧ 0 ≤ q' ∧ gath (lcF C [2] (.nm 2) [] kid7 [some (.ref 0), some (.d (.int ((d + 1 : Nat) : Int))), none]) its acc (TP (ns.map PyData.int) p q s) = .ok (acc ++ xs.ds.map W.d) (TP (ns.map PyData.int) p' q' s')
  | [], acc, p, q, s, _, hq, _ => ⟨.nil, p, q, s, trivial, Nat.zero_le _, rfl, hq, by simp [gath, Sxs.ds]⟩
  | w :: its, acc, p, q, s, hi, hq, hl => by
    obtain ⟨i, rfl⟩ := hi w (List.mem_cons_self ..)
    obtain ⟨x, p1, q1, s1, a1, a2, a3, a4⟩ := hd p q s hq
    simp only [List.length_cons] at hl
    obtain ⟨xs, p2, q2, s2, b1, b2, b3, b4, b5⟩ := kids C ns d hd its (acc ++ [.d x.d]) p1 q1 s1 (fun w hw => hi w (List.mem_cons_of_mem _ hw)) a3 (by simp only [List.length_append, List.length_cons, List.length_nil]; omega)
    refine ⟨.cons x xs, p2, q2, s2, ⟨a1, b1⟩, Nat.max_le.mpr ⟨a2, b2⟩, by simp only [Sxs.ds, List.length_cons, b3], b4, ?_⟩
    have e : ((d + 1 : Nat) : Int) - 1 = (d : Int) := by omega
    refine ga_cons (turn7 C _ i x.d _ _ (by rw [e]; exact a4)) (ng_some (decide_eq_true (by show acc.length < 16777216; omega)) ?_)
    rw [b5]
    simp [Sxs.ds]
theorem eq_i (st : Sto) (q : Int) : cmpV .Eq st (vInt q) (vInt 0) = some (decide (q = 0)) := eq0 st q
abbrev atoms : List D := [.str ⟨#[97]⟩, .str ⟨#[98, 57]⟩, .str ⟨#[61, 120]⟩, .str ⟨#[36, 115]⟩, .str ⟨#[49, 50]⟩, .str ⟨#[58, 61]⟩, .str ⟨#[35]⟩]
theorem atom_ix (st : Sto) (v : Int) (h : 0 ≤ v ∧ v < 7) : ixV st (vTup atoms) (vInt v) = some (.w (.d (dS (atomL v.toNat)))) := by
  obtain rfl | rfl | rfl | rfl | rfl | rfl | rfl : v = 0 ∨ v = 1 ∨ v = 2 ∨ v = 3 ∨ v = 4 ∨ v = 5 ∨ v = 6 := by omega
  all_goals rfl
theorem drawn_a (N : Nat) (S0 S1 : Sto) (v : Int) (h1 : callV ⟨Rn N, lfN⟩ 5 [.ref 0, .d (.int 7)] S0 = .ok (vInt v) S1) (hv : 0 ≤ v ∧ v < 7) : Rn (N + 1) 7 [.ref 0, .d (.int 0)] S0 = .ok (.w (.d (dS (atomL v.toNat)))) S1 := by
  have hx := atom_ix S1 v hv
  have e0 : cmpV .Eq S0 (vInt 0) (vInt 0) = some true := rfl
  apply run_fn (fn := f7) rfl rfl rfl
  simp only [f7, b7, entry, List.map_cons, List.map_nil, List.replicate, List.cons_append, List.nil_append, Nat.reduceSub]
  repeat' (first | with_reducible exact h1 | with_reducible exact hx | with_reducible exact e0 | decreasing_trivial_pre_omega | rfl)
theorem drawn_b (N : Nat) (S0 S1 S2 : Sto) (d v : Int) (hd : d ≠ 0) (h0 : callV ⟨Rn N, lfN⟩ 5 [.ref 0, .d (.int 3)] S0 = .ok (vInt 0) S1) (h1 : callV ⟨Rn N, lfN⟩ 5 [.ref 0, .d (.int 7)] S1 = .ok (vInt v) S2) (hv : 0 ≤ v ∧ v < 7) : Rn (N + 1) 7 [.ref 0, .d (.int d)] S0 = .ok (.w (.d (dS (atomL v.toNat)))) S2 := by
  have hx := atom_ix S2 v hv
  have e0 := eq_i S0 d
  rw [decide_eq_false hd] at e0
  have e1 : cmpV .Eq S1 (vInt 0) (vInt 0) = some true := rfl
  apply run_fn (fn := f7) rfl rfl rfl
  simp only [f7, b7, entry, List.map_cons, List.map_nil, List.replicate, List.cons_append, List.nil_append, Nat.reduceSub]
  repeat' (first | with_reducible exact h0 | with_reducible exact h1 | with_reducible exact hx | with_reducible exact e0 | with_reducible exact e1 | decreasing_trivial_pre_omega | rfl)
theorem drawn_c (N : Nat) (S0 S1 S2 S3 : Sto) (d v1 v : Int) (ds : List D) (hd : d ≠ 0) (hv : v1 ≠ 0) (h0 : callV ⟨Rn N, lfN⟩ 5 [.ref 0, .d (.int 3)] S0 = .ok (vInt v1) S1) (h1 : callV ⟨Rn N, lfN⟩ 5 [.ref 0, .d (.int 4)] S1 = .ok (vInt v) S2) (hr : rng1V [vInt v] = some (rngW 0 v))
    (hg : gath (lcF ⟨Rn N, lfN⟩ [2] (.nm 2) [] kid7 [some (.ref 0), some (.d (.int d)), none]) (rngW 0 v) [] S2 = .ok (ds.map W.d) S3) : Rn (N + 1) 7 [.ref 0, .d (.int d)] S0 = .ok (.w (.d (.tuple ds))) S3 := by
  have e0 := eq_i S0 d
  rw [decide_eq_false hd] at e0
  have e1 := eq_i S1 v1
  rw [decide_eq_false hv] at e1
  have hT : bltV .tuple S3 [.fl (ds.map W.d)] = some (vTup ds) := by
    show (some (ds.map W.d)).bind (fun xs => (datas xs).map vTup) = _
    rw [Option.bind_some, datas_map]; rfl
  apply run_fn (fn := f7) rfl rfl rfl
  simp only [f7, b7, entry, List.map_cons, List.map_nil, List.replicate, List.cons_append, List.nil_append, Nat.reduceSub]
  repeat' (first | with_reducible exact h0 | with_reducible exact h1 | with_reducible exact hr | with_reducible exact hg | with_reducible exact hT | with_reducible exact e0 | with_reducible exact e1 | decreasing_trivial_pre_omega | rfl)
theorem dr_of (N : Nat) (ns : List Int) (d : Nat) (h : ∀ (p : Nat) (q s : Int), 0 ≤ q → ∃ (x : Sx) (p' : Nat) (q' s' : Int), x.ok ∧ x.dep ≤ d ∧ 0 ≤ q' ∧ Rn (N + 1) 7 [.ref 0, .d (.int d)] (TP (ns.map PyData.int) p q s) = .ok (.w (.d x.d)) (TP (ns.map PyData.int) p' q' s')) : Dr ⟨Rn (N + 1), lfN⟩ ns d := fun p q s hq => by
  obtain ⟨x, p', q', s', a1, a2, a3, a4⟩ := h p q s hq
  exact ⟨x, p', q', s', a1, a2, a3, (cl_heap (C := ⟨Rn (N + 1), lfN⟩) (s1 := TP (ns.map PyData.int) p' q' s') (v' := .w (.d x.d)) rfl a4 rfl rfl).trans rfl⟩
theorem toNat_lt {v : Int} (h : 0 ≤ v ∧ v < 7) : v.toNat < 7 := by omega
theorem dr_ok (ns : List Int) : ∀ (d n : Nat), Dr ⟨Rn (n + d + 2), lfN⟩ ns d
  | 0, n => dr_of (n + 1) ns 0 fun p q s hq => by
    obtain ⟨v, p1, q1, s1, a1, a2, a3, h1⟩ := next_ok n ns p q s 7 hq (by decide)
    exact ⟨.at v.toNat, p1, q1, s1, toNat_lt ⟨a1, a2⟩, Nat.zero_le _, a3, drawn_a (n + 1) _ _ v h1 ⟨a1, a2⟩⟩
  | d + 1, n => dr_of (n + d + 2) ns (d + 1) fun p q s hq => by
    have hd : ((d + 1 : Nat) : Int) ≠ 0 := by omega
    obtain ⟨v1, p1, q1, s1, a1, a2, a3, h1⟩ := next_ok (n + d + 1) ns p q s 3 hq (by decide)
    by_cases hv : v1 = 0
    · subst hv
      obtain ⟨v, p2, q2, s2, c1, c2, c3, h2⟩ := next_ok (n + d + 1) ns p1 q1 s1 7 a3 (by decide)
      exact ⟨.at v.toNat, p2, q2, s2, toNat_lt ⟨c1, c2⟩, Nat.zero_le _, c3, drawn_b (n + d + 2) _ _ _ _ v hd h1 h2 ⟨c1, c2⟩⟩
    · obtain ⟨v, p2, q2, s2, c1, c2, c3, h2⟩ := next_ok (n + d + 1) ns p1 q1 s1 4 a3 (by decide)
      have hr : rng1V [vInt v] = some (rngW 0 v) := by
        obtain ⟨k, rfl⟩ := Int.eq_ofNat_of_zero_le c1
        exact rng_ok k (by omega)
      have hi : ∀ w ∈ rngW 0 v, ∃ i, w = W.d (.int i) := fun w hw => by
        unfold rngW at hw
        rw [List.mem_map] at hw
        obtain ⟨k, _, rfl⟩ := hw
        exact ⟨_, rfl⟩
      have hlen : (rngW 0 v).length ≤ 3 := by
        unfold rngW
        rw [List.length_map, List.length_range]; omega
      obtain ⟨xs, p3, q3, s3, b1, b2, b3, b4, b5⟩ := kids ⟨Rn (n + d + 2), lfN⟩ ns d (dr_ok ns d n) (rngW 0 v) [] p2 q2 s2 hi c3 (by simp only [List.length_nil]; omega)
      rw [List.nil_append] at b5
      exact ⟨.nd xs, p3, q3, s3, ⟨b1, by omega⟩, Nat.succ_le_succ b2, b4, drawn_c (n + d + 2) _ _ _ _ _ v1 v xs.ds hd hv h1 h2 hr b5⟩
/-! blanks put in -/
abbrev lsE : E := .ife (.cmp .In (.var 5) (.cst (.str ⟨#[40, 41, 32]⟩))) (.ix (.tup [(.var 5), (.bin .Add (.var 5) (.cst (.str ⟨#[32]⟩))), (.bin .Add (.bin .Add (.cst (.str ⟨#[10]⟩)) (.var 5)) (.cst (.str ⟨#[32, 32]⟩)))]) (.call 5 [(.var 1), (.cst (.int 3))] [])) (.var 5)
abbrev sgA (fz : List D) (x t : D) : MP.Env := [some (.fz fz), some (.ref 0), some (.d x), some (.d t), none, none, none, none, none, none, none, none, none, none]
theorem in3 (st : Sto) (c : Nat) : cmpV .In st (vStr ⟨#[c]⟩) (vStr ⟨#[40, 41, 32]⟩) = some (decide (c = 40 ∨ c = 41 ∨ c = 32)) := by
  show some (decide (c ∈ [40, 41, 32])) = _
  simp
theorem ls_no (C : CE) (fz : List D) (x t : D) (c : Nat) (st : Sto) (h : ¬ (c = 40 ∨ c = 41 ∨ c = 32)) : lcF C [5] (.nm 5) [] lsE (sgA fz x t) (.d (dc c)) st = .ok (some (.d (dS [c]))) st := by
  have hi := in3 st c
  rw [decide_eq_false h] at hi
  repeat' (first | with_reducible exact hi | decreasing_trivial_pre_omega | rfl)
theorem ls_yes (C : CE) (fz : List D) (x t : D) (c : Nat) (st s1 : Sto) (v : Int) (pc : List Nat) (h : c = 40 ∨ c = 41 ∨ c = 32) (h1 : callV C 5 [.ref 0, .d (.int 3)] st = .ok (vInt v) s1) (hp : ixV s1 (vTup [dS [c], dS [c, 32], dS [10, c, 32, 32]]) (vInt v) = some (.w (.d (dS pc)))) :
    lcF C [5] (.nm 5) [] lsE (sgA fz x t) (.d (dc c)) st = .ok (some (.d (dS pc))) s1 := by
  have hi := in3 st c
  rw [decide_eq_true h] at hi
  have a1 : binV .Add st (vStr ⟨#[c]⟩) (vStr ⟨#[32]⟩) = some (vStr (S [c, 32])) := add_S st [c] [32] (by simp)
  have a2 : binV .Add st (vStr ⟨#[10]⟩) (vStr ⟨#[c]⟩) = some (vStr (S [10, c])) := add_S st [10] [c] (by simp)
  have a3 : binV .Add st (vStr (S [10, c])) (vStr ⟨#[32, 32]⟩) = some (vStr (S [10, c, 32, 32])) := add_S st [10, c] [32, 32] (by simp)
  repeat' (first | with_reducible exact hi | with_reducible exact a1 | with_reducible exact a2 | with_reducible exact a3 | with_reducible exact h1 | with_reducible exact hp | decreasing_trivial_pre_omega | rfl)
theorem loose_ok (n : Nat) (ns : List Int) (fz : List D) (x t : D) : ∀ (a : List Nat) (acc : List W) (p : Nat) (q s : Int), 0 ≤ q → acc.length + a.length ≤ 100000 →
    ∃ (ps : List (List Nat)) (p' : Nat) (q' s' : Int), Lo a ps.flatten ∧ ps.length = a.length ∧ 0 ≤ q' ∧ gath (lcF ⟨Rn (n + 1), lfN⟩ [5] (.nm 5) [] lsE (sgA fz x t)) (its a) acc (TP (ns.map PyData.int) p q s) = .ok (acc ++ wL ps) (TP (ns.map PyData.int) p' q' s')
  | [], acc, p, q, s, hq, _ => ⟨[], p, q, s, .nil, rfl, hq, by simp [gath, wL]⟩
  | c :: r, acc, p, q, s, hq, hl => by
    simp only [List.length_cons] at hl
    have hlt : decide (acc.length < line) = true := decide_eq_true (by show acc.length < 16777216; omega)
    have key : ∃ (pc : List Nat) (p1 : Nat) (q1 s1 : Int), (∀ b, Lo r b → Lo (c :: r) (pc ++ b)) ∧ 0 ≤ q1 ∧ lcF ⟨Rn (n + 1), lfN⟩ [5] (.nm 5) [] lsE (sgA fz x t) (.d (dc c)) (TP (ns.map PyData.int) p q s) = .ok (some (.d (dS pc))) (TP (ns.map PyData.int) p1 q1 s1) := by
      by_cases h : c = 40 ∨ c = 41 ∨ c = 32
      · obtain ⟨v, p1, q1, s1, c1, c2, c3, h1⟩ := next_ok n ns p q s 3 hq (by decide)
        obtain rfl | rfl | rfl : v = 0 ∨ v = 1 ∨ v = 2 := by omega
        · exact ⟨[c], p1, q1, s1, fun b hb => .pl c hb, c3, ls_yes _ fz x t c _ _ 0 [c] h h1 rfl⟩
        · exact ⟨[c, 32], p1, q1, s1, fun b hb => .sp c h hb, c3, ls_yes _ fz x t c _ _ 1 [c, 32] h h1 rfl⟩
        · exact ⟨[10, c, 32, 32], p1, q1, s1, fun b hb => .nl c h hb, c3, ls_yes _ fz x t c _ _ 2 [10, c, 32, 32] h h1 rfl⟩
      · exact ⟨[c], p, q, s, fun b hb => .pl c hb, hq, ls_no _ fz x t c _ h⟩
    obtain ⟨pc, p1, q1, s1, k1, k2, k3⟩ := key
    obtain ⟨ps, p2, q2, s2, b1, b2, b3, b4⟩ := loose_ok n ns fz x t r (acc ++ [.d (dS pc)]) p1 q1 s1 k2 (by simp only [List.length_append, List.length_cons, List.length_nil]; omega)
    refine ⟨pc :: ps, p2, q2, s2, k1 _ b1, by simp only [List.length_cons, b2], b3, ?_⟩
    refine ga_cons k3 (ng_some hlt ?_)
    rw [b4, List.append_assoc]
    rfl
theorem joinL_nil : ∀ ps : List (List Nat), TL.joinL [] ps = ps.flatten
  | [] => rfl
  | [p] => by simp [TL.joinL]
  | p :: q :: r => by
    rw [joinL_cons [] p (by simp), joinL_nil (q :: r)]
    simp
theorem flat_len (ps : List (List Nat)) : (ps.map List.length).sum = ps.flatten.length := (List.length_flatten).symm
end K1
set_option maxHeartbeats 4000001
namespace K1
open PySem MP
local macro_rules | `(tactic| decreasing_trivial_pre_omega) => `(tactic| first
  | simp only [List.map_nil, List.append_nil, List.nil_append, List.cons_append, List.map_cons, List.set_cons_zero, List.set_cons_succ, List.length_nil]
  | with_reducible exact ev_cst | with_reducible apply ev_cel | with_reducible apply ev_var | with_reducible apply ev_bin | with_reducible apply ev_cmp | with_reducible apply ev_ix | with_reducible apply ev_nt | with_reducible apply ev_an | with_reducible apply ev_orr
  | with_reducible apply ev_ife | with_reducible apply ev_cmp2 | with_reducible apply ev_cmp2b | with_reducible apply ev_tup | with_reducible apply ev_lst | with_reducible exact ev_dis | with_reducible apply ev_neg | with_reducible apply ev_sl
  | with_reducible exact eo_none | with_reducible apply eo_some | with_reducible apply ev_call | with_reducible apply ev_blt | with_reducible apply ev_mth | with_reducible apply ev_isi | with_reducible apply ev_lc
  | with_reducible exact ec_nil | with_reducible apply ec_one | with_reducible exact es_nil | with_reducible apply es_cons | with_reducible apply sr_it | with_reducible apply sr_rng1 | with_reducible apply sr_rng2 | with_reducible apply sr_enm | with_reducible apply sr_zp
  | with_reducible apply pick_t | with_reducible apply pick_f | refine pick_tE (by rfl) ?_ | refine pick_fE (by rfl) ?_ | with_reducible apply nx_nx | with_reducible exact nx_rt | with_reducible exact nx_bk | with_reducible exact nx_ct | with_reducible exact ss_nil | with_reducible apply ss_cons | with_reducible apply s_asg | with_reducible apply s_own
  | with_reducible apply s_unp | with_reducible apply s_par | with_reducible apply s_set | with_reducible apply s_ex | with_reducible apply s_iff | with_reducible apply s_ret | with_reducible exact s_retN | with_reducible exact s_pss | with_reducible exact s_brk | with_reducible exact s_cnt
  | with_reducible apply s_fr | with_reducible apply fo_items | with_reducible exact fo_nil | with_reducible apply fo_cons | with_reducible apply frF_ok | with_reducible apply nf_nx | with_reducible apply nf_ct | with_reducible exact nf_rt | with_reducible exact nf_bk
  | with_reducible apply ga_items | with_reducible exact ga_nil | with_reducible apply ng_none | with_reducible apply ng_some | with_reducible apply lcF_ok | with_reducible apply lcE | with_reducible apply ga_cons)
/-! the end: closed -/
abbrev tlB : List MP.S := b13.drop 7
abbrev sgT (fz : List D) (x a b : D) (o6 o7 o8 o9 : Option W) (v : Int) : MP.Env := [some (.fz fz), some (.ref 0), some (.d x), some (.d a), some (.d b), none, o6, o7, o8, o9, some (.d (.str ⟨#[97]⟩)), some (.d (.int v)), none, none]
abbrev dp : Nat → D
  | 0 => .str ⟨#[97]⟩
  | k + 1 => .tuple [dp k]
abbrev sgU (fz : List D) (x a b : D) (o6 o7 o8 o9 : Option W) (d : D) (v : Int) (o12 : Option W) : MP.Env := [some (.fz fz), some (.ref 0), some (.d x), some (.d a), some (.d b), none, o6, o7, o8, o9, some (.d d), some (.d (.int v)), o12, none]
abbrev frT : MP.S := (.fr (.nm 12) (.rng1 [(.var 11)]) [(.asg false 10 (.tup [(.var 10)]))])
abbrev ifT : MP.S := (.iff (.orr (.nt (.call 6 [(.lst false [(.call 4 [(.var 10)] [(.int 1)]), (.call 2 [(.call 8 [(.var 10)] [])] [])]), (.lst false [(.cmp .LtE (.var 11) (.cst (.int 19))), (.ife (.cmp .LtE (.var 11) (.cst (.int 19))) (.var 10) (.cst PyData.none))])] [])) (.cmp .NotEq (.call 12 [(.var 10)] []) (.bin .Add (.var 11) (.cst (.int 1))))) [(.ret (some (.cst (.bool false))))] [])
abbrev edT : List MP.S := [(.asg false 13 (.lst false [(.cst (.str ⟨#[]⟩)), (.cst (.str ⟨#[97, 32, 98]⟩)), (.cst (.str ⟨#[40]⟩)), (.lst false [(.cst (.str ⟨#[97]⟩))]), (.tup [(.cst (.str ⟨#[97]⟩)), (.cst PyData.none)]), (.cst (.int 1)), (.cst PyData.none), (.tup [(.cst (.str ⟨#[97]⟩)), (.cst (.str ⟨#[]⟩))]), (.tup [(.cst (.str ⟨#[97, 10]⟩))])])), (.ret (some (.call 6 [(.lst false [(.lc [5] (.nm 5) (.it (.var 13)) [] (.call 4 [(.var 5)] [(.int 1)])), (.lc [5] (.nm 5) (.it (.tup [(.cst (.str ⟨#[]⟩)), (.cst (.str ⟨#[41]⟩)), (.cst (.str ⟨#[97, 32, 98]⟩)), (.cst (.str ⟨#[40, 41, 32, 40, 41]⟩))])) [] (.call 2 [(.var 5)] [])), (.cst (.int 20))]), (.lst false [(.bin .Mult (.lst false [(.cst (.bool false))]) (.cst (.int 9))), (.bin .Mult (.lst false [(.cst PyData.none)]) (.cst (.int 4))), (.cst (.int 20))])] [])))]
abbrev pt (k : Nat) : List Nat := List.replicate k 40 ++ 97 :: List.replicate k 41
theorem clp {k f : Nat} {ws : List W} {v : Val} {t : Sto} (st : Sto) (h : Rn k f ws [] = .ok v t) (h0 : ws.all W.pur = true) (h2 : valBelow 0 t v = some v) : callV ⟨Rn k, lfN⟩ f ws st = .ok v st := cl_pure (C := ⟨Rn k, lfN⟩) h0 h h2
theorem if_t (C : CE) (fz : List D) (x a b : D) (o6 o7 o8 o9 o12 : Option W) (d : D) (v : Int) (t : List Nat) (st : Sto) (hv : v ≤ 19) (c4 : callV C 4 [.d d, .d (.int 1)] st = .ok (vBool true) st) (c8 : callV C 8 [.d d] st = .ok (vStr (S t)) st) (c2 : callV C 2 [.d (dS t)] st = .ok (.w (.d d)) st)
    (c6 : callV C 6 [.d (.list [.bool true, d]), .d (.list [.bool true, d])] st = .ok (vBool true) st) (c12 : callV C 12 [.d d] st = .ok (vInt (v + 1)) st) :
    evS C ifT (sgU fz x a b o6 o7 o8 o9 d v o12) st = .ok (.nx (sgU fz x a b o6 o7 o8 o9 d v o12)) st := by
  have e1 : cmpV .LtE st (vInt v) (vInt 19) = some true := by
    show some (decide (v ≤ 19)) = _
    rw [decide_eq_true hv]
  have e2 : binV .Add st (vInt v) (vInt 1) = some (vInt (v + 1)) := rfl
  have e3 : cmpV .NotEq st (vInt (v + 1)) (vInt (v + 1)) = some false := by
    show some (!PyData.eqv (.int (v + 1)) (.int (v + 1))) = _
    simp [PyData.eqv]
  have w2 : wsOf [.fl [.d (.bool true), .d d], .fl [.d (.bool true), .d d]] = some [.d (.list [.bool true, d]), .d (.list [.bool true, d])] := rfl
  repeat' (first | with_reducible exact c4 | with_reducible exact c8 | with_reducible exact c2 | with_reducible exact c6 | with_reducible exact c12 | with_reducible exact e1 | with_reducible exact e2 | with_reducible exact e3 | with_reducible exact w2 | decreasing_trivial_pre_omega | rfl)
theorem if_f (C : CE) (fz : List D) (x a b : D) (o6 o7 o8 o9 o12 : Option W) (d : D) (v : Int) (t : List Nat) (st : Sto) (hv : ¬ v ≤ 19) (c4 : callV C 4 [.d d, .d (.int 1)] st = .ok (vBool false) st) (c8 : callV C 8 [.d d] st = .ok (vStr (S t)) st) (c2 : callV C 2 [.d (dS t)] st = .ok vNone st)
    (c6 : callV C 6 [.d (.list [.bool false, .none]), .d (.list [.bool false, .none])] st = .ok (vBool true) st) (c12 : callV C 12 [.d d] st = .ok (vInt (v + 1)) st) :
    evS C ifT (sgU fz x a b o6 o7 o8 o9 d v o12) st = .ok (.nx (sgU fz x a b o6 o7 o8 o9 d v o12)) st := by
  have e1 : cmpV .LtE st (vInt v) (vInt 19) = some false := by
    show some (decide (v ≤ 19)) = _
    rw [decide_eq_false hv]
  have e2 : binV .Add st (vInt v) (vInt 1) = some (vInt (v + 1)) := rfl
  have e3 : cmpV .NotEq st (vInt (v + 1)) (vInt (v + 1)) = some false := by
    show some (!PyData.eqv (.int (v + 1)) (.int (v + 1))) = _
    simp [PyData.eqv]
  have w2 : wsOf [.fl [.d (.bool false), .d .none], .fl [.d (.bool false), .d .none]] = some [.d (.list [.bool false, .none]), .d (.list [.bool false, .none])] := rfl
  repeat' (first | with_reducible exact c4 | with_reducible exact c8 | with_reducible exact c2 | with_reducible exact c6 | with_reducible exact c12 | with_reducible exact e1 | with_reducible exact e2 | with_reducible exact e3 | with_reducible exact w2 | decreasing_trivial_pre_omega | rfl)
section
variable (n : Nat) (fz : List D) (x a b : D) (o6 o7 o8 o9 : Option W) (st : Sto)
theorem tl_end (d : D) (v : Int) (o12 : Option W) : evSs ⟨Rn (n + 40), lfN⟩ edT (sgU fz x a b o6 o7 o8 o9 d v o12) st = .ok (.rt (vBool true)) st := by kernel_rfl
theorem c6_f : Rn (n + 40) 6 [.d (.list [.bool false, .none]), .d (.list [.bool false, .none])] [] = .ok (vBool true) [] := by kernel_rfl
theorem tl_f15 : evS ⟨Rn (n + 40), lfN⟩ frT (sgT fz x a b o6 o7 o8 o9 15) st = .ok (.nx (sgU fz x a b o6 o7 o8 o9 (dp 15) 15 (some (.d (.int 14))))) st := by kernel_rfl
theorem c4_15 : Rn (n + 40) 4 [.d (dp 15), .d (.int 1)] [] = .ok (vBool true) [] := by kernel_rfl
theorem c8_15 : Rn (n + 40) 8 [.d (dp 15)] [] = .ok (vStr (S (pt 15))) [] := by kernel_rfl
theorem c2_15 : readS (toks (pt 15)) = dp 15 := by kernel_rfl
theorem c12_15 : Rn (n + 40) 12 [.d (dp 15)] [] = .ok (vInt 16) [] := by kernel_rfl
theorem c6_15 : Rn (n + 40) 6 [.d (.list [.bool true, dp 15]), .d (.list [.bool true, dp 15])] [] = .ok (vBool true) [] := by kernel_rfl
theorem tl_i15 : evS ⟨Rn (n + 40), lfN⟩ ifT (sgU fz x a b o6 o7 o8 o9 (dp 15) 15 (some (.d (.int 14)))) st = .ok (.nx (sgU fz x a b o6 o7 o8 o9 (dp 15) 15 (some (.d (.int 14))))) st := by
  obtain ⟨t2, r2⟩ := read_ok (n + 37) (pt 15) (by decide) (by decide)
  rw [c2_15] at r2
  have r2 : Rn (n + 40) 2 [.d (dS (pt 15))] [] = .ok (.w (.d (dp 15))) t2 := r2
  have g4 := clp st (c4_15 n) rfl rfl
  have g8 := clp st (c8_15 n) rfl rfl
  have g2 := clp st r2 rfl rfl
  have g6 := clp st (c6_15 n) rfl rfl
  have g12 := clp st (c12_15 n) rfl rfl
  exact if_t ⟨Rn (n + 40), lfN⟩ fz x a b o6 o7 o8 o9 _ (dp 15) 15 (pt 15) st (by decide) g4 g8 g2 g6 g12
theorem tl_f16 : evS ⟨Rn (n + 40), lfN⟩ frT (sgT fz x a b o6 o7 o8 o9 16) st = .ok (.nx (sgU fz x a b o6 o7 o8 o9 (dp 16) 16 (some (.d (.int 15))))) st := by kernel_rfl
theorem c4_16 : Rn (n + 40) 4 [.d (dp 16), .d (.int 1)] [] = .ok (vBool true) [] := by kernel_rfl
theorem c8_16 : Rn (n + 40) 8 [.d (dp 16)] [] = .ok (vStr (S (pt 16))) [] := by kernel_rfl
theorem c2_16 : readS (toks (pt 16)) = dp 16 := by kernel_rfl
theorem c12_16 : Rn (n + 40) 12 [.d (dp 16)] [] = .ok (vInt 17) [] := by kernel_rfl
theorem c6_16 : Rn (n + 40) 6 [.d (.list [.bool true, dp 16]), .d (.list [.bool true, dp 16])] [] = .ok (vBool true) [] := by kernel_rfl
theorem tl_i16 : evS ⟨Rn (n + 40), lfN⟩ ifT (sgU fz x a b o6 o7 o8 o9 (dp 16) 16 (some (.d (.int 15)))) st = .ok (.nx (sgU fz x a b o6 o7 o8 o9 (dp 16) 16 (some (.d (.int 15))))) st := by
  obtain ⟨t2, r2⟩ := read_ok (n + 37) (pt 16) (by decide) (by decide)
  rw [c2_16] at r2
  have r2 : Rn (n + 40) 2 [.d (dS (pt 16))] [] = .ok (.w (.d (dp 16))) t2 := r2
  have g4 := clp st (c4_16 n) rfl rfl
  have g8 := clp st (c8_16 n) rfl rfl
  have g2 := clp st r2 rfl rfl
  have g6 := clp st (c6_16 n) rfl rfl
  have g12 := clp st (c12_16 n) rfl rfl
  exact if_t ⟨Rn (n + 40), lfN⟩ fz x a b o6 o7 o8 o9 _ (dp 16) 16 (pt 16) st (by decide) g4 g8 g2 g6 g12
theorem tl_f17 : evS ⟨Rn (n + 40), lfN⟩ frT (sgT fz x a b o6 o7 o8 o9 17) st = .ok (.nx (sgU fz x a b o6 o7 o8 o9 (dp 17) 17 (some (.d (.int 16))))) st := by kernel_rfl
theorem c4_17 : Rn (n + 40) 4 [.d (dp 17), .d (.int 1)] [] = .ok (vBool true) [] := by kernel_rfl
theorem c8_17 : Rn (n + 40) 8 [.d (dp 17)] [] = .ok (vStr (S (pt 17))) [] := by kernel_rfl
theorem c2_17 : readS (toks (pt 17)) = dp 17 := by kernel_rfl
theorem c12_17 : Rn (n + 40) 12 [.d (dp 17)] [] = .ok (vInt 18) [] := by kernel_rfl
theorem c6_17 : Rn (n + 40) 6 [.d (.list [.bool true, dp 17]), .d (.list [.bool true, dp 17])] [] = .ok (vBool true) [] := by kernel_rfl
theorem tl_i17 : evS ⟨Rn (n + 40), lfN⟩ ifT (sgU fz x a b o6 o7 o8 o9 (dp 17) 17 (some (.d (.int 16)))) st = .ok (.nx (sgU fz x a b o6 o7 o8 o9 (dp 17) 17 (some (.d (.int 16))))) st := by
  obtain ⟨t2, r2⟩ := read_ok (n + 37) (pt 17) (by decide) (by decide)
  rw [c2_17] at r2
  have r2 : Rn (n + 40) 2 [.d (dS (pt 17))] [] = .ok (.w (.d (dp 17))) t2 := r2
  have g4 := clp st (c4_17 n) rfl rfl
  have g8 := clp st (c8_17 n) rfl rfl
  have g2 := clp st r2 rfl rfl
  have g6 := clp st (c6_17 n) rfl rfl
  have g12 := clp st (c12_17 n) rfl rfl
  exact if_t ⟨Rn (n + 40), lfN⟩ fz x a b o6 o7 o8 o9 _ (dp 17) 17 (pt 17) st (by decide) g4 g8 g2 g6 g12
theorem tl_f18 : evS ⟨Rn (n + 40), lfN⟩ frT (sgT fz x a b o6 o7 o8 o9 18) st = .ok (.nx (sgU fz x a b o6 o7 o8 o9 (dp 18) 18 (some (.d (.int 17))))) st := by kernel_rfl
theorem c4_18 : Rn (n + 40) 4 [.d (dp 18), .d (.int 1)] [] = .ok (vBool true) [] := by kernel_rfl
theorem c8_18 : Rn (n + 40) 8 [.d (dp 18)] [] = .ok (vStr (S (pt 18))) [] := by kernel_rfl
theorem c2_18 : readS (toks (pt 18)) = dp 18 := by kernel_rfl
theorem c12_18 : Rn (n + 40) 12 [.d (dp 18)] [] = .ok (vInt 19) [] := by kernel_rfl
theorem c6_18 : Rn (n + 40) 6 [.d (.list [.bool true, dp 18]), .d (.list [.bool true, dp 18])] [] = .ok (vBool true) [] := by kernel_rfl
theorem tl_i18 : evS ⟨Rn (n + 40), lfN⟩ ifT (sgU fz x a b o6 o7 o8 o9 (dp 18) 18 (some (.d (.int 17)))) st = .ok (.nx (sgU fz x a b o6 o7 o8 o9 (dp 18) 18 (some (.d (.int 17))))) st := by
  obtain ⟨t2, r2⟩ := read_ok (n + 37) (pt 18) (by decide) (by decide)
  rw [c2_18] at r2
  have r2 : Rn (n + 40) 2 [.d (dS (pt 18))] [] = .ok (.w (.d (dp 18))) t2 := r2
  have g4 := clp st (c4_18 n) rfl rfl
  have g8 := clp st (c8_18 n) rfl rfl
  have g2 := clp st r2 rfl rfl
  have g6 := clp st (c6_18 n) rfl rfl
  have g12 := clp st (c12_18 n) rfl rfl
  exact if_t ⟨Rn (n + 40), lfN⟩ fz x a b o6 o7 o8 o9 _ (dp 18) 18 (pt 18) st (by decide) g4 g8 g2 g6 g12
theorem tl_f19 : evS ⟨Rn (n + 40), lfN⟩ frT (sgT fz x a b o6 o7 o8 o9 19) st = .ok (.nx (sgU fz x a b o6 o7 o8 o9 (dp 19) 19 (some (.d (.int 18))))) st := by kernel_rfl
theorem c4_19 : Rn (n + 40) 4 [.d (dp 19), .d (.int 1)] [] = .ok (vBool true) [] := by kernel_rfl
theorem c8_19 : Rn (n + 40) 8 [.d (dp 19)] [] = .ok (vStr (S (pt 19))) [] := by kernel_rfl
theorem c2_19 : readS (toks (pt 19)) = dp 19 := by kernel_rfl
theorem c12_19 : Rn (n + 40) 12 [.d (dp 19)] [] = .ok (vInt 20) [] := by kernel_rfl
theorem c6_19 : Rn (n + 40) 6 [.d (.list [.bool true, dp 19]), .d (.list [.bool true, dp 19])] [] = .ok (vBool true) [] := by kernel_rfl
theorem tl_i19 : evS ⟨Rn (n + 40), lfN⟩ ifT (sgU fz x a b o6 o7 o8 o9 (dp 19) 19 (some (.d (.int 18)))) st = .ok (.nx (sgU fz x a b o6 o7 o8 o9 (dp 19) 19 (some (.d (.int 18))))) st := by
  obtain ⟨t2, r2⟩ := read_ok (n + 37) (pt 19) (by decide) (by decide)
  rw [c2_19] at r2
  have r2 : Rn (n + 40) 2 [.d (dS (pt 19))] [] = .ok (.w (.d (dp 19))) t2 := r2
  have g4 := clp st (c4_19 n) rfl rfl
  have g8 := clp st (c8_19 n) rfl rfl
  have g2 := clp st r2 rfl rfl
  have g6 := clp st (c6_19 n) rfl rfl
  have g12 := clp st (c12_19 n) rfl rfl
  exact if_t ⟨Rn (n + 40), lfN⟩ fz x a b o6 o7 o8 o9 _ (dp 19) 19 (pt 19) st (by decide) g4 g8 g2 g6 g12
theorem tl_f20 : evS ⟨Rn (n + 40), lfN⟩ frT (sgT fz x a b o6 o7 o8 o9 20) st = .ok (.nx (sgU fz x a b o6 o7 o8 o9 (dp 20) 20 (some (.d (.int 19))))) st := by kernel_rfl
theorem c4_20 : Rn (n + 40) 4 [.d (dp 20), .d (.int 1)] [] = .ok (vBool false) [] := by kernel_rfl
theorem c8_20 : Rn (n + 40) 8 [.d (dp 20)] [] = .ok (vStr (S (pt 20))) [] := by kernel_rfl
theorem c2_20 : readS (toks (pt 20)) = .none := by kernel_rfl
theorem c12_20 : Rn (n + 40) 12 [.d (dp 20)] [] = .ok (vInt 21) [] := by kernel_rfl
theorem tl_i20 : evS ⟨Rn (n + 40), lfN⟩ ifT (sgU fz x a b o6 o7 o8 o9 (dp 20) 20 (some (.d (.int 19)))) st = .ok (.nx (sgU fz x a b o6 o7 o8 o9 (dp 20) 20 (some (.d (.int 19))))) st := by
  obtain ⟨t2, r2⟩ := read_ok (n + 37) (pt 20) (by decide) (by decide)
  rw [c2_20] at r2
  have r2 : Rn (n + 40) 2 [.d (dS (pt 20))] [] = .ok (.w (.d (.none))) t2 := r2
  have g4 := clp st (c4_20 n) rfl rfl
  have g8 := clp st (c8_20 n) rfl rfl
  have g2 := clp st r2 rfl rfl
  have g6 := clp st (c6_f n) rfl rfl
  have g12 := clp st (c12_20 n) rfl rfl
  exact if_f ⟨Rn (n + 40), lfN⟩ fz x a b o6 o7 o8 o9 _ (dp 20) 20 (pt 20) st (by decide) g4 g8 g2 g6 g12
theorem tl_f21 : evS ⟨Rn (n + 40), lfN⟩ frT (sgT fz x a b o6 o7 o8 o9 21) st = .ok (.nx (sgU fz x a b o6 o7 o8 o9 (dp 21) 21 (some (.d (.int 20))))) st := by kernel_rfl
theorem c4_21 : Rn (n + 40) 4 [.d (dp 21), .d (.int 1)] [] = .ok (vBool false) [] := by kernel_rfl
theorem c8_21 : Rn (n + 40) 8 [.d (dp 21)] [] = .ok (vStr (S (pt 21))) [] := by kernel_rfl
theorem c2_21 : readS (toks (pt 21)) = .none := by kernel_rfl
theorem c12_21 : Rn (n + 40) 12 [.d (dp 21)] [] = .ok (vInt 22) [] := by kernel_rfl
theorem tl_i21 : evS ⟨Rn (n + 40), lfN⟩ ifT (sgU fz x a b o6 o7 o8 o9 (dp 21) 21 (some (.d (.int 20)))) st = .ok (.nx (sgU fz x a b o6 o7 o8 o9 (dp 21) 21 (some (.d (.int 20))))) st := by
  obtain ⟨t2, r2⟩ := read_ok (n + 37) (pt 21) (by decide) (by decide)
  rw [c2_21] at r2
  have r2 : Rn (n + 40) 2 [.d (dS (pt 21))] [] = .ok (.w (.d (.none))) t2 := r2
  have g4 := clp st (c4_21 n) rfl rfl
  have g8 := clp st (c8_21 n) rfl rfl
  have g2 := clp st r2 rfl rfl
  have g6 := clp st (c6_f n) rfl rfl
  have g12 := clp st (c12_21 n) rfl rfl
  exact if_f ⟨Rn (n + 40), lfN⟩ fz x a b o6 o7 o8 o9 _ (dp 21) 21 (pt 21) st (by decide) g4 g8 g2 g6 g12
theorem tl_f22 : evS ⟨Rn (n + 40), lfN⟩ frT (sgT fz x a b o6 o7 o8 o9 22) st = .ok (.nx (sgU fz x a b o6 o7 o8 o9 (dp 22) 22 (some (.d (.int 21))))) st := by kernel_rfl
theorem c4_22 : Rn (n + 40) 4 [.d (dp 22), .d (.int 1)] [] = .ok (vBool false) [] := by kernel_rfl
theorem c8_22 : Rn (n + 40) 8 [.d (dp 22)] [] = .ok (vStr (S (pt 22))) [] := by kernel_rfl
theorem c2_22 : readS (toks (pt 22)) = .none := by kernel_rfl
theorem c12_22 : Rn (n + 40) 12 [.d (dp 22)] [] = .ok (vInt 23) [] := by kernel_rfl
theorem tl_i22 : evS ⟨Rn (n + 40), lfN⟩ ifT (sgU fz x a b o6 o7 o8 o9 (dp 22) 22 (some (.d (.int 21)))) st = .ok (.nx (sgU fz x a b o6 o7 o8 o9 (dp 22) 22 (some (.d (.int 21))))) st := by
  obtain ⟨t2, r2⟩ := read_ok (n + 37) (pt 22) (by decide) (by decide)
  rw [c2_22] at r2
  have r2 : Rn (n + 40) 2 [.d (dS (pt 22))] [] = .ok (.w (.d (.none))) t2 := r2
  have g4 := clp st (c4_22 n) rfl rfl
  have g8 := clp st (c8_22 n) rfl rfl
  have g2 := clp st r2 rfl rfl
  have g6 := clp st (c6_f n) rfl rfl
  have g12 := clp st (c12_22 n) rfl rfl
  exact if_f ⟨Rn (n + 40), lfN⟩ fz x a b o6 o7 o8 o9 _ (dp 22) 22 (pt 22) st (by decide) g4 g8 g2 g6 g12
end
theorem tail_ok (n : Nat) (fz : List D) (x a b : D) (o6 o7 o8 o9 : Option W) (st : Sto) (v : Int) (hv : v = 15 ∨ v = 16 ∨ v = 17 ∨ v = 18 ∨ v = 19 ∨ v = 20 ∨ v = 21 ∨ v = 22) : evSs ⟨Rn (n + 40), lfN⟩ tlB (sgT fz x a b o6 o7 o8 o9 v) st = .ok (.rt (vBool true)) st := by
  show evSs ⟨Rn (n + 40), lfN⟩ (frT :: ifT :: edT) _ _ = _
  rcases hv with rfl | rfl | rfl | rfl | rfl | rfl | rfl | rfl
  · exact ss_cons (tl_f15 n fz x a b o6 o7 o8 o9 st) (nx_nx (ss_cons (tl_i15 n fz x a b o6 o7 o8 o9 st) (nx_nx (tl_end n fz x a b o6 o7 o8 o9 st _ _ _))))
  · exact ss_cons (tl_f16 n fz x a b o6 o7 o8 o9 st) (nx_nx (ss_cons (tl_i16 n fz x a b o6 o7 o8 o9 st) (nx_nx (tl_end n fz x a b o6 o7 o8 o9 st _ _ _))))
  · exact ss_cons (tl_f17 n fz x a b o6 o7 o8 o9 st) (nx_nx (ss_cons (tl_i17 n fz x a b o6 o7 o8 o9 st) (nx_nx (tl_end n fz x a b o6 o7 o8 o9 st _ _ _))))
  · exact ss_cons (tl_f18 n fz x a b o6 o7 o8 o9 st) (nx_nx (ss_cons (tl_i18 n fz x a b o6 o7 o8 o9 st) (nx_nx (tl_end n fz x a b o6 o7 o8 o9 st _ _ _))))
  · exact ss_cons (tl_f19 n fz x a b o6 o7 o8 o9 st) (nx_nx (ss_cons (tl_i19 n fz x a b o6 o7 o8 o9 st) (nx_nx (tl_end n fz x a b o6 o7 o8 o9 st _ _ _))))
  · exact ss_cons (tl_f20 n fz x a b o6 o7 o8 o9 st) (nx_nx (ss_cons (tl_i20 n fz x a b o6 o7 o8 o9 st) (nx_nx (tl_end n fz x a b o6 o7 o8 o9 st _ _ _))))
  · exact ss_cons (tl_f21 n fz x a b o6 o7 o8 o9 st) (nx_nx (ss_cons (tl_i21 n fz x a b o6 o7 o8 o9 st) (nx_nx (tl_end n fz x a b o6 o7 o8 o9 st _ _ _))))
  · exact ss_cons (tl_f22 n fz x a b o6 o7 o8 o9 st) (nx_nx (ss_cons (tl_i22 n fz x a b o6 o7 o8 o9 st) (nx_nx (tl_end n fz x a b o6 o7 o8 o9 st _ _ _))))
end K1
set_option maxHeartbeats 4000001
namespace K1
open PySem MP
local macro_rules | `(tactic| decreasing_trivial_pre_omega) => `(tactic| first
  | simp only [List.map_nil, List.append_nil, List.nil_append, List.cons_append, List.map_cons, List.set_cons_zero, List.set_cons_succ, List.length_nil]
  | with_reducible exact ev_cst | with_reducible apply ev_cel | with_reducible apply ev_var | with_reducible apply ev_bin | with_reducible apply ev_cmp | with_reducible apply ev_ix | with_reducible apply ev_nt | with_reducible apply ev_an | with_reducible apply ev_orr
  | with_reducible apply ev_ife | with_reducible apply ev_cmp2 | with_reducible apply ev_cmp2b | with_reducible apply ev_tup | with_reducible apply ev_lst | with_reducible exact ev_dis | with_reducible apply ev_neg | with_reducible apply ev_sl
  | with_reducible exact eo_none | with_reducible apply eo_some | with_reducible apply ev_call | with_reducible apply ev_blt | with_reducible apply ev_mth | with_reducible apply ev_isi | with_reducible apply ev_lc
  | with_reducible exact ec_nil | with_reducible apply ec_one | with_reducible exact es_nil | with_reducible apply es_cons | with_reducible apply sr_it | with_reducible apply sr_rng1 | with_reducible apply sr_rng2 | with_reducible apply sr_enm | with_reducible apply sr_zp
  | with_reducible apply pick_t | with_reducible apply pick_f | refine pick_tE (by rfl) ?_ | refine pick_fE (by rfl) ?_ | with_reducible apply nx_nx | with_reducible exact nx_rt | with_reducible exact nx_bk | with_reducible exact nx_ct | with_reducible exact ss_nil | with_reducible apply ss_cons | with_reducible apply s_asg | with_reducible apply s_own
  | with_reducible apply s_unp | with_reducible apply s_par | with_reducible apply s_set | with_reducible apply s_ex | with_reducible apply s_iff | with_reducible apply s_ret | with_reducible exact s_retN | with_reducible exact s_pss | with_reducible exact s_brk | with_reducible exact s_cnt
  | with_reducible apply s_fr | with_reducible apply fo_items | with_reducible exact fo_nil | with_reducible apply fo_cons | with_reducible apply frF_ok | with_reducible apply nf_nx | with_reducible apply nf_ct | with_reducible exact nf_rt | with_reducible exact nf_bk
  | with_reducible apply ga_items | with_reducible exact ga_nil | with_reducible apply ng_none | with_reducible apply ng_some | with_reducible apply lcF_ok | with_reducible apply lcE | with_reducible apply ga_cons)
/-! the law's head and its four turns -/
theorem ss_app {C : CE} : ∀ {a b : List MP.S} {σ σ' : MP.Env} {st s1 s2 : Sto} {fl : Fl}, evSs C a σ st = .ok (.nx σ') s1 → evSs C b σ' s1 = .ok fl s2 → evSs C (a ++ b) σ st = .ok fl s2
  | [], b, σ, σ', st, s1, s2, fl, h, h2 => by
    simp only [evSs] at h
    cases h; exact h2
  | s :: a, b, σ, σ', st, s1, s2, fl, h, h2 => by
    simp only [evSs, List.cons_append] at h ⊢
    cases q : evS C s σ st with
    | bad => rw [q] at h; cases h
    | exc c p s3 => rw [q] at h; cases h
    | ok f s3 =>
      rw [q] at h
      cases f with
      | nx σ3 => exact ss_app (a := a) (b := b) (σ := σ3) h h2
      | rt v => cases h
      | bk _ => cases h
      | ct _ => cases h
abbrev tapeE : E := .lst false [(.blt .list [(.var 0)]), (.cst (.int 0)), (.cst (.int 0)), (.cst (.int 1))]
abbrev ev0 (ds : List D) : MP.Env := [some (.fz ds), none, none, none, none, none, none, none, none, none, none, none, none, none]
abbrev ev1 (ds : List D) : MP.Env := [some (.fz ds), some (.ref 0), none, none, none, none, none, none, none, none, none, none, none, none]
theorem own_ok (C : CE) (ds : List D) : evS C (.asg true 1 tapeE) (ev0 ds) [] = .ok (.nx (ev1 ds)) (TP ds 0 0 1) := by
  have h1 : wsOf [.fl (ds.map W.d), vInt 0, vInt 0, vInt 1] = some [.d (.list ds), .d (.int 0), .d (.int 0), .d (.int 1)] := by
    simp only [wsOf, wOf, datas_map, Option.map_some, Option.bind_some]
  have h0 : bltV .list [] [.w (.fz ds)] = some (.fl (ds.map W.d)) := rfl
  have h : evE C tapeE (ev0 ds) [] = .ok (.fl [.d (.list ds), .d (.int 0), .d (.int 0), .d (.int 1)]) [] := by
    repeat' (first | with_reducible exact h0 | with_reducible exact h1 | decreasing_trivial_pre_omega | rfl)
  exact s_own h rfl
theorem wof_toks (ts : Tk) : wOf (.fl (wL ts)) = some (.d (lD ts)) := by
  have : wL ts = (ts.map dS).map W.d := by simp [wL]
  rw [this]
  simp only [wOf, datas_map, Option.map_some]
abbrev sgB (fz : List D) (x a b : D) (o6 o7 o8 o9 : Option W) : MP.Env := [some (.fz fz), some (.ref 0), some (.d x), some (.d a), some (.d b), none, o6, o7, o8, o9, none, none, none, none]
abbrev LL (x : D) (a : List Nat) (ts : Tk) : D := .list [dS a, x, x, lD ts, .bool true]
theorem head_ok (C : CE) (ds : List D) (x : D) (a b : List Nat) (ts : Tk) (ps : List (List Nat)) (S1 S2 : Sto) (h7 : callV C 7 [.ref 0, .d (.int 4)] (TP ds 0 0 1) = .ok (.w (.d x)) S1) (h8 : callV C 8 [.d x] S1 = .ok (vStr (S a)) S1)
    (hg : gath (lcF C [5] (.nm 5) [] lsE (sgA ds x (dS a))) (its a) [] S1 = .ok (wL ps) S2) (hj : mthV .join S2 (vStr ⟨#[]⟩) [.fl (wL ps)] = some (vStr (S b), S2))
    (c3 : callV C 3 [.d x] S2 = .ok (vStr (S a)) S2) (c2 : callV C 2 [.d (dS a)] S2 = .ok (.w (.d x)) S2) (c2' : callV C 2 [.d (dS b)] S2 = .ok (.w (.d x)) S2) (c1 : callV C 1 [.d (dS b)] S2 = .ok (.fl (wL ts)) S2) (c4 : callV C 4 [.d x, .d (.int 1)] S2 = .ok (vBool true) S2)
    (c9 : callV C 9 [.d (dS b)] S2 = .ok (.fl (wL ts)) S2) (c6 : callV C 6 [.d (LL x a ts), .d (LL x a ts)] S2 = .ok (vBool true) S2) :
    evSs C (b13.take 5) (ev0 ds) [] = .ok (.nx (sgB ds x (dS a) (dS b) none none none none)) S2 := by
  have h0 := own_ok C ds
  have hr : recvOk .join S1 (vStr ⟨#[]⟩) = true := rfl
  have hx : evE C (.mth .join (.cst (.str ⟨#[]⟩)) [(.lc [5] (.nm 5) (.it (.var 3)) [] lsE)]) (sgA ds x (dS a)) S1 = .ok (vStr (S b)) S2 :=
    ev_mth (r := (vStr (S b), S2)) ev_cst hr (es_cons (ev_lc rfl (sr_it (ev_var rfl) (its_str S1 a)) (ga_items hg)) es_nil) hj
  have hw := wof_toks ts
  have w1 : wsOf [vStr (S a), .w (.d x), .w (.d x), .fl (wL ts), vBool true] = some [.d (dS a), .d x, .d x, .d (lD ts), .d (.bool true)] := by
    simp only [wsOf, hw, Option.bind_some, Option.map_some]
    rfl
  have w2 : wsOf [.fl [.d (dS a), .d x, .d x, .d (lD ts), .d (.bool true)], .fl [.d (dS a), .d x, .d x, .d (lD ts), .d (.bool true)]] = some [.d (LL x a ts), .d (LL x a ts)] := rfl
  show evSs C (List.take 5 b13) _ _ = _
  simp only [b13, List.take]
  repeat' (first | with_reducible exact h0 | with_reducible exact h7 | with_reducible exact h8 | with_reducible exact hx | with_reducible exact c3 | with_reducible exact c2 | with_reducible exact c2' | with_reducible exact c1 | with_reducible exact c4 | with_reducible exact c9 | with_reducible exact c6 | with_reducible exact w1 | with_reducible exact w2 | decreasing_trivial_pre_omega | rfl)
/-- a text bent in one of three ways -/
def bent (r : Int) (k c : Nat) (a : List Nat) : List Nat := if r = 0 then a.take k ++ a.drop (k + 1) else if r = 1 then (a.take k ++ [c]) ++ a.drop k else a.take k
abbrev bodyT : List MP.S := [(.par 7 8 (.call 5 [(.var 1), (.bin .Add (.blt .len [(.var 3)]) (.cst (.int 1)))] []) (.ix (.cst (.str ⟨#[40, 41, 32, 97]⟩)) (.call 5 [(.var 1), (.cst (.int 4))] []))), (.asg false 9 (.ix (.tup [(.bin .Add (.sl (.var 3) none (some (.var 7))) (.sl (.var 3) (some (.bin .Add (.var 7) (.cst (.int 1)))) none)), (.bin .Add (.bin .Add (.sl (.var 3) none (some (.var 7))) (.var 8)) (.sl (.var 3) (some (.var 7)) none)), (.sl (.var 3) none (some (.var 7)))]) (.call 5 [(.var 1), (.cst (.int 3))] []))), (.iff (.nt (.call 6 [(.call 2 [(.var 9)] []), (.call 11 [(.var 9)] [])] [])) [(.ret (some (.cst (.bool false))))] [])]
theorem len_S (st : Sto) (a : List Nat) (h : a.length ≤ 10000) : bltV .len st [vStr (S a)] = some (vInt a.length) := by
  have e : lenOf st (vStr (S a)) = some a.length := by
    show (if (S a).length ≤ line then some (S a).length else none) = _
    rw [SX.S_len, if_pos (by simp only [line]; omega)]
  simp only [bltV, e]
  rfl
theorem sl_to (st : Sto) (a : List Nat) (k : Nat) (h : a.length ≤ 10000) : slV st (vStr (S a)) none (some (k : Int)) = some (vStr (S (a.take k))) := by
  show (if (S a).length ≤ line then some (vStr (L2.cutS (S a) none (some (k : Int)))) else none) = _
  rw [SX.S_len, if_pos (by simp only [line]; omega), C8.cutS_slice, SX.slice_to (by omega)]
  rfl
theorem sl_from (st : Sto) (a : List Nat) (k : Nat) (h : a.length ≤ 10000) : slV st (vStr (S a)) (some (k : Int)) none = some (vStr (S (a.drop k))) := by
  show (if (S a).length ≤ line then some (vStr (L2.cutS (S a) (some (k : Int)) none)) else none) = _
  rw [SX.S_len, if_pos (by simp only [line]; omega), C8.cutS_slice, SX.slice_from (by omega)]
  rfl
abbrev tup3 (k c : Nat) (a : List Nat) : List D := [dS (a.take k ++ a.drop (k + 1)), dS ((a.take k ++ [c]) ++ a.drop k), dS (a.take k)]
theorem tup3_ix (st : Sto) (r : Int) (h : 0 ≤ r ∧ r < 3) (k c : Nat) (a : List Nat) : ixV st (vTup (tup3 k c a)) (vInt r) = some (.w (.d (dS (bent r k c a)))) := by
  obtain rfl | rfl | rfl : r = 0 ∨ r = 1 ∨ r = 2 := by omega
  all_goals rfl
theorem turn_T (C : CE) (ds : List D) (x : D) (a : List Nat) (b : D) (o6 o7 o8 o9 : Option W) (i : Int) (k c : Nat) (w r : Int) (R : D) (S0 S1 S2 S3 : Sto) (hl : a.length ≤ 5000)
    (h1 : callV C 5 [.ref 0, .d (.int ((a.length : Int) + 1))] S0 = .ok (vInt (k : Int)) S1) (h2 : callV C 5 [.ref 0, .d (.int 4)] S1 = .ok (vInt w) S2) (hc : ixV S2 (vStr ⟨#[40, 41, 32, 97]⟩) (vInt w) = some (vStr ⟨#[c]⟩)) (h3 : callV C 5 [.ref 0, .d (.int 3)] S2 = .ok (vInt r) S3) (hr : 0 ≤ r ∧ r < 3)
    (c2 : callV C 2 [.d (dS (bent r k c a))] S3 = .ok (.w (.d R)) S3) (c11 : callV C 11 [.d (dS (bent r k c a))] S3 = .ok (.w (.d R)) S3) (c6 : callV C 6 [.d R, .d R] S3 = .ok (vBool true) S3) :
    frF C (.nm 6) bodyT (.d (.int i)) (sgB ds x (dS a) b o6 o7 o8 o9) S0 = .ok (.nx (sgB ds x (dS a) b (some (.d (.int i))) (some (.d (.int (k : Int)))) (some (.d (.str ⟨#[c]⟩))) (some (.d (dS (bent r k c a)))))) S3 := by
  have e0 := len_S S0 a (by omega)
  have eA : binV .Add S0 (vInt a.length) (vInt 1) = some (vInt ((a.length : Int) + 1)) := rfl
  have s1 := sl_to S2 a k (by omega)
  have s2 : slV S2 (vStr (S a)) (some ((k : Int) + 1)) none = some (vStr (S (a.drop (k + 1)))) := sl_from S2 a (k + 1) (by omega)
  have s3 := sl_from S2 a k (by omega)
  have eB : binV .Add S2 (vInt (k : Int)) (vInt 1) = some (vInt ((k : Int) + 1)) := rfl
  have t1 : (a.take k).length ≤ 5000 := by rw [List.length_take]; omega
  have t2 : (a.drop (k + 1)).length ≤ 5000 := by rw [List.length_drop]; omega
  have t3 : (a.drop k).length ≤ 5000 := by rw [List.length_drop]; omega
  have a1 := add_S S2 (a.take k) (a.drop (k + 1)) (by omega)
  have a2 : binV .Add S2 (vStr (S (a.take k))) (vStr ⟨#[c]⟩) = some (vStr (S (a.take k ++ [c]))) := add_S S2 (a.take k) [c] (by simp only [List.length_cons, List.length_nil]; omega)
  have a3 := add_S S2 (a.take k ++ [c]) (a.drop k) (by simp only [List.length_append, List.length_cons, List.length_nil]; omega)
  have ht := tup3_ix S3 r hr k c a
  have hT : evE C (.tup [(.bin .Add (.sl (.var 3) none (some (.var 7))) (.sl (.var 3) (some (.bin .Add (.var 7) (.cst (.int 1)))) none)), (.bin .Add (.bin .Add (.sl (.var 3) none (some (.var 7))) (.var 8)) (.sl (.var 3) (some (.var 7)) none)), (.sl (.var 3) none (some (.var 7)))]) (sgB ds x (dS a) b (some (.d (.int i))) (some (.d (.int (k : Int)))) (some (.d (.str ⟨#[c]⟩))) o9) S2 = .ok (vTup (tup3 k c a)) S2 := by
    repeat' (first | with_reducible exact s1 | with_reducible exact s2 | with_reducible exact s3 | with_reducible exact eB | with_reducible exact a1 | with_reducible exact a2 | with_reducible exact a3 | decreasing_trivial_pre_omega | rfl)
  repeat' (first | with_reducible exact e0 | with_reducible exact eA | with_reducible exact hT | with_reducible exact h1 | with_reducible exact h2 | with_reducible exact h3 | with_reducible exact hc | with_reducible exact ht | with_reducible exact c2 | with_reducible exact c11 | with_reducible exact c6 | decreasing_trivial_pre_omega | rfl)
theorem bent_len (r : Int) (k c : Nat) (a : List Nat) : (bent r k c a).length ≤ a.length + 1 := by
  unfold bent
  split
  · rw [List.length_append, List.length_take, List.length_drop]; omega
  · split
    · rw [List.length_append, List.length_append, List.length_take, List.length_drop, List.length_singleton]; omega
    · rw [List.length_take]; omega
theorem bent_no9 (r : Int) (k c : Nat) (a : List Nat) (h : 9 ∉ a) (hc : c ≠ 9) : 9 ∉ bent r k c a := by
  have h1 : 9 ∉ a.take k := fun m => h (List.mem_of_mem_take m)
  have h2 : ∀ j, 9 ∉ a.drop j := fun j m => h (List.mem_of_mem_drop m)
  unfold bent
  split
  · rw [List.mem_append, not_or]; exact ⟨h1, h2 _⟩
  · split
    · rw [List.mem_append, List.mem_append, List.mem_singleton, not_or, not_or]; exact ⟨⟨h1, fun e => hc e.symm⟩, h2 _⟩
    · exact h1
theorem bent_bd (r : Int) (k c : Nat) (a : List Nat) (h : bd 4 0 a) : bd 5 0 (bent r k c a) := by
  have e : a.take k ++ a.drop k = a := List.take_append_drop k a
  have up : ∀ l, bd 4 0 l → bd 5 0 l := fun l hl => bd_mon (m := 4) 1 l 0 0 (by omega) hl
  unfold bent
  split
  · by_cases hk : k < a.length
    · have e2 : a.drop k = a[k] :: a.drop (k + 1) := List.drop_eq_getElem_cons hk
      rw [e2] at e
      exact bd_del (m := 4) a[k] (a.drop (k + 1)) (a.take k) 0 (by rw [e]; exact h)
    · rw [List.take_of_length_le (by omega), List.drop_eq_nil_of_le (by omega), List.append_nil]
      exact up a h
  · split
    · rw [List.append_assoc]
      exact bd_ins (m := 4) c (a.drop k) (a.take k) 0 (by omega) (by rw [e]; exact h)
    · refine up _ (bd_take (a.take k) (a.drop k) 0 ?_)
      rw [e]; exact h
theorem turn_ok (ns : List Int) (fz : List D) (x : D) (a : List Nat) (b : D) (ha : a.length ≤ 400) (h9 : 9 ∉ a) (hb : bd 4 0 a) (o6 o7 o8 o9 : Option W) (i : Int) (p : Nat) (q s : Int) (hq : 0 ≤ q) :
    ∃ o6' o7' o8' o9' p' q' s', 0 ≤ q' ∧ frF ⟨Rn 99, lfN⟩ (.nm 6) bodyT (.d (.int i)) (sgB fz x (dS a) b o6 o7 o8 o9) (TP (ns.map PyData.int) p q s) = .ok (.nx (sgB fz x (dS a) b o6' o7' o8' o9')) (TP (ns.map PyData.int) p' q' s') := by
  obtain ⟨v, p1, q1, s1, a1, a2, a3, h1⟩ := next_ok 98 ns p q s ((a.length : Int) + 1) hq (by omega)
  obtain ⟨k, rfl⟩ := Int.eq_ofNat_of_zero_le a1
  obtain ⟨w, p2, q2, s2, d1, d2, d3, h2⟩ := next_ok 98 ns p1 q1 s1 4 a3 (by decide)
  obtain ⟨r, p3, q3, s3, e1, e2, e3, h3⟩ := next_ok 98 ns p2 q2 s2 3 d3 (by decide)
  have hc : ∃ c, c ≠ 9 ∧ ixV (TP (ns.map PyData.int) p2 q2 s2) (vStr ⟨#[40, 41, 32, 97]⟩) (vInt w) = some (vStr ⟨#[c]⟩) := by
    obtain rfl | rfl | rfl | rfl : w = 0 ∨ w = 1 ∨ w = 2 ∨ w = 3 := by omega
    · exact ⟨40, by decide, rfl⟩
    · exact ⟨41, by decide, rfl⟩
    · exact ⟨32, by decide, rfl⟩
    · exact ⟨97, by decide, rfl⟩
  obtain ⟨c, hc9, hc⟩ := hc
  have hbl := bent_len r k c a
  obtain ⟨t2, r2⟩ := read_ok 96 (bent r k c a) (bent_no9 r k c a h9 hc9) (by omega)
  obtain ⟨t11, r11⟩ := whole_ok 76 (bent r k c a) (by omega)
  rw [← agree (m := 5) (by decide) _ (bent_bd r k c a hb)] at r11
  have htk := tk_len (bent r k c a) []
  have hsm := sm_read (toks (bent r k c a)) (by show (tk [] (bent r k c a)).length ≤ 1000; omega)
  have c6 := same_call 20 79 _ (TP (ns.map PyData.int) p3 q3 s3) hsm
  exact ⟨_, _, _, _, p3, q3, s3, e3, turn_T ⟨Rn 99, lfN⟩ fz x a b o6 o7 o8 o9 i k c w r (readS (toks (bent r k c a))) _ _ _ _ (by omega) h1 h2 hc h3 ⟨e1, e2⟩ (cl_pure rfl r2 rfl) (cl_pure rfl r11 rfl) c6⟩
theorem loop_T (C : CE) (fz : List D) (x : D) (a : List Nat) (b : D) (ns : List Int) (ht : ∀ (o6 o7 o8 o9 : Option W) (i : Int) (p : Nat) (q s : Int), 0 ≤ q →
    ∃ o6' o7' o8' o9' p' q' s', 0 ≤ q' ∧ frF C (.nm 6) bodyT (.d (.int i)) (sgB fz x (dS a) b o6 o7 o8 o9) (TP (ns.map PyData.int) p q s) = .ok (.nx (sgB fz x (dS a) b o6' o7' o8' o9')) (TP (ns.map PyData.int) p' q' s')) :
    ∀ (is : List Int) (o6 o7 o8 o9 : Option W) (p : Nat) (q s : Int), 0 ≤ q → ∃ o6' o7' o8' o9' p' q' s', 0 ≤ q' ∧ forItems (frF C (.nm 6) bodyT) (is.map fun i => W.d (.int i)) (sgB fz x (dS a) b o6 o7 o8 o9) (TP (ns.map PyData.int) p q s) = .ok (.nx (sgB fz x (dS a) b o6' o7' o8' o9')) (TP (ns.map PyData.int) p' q' s')
  | [], o6, o7, o8, o9, p, q, s, hq => ⟨o6, o7, o8, o9, p, q, s, hq, rfl⟩
  | i :: r, o6, o7, o8, o9, p, q, s, hq => by
    obtain ⟨p6, p7, p8, p9, p1, q1, s1, k1, k2⟩ := ht o6 o7 o8 o9 i p q s hq
    obtain ⟨r6, r7, r8, r9, p2, q2, s2, l1, l2⟩ := loop_T C fz x a b ns ht r p6 p7 p8 p9 p1 q1 s1 k1
    exact ⟨r6, r7, r8, r9, p2, q2, s2, l1, fo_cons k2 (nf_nx l2)⟩
theorem par_ok (C : CE) (fz : List D) (x a b : D) (o6 o7 o8 o9 : Option W) (v v' : Int) (S0 S1 : Sto) (h : callV C 5 [.ref 0, .d (.int 8)] S0 = .ok (vInt v) S1) (hv : 15 + v = v') :
    evS C (.par 10 11 (.cst (.str ⟨#[97]⟩)) (.bin .Add (.cst (.int 15)) (.call 5 [(.var 1), (.cst (.int 8))] []))) (sgB fz x a b o6 o7 o8 o9) S0 = .ok (.nx (sgT fz x a b o6 o7 o8 o9 v')) S1 := by
  have e : binV .Add S1 (vInt 15) (vInt v) = some (vInt v') := by subst hv; rfl
  exact s_par ev_cst (ev_bin ev_cst (ev_call (es_cons (ev_var rfl) (es_cons ev_cst es_nil)) rfl h) e) rfl rfl
theorem hrun (ns : List Int) (hl : ns.length ≤ 63) (hb : ∀ z ∈ ns, Builtin.Int.intBits z ≤ 1048576) : ∃ st, runAt (fun i => Fs[i]?) 10000 100 13 [.fz (ns.map PyData.int)] [] = .ok (vBool true) st := by
  obtain ⟨x, p1, q1, s1, a1, a2, a3, h7⟩ := dr_ok ns 4 93 0 0 1 (by decide)
  have hlen : x.tx.length ≤ 400 := Nat.le_trans (tx_len 4 x a1 a2) (by decide)
  have h8 := text8 5 x (by omega) (by omega) 94
  have h3 := text3 5 x (by omega) (by omega) 94
  obtain ⟨ps, p2, q2, s2, b1, b2, b3, hg⟩ := loose_ok 98 ns (ns.map PyData.int) x.d (dS x.tx) x.tx [] p1 q1 s1 a3 (by simp only [List.length_nil]; omega)
  rw [List.nil_append] at hg
  have hll := b1.len
  have hj := join_w (TP (ns.map PyData.int) p2 q2 s2) [] ps (by rw [flat_len, List.length_nil]; omega)
  rw [joinL_nil] at hj
  have hn := tx_no9 x
  have et : toks ps.flatten = toks x.tx := b1.tk []
  have er := read_tx x (by omega)
  obtain ⟨t2, r2⟩ := read_ok 96 x.tx hn (by omega)
  rw [er] at r2
  obtain ⟨t3, r3⟩ := read_ok 96 ps.flatten (b1.no9 hn) (by omega)
  rw [et, er] at r3
  have r1 := toks_ok 97 ps.flatten [] (b1.no9 hn) (by omega)
  rw [et] at r1
  have r4 := is_ok 5 x 1 (by omega) (by omega) (by omega) 94
  have r9 := ltoks_call 98 ps.flatten (TP (ns.map PyData.int) p2 q2 s2) (by omega)
  rw [et] at r9
  have htk := tk_len x.tx []
  have hsm : sm 6 (LL x.d x.tx (toks x.tx)) = true := by
    have e1 := sm_d 5 x a1 (by omega)
    have e2 := sm_toks 3 (toks x.tx) (by show (tk [] x.tx).length ≤ 1000; omega)
    show (true && (sm 5 (dS x.tx) && (sm 5 x.d && (sm 5 x.d && (sm 5 (lD (toks x.tx)) && (sm 5 (.bool true) && true)))))) = true
    rw [e1, e2]; rfl
  have r6 := same_call 6 93 _ (TP (ns.map PyData.int) p2 q2 s2) hsm
  have hh := head_ok ⟨Rn 99, lfN⟩ (ns.map PyData.int) x.d x.tx ps.flatten (toks x.tx) ps _ _ h7 (cl_pure rfl h8 rfl) hg hj (cl_pure rfl h3 rfl) (cl_pure rfl r2 rfl) (cl_pure rfl r3 rfl) (cl_pure rfl r1 (wl_below 0 [] _)) (cl_pure rfl r4 rfl) r9 r6
  have hbd : bd 4 0 x.tx := by
    have := bd_tx (m := 4) x 0 [] (by omega) trivial
    rw [List.append_nil] at this
    exact this
  obtain ⟨u6, u7, u8, u9, p3, q3, s3, l1, hL⟩ := loop_T ⟨Rn 99, lfN⟩ (ns.map PyData.int) x.d x.tx (dS ps.flatten) ns (fun o6 o7 o8 o9 i p q s hq => turn_ok ns (ns.map PyData.int) x.d x.tx (dS ps.flatten) hlen hn hbd o6 o7 o8 o9 i p q s hq) [0, 1, 2, 3] none none none none p2 q2 s2 b3
  obtain ⟨v, p4, q4, s4, m1, m2, m3, h5⟩ := next_ok 98 ns p3 q3 s3 8 l1 (by decide)
  have hfr : evS ⟨Rn 99, lfN⟩ (.fr (.nm 6) (.rng1 [(.cst (.int 4))]) bodyT) (sgB (ns.map PyData.int) x.d (dS x.tx) (dS ps.flatten) none none none none) (TP (ns.map PyData.int) p2 q2 s2) = .ok (.nx (sgB (ns.map PyData.int) x.d (dS x.tx) (dS ps.flatten) u6 u7 u8 u9)) (TP (ns.map PyData.int) p3 q3 s3) :=
    s_fr rfl (sr_rng1 (es_cons ev_cst es_nil) (rng1_of 4 rfl)) (fo_items hL)
  have hp := par_ok ⟨Rn 99, lfN⟩ (ns.map PyData.int) x.d (dS x.tx) (dS ps.flatten) u6 u7 u8 u9 v (15 + v) _ _ h5 rfl
  have ht := tail_ok 59 (ns.map PyData.int) x.d (dS x.tx) (dS ps.flatten) u6 u7 u8 u9 (TP (ns.map PyData.int) p4 q4 s4) (15 + v) (by omega)
  refine ⟨TP (ns.map PyData.int) p4 q4 s4, ?_⟩
  refine run_fn (T := T) (fn := f13) rfl rfl rfl ?_
  have hrest : evSs ⟨Rn 99, lfN⟩ (.fr (.nm 6) (.rng1 [(.cst (.int 4))]) bodyT :: .par 10 11 (.cst (.str ⟨#[97]⟩)) (.bin .Add (.cst (.int 15)) (.call 5 [(.var 1), (.cst (.int 8))] [])) :: tlB) (sgB (ns.map PyData.int) x.d (dS x.tx) (dS ps.flatten) none none none none) (TP (ns.map PyData.int) p2 q2 s2) = .ok (.rt (vBool true)) (TP (ns.map PyData.int) p4 q4 s4) :=
    ss_cons hfr (nx_nx (ss_cons hp (nx_nx ht)))
  exact (ss_app (a := b13.take 5) hh hrest : _)
end K1
theorem PySem.Challenge.cw_onetongue_k01_whole_expressions_in_brack_holds : PySem.Challenge.rw_onetongue_k01_whole_expressions_in_brack.Holds := by
  exact K1.whole K1.hrun
