import PyProof.Rows.All
import Wide.All
import OpenK.AllK
import Wide.FinOn
import HandS.ForMost
import HandS.Conv
import HandS.IsInst
import HandS.Defaults
import HandS.TupAny
import HandS.Zip
import HandS.Rev
import HandS.Deep
import HandS.Style
import HandS.EndBits
import HandS.WordsExc
import HandS.CallSlots
import HandS.TupLe
import KE.KDictPairs
import HandS.RaiseMore
import KE.KDictSum
import HandS.Small
import HandS.SetKeys
import HandS.DictComp
import HandS.DictTup
import KE.KDictZip
import KE.KDictItemsList
import PyProof.ListNew
import HandS.Keys
import HandS.Exc
import HandS.ExcInit
import HandS.ExcField
import HandS.TryMany
import HandS.ClsMeth
import KE.KExcSuper
import KE.KSuper
import HandS.HeadWalk
import HandS.TryOnly
import HandS.HeadHook4
import HandS.ExcIs
import HandS.Codes
import HandS.Head0
import HandS.Head1
import HandS.Head2
import HandS.HeadEnd
import HandS.HeadHook1
import HandS.HeadHook2
import HandS.HeadHook3
import PySem.Challenge.RW_onetongue_k31_whole_instances_of_kinds
set_option Elab.async false
set_option linter.all false
set_option maxRecDepth 100000
/-! Ev1: a small language of values and a store of cells; its evaluator. No model in sight. -/
namespace MP
open PySem
abbrev D := PyData
/-- a value: data that never changes, the script, a cell of the store -/
inductive W where
  | d (x : D)
  | fz (xs : List D)
  | ref (i : Nat)
def W.pur : W → Bool
  | .ref _ => false
  | _ => true
def W.data : W → Option D
  | .d x => some x
  | _ => none
inductive Cell where
  | dead
  | lst (xs : List W)
  | dct (kvs : List (D × W))
  | obj (c : Nat) (fs : List (Str × W))
abbrev Sto := List Cell
/-- what an expression gives: a value, or a list or dict that nobody else holds -/
inductive Val where
  | w (x : W)
  | fl (xs : List W)
  | fd (kvs : List (D × W))
inductive Out (α : Type) where
  | ok (a : α) (st : Sto)
  | exc (c : Nat) (p : D) (st : Sto)
  | bad
def Out.bind {α β : Type} (o : Out α) (f : α → Sto → Out β) : Out β :=
  match o with
  | .ok a st => f a st
  | .exc c p st => .exc c p st
  | .bad => .bad
/-- within a comprehension nothing may be raised -/
def Out.noX {α : Type} (o : Out α) : Out α :=
  match o with
  | .exc _ _ _ => .bad
  | o => o
theorem Out.bind_ok {α β : Type} (a : α) (st : Sto) (f : α → Sto → Out β) : (Out.ok a st).bind f = f a st := rfl
theorem Out.bind_exc {α β : Type} (c : Nat) (p : D) (st : Sto) (f : α → Sto → Out β) : (Out.exc c p st : Out α).bind f = .exc c p st := rfl
theorem Out.bind_bad {α β : Type} (f : α → Sto → Out β) : (Out.bad : Out α).bind f = .bad := rfl
def liftO {α : Type} (o : Option α) (st : Sto) : Out α :=
  match o with
  | some a => .ok a st
  | none => .bad
theorem liftO_some {α : Type} (a : α) (st : Sto) : liftO (some a) st = .ok a st := rfl
theorem liftO_none {α : Type} (st : Sto) : liftO (none : Option α) st = .bad := rfl
/-! ### the language -/
inductive Tg where
  | nm (i : Nat)
  | tp (ts : List Tg)
inductive Blt where
  | len | abs | int | str | tuple | list | any | all | sum | min | max | sorted | dict | rev | pair | lzip
  deriving DecidableEq
inductive Mth where
  | append | pop | extend | join | split | replace | get | startswith | setdefault
  deriving DecidableEq
inductive Ty where
  | int | str | bool | tuple | list | dict
  deriving DecidableEq
mutual
inductive E where
  | var (i : Nat)
  | cst (x : D)
  | bin (op : Operator) (a b : E)
  | neg (a : E)
  | nt (a : E)
  | an (a b : E)
  | orr (a b : E)
  | ife (c a b : E)
  | cmp (op : CmpOp) (a b : E)
  | cmp2 (o1 o2 : CmpOp) (a b c : E)
  | tup (es : List E)
  | lst (own : Bool) (es : List E)
  | dis (kvs : List (D × E))
  | ix (a b : E)
  | sl (a : E) (lo hi : Option E)
  | call (f : Nat) (es : List E) (dfl : List D)
  | blt (b : Blt) (es : List E)
  | mth (m : Mth) (o : E) (es : List E)
  | isi (a : E) (ts : List Ty)
  | lc (own : List Nat) (t : Tg) (s : Src) (cs : List E) (e : E)
  | cel (e : E)
inductive Src where
  | it (e : E)
  | rng1 (es : List E)
  | rng2 (es : List E)
  | enm (es : List E)
  | zp (es : List E)
  | rv (e : E)
end
/-- what yields tuples that are taken apart at once -/
def Src.isW : Src → Bool
  | .enm _ => true
  | .zp _ => true
  | _ => false
def Tg.isTp : Tg → Bool
  | .tp _ => true
  | _ => false
inductive S where
  | asg (own : Bool) (i : Nat) (e : E)
  | unp (ts : List Tg) (e : E)
  | par (i j : Nat) (a b : E)
  | setI (o i e : E)
  | aug (i : Nat) (op : Operator) (e : E)
  | ex (e : E)
  | iff (c : E) (a b : List S)
  | fr (t : Tg) (s : Src) (b : List S)
  | wh (c : E) (b : List S)
  | ret (e : Option E)
  | brk
  | cnt
  | pss
  | rse (c : Nat) (e : E)
  | tr (xn : List Str) (s : S) (hs : List (Nat × Option Nat × List S))
/-! ### values -/
abbrev line : Nat := 16777216
def listOf (st : Sto) : Val → Option (List W)
  | .w (.d (.list xs)) => some (xs.map .d)
  | .w (.ref i) => match st[i]? with
    | some (.lst xs) => some xs
    | _ => none
  | .fl xs => some xs
  | _ => none
/-- also what may only be read -/
def listOf' (st : Sto) : Val → Option (List W)
  | .w (.fz xs) => some (xs.map .d)
  | v => listOf st v
def datas : List W → Option (List D)
  | [] => some []
  | .d x :: r => (datas r).map (x :: ·)
  | _ :: _ => none
def dictD (kvs : List (D × W)) : Option D := (datas (kvs.map (·.2))).map fun ds => .dict ((kvs.map (·.1)).zip ds)
/-- the data that a value is at hand -/
def dataOf (st : Sto) : Val → Option D
  | .w (.d x) => some x
  | .w (.fz _) => none
  | .w (.ref i) => match st[i]? with
    | some (.lst xs) => (datas xs).map .list
    | some (.dct kvs) => dictD kvs
    | _ => none
  | .fl xs => (datas xs).map .list
  | .fd kvs => dictD kvs
def scalD : D → D → Bool
  | .none, .none => true | .none, .int _ => true | .int _, .none => true | .none, .bool _ => true | .bool _, .none => true | .none, .str _ => true | .str _, .none => true
  | .int _, .int _ => true | .bool _, .bool _ => true | .str _, .str _ => true
  | .int _, .str _ => true | .str _, .int _ => true | .bool _, .str _ => true | .str _, .bool _ => true
  | _, _ => false
def flatD : D → Bool
  | .none => true | .bool _ => true | .int _ => true | .str _ => true
  | _ => false
def dLook : List (D × D) → D → Option D
  | [], _ => none
  | (k, v) :: r, x => if PyData.eqv k x then some v else dLook r x
/-- each key of one dict in another one, with what is the same there -/
def eqKv (ls : List (D × D)) : List (D × D) → Option Bool
  | [] => some true
  | (k, v) :: r => match dLook ls k with
    | none => some false
    | some y => if SeqAt.shaped v && SeqAt.shaped y then (eqKv ls r).map fun b => PyData.eqv v y && b else none
def eqD (x y : D) : Option Bool := if scalD x y || (SeqAt.shaped x && SeqAt.shaped y) then some (PyData.eqv x y) else match x, y with
  | .dict ks, .dict ls => if ks.length = ls.length then eqKv ls ks else some false
  | _, _ => none
def isStr1 : Str → Option Nat
  | ⟨⟨[c]⟩⟩ => some c
  | _ => none
/-- x in a row of data -/
def inRow (x : D) (ys : List D) : Option Bool :=
  if flatD x && ys.all flatD then some (ys.any fun y => PyData.eqv y x)
  else none
def inList (x : D) (ys : List D) : Option Bool :=
  if flatD x && ys.all flatD then some (ys.any fun y => PyData.eqv y x)
  else if SeqAt.shaped x && SeqAt.shaped (.list ys) then some (ys.any fun y => PyData.eqv y x)
  else none
def keyOf : D → Option (Sum Int Str)
  | .int i => some (.inl i)
  | .str x => some (.inr x)
  | _ => none
def keyD : Sum Int Str → D
  | .inl i => .int i
  | .inr x => .str x
def dLookW : List (D × W) → D → Option W
  | [], _ => none
  | (k, v) :: r, x => if PyData.eqv k x then some v else dLookW r x
/-- a dict, in the store or not -/
def dctOf (st : Sto) : Val → Option (List (D × W))
  | .w (.d (.dict kvs)) => some (kvs.map fun p => (p.1, W.d p.2))
  | .w (.ref i) => match st[i]? with
    | some (.dct kvs) => some kvs
    | _ => none
  | .fd kvs => some kvs
  | _ => none
def inV (st : Sto) (x y : Val) : Option Bool :=
  match y with
  | .w (.d (.str z)) => match x with
    | .w (.d (.str a)) => (isStr1 a).map fun c => decide (c ∈ z.cps.toList)
    | _ => none
  | .w (.d (.tuple ys)) => (dataOf st x).bind fun d => inRow d ys
  | y => match dctOf st y with
    | some kvs => (dataOf st x).bind fun d => (keyOf d).map fun _ => (dLookW kvs d).isSome
    | none => (listOf st y).bind fun ws => (datas ws).bind fun ys => (dataOf st x).bind fun d => inList d ys
def ltStr (a b : Str) : Bool := decide (a.cps.toList < b.cps.toList)
def cmpV (op : CmpOp) (st : Sto) (x y : Val) : Option Bool :=
  match op with
  | .Eq => (dataOf st x).bind fun d => (dataOf st y).bind fun e => eqD d e
  | .NotEq => (dataOf st x).bind fun d => (dataOf st y).bind fun e => (eqD d e).map (!·)
  | .Is => match x, y with
    | .w (.d .none), .w (.d .none) => some true
    | .w (.d (.bool a)), .w (.d (.bool b)) => some (a == b)
    | _, .w (.d .none) => some false
    | _, _ => none
  | .IsNot => match x, y with
    | .w (.d .none), .w (.d .none) => some false
    | .w (.d (.bool a)), .w (.d (.bool b)) => some (!(a == b))
    | _, .w (.d .none) => some true
    | _, _ => none
  | .In => inV st x y
  | .NotIn => (inV st x y).map (!·)
  | .Lt => match x, y with
    | .w (.d (.int i)), .w (.d (.int j)) => some (decide (i < j))
    | .w (.d (.str a)), .w (.d (.str b)) => some (ltStr a b)
    | _, _ => none
  | .LtE => match x, y with
    | .w (.d (.int i)), .w (.d (.int j)) => some (decide (i ≤ j))
    | .w (.d (.str a)), .w (.d (.str b)) => some (!ltStr b a)
    | _, _ => none
  | .Gt => match x, y with
    | .w (.d (.int i)), .w (.d (.int j)) => some (decide (j < i))
    | .w (.d (.str a)), .w (.d (.str b)) => some (ltStr b a)
    | _, _ => none
  | .GtE => match x, y with
    | .w (.d (.int i)), .w (.d (.int j)) => some (decide (j ≤ i))
    | .w (.d (.str a)), .w (.d (.str b)) => some (!ltStr a b)
    | _, _ => none
abbrev vInt (i : Int) : Val := .w (.d (.int i))
abbrev vStr (x : Str) : Val := .w (.d (.str x))
abbrev vBool (b : Bool) : Val := .w (.d (.bool b))
abbrev vNone : Val := .w (.d .none)
abbrev vTup (xs : List D) : Val := .w (.d (.tuple xs))
def mulOk (i j : Int) : Bool := decide ((-(2 ^ 64) < i ∧ i < 2 ^ 64) ∨ (-(2 ^ 64) < j ∧ j < 2 ^ 64))
def binV (op : Operator) (st : Sto) (x y : Val) : Option Val :=
  match op with
  | .Add => match x, y with
    | .w (.d (.int i)), .w (.d (.int j)) => some (vInt (i + j))
    | .w (.d (.str a)), .w (.d (.str b)) => if a.length + b.length ≤ line then some (vStr (a ++ b)) else none
    | .w (.d (.tuple xs)), .w (.d (.tuple ys)) => if xs.length + ys.length ≤ line then some (vTup (xs ++ ys)) else none
    | x, y => (listOf st x).bind fun xs => (listOf st y).bind fun ys => if xs.length + ys.length ≤ line then some (.fl (xs ++ ys)) else none
  | .Sub => match x, y with
    | .w (.d (.int i)), .w (.d (.int j)) => some (vInt (i - j))
    | _, _ => none
  | .Mult => match x, y with
    | .w (.d (.int i)), .w (.d (.int j)) => if mulOk i j then some (vInt (i * j)) else none
    | x, .w (.d (.int k)) => (listOf st x).bind fun xs => if 0 ≤ k ∧ k ≤ 1000 ∧ xs.length ≤ 1000 then some (.fl (List.replicate k.toNat xs).flatten) else none
    | _, _ => none
  | .FloorDiv => match x, y with
    | .w (.d (.int i)), .w (.d (.int j)) => if 0 < j ∧ j < 1073741824 then some (vInt (i / j)) else none
    | _, _ => none
  | .Mod => match x, y with
    | .w (.d (.int i)), .w (.d (.int j)) => if 0 < j then some (vInt (i % j)) else none
    | _, _ => none
  | .Pow => match x, y with
    | .w (.d (.int i)), .w (.d (.int j)) => if 0 ≤ j ∧ j ≤ 1000000 ∧ i.natAbs < 2 ^ 64 then some (vInt (i ^ j.toNat)) else none
    | _, _ => none
  | _ => none
def negV : Val → Option Val
  | .w (.d (.int i)) => some (vInt (-i))
  | _ => none
def bool? : Val → Option Bool
  | .w (.d (.bool b)) => some b
  | _ => none
def int? : Val → Option Int
  | .w (.d (.int i)) => some i
  | _ => none
def tyOf (st : Sto) : Val → Option Ty
  | .w (.d (.int _)) => some .int
  | .w (.d (.str _)) => some .str
  | .w (.d (.bool _)) => some .bool
  | .w (.d (.tuple _)) => some .tuple
  | .w (.d (.list _)) => some .list
  | .w (.d (.dict _)) => some .dict
  | .w (.fz _) => some .list
  | .w (.ref i) => match st[i]? with
    | some (.lst _) => some .list
    | some (.dct _) => some .dict
    | _ => none
  | .fl _ => some .list
  | .fd _ => some .dict
  | .w (.d .none) => none
def isTy (st : Sto) (v : Val) (t : Ty) : Option Bool :=
  match v with
  | .w (.d .none) => some false
  | v => (tyOf st v).map fun u => match u, t with
    | .bool, .int => true
    | u, t => u == t
def isTys (st : Sto) (v : Val) : List Ty → Option Bool
  | [] => some false
  | t :: ts => (isTy st v t).bind fun b => (isTys st v ts).map fun c => b || c
def cutL {α : Type} (xs : List α) (lo hi : Option Int) : List α := (xs.drop (HT.sIx xs.length 0 lo)).take (HT.sIx xs.length xs.length hi - HT.sIx xs.length 0 lo)
def ixV (st : Sto) (a b : Val) : Option Val :=
  match a with
  | .w (.d (.tuple xs)) => (int? b).bind fun i => (L2.atI xs i).map fun x => .w (.d x)
  | .w (.d (.str z)) => (int? b).bind fun i => if z.length ≤ line then (L2.atI z.cps.toList i).map fun c => vStr ⟨#[c]⟩ else none
  | a => match dctOf st a with
    | some kvs => (dataOf st b).bind fun k => (keyOf k).bind fun _ => (dLookW kvs k).map .w
    | none => (listOf' st a).bind fun xs => (int? b).bind fun i => (L2.atI xs i).map .w
def slV (st : Sto) (a : Val) (lo hi : Option Int) : Option Val :=
  match a with
  | .w (.d (.tuple xs)) => some (vTup (cutL xs lo hi))
  | .w (.d (.str z)) => if z.length ≤ line then some (vStr (L2.cutS z lo hi)) else none
  | a => (listOf' st a).map fun xs => .fl (cutL xs lo hi)
def bools : List W → Option (List Bool)
  | [] => some []
  | .d (.bool b) :: r => (bools r).map (b :: ·)
  | _ :: _ => none
def intsOf : List W → Option (List Int)
  | [] => some []
  | .d (.int b) :: r => (intsOf r).map (b :: ·)
  | _ :: _ => none
def strsOf : List W → Option (List Str)
  | [] => some []
  | .d (.str b) :: r => (strsOf r).map (b :: ·)
  | _ :: _ => none
def maxI : Int → List Int → Int
  | m, [] => m
  | m, x :: r => maxI (if m < x then x else m) r
def minI : Int → List Int → Int
  | m, [] => m
  | m, x :: r => minI (if x < m then x else m) r
def pairD : W → Option (D × W)
  | .d (.tuple [k, v]) => (keyOf k).map fun _ => (k, .d v)
  | _ => none
def pairsD : List W → Option (List (D × W))
  | [] => some []
  | x :: r => (pairD x).bind fun p => (pairsD r).map (p :: ·)
def putD {β : Type} (kvs : List (D × β)) (k : D) (v : β) : List (D × β) :=
  if (kvs.any fun kv => PyData.eqv kv.1 k) = true then kvs.map (fun kv => if PyData.eqv kv.1 k = true then (kv.1, v) else kv) else kvs ++ [(k, v)]
def mergeD {β : Type} (kvs more : List (D × β)) : List (D × β) := more.foldl (fun acc kv => putD acc kv.1 kv.2) kvs
def zipW : List D → List D → List W
  | x :: xs, y :: ys => .d (.tuple [x, y]) :: zipW xs ys
  | _, _ => []
def lenOf (st : Sto) (v : Val) : Option Nat :=
  match v with
  | .w (.d (.str z)) => if z.length ≤ line then some z.length else none
  | .w (.d (.tuple xs)) => some xs.length
  | .w (.d (.dict kvs)) => some kvs.length
  | .fd kvs => some kvs.length
  | .w (.ref i) => match st[i]? with
    | some (.lst xs) => some xs.length
    | some (.dct kvs) => some kvs.length
    | _ => none
  | v => (listOf' st v).map List.length
def bltV (b : Blt) (st : Sto) (vs : List Val) : Option Val :=
  match b, vs with
  | .len, [v] => (lenOf st v).map fun n => vInt n
  | .abs, [v] => (int? v).map fun i => vInt (if i < 0 then -i else i)
  | .int, [.w (.d (.int i))] => some (vInt i)
  | .int, [.w (.d (.bool b))] => some (vInt (if b then 1 else 0))
  | .str, [.w (.d (.int i))] => if i.natAbs.log2 < 1920 then some (vStr (toString i : String)) else none
  | .str, [.w (.d (.str z))] => some (vStr z)
  | .tuple, [.w (.d (.tuple xs))] => some (vTup xs)
  | .tuple, [.w (.d (.dict kvs))] => none
  | .tuple, [.w (.ref i)] => match st[i]? with
    | some (.lst xs) => (datas xs).map vTup
    | some (.dct kvs) => some (vTup (kvs.map (·.1)))
    | _ => none
  | .tuple, [v] => (listOf' st v).bind fun xs => (datas xs).map vTup
  | .list, [.w (.d (.tuple xs))] => some (.fl (xs.map .d))
  | .list, [v] => (listOf' st v).map .fl
  | .any, [v] => (listOf st v).bind fun xs => (bools xs).map fun bs => vBool (bs.any id)
  | .all, [v] => (listOf st v).bind fun xs => (bools xs).map fun bs => vBool (bs.all id)
  | .sum, [v] => (listOf st v).bind fun xs => (intsOf xs).map fun is => vInt is.sum
  | .max, [.w (.d (.int i)), .w (.d (.int j))] => some (vInt (if j > i then j else i))
  | .min, [.w (.d (.int i)), .w (.d (.int j))] => some (vInt (if j < i then j else i))
  | .max, [v] => (listOf st v).bind fun xs => (intsOf xs).bind fun is => match is with
    | [] => none
    | m :: r => some (vInt (maxI m r))
  | .min, [v] => (listOf st v).bind fun xs => (intsOf xs).bind fun is => match is with
    | [] => none
    | m :: r => some (vInt (minI m r))
  | .pair, [.w (.d k), .w (.d x)] => (keyOf k).map fun _ => vTup [k, x]
  | .lzip, [.w (.d (.tuple xs)), .w (.d (.tuple ys))] => some (.fl (zipW xs ys))
  | .rev, [v] => (listOf' st v).map fun xs => .fl xs.reverse
  | .dict, [.w (.d (.tuple xs))] => (pairsD (xs.map .d)).map fun kvs => .fd (mergeD [] kvs)
  | .dict, [v] => (listOf st v).bind fun xs => (pairsD xs).map fun kvs => .fd (mergeD [] kvs)
  | _, _ => none
/-- the built-in methods: the value and the store behind -/
def mthV (m : Mth) (st : Sto) (o : Val) (vs : List Val) : Option (Val × Sto) :=
  match m, o, vs with
  | .append, .w (.ref i), [.w x] => match st[i]? with
    | some (.lst xs) => if xs.length < line then some (vNone, st.set i (.lst (xs ++ [x]))) else none
    | _ => none
  | .pop, .w (.ref i), [] => match st[i]? with
    | some (.lst xs) => xs.getLast?.map fun x => (.w x, st.set i (.lst xs.dropLast))
    | _ => none
  | .pop, .w (.ref i), [.w (.d (.int 0))] => match st[i]? with
    | some (.lst (x :: r)) => some (.w x, st.set i (.lst r))
    | _ => none
  | .get, o, [k] => (dctOf st o).bind fun kvs => (dataOf st k).bind fun d => (keyOf d).map fun _ => (match dLookW kvs d with
    | some x => .w x
    | none => vNone, st)
  | .get, o, [k, z] => (dctOf st o).bind fun kvs => (dataOf st k).bind fun d => (keyOf d).bind fun _ => match z with
    | .w z => some (.w ((dLookW kvs d).getD z), st)
    | _ => none
  | .setdefault, .w (.ref i), [k, .w z] => match st[i]? with
    | some (.dct kvs) => (dataOf st k).bind fun d => (keyOf d).bind fun _ => if kvs.length < line then (match dLookW kvs d with
      | some x => some (.w x, st)
      | none => some (.w z, st.set i (.dct (putD kvs d z)))) else none
    | _ => none
  | .join, .w (.d (.str a)), [v] => (listOf st v).bind fun xs => (strsOf xs).bind fun ys =>
      if (ys.map (·.length)).sum + ys.length * a.length ≤ 16777216 then some (vStr (Txt.join a ys), st) else none
  | .replace, .w (.d (.str x)), [.w (.d (.str y)), .w (.d (.str _))] => if (Builtin.Str.occurrences x y 0 x.length (x.length + 1)).isEmpty = true then some (vStr x, st) else none
  | .split, .w (.d (.str x)), [.w (.d (.str y))] => if (y.length == 0) = false ∧ x.length + 2 ≤ line then some (.fl ((Txt.split x y).map fun z => .d (.str z)), st) else none
  | _, _, _ => none
/-- what a method is called of -/
def recvOk (m : Mth) (st : Sto) (o : Val) : Bool :=
  match m, o with
  | .append, .w (.ref i) => match st[i]? with
    | some (.lst _) => true
    | _ => false
  | .pop, .w (.ref i) => match st[i]? with
    | some (.lst _) => true
    | _ => false
  | .get, o => (dctOf st o).isSome
  | .setdefault, .w (.ref i) => match st[i]? with
    | some (.dct _) => true
    | _ => false
  | .join, .w (.d (.str _)) => true
  | .replace, .w (.d (.str _)) => true
  | .split, .w (.d (.str _)) => true
  | _, _ => false
/-! ### stores at a call's end -/
def W.below (n : Nat) : W → Bool
  | .ref i => decide (i < n)
  | _ => true
def Cell.below (n : Nat) : Cell → Bool
  | .dead => true
  | .lst xs => xs.all (W.below n)
  | .dct kvs => kvs.all fun kv => kv.2.below n
  | .obj _ fs => fs.all fun kv => kv.2.below n
/-- a call's value told without the cells from n on -/
def valBelow (n : Nat) (st : Sto) : Val → Option Val
  | .w (.ref i) => if i < n then some (.w (.ref i)) else match st[i]? with
    | some (.lst xs) => if xs.all (W.below n) then some (.fl xs) else none
    | some (.dct kvs) => if kvs.all (fun kv => kv.2.below n) then some (.fd kvs) else none
    | _ => none
  | .w x => some (.w x)
  | .fl xs => if xs.all (W.below n) then some (.fl xs) else none
  | .fd kvs => if kvs.all (fun kv => kv.2.below n) then some (.fd kvs) else none
/-- .. where the value holds new cells, all stay -/
def gcAt (n : Nat) : Out Val → Out Val
  | .ok v st => if (st.take n).all (Cell.below n) then (match valBelow n st v with
    | some v' => .ok v' (st.take n)
    | none => .ok v st) else .ok v st
  | .exc c p st => if (st.take n).all (Cell.below n) then .exc c p (st.take n) else .exc c p st
  | .bad => .bad
/-- .. and where they may not stay -/
def gcS : Out Val → Out Val
  | .ok v st => match valBelow 0 st v with
    | some v' => .ok v' []
    | none => .bad
  | .exc c p _ => .exc c p []
  | .bad => .bad
/-- from the empty store to another one -/
def onto (st : Sto) : Out Val → Out Val
  | .ok v _ => .ok v st
  | .exc c p _ => .exc c p st
  | .bad => .bad
/-! ### the evaluator -/
abbrev Env := List (Option W)
structure CE where
  run : Nat → List W → Sto → Out Val
  lf : Nat
/-- a call: arguments without cells run over the empty store -/
def callV (C : CE) (f : Nat) (ws : List W) (st : Sto) : Out Val :=
  match ws.all W.pur with
  | true => match st with
    | [] => gcAt 0 (C.run f ws [])
    | c :: r => onto (c :: r) (gcS (C.run f ws []))
  | false => gcAt st.length (C.run f ws st)
def wOf : Val → Option W
  | .w x => some x
  | .fl xs => (datas xs).map fun ds => .d (.list ds)
  | .fd kvs => (datas (kvs.map (·.2))).map fun ds => .d (.dict ((kvs.map (·.1)).zip ds))
def wsOf : List Val → Option (List W)
  | [] => some []
  | v :: r => (wOf v).bind fun x => (wsOf r).map (x :: ·)
def dsOf (vs : List Val) : Option (List D) := (wsOf vs).bind datas
mutual
def bindT : Tg → W → Env → Option Env
  | .nm i, x, σ => some (σ.set i (some x))
  | .tp ts, x, σ => match x with
    | .d (.tuple xs) => bindTs ts xs σ
    | _ => none
def bindTs : List Tg → List D → Env → Option Env
  | [], [], σ => some σ
  | t :: ts, x :: xs, σ => (bindT t (.d x) σ).bind fun σ' => bindTs ts xs σ'
  | _, _, _ => none
end
def wipeE (σ : Env) : List Nat → Env
  | [] => σ
  | i :: r => (wipeE σ r).set i none
def gath (f : W → Sto → Out (Option W)) : List W → List W → Sto → Out (List W)
  | [], acc, st => .ok acc st
  | x :: r, acc, st => (f x st).bind fun y st => match y with
    | some y => if acc.length < line then gath f r (acc ++ [y]) st else .bad
    | none => gath f r acc st
/-- over a list in the store, as it stands at each turn -/
def gathL (f : W → Sto → Out (Option W)) (r : Nat) : Nat → Nat → List W → Sto → Out (List W)
  | 0, _, _, _ => .bad
  | n + 1, k, acc, st => match st[r]? with
    | some (.lst xs) => match xs[k]? with
      | none => .ok acc st
      | some x => (f x st).bind fun y st => match y with
        | some y => if acc.length < line then gathL f r n (k + 1) (acc ++ [y]) st else .bad
        | none => gathL f r n (k + 1) acc st
    | _ => .bad
/-- what is walked: items, or the list at a cell -/
inductive Itx where
  | items (xs : List W)
  | live (r : Nat)
def itOf (st : Sto) : Val → Option Itx
  | .w (.ref i) => match st[i]? with
    | some (.lst _) => some (.live i)
    | _ => none
  | .w (.d (.tuple xs)) => some (.items (xs.map .d))
  | .w (.d (.str z)) => some (.items (z.cps.toList.map fun c => .d (.str ⟨#[c]⟩)))
  | v => (listOf' st v).map .items
/-- a tuple (true) or a list of data, that nobody changes -/
def seqOf : Val → Option (Bool × List D)
  | .w (.d (.tuple xs)) => some (true, xs)
  | .w (.d (.list xs)) => some (false, xs)
  | .w (.fz xs) => some (false, xs)
  | .fl xs => (datas xs).map (false, ·)
  | _ => none
def rngOk (i : Int) : Bool := decide (-(2 ^ 62) ≤ i ∧ i < 2 ^ 62)
def rngW (lo hi : Int) : List W := (List.range (hi - lo).toNat).map fun (k : Nat) => W.d (.int (lo + (k : Int)))
def enumW : Nat → List D → List W
  | _, [] => []
  | k, x :: r => .d (.tuple [.int k, x]) :: enumW (k + 1) r
def rng1V : List Val → Option (List W)
  | [v] => (int? v).bind fun j => if rngOk j then some (rngW 0 j) else none
  | _ => none
def rng2V : List Val → Option (List W)
  | [v, u] => (int? v).bind fun i => (int? u).bind fun j => if rngOk i && rngOk j then some (rngW i j) else none
  | _ => none
def enmV : List Val → Option (List W)
  | [v] => (seqOf v).bind fun d => match d with
    | (false, xs) => some (enumW 0 xs)
    | _ => none
  | _ => none
def zpV : List Val → Option (List W)
  | [v, u] => (seqOf v).bind fun d => (seqOf u).bind fun e => if d.1 = e.1 then some (zipW d.2 e.2) else none
  | _ => none
def cmpB (op : CmpOp) (st : Sto) (x y : Val) : Out Bool := liftO (cmpV op st x y) st
/-- the i-th thing that is walked -/
def itAt (it : Itx) (k : Nat) (st : Sto) : Option (Option W) :=
  match it with
  | .items xs => some xs[k]?
  | .live r => match st[r]? with
    | some (.lst xs) => some xs[k]?
    | _ => none
def gathI (f : W → Sto → Out (Option W)) (it : Itx) : Nat → Nat → List W → Sto → Out (List W)
  | 0, _, _, _ => .bad
  | n + 1, k, acc, st => match itAt it k st with
    | none => .bad
    | some none => .ok acc st
    | some (some x) => (f x st).bind fun y st => match y with
      | some y => if acc.length < line then gathI f it n (k + 1) (acc ++ [y]) st else .bad
      | none => gathI f it n (k + 1) acc st
theorem gath_items (f : W → Sto → Out (Option W)) (xs : List W) : ∀ (n k : Nat) (acc : List W) (st : Sto), n + k = xs.length → gath f (xs.drop k) acc st = gathI f (.items xs) (n + 1) k acc st
  | 0, k, acc, st, h => by
    rw [List.drop_eq_nil_of_le (by omega)]
    simp only [gath, gathI, itAt]
    rw [List.getElem?_eq_none_iff.mpr (by omega)]
  | n + 1, k, acc, st, h => by
    have hk : k < xs.length := by omega
    rw [List.drop_eq_getElem_cons (h := hk)]
    simp only [gath, gathI, itAt]
    rw [List.getElem?_eq_getElem hk]
    dsimp only
    congr 1
    funext y st
    cases y with
    | none => exact gath_items f xs n (k + 1) acc st (by omega)
    | some y => dsimp only; rw [gath_items f xs n (k + 1) (acc ++ [y]) st (by omega)]; rfl
theorem gath_live (f : W → Sto → Out (Option W)) (r : Nat) : ∀ (n k : Nat) (acc : List W) (st : Sto), gathL f r n k acc st = gathI f (.live r) n k acc st
  | 0, _, _, _ => rfl
  | n + 1, k, acc, st => by
    simp only [gathL, gathI, itAt]
    cases q : st[r]? with
    | none => rfl
    | some c =>
      cases c with
      | lst xs =>
        dsimp only
        cases q2 : xs[k]? with
        | none => rfl
        | some x =>
          dsimp only
          congr 1
          funext y st
          cases y with
          | none => exact gath_live f r n (k + 1) acc st
          | some y => dsimp only; rw [gath_live f r n (k + 1) (acc ++ [y]) st]
      | _ => rfl
def gathOf (lf : Nat) (f : W → Sto → Out (Option W)) (it : Itx) (st : Sto) : Out (List W) :=
  match it with
  | .items xs => gath f xs [] st
  | .live r => gathL f r lf 0 [] st
mutual
def evE (C : CE) : E → Env → Sto → Out Val
  | .var i, σ, st => match σ[i]? with
    | some (some w) => .ok (.w w) st
    | _ => .bad
  | .cst x, _, st => .ok (.w (.d x)) st
  | .bin op a b, σ, st => (evE C a σ st).bind fun x st => (evE C b σ st).bind fun y st => liftO (binV op st x y) st
  | .neg a, σ, st => (evE C a σ st).bind fun x st => liftO (negV x) st
  | .nt a, σ, st => (evE C a σ st).bind fun x st => liftO ((bool? x).map fun b => vBool (!b)) st
  | .an a b, σ, st => (evE C a σ st).bind fun x st => match bool? x with
    | some true => evE C b σ st
    | some false => .ok (vBool false) st
    | none => .bad
  | .orr a b, σ, st => (evE C a σ st).bind fun x st => match bool? x with
    | some true => .ok (vBool true) st
    | some false => evE C b σ st
    | none => .bad
  | .ife c a b, σ, st => (evE C c σ st).bind fun x st => match bool? x with
    | some true => evE C a σ st
    | some false => evE C b σ st
    | none => .bad
  | .cmp op a b, σ, st => (evE C a σ st).bind fun x st => (evE C b σ st).bind fun y st => (cmpB op st x y).bind fun r st => .ok (vBool r) st
  | .cmp2 o1 o2 a b c, σ, st => (evE C a σ st).bind fun x st => (evE C b σ st).bind fun y st => (cmpB o1 st x y).bind fun r st => match r with
    | true => (evE C c σ st).bind fun z st => (cmpB o2 st y z).bind fun r st => .ok (vBool r) st
    | false => .ok (vBool false) st
  | .tup es, σ, st => (evEs C es σ st).bind fun vs st => liftO ((dsOf vs).bind fun ds => if ds.length ≤ line then some (vTup ds) else none) st
  | .lst own es, σ, st => (evEs C es σ st).bind fun vs st => (liftO ((wsOf vs).bind fun ws => if ws.length ≤ line then some ws else none) st).bind fun ws st =>
      match own with
      | true => .ok (.w (.ref st.length)) (st ++ [.lst ws])
      | false => .ok (.fl ws) st
  | .dis kvs, σ, st => (evKvs C kvs σ st).bind fun kvs st => .ok (.fd kvs) st
  | .ix a b, σ, st => (evE C a σ st).bind fun x st => (evE C b σ st).bind fun y st => liftO (ixV st x y) st
  | .sl a lo hi, σ, st => (evE C a σ st).bind fun x st => (evO C lo σ st).bind fun l st => (evO C hi σ st).bind fun h st => liftO (slV st x l h) st
  | .call f es dfl, σ, st => (evEs C es σ st).bind fun vs st => (liftO (wsOf vs) st).bind fun ws st => callV C f (ws ++ dfl.map .d) st
  | .blt b es, σ, st => (evEs C es σ st).bind fun vs st => liftO (bltV b st vs) st
  | .mth m o es, σ, st => (evE C o σ st).bind fun x st => match recvOk m st x with
    | true => (evEs C es σ st).bind fun vs st => match mthV m st x vs with
      | some r => .ok r.1 r.2
      | none => .bad
    | false => .bad
  | .isi a ts, σ, st => (evE C a σ st).bind fun x st => liftO ((isTys st x ts).map vBool) st
  | .lc own t s cs e, σ, st => if s.isW && !t.isTp then .bad else (evSrc C s σ st).bind fun it st =>
      let f : W → Sto → Out (Option W) := fun x st => match bindT t x (wipeE σ own) with
        | none => .bad
        | some σ' => (evCs C cs σ' st).noX.bind fun b st => match b with
          | true => (evE C e σ' st).noX.bind fun v st => liftO ((wOf v).map some) st
          | false => .ok none st
      (gathOf C.lf f it st).bind fun ys st => .ok (.fl ys) st
  | .cel e, σ, st => (evE C e σ st).bind fun v st => match v with
    | .fl xs => .ok (.w (.ref st.length)) (st ++ [.lst xs])
    | .fd kvs => .ok (.w (.ref st.length)) (st ++ [.dct kvs])
    | v => .ok v st
def evEs (C : CE) : List E → Env → Sto → Out (List Val)
  | [], _, st => .ok [] st
  | e :: es, σ, st => (evE C e σ st).bind fun v st => (evEs C es σ st).bind fun vs st => .ok (v :: vs) st
def evKvs (C : CE) : List (D × E) → Env → Sto → Out (List (D × W))
  | [], _, st => .ok [] st
  | (k, e) :: es, σ, st => (evE C e σ st).bind fun v st => (liftO (wOf v) st).bind fun w st => (evKvs C es σ st).bind fun vs st => .ok ((k, w) :: vs) st
def evO (C : CE) : Option E → Env → Sto → Out (Option Int)
  | none, _, st => .ok none st
  | some e, σ, st => (evE C e σ st).bind fun v st => liftO ((int? v).map some) st
def evCs (C : CE) : List E → Env → Sto → Out Bool
  | [], _, st => .ok true st
  | e :: es, σ, st => (evE C e σ st).bind fun v st => match bool? v with
    | some true => evCs C es σ st
    | some false => .ok false st
    | none => .bad
def evSrc (C : CE) : Src → Env → Sto → Out Itx
  | .it e, σ, st => (evE C e σ st).bind fun v st => liftO (itOf st v) st
  | .rng1 es, σ, st => (evEs C es σ st).bind fun vs st => liftO ((rng1V vs).map .items) st
  | .rng2 es, σ, st => (evEs C es σ st).bind fun vs st => liftO ((rng2V vs).map .items) st
  | .enm es, σ, st => (evEs C es σ st).bind fun vs st => liftO ((enmV vs).map .items) st
  | .zp es, σ, st => (evEs C es σ st).bind fun vs st => liftO ((zpV vs).map .items) st
  | .rv e, σ, st => (evE C e σ st).bind fun v st => liftO ((seqOf v).map fun d => .items (d.2.reverse.map .d)) st
end
inductive Fl where
  | nx (σ : Env)
  | rt (v : Val)
  | bk (σ : Env)
  | ct (σ : Env)
/-- a loop's turn: on with σ, or out -/
def forItems (f : W → Env → Sto → Out Fl) : List W → Env → Sto → Out Fl
  | [], σ, st => .ok (.nx σ) st
  | x :: r, σ, st => (f x σ st).bind fun fl st => match fl with
    | .nx σ => forItems f r σ st
    | .ct σ => forItems f r σ st
    | .bk σ => .ok (.nx σ) st
    | .rt v => .ok (.rt v) st
def forLive (f : W → Env → Sto → Out Fl) (r : Nat) : Nat → Nat → Env → Sto → Out Fl
  | 0, _, _, _ => .bad
  | n + 1, k, σ, st => match st[r]? with
    | some (.lst xs) => match xs[k]? with
      | none => .ok (.nx σ) st
      | some x => (f x σ st).bind fun fl st => match fl with
        | .nx σ => forLive f r n (k + 1) σ st
        | .ct σ => forLive f r n (k + 1) σ st
        | .bk σ => .ok (.nx σ) st
        | .rt v => .ok (.rt v) st
    | _ => .bad
def forI (f : W → Env → Sto → Out Fl) (it : Itx) : Nat → Nat → Env → Sto → Out Fl
  | 0, _, _, _ => .bad
  | n + 1, k, σ, st => match itAt it k st with
    | none => .bad
    | some none => .ok (.nx σ) st
    | some (some x) => (f x σ st).bind fun fl st => match fl with
      | .nx σ => forI f it n (k + 1) σ st
      | .ct σ => forI f it n (k + 1) σ st
      | .bk σ => .ok (.nx σ) st
      | .rt v => .ok (.rt v) st
theorem for_items (f : W → Env → Sto → Out Fl) (xs : List W) : ∀ (n k : Nat) (σ : Env) (st : Sto), n + k = xs.length → forItems f (xs.drop k) σ st = forI f (.items xs) (n + 1) k σ st
  | 0, k, σ, st, h => by
    rw [List.drop_eq_nil_of_le (by omega)]
    simp only [forItems, forI, itAt]
    rw [List.getElem?_eq_none_iff.mpr (by omega)]
  | n + 1, k, σ, st, h => by
    have hk : k < xs.length := by omega
    rw [List.drop_eq_getElem_cons (h := hk)]
    simp only [forItems, forI, itAt]
    rw [List.getElem?_eq_getElem hk]
    dsimp only
    congr 1
    funext y st
    cases y with
    | nx σ => exact for_items f xs n (k + 1) σ st (by omega)
    | ct σ => exact for_items f xs n (k + 1) σ st (by omega)
    | _ => rfl
theorem for_live (f : W → Env → Sto → Out Fl) (r : Nat) : ∀ (n k : Nat) (σ : Env) (st : Sto), forLive f r n k σ st = forI f (.live r) n k σ st
  | 0, _, _, _ => rfl
  | n + 1, k, σ, st => by
    simp only [forLive, forI, itAt]
    cases q : st[r]? with
    | none => rfl
    | some c =>
      cases c with
      | lst xs =>
        dsimp only
        cases q2 : xs[k]? with
        | none => rfl
        | some x =>
          dsimp only
          congr 1
          funext y st
          cases y with
          | nx σ => exact for_live f r n (k + 1) σ st
          | ct σ => exact for_live f r n (k + 1) σ st
          | _ => rfl
      | _ => rfl
def forOf (lf : Nat) (f : W → Env → Sto → Out Fl) (it : Itx) (σ : Env) (st : Sto) : Out Fl :=
  match it with
  | .items xs => forItems f xs σ st
  | .live r => forLive f r lf 0 σ st
def whileL (c : Env → Sto → Out Bool) (f : Env → Sto → Out Fl) : Nat → Env → Sto → Out Fl
  | 0, _, _ => .bad
  | n + 1, σ, st => (c σ st).bind fun b st => match b with
    | false => .ok (.nx σ) st
    | true => (f σ st).bind fun fl st => match fl with
      | .nx σ => whileL c f n σ st
      | .ct σ => whileL c f n σ st
      | .bk σ => .ok (.nx σ) st
      | .rt v => .ok (.rt v) st
def evB (C : CE) (c : E) (σ : Env) (st : Sto) : Out Bool := (evE C c σ st).bind fun v st => liftO (bool? v) st
def augV (op : Operator) (x : W) (y : Val) : Option W :=
  match op, x, y with
  | .Add, .d (.int i), .w (.d (.int j)) => some (.d (.int (i + j)))
  | .Sub, .d (.int i), .w (.d (.int j)) => some (.d (.int (i - j)))
  | _, _, _ => none
/-- a list in the store, made longer -/
def augS (op : Operator) (st : Sto) (x : W) (v : Val) : Option Sto :=
  match op, x with
  | .Add, .ref i => match st[i]? with
    | some (.lst xs) => (listOf st v).bind fun ys => if xs.length + ys.length ≤ line then some (st.set i (.lst (xs ++ ys))) else none
    | _ => none
  | _, _ => none
def setCell (st : Sto) (o i : Val) (x : W) : Option Sto :=
  match o with
  | .w (.ref r) => match st[r]? with
    | some (.lst xs) => (int? i).bind fun k => (L2.ixN xs.length k).map fun j => st.set r (.lst (xs.set j x))
    | some (.dct kvs) => (dataOf st i).bind fun k => (keyOf k).bind fun _ => if kvs.length < line then some (st.set r (.dct (putD kvs k x))) else none
    | _ => none
  | _ => none
/-- whether a class is caught as another one: itself, or the base of all -/
def subX (c c' : Nat) : Bool := c == c' || c' == 0
def clr {α : Type} (i : Option Nat) (σ : List (Option α)) : List (Option α) := match i with
  | some i => σ.set i none
  | none => σ
theorem clr_len {α : Type} (i : Option Nat) (σ : List (Option α)) : (clr i σ).length = σ.length := by
  cases i with
  | none => rfl
  | some i => exact List.length_set ..
/-- an except suite's slots: the place and the name stand behind all -/
def exEnv (i : Option Nat) (σ : Env) (p : D) (nm : Str) : Env := clr i σ ++ [some (.d p), some (.d (.str nm))]
def nameX (xn : List Str) (c : Nat) : Str := xn.getD c ⟨#[]⟩
def offI (n : Nat) (i : Option Nat) (σ : Env) : Env := clr i (σ.take n)
def cutFl (n : Nat) (i : Option Nat) : Fl → Fl
  | .nx σ => .nx (offI n i σ)
  | .rt v => .rt v
  | .bk σ => .bk (offI n i σ)
  | .ct σ => .ct (offI n i σ)
mutual
def evS (C : CE) : S → Env → Sto → Out Fl
  | .asg own i e, σ, st => (evE C e σ st).bind fun v st => match own, v with
    | true, .fl xs => .ok (.nx (σ.set i (some (.ref st.length)))) (st ++ [.lst xs])
    | true, .fd kvs => .ok (.nx (σ.set i (some (.ref st.length)))) (st ++ [.dct kvs])
    | _, v => match wOf v with
      | some w => .ok (.nx (σ.set i (some w))) st
      | none => .bad
  | .unp ts e, σ, st => (evE C e σ st).bind fun v st => match v with
    | .w w => liftO ((bindT (.tp ts) w σ).map .nx) st
    | _ => .bad
  | .par i j a b, σ, st => (evE C a σ st).bind fun v st => (evE C b σ st).bind fun u st => match wOf v, wOf u with
    | some x, some y => .ok (.nx ((σ.set i (some x)).set j (some y))) st
    | _, _ => .bad
  | .setI o i e, σ, st => (evE C e σ st).bind fun v st => (evE C o σ st).bind fun ov st => (evE C i σ st).bind fun iv st =>
      match (wOf v).bind fun x => setCell st ov iv x with
      | some st' => .ok (.nx σ) st'
      | none => .bad
  | .aug i op e, σ, st => match σ[i]? with
    | some (some w) => (evE C e σ st).bind fun v st => match augV op w v with
      | some x => .ok (.nx (σ.set i (some x))) st
      | none => match augS op st w v with
        | some st' => .ok (.nx (σ.set i (some w))) st'
        | none => .bad
    | _ => .bad
  | .ex e, σ, st => (evE C e σ st).bind fun _ st => .ok (.nx σ) st
  | .iff c a b, σ, st => (evB C c σ st).bind fun t st => match t with
    | true => evSs C a σ st
    | false => evSs C b σ st
  | .fr t s b, σ, st => if s.isW && !t.isTp then .bad else (evSrc C s σ st).bind fun it st =>
      let f : W → Env → Sto → Out Fl := fun x σ st => match bindT t x σ with
        | none => .bad
        | some σ' => evSs C b σ' st
      forOf C.lf f it σ st
  | .wh c b, σ, st => whileL (evB C c) (evSs C b) C.lf σ st
  | .ret none, _, st => .ok (.rt vNone) st
  | .ret (some e), σ, st => (evE C e σ st).bind fun v st => .ok (.rt v) st
  | .brk, σ, st => .ok (.bk σ) st
  | .cnt, σ, st => .ok (.ct σ) st
  | .pss, σ, st => .ok (.nx σ) st
  | .rse c e, σ, st => (evE C e σ st).bind fun v st => match v with
    | .w (.d p) => .exc c p st
    | _ => .bad
  | .tr xn s hs, σ, st => match evS C s σ st with
    | .exc c p st' => evHs C xn hs c p σ st'
    | .ok fl st' => .ok fl st'
    | .bad => .bad
def evHs (C : CE) (xn : List Str) : List (Nat × Option Nat × List S) → Nat → D → Env → Sto → Out Fl
  | [], c, p, _, st => .exc c p st
  | (c', i, su) :: r, c, p, σ, st => match subX c c' with
    | true => (evSs C su (exEnv i σ p (nameX xn c)) st).noX.bind fun fl st => .ok (cutFl σ.length i fl) st
    | false => evHs C xn r c p σ st
def evSs (C : CE) : List S → Env → Sto → Out Fl
  | [], σ, st => .ok (.nx σ) st
  | s :: r, σ, st => (evS C s σ st).bind fun fl st => match fl with
    | .nx σ => evSs C r σ st
    | fl => .ok fl st
end
structure Fn where
  np : Nat
  ns : Nat
  body : List S
  /-- a def that is told by hand -/
  pr : Option ((Nat → List W → Sto → Out Val) → List W → Sto → Out Val)
def retOf : Out Fl → Out Val
  | .ok (.rt v) st => .ok v st
  | .ok (.nx _) st => .ok vNone st
  | .ok _ _ => .bad
  | .exc c p st => .exc c p st
  | .bad => .bad
def entry (fn : Fn) (ws : List W) : Env := ws.map some ++ List.replicate (fn.ns - fn.np) none
/-- a def's body, from its arguments -/
def runFn (C : CE) (fn : Fn) (ws : List W) (st : Sto) : Out Val := if ws.length = fn.np then retOf (evSs C fn.body (entry fn ws) st) else .bad
def runAt (T : Nat → Option Fn) (lf : Nat) : Nat → Nat → List W → Sto → Out Val
  | 0, _, _, _ => .bad
  | n + 1, f, ws, st => match T f with
    | none => .bad
    | some fn => match fn.pr with
      | some g => if ws.length = fn.np then g (runAt T lf n) ws st else .bad
      | none => runFn ⟨runAt T lf n, lf⟩ fn ws st
end MP
set_option maxHeartbeats 1200000
/-! EvT: tuples whose object is known: new ones are laid with their object. -/
namespace MP
theorem le_trans_n {a b c : Nat} (h : a ≤ b) (k : b ≤ c) : a ≤ c := Nat.le_trans h k
open PySem PySem.Spec L2
/-- a tuple without a dict of its own -/
def SqN (K : PySem.W.Frag) (H : Hp) (a : Addr) (xs : List V) : Prop :=
  (∃ o, H a = some (.frz o (.tup xs)) ∧ o.dict = none) ∨
    ∃ (o : Obj) (its : Array Value) (n : Nat), K.lookup a = some o ∧ o.cls = .type "tuple" ∧ o.dict = none ∧ o.data = .seq its n ∧ its.size ≤ sizeLine ∧ Vals xs its.toList
theorem SqN.t {K : PySem.W.Frag} {H : Hp} {a : Addr} {xs : List V} (h : SqN K H a xs) : SqT K H a xs := by
  rcases h with ⟨o, h, _⟩ | ⟨o, its, n, h1, h2, h3, h4⟩
  · exact .inl (.inr ⟨o, h⟩)
  · exact .inr ⟨o, its, n, h1, h2, h4⟩
/-- laid at p -/
def TNew (H : Hp) (xs : List V) (Q : VK) : Prop := ∀ p o, H p = none → o.dict = none → Q (.ref p) (upd H p (.frz o (.tup xs)))
section
variable {X : Cx} {H : Hp} {s : Shared} {σ : L2.St} {pins : List (Addr × Obj)}
theorem tup_laid {xs : List V} {its : List Value} {Q : VK} (I : Inv X pins σ H s) (r : Vals xs its) (z : xs.length ≤ sizeLine) (q : TNew H xs Q) :
    EP X pins σ Q (.ref s.heap.objs.size) { s with heap := s.heap.push { cls := .type "tuple", data := .seq its.toArray } } := by
  have hf := I.hok.fresh (Nat.le_refl s.heap.objs.size)
  have hg : (s.heap.push { cls := .type "tuple", data := .seq its.toArray }).get? s.heap.objs.size = some { cls := .type "tuple", data := .seq its.toArray } := Heap.get?_push_size _ rfl
  exact ⟨.ref s.heap.objs.size, _, I.laid (o := .frz { cls := .type "tuple", data := .seq its.toArray } (.tup xs)) (t' := s.toks) (fun b u e => Heap.get?_push_of_some _ e) (Nat.le_refl _) ⟨hg, z, its, r, _, hg, rfl, _, rfl⟩, rfl, q _ _ hf rfl⟩
def tTupN (t : TA) : TE := fun σ H Q => t σ H fun xs H1 => xs.length ≤ sizeLine ∧ TNew H1 xs Q
theorem pe_tupN {es : List Expr} {t : TA} {k : Nat} {pos : Pos} (h : PA X es t) : PE X (.Tuple es k pos) (tTupN t) := by
  refine ⟨fun pn s τ G R I hq => wpAny_Tuple_spliced (thn (h.run pos pn s τ G _ I hq) fun us s1 ⟨xs, H1, I1, r, z, q⟩ => ⟨by rw [← r.length]; exact z, tup_laid I1 r z q⟩)⟩
theorem op_addN : OpR X (binaryOp .Add) (fun x y H Q => ∃ a b xs ys, x = .ref a ∧ y = .ref b ∧ SqT X.K H a xs ∧ SqT X.K H b ys ∧ xs.length + ys.length ≤ sizeLine ∧
    (xs = [] → Q (.ref b) H) ∧ (xs ≠ [] → ys = [] → Q (.ref a) H) ∧ (xs ≠ [] → ys ≠ [] → TNew H (xs ++ ys) Q)) := by
  intro pn s τ G x y v u R I rx ry h
  obtain ⟨a, b, xs, ys, ex, ey, ha, hb, hz, q0, q1, q2⟩ := h
  subst ex ey
  by_cases hx : xs = []
  · exact op_catA pn s τ G _ _ v u R I rx ry ⟨a, b, xs, ys, rfl, rfl, ha, hb, hz, q0, q1, fun n => absurd hx n⟩
  · by_cases hy : ys = []
    · exact op_catA pn s τ G _ _ v u R I rx ry ⟨a, b, xs, ys, rfl, rfl, ha, hb, hz, q0, q1, fun _ n => absurd hy n⟩
    · cases rx; cases ry
      have ⟨its, r1, p1, _⟩ := I.tuple ha
      obtain ⟨jts, r2, p2, _⟩ := I.tuple hb
      refine HT.cat_tup p1 p2 (fun z => hx (r1.nil_iff.mp z)) (fun z => absurd (r2.nil_iff.mp z) hy) (fun z => ?_) (by rw [← r1.length, ← r2.length]; exact hz)
      exact tup_laid I (r1.append r2) (by rw [List.length_append]; exact hz) (q2 hx hy)
theorem sl_N : SlR X (fun x lo hi H Q => ∃ a xs, x = .ref a ∧ SqT X.K H a xs ∧
    (HT.sIx xs.length 0 lo = 0 ∧ HT.sIx xs.length xs.length hi = xs.length → Q (.ref a) H) ∧ (¬ (HT.sIx xs.length 0 lo = 0 ∧ HT.sIx xs.length xs.length hi = xs.length) → TNew H (cutV xs lo hi) Q)) := by
  intro pn s τ G x v vl vu lo hi sl R I rx hs pl pu h
  obtain ⟨a, xs, ex, hx, q1, q2⟩ := h
  subst ex
  rcases Classical.em (HT.sIx xs.length 0 lo = 0 ∧ HT.sIx xs.length xs.length hi = xs.length) with hw | hw
  · exact sl_tupA pn s τ G _ v vl vu lo hi sl R I rx hs pl pu ⟨a, xs, rfl, hx, q1, fun n => absurd hw n⟩
  · cases rx
    have ⟨its, r, ht, hz⟩ := I.tuple hx
    have hl : its.toArray.size = xs.length := by rw [List.size_toArray]; exact r.length.symm
    refine ⟨"tuple", _, PyProof.Rows.slot_tuple_getitem.lookup, ht.typeIs, HT.getItem_tuple_cut ht hs pl pu (by rw [hl]; exact hw) ?_ (by rw [hl]; exact hz)⟩
    rw [hl]
    exact tup_laid I ((r.drop (HT.sIx xs.length 0 lo)).take (HT.sIx xs.length xs.length hi - HT.sIx xs.length 0 lo)) (Nat.le_trans (cutV_length xs lo hi) hz) (q2 hw)
theorem call_tupleN : CallR X (.type "tuple") (fun xs H Q => ∃ p ys, xs = [.ref p] ∧ ((SqL X.K H p ys ∧ TNew H ys Q) ∨ (SqT X.K H p ys ∧ Q (.ref p) H))) := by
  intro pn s τ G xs us R I r h
  obtain ⟨p, ys, ex, h⟩ := h
  rcases h with ⟨hq, q⟩ | h
  · subst ex
    obtain ⟨_, rfl, rx⟩ := vals1 r
    cases rx
    obtain ⟨its, r', pl, hz⟩ := I.list hq
    have hl := r'.length
    refine call_tuple_list pl.isList (fun h' kp => ?_) (by rw [List.size_toArray, ← hl]; exact hz)
    exact tup_laid (I.kept (h' := h') (t' := s.toks) kp) r' hz q
  · exact call_tuple_of pn s τ G xs us R I r ⟨p, ys, ex, .inr h⟩
theorem pairs_two (I : Inv X pins σ H s) : ∀ {ps : List Addr} {kvs : List (Key × V)}, Paired (fun p kv => SqT X.K H p [kV kv.1, kv.2]) ps kvs →
    ∃ (prs : List (Key × Value)) (prV : List (Value × Value)), KV kvs prs ∧ prs.length = ps.length ∧ prV.length = ps.length ∧ ∀ (j : Nat) (k v : Value), prV[j]? = some (k, v) → ∃ (kk : Key) (b : Addr), prs[j]? = some (kk, v) ∧ ps[j]? = some b ∧ PyProof.Rows.IsTup s.heap b #[k, v] ∧ keyIs kk k = true
  | _, _, .nil => ⟨[], [], .nil, rfl, rfl, fun j k v e => by simp at e⟩
  | _, _, .cons (a := p) (b := kv) t r => by
    obtain ⟨prs, prV, h1, h2, h3, h4⟩ := pairs_two I r
    obtain ⟨its, rv, ht, _⟩ := I.tuple t
    have ⟨u, y, ei, ru, ry⟩ := vals2 rv
    subst ei
    refine ⟨(kv.1, y) :: prs, (u, y) :: prV, .cons ⟨rfl, ry⟩ h1, congrArg Nat.succ h2, congrArg Nat.succ h3, fun j k v e => ?_⟩
    cases j with
    | zero =>
      cases (show some (u, y) = some (k, v) from e)
      exact ⟨kv.1, p, rfl, rfl, ht, kV_is (P := X.prog) (w := X.w) ru⟩
    | succ j =>
      obtain ⟨kk, b, z1, z2, z3, z4⟩ := h4 j k v (by simpa using e)
      exact ⟨kk, b, by simpa using z1, by simpa using z2, z3, z4⟩
theorem SqN.plain {a : Addr} {xs : List V} (I : Inv X pins σ H s) (h : SqN X.K H a xs) : ∃ its : List Value, Vals xs its ∧ xs.length ≤ sizeLine ∧ PlainSeq "tuple" s.heap a its.toArray := by
  rcases h with ⟨o, h, hn⟩ | ⟨o, its, n, hk, hc, hd, hs, hz, r⟩
  · obtain ⟨hg, z, its, r, o', ho', hc, n, hd⟩ := (show ObjOk X.prog X.w H s.heap a (.frz o (.tup xs)) from I.hok a _ h)
    rw [hg] at ho'; cases ho'
    exact ⟨its, r, z, o, n, hg, hc, hn, hd⟩
  · exact ⟨its.toList, r, by rw [r.length, Array.length_toList]; exact hz, o, n, I.kIn a o hk, hc, hd, by simpa using hs⟩
theorem call_dictN (hcalm : X.calm = true) : CallR X (.type "dict") (fun xs H Q => ∃ (a : Addr) (ps : List Addr) (kvs : List (Key × V)), xs = [.ref a] ∧ SqN X.K H a (ps.map V.ref) ∧ Paired (fun p kv => SqT X.K H p [kV kv.1, kv.2]) ps kvs ∧
    ∀ b, H b = none → Q (.ref b) (upd H b (.dK (mergeK [] kvs)))) := by
  intro pn s τ G xs us R I r h
  obtain ⟨a, ps, kvs, ex, hq, hp, q⟩ := h
  subst ex
  obtain ⟨u, eu, rx⟩ := vals1 r
  subst eu
  cases rx
  obtain ⟨its, rv, hz, pl⟩ := hq.plain I
  have ei := refs_at rv
  subst ei
  rw [List.length_map] at hz
  obtain ⟨prs, prV, rel, l1, l2, hpr⟩ := pairs_two I hp
  have pa := PairArg.tuple (prog := X.prog) (w := X.w) a (ps.map Value.ref).toArray (fun j => ps.getD j 0) prV
  refine PySem.call_dict_pairs (knd := mixKind X.prog X.w) (kvs := prs) pa (I.ok.hd hcalm) ⟨pl, by simp [l2], fun j k v e => ?_⟩ ⟨by rw [l1, l2], fun i key v e => ?_⟩ (by rw [l2]; exact hz) fun h' tk hd' k => ?_
  · obtain ⟨kk, b, z1, z2, z3, z4⟩ := hpr j k v e
    have hb : ps.getD j 0 = b := by simp [List.getD, z2]
    exact ⟨by simp [z2, List.getD], .inl (by show s.heap.IsTuple (ps.getD j 0) #[k, v]; rw [hb]; exact z3)⟩
  · obtain ⟨kk, b, z1, z2, z3, z4⟩ := hpr i key v e
    exact ⟨kk, z1, z4⟩
  · have hm := beq_false_of_ne (Nat.ne_of_gt I.big)
    have hl : (mergeK [] kvs).length ≤ sizeLine := by
      refine le_trans_n (length_mergeK kvs []) ?_
      rw [List.length_nil, Nat.zero_add, rel.length, l1]
      exact hz
    exact ⟨.ref s.heap.objs.size, upd G s.heap.objs.size (.dK (mergeK [] kvs)), I.laid (t' := tk) (fun b o e => k b o (by simp) e) (Nat.le_refl _) (show ObjOk X.prog X.w _ _ _ (.dK (mergeK [] kvs)) from ⟨hl, hm, merged [] prs, KV.merge rel .nil, hd'⟩), rfl, q _ (I.hok.fresh (Nat.le_refl _))⟩
end
end MP
/-! Ev2: how values and stores lie in the abstract heap. -/
namespace MP
open PySem PySem.Spec L2
abbrev AP := Addr → Prop
def Live (φ : List Addr) (st : Sto) : AP := fun a => ∃ (i : Nat) (c : Cell), φ[i]? = some a ∧ st[i]? = some c ∧ c ≠ .dead
def Or2 (F G : AP) : AP := fun a => F a ∨ G a
def One (p : Addr) : AP := fun a => a = p
mutual
inductive Den (K : PySem.W.Frag) (L : AP) (H : Hp) : V → D → Prop
  | non : Den K L H .non .none
  | bl (b : Bool) : Den K L H (.bl b) (.bool b)
  | int (i : Int) : Den K L H (.int i) (.int i)
  | str (x : Str) : Den K L H (.str x) (.str x)
  | tup {a : Addr} {xs : List V} {ds : List D} : SqN K H a xs → DenAll K L H xs ds → Den K L H (.ref a) (.tuple ds)
  | lst {a : Addr} {xs : List V} {ds : List D} : H a = some (.lst xs) → ¬ L a → DenAll K L H xs ds → Den K L H (.ref a) (.list ds)
  | dct {a : Addr} {ks : List (Key × V)} {ds : List (D × D)} : H a = some (.dK ks) → ¬ L a → DenKv K L H ks ds → Den K L H (.ref a) (.dict ds)
inductive DenAll (K : PySem.W.Frag) (L : AP) (H : Hp) : List V → List D → Prop
  | nil : DenAll K L H [] []
  | cons {v : V} {vs : List V} {d : D} {ds : List D} : Den K L H v d → DenAll K L H vs ds → DenAll K L H (v :: vs) (d :: ds)
inductive DenKv (K : PySem.W.Frag) (L : AP) (H : Hp) : List (Key × V) → List (D × D) → Prop
  | nil : DenKv K L H [] []
  | cons {k : Key} {v : V} {ks : List (Key × V)} {d : D} {ds : List (D × D)} : Den K L H v d → DenKv K L H ks ds → DenKv K L H ((k, v) :: ks) ((keyD k, d) :: ds)
end
/-- the way from (L, H) to (L', H'): what no live cell is stays -/
structure Way (L : AP) (H : Hp) (L' : AP) (H' : Hp) : Prop where
  keep : ∀ a o, H a = some o → ¬ L a → H' a = some o ∧ ¬ L' a
/-- live things are lists, dicts, instances -/
def Cells (L : AP) (H : Hp) : Prop := ∀ a, L a → ∀ o, H a = some o → Mut (some o)
theorem SqT.way {K : PySem.W.Frag} {L L' : AP} {H H' : Hp} {a : Addr} {xs : List V} (w : Way L H L' H') (c : Cells L H) (h : SqT K H a xs) : SqT K H' a xs := by
  obtain (h | ⟨o, h⟩) | h := h
  · exact .inl (.inl (w.keep _ _ h fun l => c a l _ h).1)
  · exact .inl (.inr ⟨o, (w.keep _ _ h fun l => c a l _ h).1⟩)
  · exact .inr h
theorem SqN.way {K : PySem.W.Frag} {L L' : AP} {H H' : Hp} {a : Addr} {xs : List V} (w : Way L H L' H') (c : Cells L H) (h : SqN K H a xs) : SqN K H' a xs := by
  rcases h with ⟨o, h, z⟩ | h
  · exact .inl ⟨o, (w.keep _ _ h fun l => c a l _ h).1, z⟩
  · exact .inr h
section
variable {K : PySem.W.Frag} {L L' : AP} {H H' : Hp}
mutual
theorem Den.way (w : Way L H L' H') (c : Cells L H) : ∀ {v : V} {d : D}, Den K L H v d → Den K L' H' v d
  | _, _, .non => .non
  | _, _, .bl b => .bl b
  | _, _, .int i => .int i
  | _, _, .str x => .str x
  | _, _, .tup h a => .tup (SqN.way w c h) (DenAll.way w c a)
  | _, _, .lst h n a => .lst (w.keep _ _ h n).1 (w.keep _ _ h n).2 (DenAll.way w c a)
  | _, _, .dct h n a => .dct (w.keep _ _ h n).1 (w.keep _ _ h n).2 (DenKv.way w c a)
theorem DenAll.way (w : Way L H L' H') (c : Cells L H) : ∀ {v : List V} {d : List D}, DenAll K L H v d → DenAll K L' H' v d
  | _, _, .nil => .nil
  | _, _, .cons a r => .cons (Den.way w c a) (DenAll.way w c r)
theorem DenKv.way (w : Way L H L' H') (c : Cells L H) : ∀ {v : List (Key × V)} {d : List (D × D)}, DenKv K L H v d → DenKv K L' H' v d
  | _, _, .nil => .nil
  | _, _, .cons a r => .cons (Den.way w c a) (DenKv.way w c r)
end
mutual
theorem Den.less (h : ∀ a, L' a → L a) : ∀ {v : V} {d : D}, Den K L H v d → Den K L' H v d
  | _, _, .non => .non
  | _, _, .bl b => .bl b
  | _, _, .int i => .int i
  | _, _, .str x => .str x
  | _, _, .tup h1 a => .tup h1 (DenAll.less h a)
  | _, _, .lst h1 n a => .lst h1 (fun l => n (h _ l)) (DenAll.less h a)
  | _, _, .dct h1 n a => .dct h1 (fun l => n (h _ l)) (DenKv.less h a)
theorem DenAll.less (h : ∀ a, L' a → L a) : ∀ {v : List V} {d : List D}, DenAll K L H v d → DenAll K L' H v d
  | _, _, .nil => .nil
  | _, _, .cons a r => .cons (Den.less h a) (DenAll.less h r)
theorem DenKv.less (h : ∀ a, L' a → L a) : ∀ {v : List (Key × V)} {d : List (D × D)}, DenKv K L H v d → DenKv K L' H v d
  | _, _, .nil => .nil
  | _, _, .cons a r => .cons (Den.less h a) (DenKv.less h r)
end
theorem DenAll.length : ∀ {v : List V} {d : List D}, DenAll K L H v d → v.length = d.length
  | _, _, .nil => rfl
  | _, _, .cons _ r => congrArg Nat.succ (DenAll.length r)
theorem DenAll.get : ∀ {v : List V} {d : List D} {i : Nat} {x : D}, DenAll K L H v d → d[i]? = some x → ∃ u, v[i]? = some u ∧ Den K L H u x
  | _, _, i, _, .nil, e => by rw [List.getElem?_nil] at e; cases e
  | _, _, 0, _, .cons a _, e => by simp at e; subst e; exact ⟨_, rfl, a⟩
  | _, _, i + 1, _, .cons _ r, e => by
    obtain ⟨u, h1, h2⟩ := DenAll.get (i := i) r (by simpa using e)
    exact ⟨u, h1, h2⟩
theorem DenAll.app : ∀ {v v' : List V} {d d' : List D}, DenAll K L H v d → DenAll K L H v' d' → DenAll K L H (v ++ v') (d ++ d')
  | _, _, _, _, .nil, h => h
  | _, _, _, _, .cons a r, h => .cons a (DenAll.app r h)
theorem DenAll.drop : ∀ {v : List V} {d : List D} (n : Nat), DenAll K L H v d → DenAll K L H (v.drop n) (d.drop n)
  | _, _, 0, h => h
  | _, _, _ + 1, .nil => .nil
  | _, _, n + 1, .cons _ r => DenAll.drop n r
theorem DenAll.take : ∀ {v : List V} {d : List D} (n : Nat), DenAll K L H v d → DenAll K L H (v.take n) (d.take n)
  | _, _, 0, _ => .nil
  | _, _, _ + 1, .nil => .nil
  | _, _, n + 1, .cons a r => .cons a (DenAll.take n r)
end
/-- the script: a list that is known to the object, or of the module -/
def SqF (K : PySem.W.Frag) (H : Hp) (a : Addr) (xs : List V) : Prop :=
  (∃ o, H a = some (.frz o (.lst xs))) ∨
    ∃ (ob : Obj) (vs : Array Value) (m : Nat), K.lookup a = some ob ∧ ob.cls = .type "list" ∧ ob.dict = none ∧ ob.data = .seq vs m ∧ vs.size ≤ sizeLine ∧ Vals xs vs.toList
theorem SqF.sq {K : PySem.W.Frag} {H : Hp} {a : Addr} {xs : List V} (h : SqF K H a xs) : SqL K H a xs := by
  rcases h with ⟨o, h⟩ | h
  · exact .inl (.inr ⟨o, h⟩)
  · exact .inr h
theorem SqF.way {K : PySem.W.Frag} {L L' : AP} {H H' : Hp} {a : Addr} {xs : List V} (w : Way L H L' H') (c : Cells L H) (h : SqF K H a xs) : SqF K H' a xs := by
  rcases h with ⟨o, h⟩ | h
  · exact .inl ⟨o, (w.keep _ _ h fun l => c a l _ h).1⟩
  · exact .inr h
/-- a value: L the live things, φ the cells' addresses -/
def RW (K : PySem.W.Frag) (L : AP) (H : Hp) (φ : List Addr) (v : V) : W → Prop
  | .d x => Den K L H v x
  | .fz xs => ∃ a vs, v = .ref a ∧ SqF K H a vs ∧ DenAll K L H vs xs
  | .ref i => ∃ a, φ[i]? = some a ∧ v = .ref a
def RKv (K : PySem.W.Frag) (L : AP) (H : Hp) (φ : List Addr) : Key × V → D × W → Prop := fun p q => q.1 = keyD p.1 ∧ RW K L H φ p.2 q.2
abbrev RWs (K : PySem.W.Frag) (L : AP) (H : Hp) (φ : List Addr) : List V → List W → Prop := Paired (RW K L H φ)
def RC (K : PySem.W.Frag) (L : AP) (H : Hp) (φ : List Addr) (a : Addr) : Cell → Prop
  | .dead => True
  | .lst xs => ∃ vs, H a = some (.lst vs) ∧ RWs K L H φ vs xs
  | .dct kvs => ∃ ks, H a = some (.dK ks) ∧ Paired (RKv K L H φ) ks kvs
  | .obj _ _ => False
/-- the store lies in H; F: what others hold -/
structure SC (K : PySem.W.Frag) (F : AP) (φ : List Addr) (st : Sto) (H : Hp) : Prop where
  len : φ.length = st.length
  nd : φ.Nodup
  al : ∀ a ∈ φ, H a ≠ none
  fo : ∀ a, F a → H a ≠ none
  fc : Cells F H
  fd : ∀ a, F a → a ∉ φ
  cell : ∀ (i : Nat) (a : Addr) (c : Cell), φ[i]? = some a → st[i]? = some c → RC K (Or2 F (Live φ st)) H φ a c
structure Step (K : PySem.W.Frag) (F : AP) (φ : List Addr) (st : Sto) (H : Hp) (φ' : List Addr) (st' : Sto) (H' : Hp) : Prop where
  ext : ∃ ψ, φ' = φ ++ ψ ∧ ∀ a ∈ ψ, H a = none
  keep : ∀ a o, H a = some o → ¬ Live φ st a → H' a = some o ∧ ¬ Live φ' st' a
  al : ∀ a, H a ≠ none → H' a ≠ none
  sc : SC K F φ' st' H'
section
variable {K : PySem.W.Frag} {F : AP} {L L' : AP} {H H' H0 H1 H2 : Hp} {φ φ' φ1 φ2 : List Addr} {st st' st1 st2 : Sto}
theorem Live.mem {a : Addr} (h : Live φ st a) : a ∈ φ := let ⟨_, _, e, _⟩ := h; List.mem_of_getElem? e
theorem SC.cells (s : SC K F φ st H) : Cells (Or2 F (Live φ st)) H := by
  rintro a (h | ⟨i, c, e1, e2, n⟩) o ho
  · exact s.fc a h o ho
  · have r := s.cell i a c e1 e2
    cases c with
    | dead => exact absurd rfl n
    | lst xs => obtain ⟨vs, e, _⟩ := r; rw [e] at ho; cases ho; trivial
    | dct kvs => obtain ⟨vs, e, _⟩ := r; rw [e] at ho; cases ho; trivial
    | obj _ _ => exact r.elim
theorem SC.cellsL (s : SC K F φ st H) : Cells (Live φ st) H := fun a h => s.cells a (.inr h)
theorem Step.way (t : Step K F φ st H φ' st' H') : Way (Or2 F (Live φ st)) H (Or2 F (Live φ' st')) H' :=
  ⟨fun a o e n => ⟨(t.keep a o e fun l => n (.inr l)).1, fun l => l.elim (fun f => n (.inl f)) (t.keep a o e fun l => n (.inr l)).2⟩⟩
theorem RW.way {v : V} {w : W} (y : Way L H L' H') (c : Cells L H) (hp : ∃ ψ, φ' = φ ++ ψ) (r : RW K L H φ v w) : RW K L' H' φ' v w := by
  cases w with
  | d x => exact Den.way y c r
  | fz xs => obtain ⟨a, vs, e, h1, h2⟩ := r; exact ⟨a, vs, e, SqF.way y c h1, DenAll.way y c h2⟩
  | ref i =>
    obtain ⟨a, e, h⟩ := r
    obtain ⟨ψ, rfl⟩ := hp
    exact ⟨a, by rw [List.getElem?_append_left (List.getElem?_eq_some_iff.mp e).1]; exact e, h⟩
theorem RW.less {v : V} {w : W} (h : ∀ a, L' a → L a) (r : RW K L H φ v w) : RW K L' H φ v w := by
  cases w with
  | d x => exact Den.less h r
  | fz xs => obtain ⟨a, vs, e, h1, h2⟩ := r; exact ⟨a, vs, e, h1, DenAll.less h h2⟩
  | ref i => exact r
theorem paired_imp {α β : Type} {P Q : α → β → Prop} (h : ∀ a b, P a b → Q a b) : ∀ {xs : List α} {ys : List β}, Paired P xs ys → Paired Q xs ys
  | _, _, .nil => .nil
  | _, _, .cons r t => .cons (h _ _ r) (paired_imp h t)
theorem paired_len {α β : Type} {P : α → β → Prop} : ∀ {xs : List α} {ys : List β}, Paired P xs ys → xs.length = ys.length
  | _, _, .nil => rfl
  | _, _, .cons _ t => congrArg Nat.succ (paired_len t)
theorem paired_get {α β : Type} {P : α → β → Prop} : ∀ {xs : List α} {ys : List β} {i : Nat} {y : β}, Paired P xs ys → ys[i]? = some y → ∃ x, xs[i]? = some x ∧ P x y
  | _, _, i, _, .nil, e => by rw [List.getElem?_nil] at e; cases e
  | _, _, 0, _, .cons a _, e => by simp at e; subst e; exact ⟨_, rfl, a⟩
  | _, _, i + 1, _, .cons _ r, e => by
    obtain ⟨u, h1, h2⟩ := paired_get (i := i) r (by simpa using e)
    exact ⟨u, h1, h2⟩
theorem paired_app {α β : Type} {P : α → β → Prop} : ∀ {xs xs' : List α} {ys ys' : List β}, Paired P xs ys → Paired P xs' ys' → Paired P (xs ++ xs') (ys ++ ys')
  | _, _, _, _, .nil, h => h
  | _, _, _, _, .cons a r, h => .cons a (paired_app r h)
theorem paired_drop {α β : Type} {P : α → β → Prop} : ∀ {xs : List α} {ys : List β} (n : Nat), Paired P xs ys → Paired P (xs.drop n) (ys.drop n)
  | _, _, 0, h => h
  | _, _, _ + 1, .nil => .nil
  | _, _, n + 1, .cons _ r => paired_drop n r
theorem paired_take {α β : Type} {P : α → β → Prop} : ∀ {xs : List α} {ys : List β} (n : Nat), Paired P xs ys → Paired P (xs.take n) (ys.take n)
  | _, _, 0, _ => .nil
  | _, _, _ + 1, .nil => .nil
  | _, _, n + 1, .cons a r => .cons a (paired_take n r)
theorem paired_set {α β : Type} {P : α → β → Prop} {x : α} {y : β} (h : P x y) : ∀ {xs : List α} {ys : List β} (n : Nat), Paired P xs ys → Paired P (xs.set n x) (ys.set n y)
  | _, _, _, .nil => .nil
  | _, _, 0, .cons _ r => .cons h r
  | _, _, n + 1, .cons a r => .cons a (paired_set h n r)
theorem RC.way {a : Addr} {c : Cell} (y : Way L H L' H') (k : Cells L H) (hp : ∃ ψ, φ' = φ ++ ψ) (e : c ≠ .dead → H' a = H a) (r : RC K L H φ a c) : RC K L' H' φ' a c := by
  cases c with
  | dead => trivial
  | lst xs =>
    obtain ⟨vs, e1, h⟩ := r
    exact ⟨vs, (e (by intro z; cases z)).trans e1, paired_imp (fun _ _ q => RW.way y k hp q) h⟩
  | dct kvs =>
    obtain ⟨vs, e1, h⟩ := r
    exact ⟨vs, (e (by intro z; cases z)).trans e1, paired_imp (fun _ _ q => ⟨q.1, RW.way y k hp q.2⟩) h⟩
  | obj _ _ => exact r.elim
theorem Step.refl (s : SC K F φ st H) : Step K F φ st H φ st H := ⟨⟨[], by simp, by simp⟩, fun a o e n => ⟨e, n⟩, fun a h => h, s⟩
theorem Step.trans (s : Step K F φ st H φ1 st1 H1) (t : Step K F φ1 st1 H1 φ2 st2 H2) : Step K F φ st H φ2 st2 H2 := by
  obtain ⟨ψ, e1, n1⟩ := s.ext
  obtain ⟨χ, e2, n2⟩ := t.ext
  refine ⟨⟨ψ ++ χ, by rw [e2, e1, List.append_assoc], fun a ha => ?_⟩, fun a o e n => ?_, fun a h => t.al a (s.al a h), t.sc⟩
  · obtain h | h := List.mem_append.mp ha
    · exact n1 a h
    · cases q : H a with
      | none => rfl
      | some o => exact absurd (n2 a h) (s.al a (by rw [q]; simp))
  · obtain ⟨h1, h2⟩ := s.keep a o e n
    exact t.keep a o h1 h2
theorem Step.pre (s : Step K F φ st H φ1 st1 H1) : ∃ ψ, φ1 = φ ++ ψ := let ⟨ψ, e, _⟩ := s.ext; ⟨ψ, e⟩
theorem Step.rw {v : V} {w : W} (s : SC K F φ st H) (t : Step K F φ st H φ1 st1 H1) (r : RW K (Or2 F (Live φ st)) H φ v w) : RW K (Or2 F (Live φ1 st1)) H1 φ1 v w :=
  RW.way t.way s.cells t.pre r
theorem Step.den {v : V} {w : D} (s : SC K F φ st H) (t : Step K F φ st H φ1 st1 H1) (r : Den K (Or2 F (Live φ st)) H v w) : Den K (Or2 F (Live φ1 st1)) H1 v w :=
  Den.way t.way s.cells r
/-- slots -/
structure Sl (K : PySem.W.Frag) (F : AP) (φ : List Addr) (st : Sto) (H : Hp) (δ : Env) (σ : L2.St) : Prop where
  len : δ.length = σ.length
  slot : ∀ (i : Nat) (w : W), δ[i]? = some (some w) → ∃ v, σ[i]? = some (some v) ∧ RW K (Or2 F (Live φ st)) H φ v w
theorem Sl.step {δ : Env} {σ : L2.St} (s : SC K F φ st H) (t : Step K F φ st H φ1 st1 H1) (h : Sl K F φ st H δ σ) : Sl K F φ1 st1 H1 δ σ :=
  ⟨h.len, fun i w e => let ⟨v, e1, r⟩ := h.slot i w e; ⟨v, e1, t.rw s r⟩⟩
theorem Sl.set {δ : Env} {σ : L2.St} {i : Nat} {w : W} {v : V} (h : Sl K F φ st H δ σ) (r : RW K (Or2 F (Live φ st)) H φ v w) : Sl K F φ st H (δ.set i (some w)) (σ.set i (some v)) := by
  refine ⟨by simpa using h.len, fun j w' e => ?_⟩
  by_cases hj : j = i
  · subst hj
    by_cases hl : j < δ.length
    · rw [List.getElem?_set_self hl] at e; cases e
      exact ⟨v, by rw [List.getElem?_set_self (by rw [← h.len]; exact hl)], r⟩
    · rw [List.getElem?_eq_none (by simpa using hl)] at e; cases e
  · rw [List.getElem?_set_ne (Ne.symm hj)] at e
    obtain ⟨v', e1, r1⟩ := h.slot j w' e
    exact ⟨v', by rw [List.getElem?_set_ne (Ne.symm hj)]; exact e1, r1⟩
theorem Sl.unset {δ : Env} {σ : L2.St} {i : Nat} (h : Sl K F φ st H δ σ) : Sl K F φ st H (δ.set i none) (σ.set i none) := by
  refine ⟨by simpa using h.len, fun j w' e => ?_⟩
  by_cases hj : j = i
  · subst hj
    by_cases hl : j < δ.length
    · rw [List.getElem?_set_self hl] at e; cases e
    · rw [List.getElem?_eq_none (by simpa using hl)] at e; cases e
  · rw [List.getElem?_set_ne (Ne.symm hj)] at e
    obtain ⟨v', e1, r1⟩ := h.slot j w' e
    exact ⟨v', by rw [List.getElem?_set_ne (Ne.symm hj)]; exact e1, r1⟩
theorem Sl.wipe {δ : Env} {σ : L2.St} (h : Sl K F φ st H δ σ) : ∀ own : List Nat, Sl K F φ st H (wipeE δ own) (wipe σ own)
  | [] => h
  | _ :: r => (Sl.wipe h r).unset
/-- what an expression gives, as an operand -/
def RV (K : PySem.W.Frag) (F : AP) (φ : List Addr) (st : Sto) (H : Hp) (v : V) : Val → Prop
  | .w w => RW K (Or2 F (Live φ st)) H φ v w
  | .fl xs => ∃ a vs, v = .ref a ∧ H a = some (.lst vs) ∧ ¬ Or2 F (Live φ st) a ∧ RWs K (Or2 F (Live φ st)) H φ vs xs
  | .fd kvs => ∃ a ks, v = .ref a ∧ H a = some (.dK ks) ∧ ¬ Or2 F (Live φ st) a ∧ Paired (RKv K (Or2 F (Live φ st)) H φ) ks kvs
/-- .. as its end, from the heap H0: nobody else holds a new list -/
def RU (K : PySem.W.Frag) (F : AP) (H0 : Hp) (φ : List Addr) (st : Sto) (H : Hp) (v : V) : Val → Prop
  | .w w => RW K (Or2 F (Live φ st)) H φ v w
  | .fl xs => ∃ a vs, v = .ref a ∧ H a = some (.lst vs) ∧ H0 a = none ∧ a ∉ φ ∧ RWs K (Or2 (Or2 F (One a)) (Live φ st)) H φ vs xs ∧ SC K (Or2 F (One a)) φ st H
  | .fd kvs => ∃ a ks, v = .ref a ∧ H a = some (.dK ks) ∧ H0 a = none ∧ a ∉ φ ∧ Paired (RKv K (Or2 (Or2 F (One a)) (Live φ st)) H φ) ks kvs ∧ SC K (Or2 F (One a)) φ st H
theorem or_more {F G : AP} {p : Addr} : ∀ a, Or2 F G a → Or2 (Or2 F (One p)) G a := fun _ h => h.elim (fun f => .inl (.inl f)) .inr
theorem RU.rv {v : V} {x : Val} (s : SC K F φ st H) (h0 : ∀ a, F a → H0 a ≠ none) (h : RU K F H0 φ st H v x) : RV K F φ st H v x := by
  cases x with
  | w w => exact h
  | fl xs =>
    obtain ⟨a, vs, e, h1, h2, h3, h4, _⟩ := h
    exact ⟨a, vs, e, h1, fun l => l.elim (fun f => h0 a f h2) (fun l => h3 l.mem), paired_imp (fun _ _ q => RW.less or_more q) h4⟩
  | fd kvs =>
    obtain ⟨a, vs, e, h1, h2, h3, h4, _⟩ := h
    exact ⟨a, vs, e, h1, fun l => l.elim (fun f => h0 a f h2) (fun l => h3 l.mem), paired_imp (fun _ _ q => ⟨q.1, RW.less or_more q.2⟩) h4⟩
theorem Step.rv {v : V} {x : Val} (s : SC K F φ st H) (t : Step K F φ st H φ1 st1 H1) (r : RV K F φ st H v x) : RV K F φ1 st1 H1 v x := by
  cases x with
  | w w => exact t.rw s r
  | fl xs =>
    obtain ⟨a, vs, e, h1, h2, h3⟩ := r
    obtain ⟨k1, k2⟩ := t.way.keep a _ h1 h2
    exact ⟨a, vs, e, k1, k2, paired_imp (fun _ _ q => t.rw s q) h3⟩
  | fd xs =>
    obtain ⟨a, vs, e, h1, h2, h3⟩ := r
    obtain ⟨k1, k2⟩ := t.way.keep a _ h1 h2
    exact ⟨a, vs, e, k1, k2, paired_imp (fun _ _ q => ⟨q.1, t.rw s q.2⟩) h3⟩
/-- a new thing is laid beside -/
theorem SC.new {p : Addr} {o : HO} (s : SC K F φ st H) (hp : H p = none) (ho : Mut (some o)) : SC K (Or2 F (One p)) φ st (upd H p o) := by
  have np : p ∉ φ := fun h => s.al p h hp
  have nl : ¬ Live φ st p := fun l => np l.mem
  have w : Way (Or2 F (Live φ st)) H (Or2 (Or2 F (One p)) (Live φ st)) (upd H p o) := ⟨fun a u e n => by
    have ne : a ≠ p := fun z => by rw [z, hp] at e; cases e
    exact ⟨by rw [upd_ne ne]; exact e, fun l => l.elim (fun f => f.elim (fun f => n (.inl f)) ne) fun l => n (.inr l)⟩⟩
  have nn : ∀ a, H a ≠ none → upd H p o a ≠ none := fun a h => by
    by_cases z : a = p
    · rw [z, upd_same]; simp
    · rw [upd_ne z]; exact h
  refine ⟨s.len, s.nd, fun a h => nn a (s.al a h), fun a h => ?_, ?_, fun a h => ?_, fun i a c e1 e2 => RC.way w s.cells ⟨[], by simp⟩ (fun _ => upd_ne fun z => np (z ▸ List.mem_of_getElem? e1)) (s.cell i a c e1 e2)⟩
  · rcases h with h | h
    · exact nn a (s.fo a h)
    · rw [show a = p from h, upd_same]; simp
  · rintro a (h | h) u hu
    · have ne : a ≠ p := fun z => s.fo a h (z ▸ hp)
      rw [upd_ne ne] at hu
      exact s.fc a h u hu
    · rw [show a = p from h, upd_same] at hu
      cases hu
      exact ho
  · rcases h with h | h
    · exact s.fd a h
    · rw [show a = p from h]; exact np
/-- any new thing is laid: nothing that is held changes -/
theorem SC.laid {p : Addr} {o : HO} (s : SC K F φ st H) (hp : H p = none) : SC K F φ st (upd H p o) ∧ Way (Or2 F (Live φ st)) H (Or2 F (Live φ st)) (upd H p o) := by
  have np : p ∉ φ := fun h => s.al p h hp
  have w : Way (Or2 F (Live φ st)) H (Or2 F (Live φ st)) (upd H p o) := ⟨fun a u e n => by
    have ne : a ≠ p := fun z => by rw [z, hp] at e; cases e
    exact ⟨by rw [upd_ne ne]; exact e, n⟩⟩
  have nn : ∀ a, H a ≠ none → upd H p o a ≠ none := fun a h => by
    by_cases z : a = p
    · rw [z, upd_same]; simp
    · rw [upd_ne z]; exact h
  refine ⟨⟨s.len, s.nd, fun a h => nn a (s.al a h), fun a h => nn a (s.fo a h), fun a h u hu => ?_, s.fd, fun i a c e1 e2 => RC.way w s.cells ⟨[], by simp⟩ (fun _ => upd_ne fun z => np (z ▸ List.mem_of_getElem? e1)) (s.cell i a c e1 e2)⟩, w⟩
  have ne : a ≠ p := fun z => s.fo a h (z ▸ hp)
  rw [upd_ne ne] at hu
  exact s.fc a h u hu
theorem Step.laid {p : Addr} {o : HO} (s : SC K F φ st H) (hp : H p = none) : Step K F φ st H φ st (upd H p o) := by
  obtain ⟨s', w⟩ := s.laid (o := o) hp
  refine ⟨⟨[], by simp, by simp⟩, fun a u e n => ⟨?_, n⟩, fun a h => ?_, s'⟩
  · rw [upd_ne (fun z => by rw [z, hp] at e; cases e)]; exact e
  · by_cases z : a = p
    · rw [z, upd_same]; simp
    · rw [upd_ne z]; exact h
/-- less is held by others -/
theorem Live.snoc {a p : Addr} {c : Cell} (hl : φ.length = st.length) (h : Live (φ ++ [p]) (st ++ [c]) a) : Live φ st a ∨ a = p := by
  obtain ⟨i, c', e1, e2, n⟩ := h
  by_cases hi : i < φ.length
  · rw [List.getElem?_append_left hi] at e1
    rw [List.getElem?_append_left (by omega)] at e2
    exact .inl ⟨i, c', e1, e2, n⟩
  · rw [List.getElem?_append_right (by omega)] at e1
    have : i - φ.length = 0 := by
      cases q : i - φ.length with
      | zero => rfl
      | succ k => rw [q] at e1; simp at e1
    rw [this] at e1
    simp at e1
    exact .inr e1.symm
/-- a list or dict that nobody else holds becomes a cell -/
theorem SC.own {a : Addr} {c : Cell} (s : SC K (Or2 F (One a)) φ st H) (ha : a ∉ φ) (hF : ¬ F a) (r : RC K (Or2 (Or2 F (One a)) (Live φ st)) H φ a c) : SC K F (φ ++ [a]) (st ++ [c]) H := by
  have le : ∀ b, Or2 F (Live (φ ++ [a]) (st ++ [c])) b → Or2 (Or2 F (One a)) (Live φ st) b := fun b h => h.elim (fun f => .inl (.inl f)) fun l => (l.snoc s.len).elim .inr fun e => .inl (.inr e)
  have w : Way (Or2 (Or2 F (One a)) (Live φ st)) H (Or2 F (Live (φ ++ [a]) (st ++ [c]))) H := ⟨fun b o e n => ⟨e, fun l => n (le b l)⟩⟩
  refine ⟨by simp [s.len], ?_, fun b hb => ?_, fun b h => s.fo b (.inl h), fun b h => s.fc b (.inl h), fun b h => ?_, fun i b c' e1 e2 => ?_⟩
  · rw [List.nodup_append]
    refine ⟨s.nd, by simp, fun x hx y hy => ?_⟩
    rw [List.mem_singleton.mp hy]
    exact fun z => ha (z ▸ hx)
  · obtain h | h := List.mem_append.mp hb
    · exact s.al b h
    · rw [List.mem_singleton.mp h]
      exact s.fo a (.inr rfl)
  · intro hb
    rcases List.mem_append.mp hb with h' | h'
    · exact s.fd b (.inl h) h'
    · rw [List.mem_singleton.mp h'] at h; exact hF h
  · by_cases hi : i < φ.length
    · rw [List.getElem?_append_left hi] at e1
      rw [List.getElem?_append_left (by rw [← s.len]; exact hi)] at e2
      exact RC.way w s.cells ⟨[a], rfl⟩ (fun _ => rfl) (s.cell i b c' e1 e2)
    · rw [List.getElem?_append_right (by omega)] at e1
      rw [List.getElem?_append_right (by have := s.len; omega)] at e2
      have z : i - φ.length = 0 := by
        cases q : i - φ.length with
        | zero => rfl
        | succ k => rw [q] at e1; simp at e1
      rw [z] at e1
      rw [show i - st.length = 0 by rw [← s.len]; exact z] at e2
      simp at e1 e2
      rw [← e1, ← e2]
      exact RC.way w s.cells ⟨[a], rfl⟩ (fun _ => rfl) r
end
end MP
set_option maxHeartbeats 1200000
/-! Ev3: the judgements of the evaluator over the hand layer; operators. -/
namespace MP
open PySem PySem.Spec L2
/-- what is wished of an exception: its class, its place, the live things, the heap -/
abbrev EX := Nat → D → AP → Hp → Prop
def Post {α : Type} (K : PySem.W.Frag) (F : AP) (ex : EX) (φ : List Addr) (st : Sto) (H : Hp) (o : Out α) (R : α → List Addr → Sto → Hp → Prop) : Prop :=
  match o with
  | .ok a st' => ∀ φ' H', Step K F φ st H φ' st' H' → R a φ' st' H'
  | .exc c p st' => ∀ φ' H', Step K F φ st H φ' st' H' → ex c p (Or2 F (Live φ' st')) H'
  | .bad => False
section
variable {α β : Type} {K : PySem.W.Frag} {F : AP} {ex : EX} {φ φ1 : List Addr} {st st1 : Sto} {H H1 : Hp}
theorem Post.bind {o : Out α} {f : α → Sto → Out β} {R : β → List Addr → Sto → Hp → Prop} (h : Post K F ex φ st H (o.bind f) R) :
    Post K F ex φ st H o (fun a φ1 st1 H1 => Post K F ex φ1 st1 H1 (f a st1) R) := by
  cases o with
  | ok a st1 =>
    intro φ1 H1 t1
    have h' : Post K F ex φ st H (f a st1) R := h
    cases q : f a st1 with
    | ok b st2 => rw [q] at h'; exact fun φ2 H2 t2 => h' φ2 H2 (t1.trans t2)
    | exc c p st2 => rw [q] at h'; exact fun φ2 H2 t2 => h' φ2 H2 (t1.trans t2)
    | bad => rw [q] at h'; exact h'.elim
  | exc c p st1 => exact h
  | bad => exact h
theorem Post.imp {o : Out α} {R R' : α → List Addr → Sto → Hp → Prop} (h : Post K F ex φ st H o R) (k : ∀ a φ' st' H', Step K F φ st H φ' st' H' → R a φ' st' H' → R' a φ' st' H') : Post K F ex φ st H o R' := by
  cases o with
  | ok a st1 => exact fun φ' H' t => k _ _ _ _ t (h φ' H' t)
  | exc c p st1 => exact h
  | bad => exact h
theorem Post.step {o : Out α} {R : α → List Addr → Sto → Hp → Prop} (t : Step K F φ st H φ1 st1 H1) (h : Post K F ex φ st H o R) : Post K F ex φ1 st1 H1 o R := by
  cases o with
  | ok a st2 => exact fun φ' H' t' => h φ' H' (t.trans t')
  | exc c p st2 => exact fun φ' H' t' => h φ' H' (t.trans t')
  | bad => exact h
/-- of an optional value -/
theorem Post.lift {o : Option α} {R : α → List Addr → Sto → Hp → Prop} (h : Post K F ex φ st H (liftO o st1) R) : ∃ a, o = some a ∧ ∀ φ' H', Step K F φ st H φ' st1 H' → R a φ' st1 H' := by
  cases o with
  | none => exact h.elim
  | some a => exact ⟨a, rfl, h⟩
end
/-- how an exception lies: its class's number, its place, the class, its own dict, the live things -/
abbrev XRel := Nat → D → Value → Option Addr → AP → Hp → Prop
def exOf (XR : XRel) (W : WX) (σ : L2.St) : EX := fun c p L H => ∀ cls d, XR c p cls d L H → W cls d σ H
structure Par where
  XR : XRel
  W : WX
def tE (K : PySem.W.Frag) (P : Par) (C : CE) (e : E) : TE := fun σ H Q => ∃ F φ st δ, SC K F φ st H ∧ Sl K F φ st H δ σ ∧
  Post K F (exOf P.XR P.W σ) φ st H (evE C e δ st) fun v φ' st' H' => ∀ u, RU K F H φ' st' H' u v → Q u H'
def tT (K : PySem.W.Frag) (P : Par) (C : CE) (e : E) : TT := fun σ H Q => ∃ F φ st δ, SC K F φ st H ∧ Sl K F φ st H δ σ ∧
  Post K F (exOf P.XR P.W σ) φ st H (evE C e δ st) fun v φ' st' H' => ∃ b, bool? v = some b ∧ Q b H'
def RVs (K : PySem.W.Frag) (F : AP) (φ : List Addr) (st : Sto) (H : Hp) : List V → List Val → Prop := Paired (RV K F φ st H)
def tEs (K : PySem.W.Frag) (P : Par) (C : CE) (es : List E) : TA := fun σ H Q => ∃ F φ st δ, SC K F φ st H ∧ Sl K F φ st H δ σ ∧
  Post K F (exOf P.XR P.W σ) φ st H (evEs C es δ st) fun vs φ' st' H' => ∀ us, RVs K F φ' st' H' us vs → Q us H'
section
variable {X : Cx} {e : Expr}
theorem pe_weak {t t' : TE} (h : PE X e t) (k : ∀ σ H Q, t' σ H Q → t σ H Q) : PE X e t' := ⟨fun pins s σ H Q I q => h.run pins s σ H Q I (k σ H Q q)⟩
theorem pt_weak {t t' : TT} (h : PT X e t) (k : ∀ σ H Q, t' σ H Q → t σ H Q) : PT X e t' := ⟨fun pins s σ H Q I q => h.run pins s σ H Q I (k σ H Q q)⟩
theorem pa_weak {es : List Expr} {t t' : TA} (h : PA X es t) (k : ∀ σ H Q, t' σ H Q → t σ H Q) : PA X es t' := ⟨fun pos pins s σ H Q I q => h.run pos pins s σ H Q I (k σ H Q q)⟩
theorem ps_weak {st : Stmt} {t t' : TS} (h : PS X st t) (k : ∀ D σ H, t' D σ H → t D σ H) : PS X st t' := ⟨fun pins s σ H D I q => h.run pins s σ H D I (k D σ H q)⟩
theorem pss_weak {st : List Stmt} {t t' : TS} (h : PSs X st t) (k : ∀ D σ H, t' D σ H → t D σ H) : PSs X st t' := ⟨fun pins s σ H D I q => h.run pins s σ H D I (k D σ H q)⟩
end
section
variable {K : PySem.W.Frag} {F : AP} {φ φ' : List Addr} {st st' : Sto} {H H0 H1 H' : Hp}
theorem RU.weak {v : V} {x : Val} (h : ∀ a, H0 a ≠ none → H1 a ≠ none) (r : RU K F H1 φ st H v x) : RU K F H0 φ st H v x := by
  have k : ∀ a, H1 a = none → H0 a = none := fun a z => by
    cases q : H0 a with
    | none => rfl
    | some o => exact absurd z (h a (by rw [q]; simp))
  cases x with
  | w w => exact r
  | fl xs => obtain ⟨a, vs, e, h1, h2, h3⟩ := r; exact ⟨a, vs, e, h1, k a h2, h3⟩
  | fd xs => obtain ⟨a, vs, e, h1, h2, h3⟩ := r; exact ⟨a, vs, e, h1, k a h2, h3⟩
theorem SC.no {a : Addr} (s : SC K F φ st H) (h : H a = none) : ¬ Or2 F (Live φ st) a := fun l => l.elim (fun f => s.fo a f h) fun l => s.al a l.mem h
/-- a value upon a new thing -/
theorem RW.laid {p : Addr} {o : HO} {v : V} {w : W} (s : SC K F φ st H) (hp : H p = none) (r : RW K (Or2 F (Live φ st)) H φ v w) : RW K (Or2 F (Live φ st)) (upd H p o) φ v w :=
  RW.way (s.laid hp).2 s.cells ⟨[], by simp⟩ r
theorem RW.new {p : Addr} {o : HO} {v : V} {w : W} (s : SC K F φ st H) (hp : H p = none) (r : RW K (Or2 F (Live φ st)) H φ v w) : RW K (Or2 (Or2 F (One p)) (Live φ st)) (upd H p o) φ v w := by
  refine RW.way ⟨fun a u e n => ?_⟩ s.cells ⟨[], by simp⟩ r
  have ne : a ≠ p := fun z => by rw [z, hp] at e; cases e
  exact ⟨by rw [upd_ne ne]; exact e, fun l => l.elim (fun f => f.elim (fun f => n (.inl f)) ne) fun l => n (.inr l)⟩
theorem Den.laid {p : Addr} {o : HO} {v : V} {w : D} (s : SC K F φ st H) (hp : H p = none) (r : Den K (Or2 F (Live φ st)) H v w) : Den K (Or2 F (Live φ st)) (upd H p o) v w :=
  Den.way (s.laid hp).2 s.cells r
theorem DenAll.laid {p : Addr} {o : HO} {v : List V} {w : List D} (s : SC K F φ st H) (hp : H p = none) (r : DenAll K (Or2 F (Live φ st)) H v w) : DenAll K (Or2 F (Live φ st)) (upd H p o) v w :=
  DenAll.way (s.laid hp).2 s.cells r
/-- a new list, as an end -/
theorem RU.list {p : Addr} {vs : List V} {xs : List W} (s : SC K F φ st H) (hp : H p = none) (r : RWs K (Or2 F (Live φ st)) H φ vs xs) : RU K F H φ st (upd H p (.lst vs)) (.ref p) (.fl xs) :=
  ⟨p, vs, rfl, upd_same, hp, fun h => s.al p h hp, paired_imp (fun _ _ q => RW.new s hp q) r, s.new hp trivial⟩
theorem RU.dict {p : Addr} {vs : List (Key × V)} {xs : List (D × W)} (s : SC K F φ st H) (hp : H p = none) (r : Paired (RKv K (Or2 F (Live φ st)) H φ) vs xs) : RU K F H φ st (upd H p (.dK vs)) (.ref p) (.fd xs) :=
  ⟨p, vs, rfl, upd_same, hp, fun h => s.al p h hp, paired_imp (fun _ _ q => ⟨q.1, RW.new s hp q.2⟩) r, s.new hp trivial⟩
theorem Den.tupNew {p : Addr} {o : Obj} {vs : List V} {xs : List D} (s : SC K F φ st H) (hp : H p = none) (ho : o.dict = none) (r : DenAll K (Or2 F (Live φ st)) H vs xs) : Den K (Or2 F (Live φ st)) (upd H p (.frz o (.tup vs))) (.ref p) (.tuple xs) :=
  .tup (.inl ⟨o, upd_same, ho⟩) (DenAll.laid s hp r)
/-- lists -/
theorem den_ds : ∀ {vs : List V} {xs : List D} {L : AP}, DenAll K L H vs xs → RWs K L H φ vs (xs.map W.d)
  | _, _, _, .nil => .nil
  | _, _, _, .cons a r => .cons a (den_ds r)
theorem RV.list {v : V} {x : Val} {xs : List W} (s : SC K F φ st H) (r : RV K F φ st H v x) (e : listOf st x = some xs) : ∃ a vs, v = .ref a ∧ H a = some (.lst vs) ∧ RWs K (Or2 F (Live φ st)) H φ vs xs := by
  unfold listOf at e
  split at e
  · cases e
    cases r with
    | lst h n d => exact ⟨_, _, rfl, h, den_ds d⟩
  · split at e
    · rename_i _ xs' hi
      cases e
      obtain ⟨a, e1, e2⟩ := r
      obtain ⟨vs, h1, h2⟩ := s.cell _ a _ e1 hi
      exact ⟨a, vs, e2, h1, h2⟩
    · cases e
  · cases e
    obtain ⟨a, vs, e1, h1, _, h2⟩ := r
    exact ⟨a, vs, e1, h1, h2⟩
  · cases e
theorem RV.list' {v : V} {x : Val} {xs : List W} (s : SC K F φ st H) (r : RV K F φ st H v x) (e : listOf' st x = some xs) : ∃ a vs, v = .ref a ∧ SqL K H a vs ∧ RWs K (Or2 F (Live φ st)) H φ vs xs := by
  unfold listOf' at e
  split at e
  · cases e
    obtain ⟨a, vs, e1, h1, h2⟩ := r
    exact ⟨a, vs, e1, h1.sq, den_ds h2⟩
  · obtain ⟨a, vs, e1, h1, h2⟩ := r.list s e
    exact ⟨a, vs, e1, .of h1, h2⟩
theorem datas_rw : ∀ {vs : List V} {xs : List W} {ds : List D} {L : AP}, RWs K L H φ vs xs → datas xs = some ds → DenAll K L H vs ds
  | _, _, _, _, .nil, e => by simp [datas] at e; subst e; exact .nil
  | _, _, _, _, .cons (b := w) a r, e => by
    cases w with
    | d x =>
      simp only [datas] at e
      cases q : datas _ with
      | none => rw [q] at e; nomatch e
      | some ds' => rw [q] at e; cases e; exact .cons a (datas_rw r q)
    | fz _ => cases e
    | ref _ => cases e
theorem datas_map : ∀ xs : List D, datas (xs.map W.d) = some xs
  | [] => rfl
  | x :: r => by simp [datas, datas_map r]
/-- what a value is at hand -/
theorem kv_den {K : PySem.W.Frag} {L : AP} {H : Hp} {φ : List Addr} : ∀ {ks : List (Key × V)} {kvs : List (D × W)} {ds : List D}, Paired (RKv K L H φ) ks kvs → datas (kvs.map (·.2)) = some ds → DenKv K L H ks ((kvs.map (·.1)).zip ds)
  | _, _, _, .nil, e => by simp [datas] at e; subst e; exact .nil
  | _, _, _, .cons (a := p) (b := b) a r, e => by
    obtain ⟨e1, r1⟩ := a
    obtain ⟨k, w⟩ := b
    obtain ⟨k', u⟩ := p
    dsimp only at e1 r1
    cases w with
    | d x =>
      simp only [datas, List.map_cons] at e
      cases q : datas _ with
      | none => rw [q] at e; nomatch e
      | some ds' =>
        rw [q] at e; cases e
        subst e1
        exact .cons r1 (kv_den r q)
    | fz _ => cases e
    | ref _ => cases e
theorem RV.dct {v : V} {x : Val} {kvs : List (D × W)} (s : SC K F φ st H) (r : RV K F φ st H v x) (e : dctOf st x = some kvs) : ∃ a ks, v = .ref a ∧ H a = some (.dK ks) ∧ Paired (RKv K (Or2 F (Live φ st)) H φ) ks kvs := by
  unfold dctOf at e
  split at e
  · cases e
    cases r with
    | dct h1 h2 h3 =>
      refine ⟨_, _, rfl, h1, ?_⟩
      have key : ∀ {ks : List (Key × V)} {ds : List (D × D)}, DenKv K (Or2 F (Live φ st)) H ks ds → Paired (RKv K (Or2 F (Live φ st)) H φ) ks (ds.map fun p => (p.1, W.d p.2)) := by
        intro ks
        induction ks with
        | nil => intro ds h; cases h; exact .nil
        | cons p r ih => intro ds h; cases h with | cons a b => exact .cons ⟨rfl, a⟩ (ih b)
      exact key h3
  · split at e
    · rename_i i hi
      cases e
      obtain ⟨a, e1, e2⟩ := r
      obtain ⟨ks, h1, h2⟩ := s.cell _ a _ e1 hi
      exact ⟨a, ks, e2, h1, h2⟩
    · cases e
  · cases e
    obtain ⟨a, ks, e1, h1, _, h2⟩ := r
    exact ⟨a, ks, e1, h1, h2⟩
  · cases e
theorem dictD_den {kvs : List (D × W)} {d : D} {a : Addr} {ks : List (Key × V)} {L : AP} (h1 : H a = some (.dK ks)) (h2 : Paired (RKv K L H φ) ks kvs) (e : dictD kvs = some d) : ∃ L, Den K L H (.ref a) d := by
  unfold dictD at e
  cases q : datas (kvs.map (·.2)) with
  | none => rw [q] at e; nomatch e
  | some ds =>
    rw [q] at e; cases e
    have dk := kv_den h2 q
    refine ⟨fun _ => False, .dct h1 (fun z => z) (DenKv.less (fun _ z => z.elim) dk)⟩
theorem RV.data {v : V} {x : Val} {d : D} (s : SC K F φ st H) (r : RV K F φ st H v x) (e : dataOf st x = some d) : ∃ L, Den K L H v d := by
  unfold dataOf at e
  split at e
  · cases e; exact ⟨_, r⟩
  · cases e
  · split at e
    · rename_i _ xs hi
      obtain ⟨a, e1, e2⟩ := r
      obtain ⟨vs, h1, h2⟩ := s.cell _ a _ e1 hi
      cases q : datas xs with
      | none => rw [q] at e; nomatch e
      | some ds =>
        rw [q] at e; cases e
        subst e2
        exact ⟨fun _ => False, .lst h1 (fun z => z) (DenAll.less (fun _ z => z.elim) (datas_rw h2 q))⟩
    · rename_i _ xs hi
      obtain ⟨a, e1, e2⟩ := r
      obtain ⟨ks, h1, h2⟩ := s.cell _ a _ e1 hi
      subst e2
      exact dictD_den h1 h2 e
    · cases e
  · rename_i xs
    cases q : datas xs with
    | none => rw [q] at e; nomatch e
    | some ds =>
      rw [q] at e; cases e
      obtain ⟨a, vs, e1, h1, _, h2⟩ := r
      subst e1
      exact ⟨fun _ => False, .lst h1 (fun z => z) (DenAll.less (fun _ z => z.elim) (datas_rw h2 q))⟩
  · obtain ⟨a, ks, e1, h1, _, h2⟩ := r
    subst e1
    exact dictD_den h1 h2 e
mutual
theorem Den.dp {L : AP} : ∀ {v : V} {d : D}, Den K L H v d → PyData.canLay0 d = true → Dp K H v d
  | _, _, .non, _ => .non
  | _, _, .bl b, _ => .bl b
  | _, _, .int i, _ => .int i
  | _, _, .str x, _ => .str x
  | _, _, .tup h a, c => .tup h.t (DenAll.dp a (by simpa only [PyData.canLay0] using c))
  | _, _, .lst h _ a, c => .lst (.of h) (DenAll.dp a (by simpa only [PyData.canLay0] using c))
  | _, _, .dct _ _ _, c => by simp [PyData.canLay0] at c
theorem DenAll.dp {L : AP} : ∀ {v : List V} {d : List D}, DenAll K L H v d → PyData.canLayAll0 d = true → DpAll K H v d
  | _, _, .nil, _ => .nil
  | _, _, .cons a r, c => by
    simp only [PyData.canLayAll0, Bool.and_eq_true] at c
    exact .cons (Den.dp a c.1) (DenAll.dp r c.2)
end
end
end MP
set_option maxHeartbeats 1200000
/-! Ev4: the operations by values. -/
namespace MP
open PySem PySem.Spec L2
theorem line_is : sizeLine = line := sizeLine_eq
/-- two operands at hand, a value told, the end by it -/
def rTwo (K : PySem.W.Frag) (f : Sto → Val → Val → Option Val) : R2 := fun x y H Q => ∃ F φ st v w r, SC K F φ st H ∧ RV K F φ st H x v ∧ RV K F φ st H y w ∧ f st v w = some r ∧
  ∀ φ' H' u, Step K F φ st H φ' st H' → RU K F H φ' st H' u r → Q u H'
def rTwoB (K : PySem.W.Frag) (f : Sto → Val → Val → Option Bool) : R2 := fun x y H Q => ∃ F φ st v w r, SC K F φ st H ∧ RV K F φ st H x v ∧ RV K F φ st H y w ∧ f st v w = some r ∧ Q (.bl r) H
section
variable {K : PySem.W.Frag} {F : AP} {φ : List Addr} {st : Sto} {H : Hp} {L : AP}
theorem Den.int_inv {v : V} {i : Int} (h : Den K L H v (.int i)) : v = .int i := by cases h; rfl
theorem Den.str_inv {v : V} {i : Str} (h : Den K L H v (.str i)) : v = .str i := by cases h; rfl
theorem Den.bl_inv {v : V} {i : Bool} (h : Den K L H v (.bool i)) : v = .bl i := by cases h; rfl
theorem Den.non_inv {v : V} (h : Den K L H v .none) : v = .non := by cases h; rfl
theorem Den.tup_inv {v : V} {ds : List D} (h : Den K L H v (.tuple ds)) : ∃ a xs, v = .ref a ∧ SqT K H a xs ∧ DenAll K L H xs ds := by cases h with | tup h1 h2 => exact ⟨_, _, rfl, h1.t, h2⟩
theorem Den.tupN_inv {v : V} {ds : List D} (h : Den K L H v (.tuple ds)) : ∃ a xs, v = .ref a ∧ SqN K H a xs ∧ DenAll K L H xs ds := by cases h with | tup h1 h2 => exact ⟨_, _, rfl, h1, h2⟩
theorem Den.lst_inv {v : V} {ds : List D} (h : Den K L H v (.list ds)) : ∃ a xs, v = .ref a ∧ H a = some (.lst xs) ∧ DenAll K L H xs ds := by cases h with | lst h1 h2 h3 => exact ⟨_, _, rfl, h1, h3⟩
theorem Den.dct_inv {v : V} {ds : List (D × D)} (h : Den K L H v (.dict ds)) : ∃ a xs, v = .ref a ∧ H a = some (.dK xs) ∧ DenKv K L H xs ds := by cases h with | dct h1 h2 h3 => exact ⟨_, _, rfl, h1, h3⟩
theorem RU.int (i : Int) {H0 : Hp} : RU K F H0 φ st H (.int i) (vInt i) := Den.int i
theorem RU.str (i : Str) {H0 : Hp} : RU K F H0 φ st H (.str i) (vStr i) := Den.str i
theorem RU.bl (i : Bool) {H0 : Hp} : RU K F H0 φ st H (.bl i) (vBool i) := Den.bl i
theorem RU.non {H0 : Hp} : RU K F H0 φ st H .non vNone := Den.non
end
section
variable {X : Cx}
theorem ob_add : OpR X (binaryOp .Add) (rTwo X.K (binV .Add)) := by
  intro pz s σ H x y v u Q I rx ry h
  obtain ⟨F, φ, st, a, b, r, hs, ra, rb, e, q⟩ := h
  have q0 := fun u => q φ H u (Step.refl hs)
  unfold binV at e
  dsimp only at e
  split at e
  · cases e
    rw [Den.int_inv ra] at rx; rw [Den.int_inv rb] at ry
    exact op_add pz s σ H _ _ v u Q I rx ry ⟨_, _, rfl, rfl, q0 _ (RU.int _)⟩
  · split at e
    · cases e
      rw [Den.str_inv ra] at rx; rw [Den.str_inv rb] at ry
      exact op_add_str pz s σ H _ _ v u Q I rx ry ⟨_, _, rfl, rfl, by rw [line_is]; assumption, q0 _ (RU.str _)⟩
    · cases e
  · rename_i xs ys
    split at e
    · rename_i hz
      cases e
      obtain ⟨a1, vs, e1, h1, d1⟩ := Den.tup_inv ra
      obtain ⟨a2, ws, e2, h2, d2⟩ := Den.tup_inv rb
      subst e1; subst e2
      refine op_addN pz s σ H _ _ v u Q I rx ry ⟨a1, a2, vs, ws, rfl, rfl, h1, h2, by rw [line_is, d1.length, d2.length]; exact hz, fun z => ?_, fun _ z => ?_, fun _ _ p o hp ho => ?_⟩
      · subst z
        have : xs = [] := by cases d1; rfl
        subst this
        exact q0 _ rb
      · subst z
        have : ys = [] := by cases d2; rfl
        subst this
        exact q0 _ (show RU X.K F H φ st H _ (vTup (xs ++ [])) from by rw [List.append_nil]; exact ra)
      · exact q φ _ _ (Step.laid hs hp) (Den.tupNew hs hp ho (d1.app d2))
    · cases e
  · cases l1 : listOf st a with
    | none => rw [l1] at e; cases e
    | some xs =>
      cases l2 : listOf st b with
      | none => rw [l1, l2] at e; cases e
      | some ys =>
        rw [l1, l2] at e
        dsimp only [Option.bind_some] at e
        split at e
        · rename_i hz
          cases e
          obtain ⟨a1, vs, e1, h1, d1⟩ := RV.list hs ra l1
          obtain ⟨a2, ws, e2, h2, d2⟩ := RV.list hs rb l2
          subst e1; subst e2
          refine op_cat pz s σ H _ _ v u Q I rx ry ⟨a1, a2, vs, ws, rfl, rfl, h1, h2, by rw [line_is, paired_len d1, paired_len d2]; exact hz, fun p hp => ?_⟩
          exact q φ _ _ (Step.laid hs hp) (RU.list hs hp (paired_app d1 d2))
        · cases e
/-- ints alone -/
theorem ob_ints {op : Operator} {f : Sto → Val → Val → Option Val} {r : R2} (ho : OpR X (binaryOp op) r)
    (k : ∀ st a b z, f st a b = some z → ∃ i j, a = vInt i ∧ b = vInt j ∧ ∃ n, z = vInt n ∧ ∀ H Q, Q (.int n) H → r (.int i) (.int j) H Q) : OpR X (binaryOp op) (rTwo X.K f) := by
  intro pz s σ H x y v u Q I rx ry h
  obtain ⟨F, φ, st, a, b, r', hs, ra, rb, e, q⟩ := h
  obtain ⟨i, j, rfl, rfl, n, rfl, kk⟩ := k _ _ _ _ e
  rw [Den.int_inv ra] at rx; rw [Den.int_inv rb] at ry
  exact ho pz s σ H _ _ v u Q I rx ry (kk H Q (q φ H _ (Step.refl hs) (RU.int _)))
theorem ob_sub : OpR X (binaryOp .Sub) (rTwo X.K (binV .Sub)) := ob_ints op_sub fun st a b z e => by
  unfold binV at e
  dsimp only at e
  split at e
  · cases e; exact ⟨_, _, rfl, rfl, _, rfl, fun H Q q => ⟨_, _, rfl, rfl, q⟩⟩
  · cases e
theorem ob_fdiv : OpR X (binaryOp .FloorDiv) (rTwo X.K (binV .FloorDiv)) := ob_ints op_fdiv fun st a b z e => by
  unfold binV at e
  dsimp only at e
  split at e
  · split at e
    · rename_i h; cases e; exact ⟨_, _, rfl, rfl, _, rfl, fun H Q q => ⟨_, _, rfl, rfl, h, q⟩⟩
    · cases e
  · cases e
theorem ob_mod : OpR X (binaryOp .Mod) (rTwo X.K (binV .Mod)) := ob_ints op_mod fun st a b z e => by
  unfold binV at e
  dsimp only at e
  split at e
  · split at e
    · rename_i h; cases e; exact ⟨_, _, rfl, rfl, _, rfl, fun H Q q => ⟨_, _, rfl, rfl, h, q⟩⟩
    · cases e
  · cases e
theorem ob_pow : OpR X (binaryOp .Pow) (rTwo X.K (binV .Pow)) := ob_ints op_pow fun st a b z e => by
  unfold binV at e
  dsimp only at e
  split at e
  · split at e
    · rename_i h; cases e; exact ⟨_, _, rfl, rfl, _, rfl, fun H Q q => ⟨_, _, rfl, rfl, h, q⟩⟩
    · cases e
  · cases e
theorem paired_rep {α β : Type} {P : α → β → Prop} {xs : List α} {ys : List β} (h : Paired P xs ys) : ∀ n : Nat, Paired P (List.replicate n xs).flatten (List.replicate n ys).flatten
  | 0 => .nil
  | n + 1 => by
    simp only [List.replicate_succ, List.flatten_cons]
    exact paired_app h (paired_rep h n)
theorem ob_mul : OpR X (binaryOp .Mult) (rTwo X.K (binV .Mult)) := by
  intro pz s σ H x y v u Q I rx ry h
  obtain ⟨F, φ, st, a, b, r, hs, ra, rb, e, q⟩ := h
  have q0 := fun u => q φ H u (Step.refl hs)
  unfold binV at e
  dsimp only at e
  split at e
  · split at e
    · rename_i hm
      cases e
      rw [Den.int_inv ra] at rx; rw [Den.int_inv rb] at ry
      unfold mulOk at hm
      have hm2 := of_decide_eq_true hm
      exact op_mul pz s σ H _ _ v u Q I rx ry ⟨_, _, rfl, rfl, hm2, q0 _ (RU.int _)⟩
    · cases e
  · cases l1 : listOf st a with
    | none => rw [l1] at e; cases e
    | some xs =>
      rw [l1] at e
      dsimp only [Option.bind_some] at e
      split at e
      · rename_i hz
        obtain ⟨z1, z2, z3⟩ := hz
        cases e
        rw [Den.int_inv rb] at ry
        obtain ⟨a1, vs, e1, h1, d1⟩ := RV.list hs ra l1
        subst e1
        refine op_rep pz s σ H _ _ v u Q I rx ry ⟨a1, _, vs, rfl, rfl, h1, by omega, by omega, ?_, fun p hp => ?_⟩
        · rw [line_is, paired_len d1]
          exact Nat.le_trans (Nat.mul_le_mul z3 (show _ ≤ 1000 by omega)) (by decide)
        · exact q φ _ _ (Step.laid hs hp) (RU.list hs hp (paired_rep d1 _))
      · cases e
  · cases e
theorem un_negV : UnR X (unaryOp .USub) (fun x H Q => ∃ F φ st v r, SC X.K F φ st H ∧ RV X.K F φ st H x v ∧ negV v = some r ∧ ∀ u, RU X.K F H φ st H u r → Q u H) := by
  intro pz s σ H x v Q I rx h
  obtain ⟨F, φ, st, a, r, hs, ra, e, q⟩ := h
  unfold negV at e
  split at e
  · cases e
    rw [Den.int_inv ra] at rx
    exact un_neg pz s σ H _ v Q I rx ⟨_, rfl, q _ (RU.int _)⟩
  · cases e
/-! ### comparisons -/
theorem scal_is {K : PySem.W.Frag} {L L' : AP} {H : Hp} {x y : V} {d e : D} (hx : Den K L H x d) (hy : Den K L' H y e) (h : scalD d e = true) : scal x y = true ∧ decide (x = y) = PyData.eqv d e := by
  cases d <;> cases e <;> first
    | (exact absurd (show false = true from h) Bool.false_ne_true)
    | (cases hx; cases hy; refine ⟨rfl, ?_⟩; first | exact dec_int | exact dec_bl | exact dec_str | (unfold PyData.eqv; simp))
theorem shaped_lay {d : D} (h : SeqAt.shaped d = true) : PyData.canLay0 d = true := SeqAt.canLay_of_shaped h
theorem kv_look {K : PySem.W.Frag} {L : AP} {H : Hp} (k : Key) : ∀ {ks : List (Key × V)} {ds : List (D × D)}, DenKv K L H ks ds →
    (match dLook ds (keyD k) with | some x => ∃ v, valV ks k = some v ∧ Den K L H v x | none => valV ks k = none)
  | _, _, .nil => rfl
  | _, _, .cons (k := k') (v := v) (d := d) a r => by
    have ih := kv_look k r
    have ek : PyData.eqv (keyD k') (keyD k) = decide (k' = k) := by
      cases k' <;> cases k <;> (unfold keyD PyData.eqv; first | exact (key_ll _ _).symm | (rw [key_rr]; exact (Bool.beq_eq_decide_eq _ _)) | exact (key_lr _ _).symm | exact (key_rl _ _).symm)
    unfold dLook valV
    rw [ek, List.find?_cons]
    by_cases hk : k' = k
    · rw [decide_eq_true hk]
      exact ⟨v, rfl, a⟩
    · rw [decide_eq_false hk]
      exact ih
theorem kv_lookW {K : PySem.W.Frag} {L : AP} {H : Hp} {φ : List Addr} (k : Key) : ∀ {ks : List (Key × V)} {kvs : List (D × W)}, Paired (RKv K L H φ) ks kvs →
    (match dLookW kvs (keyD k) with | some x => ∃ v, valV ks k = some v ∧ RW K L H φ v x | none => valV ks k = none)
  | _, _, .nil => rfl
  | _, _, .cons (a := (k', v)) (b := (dk, w)) a r => by
    have ih := kv_lookW k r
    obtain ⟨e1, a⟩ := a
    dsimp only at e1 a
    subst e1
    have ek : PyData.eqv (keyD k') (keyD k) = decide (k' = k) := by
      cases k' <;> cases k <;> (unfold keyD PyData.eqv; first | exact (key_ll _ _).symm | (rw [key_rr]; exact (Bool.beq_eq_decide_eq _ _)) | exact (key_lr _ _).symm | exact (key_rl _ _).symm)
    unfold dLookW valV
    rw [ek, List.find?_cons]
    by_cases hk : k' = k
    · rw [decide_eq_true hk]
      exact ⟨v, rfl, a⟩
    · rw [decide_eq_false hk]
      exact ih
/-- the hits of one dict in another one -/
theorem hits_D {pz : List (Addr × Obj)} {s : Shared} {σ : L2.St} {H : Hp} {L L' : AP} (hu : X.A.units + 65 < cLine) (I : Inv X pz σ H s) {ls : List (Key × V)} {es : List (D × D)} {vb : List (Key × Value)} (dl : DenKv X.K L' H ls es) (rb : KV ls vb) :
    ∀ {ks : List (Key × V)} {ds : List (D × D)} {va : List (Key × Value)} {r : Bool}, DenKv X.K L H ks ds → KV ks va → eqKv es ds = some r → PySem.W.KeqHits X.A.in1 s vb va r
  | _, _, _, r, .nil, ra, e => by
    cases ra
    cases e
    exact .nil
  | _, _, _, r, .cons (k := k) (v := v) (d := d) a t, ra, e => by
    unfold KV at ra
    cases ra with
    | @cons p q ps qs h t' =>
      obtain ⟨h1, h2⟩ := h
      obtain ⟨k2, u⟩ := q
      have h1' : k = k2 := h1
      subst h1'
      have lk := kv_look k dl
      simp only [eqKv] at e
      cases ql : dLook es (keyD k) with
      | none =>
        rw [ql] at lk e
        cases e
        have lk' : valV ls k = none := lk
        have ro := rb.val k
        rw [lk'] at ro
        exact .miss (RelO.none_of ro)
      | some y =>
        rw [ql] at lk e
        obtain ⟨v', hv, dv⟩ := lk
        dsimp only at e
        split at e
        · rename_i hc
          rw [Bool.and_eq_true] at hc
          cases qr : eqKv es _ with
          | none => rw [qr] at e; cases e
          | some b =>
            rw [qr] at e
            cases e
            have ro := rb.val k
            rw [hv] at ro
            obtain ⟨u', hu', ru'⟩ := RelO.some_of ro
            obtain ⟨as, r1⟩ := Dp.reads I d v u (a.dp (shaped_lay hc.1)) h2
            obtain ⟨bs, r2⟩ := Dp.reads I y v' u' (dv.dp (shaped_lay hc.2)) ru'
            exact .hit hu' (PySem.W.keq_at r1 r2 hc.1 hc.2 (by show X.A.units + 1 + 64 < cLine; omega)) (hits_D hu I dl rb t t' qr)
        · cases e
theorem eqD_dict {d e : D} {r : Bool} (h : (scalD d e || (SeqAt.shaped d && SeqAt.shaped e)) = false) (q : eqD d e = some r) : ∃ ks ls, d = .dict ks ∧ e = .dict ls ∧ ((ks.length = ls.length ∧ eqKv ls ks = some r) ∨ (ks.length ≠ ls.length ∧ r = false)) := by
  unfold eqD at q
  rw [h, if_neg (by decide)] at q
  split at q
  · split at q
    · rename_i hl; exact ⟨_, _, rfl, rfl, .inl ⟨hl, q⟩⟩
    · rename_i hl; cases q; exact ⟨_, _, rfl, rfl, .inr ⟨hl, rfl⟩⟩
  · cases q
theorem denkv_len {K : PySem.W.Frag} {L : AP} {H : Hp} : ∀ {ks : List (Key × V)} {ds : List (D × D)}, DenKv K L H ks ds → ks.length = ds.length
  | _, _, .nil => rfl
  | _, _, .cons _ r => by simp only [List.length_cons, denkv_len r]
theorem dict_core {pz : List (Addr × Obj)} {s : Shared} {σ : L2.St} {H : Hp} {x y : V} {v u : Value} {L L' : AP} {ks ls : List (D × D)} {r : Bool} (hu : X.A.units + 65 < cLine) (I : Inv X pz σ H s) (rx : RelV x v) (ry : RelV y u)
    (n1 : Den X.K L H x (.dict ks)) (n2 : Den X.K L' H y (.dict ls)) (h : (ks.length = ls.length ∧ eqKv ls ks = some r) ∨ (ks.length ≠ ls.length ∧ r = false)) :
    (∀ Q : VK, Q (.bl r) H → wpAny (model X.prog X.w) X.A (compareOp .Eq v u) (EP X pz σ Q) X.xe s) ∧ (∀ Q : VK, Q (.bl (!r)) H → wpAny (model X.prog X.w) X.A (compareOp .NotEq v u) (EP X pz σ Q) X.xe s) := by
  obtain ⟨a, k1, rfl, ea, da⟩ := Den.dct_inv n1
  obtain ⟨b, k2, rfl, eb, db⟩ := Den.dct_inv n2
  have ev : v = Value.ref a := rx; subst ev
  have eu : u = Value.ref b := ry; subst eu
  obtain ⟨_, ya, va, ra, oa⟩ := (show ObjOk X.prog X.w H s.heap a (.dK k1) from I.hok a _ ea)
  obtain ⟨_, yb, vb, rb, ob⟩ := (show ObjOk X.prog X.w H s.heap b (.dK k2) from I.hok b _ eb)
  have hla : va.length = ks.length := by rw [← ra.length, denkv_len da]
  have hlb : vb.length = ls.length := by rw [← rb.length, denkv_len db]
  rcases h with ⟨h1, h2⟩ | ⟨h1, rfl⟩
  · have e : (va.length == vb.length && r) = r := by rw [hla, hlb, h1]; simp
    exact ⟨fun Q q => PySem.W.keq_eq (knd := mixKind X.prog X.w) (r := r) ya yb oa ob (by omega) (fun _ => hits_D hu I db rb da ra h2) (by rw [e]; exact fin_bl I q rfl),
      fun Q q => PySem.W.keq_ne (knd := mixKind X.prog X.w) (r := r) ya yb oa ob (by omega) (fun _ => hits_D hu I db rb da ra h2) (by rw [e]; exact fin_bl I q rfl)⟩
  · have e : (va.length == vb.length && false) = false := by simp
    have no : va.length = vb.length → PySem.W.KeqHits X.A.in1 s vb va false := fun z => absurd (hla.symm.trans (z.trans hlb)) h1
    exact ⟨fun Q q => PySem.W.keq_eq (knd := mixKind X.prog X.w) (r := false) ya yb oa ob (by omega) no (by rw [e]; exact fin_bl I q rfl),
      fun Q q => PySem.W.keq_ne (knd := mixKind X.prog X.w) (r := false) ya yb oa ob (by omega) no (by rw [e]; exact fin_bl I q rfl)⟩
theorem oc_eq (hu : X.A.units + 65 < cLine) : OpR X (compareOp .Eq) (rTwoB X.K (cmpV .Eq)) := by
  intro pz s σ H x y v u Q I rx ry h
  obtain ⟨F, φ, st, a, b, r, hs, ra, rb, e, q⟩ := h
  unfold cmpV at e
  dsimp only at e
  cases d1 : dataOf st a with
  | none => rw [d1] at e; cases e
  | some d =>
    cases d2 : dataOf st b with
    | none => rw [d1, d2] at e; cases e
    | some e' =>
      rw [d1, d2] at e
      dsimp only [Option.bind_some] at e
      obtain ⟨L1, n1⟩ := RV.data hs ra d1
      obtain ⟨L2, n2⟩ := RV.data hs rb d2
      by_cases hc : (scalD d e' || (SeqAt.shaped d && SeqAt.shaped e')) = true
      · unfold eqD at e
        rw [if_pos hc] at e
        cases e
        rw [Bool.or_eq_true, Bool.and_eq_true] at hc
        rcases hc with hc | ⟨c1, c2⟩
        · obtain ⟨z1, z2⟩ := scal_is n1 n2 hc
          exact op_eq pz s σ H _ _ v u Q I rx ry ⟨z1, by rw [z2]; exact q⟩
        · exact op_eqD (by omega) pz s σ H _ _ v u Q I rx ry ⟨d, e', n1.dp (shaped_lay c1), n2.dp (shaped_lay c2), c1, c2, q⟩
      · cases hr : eqD d e' with
        | none => rw [hr] at e; cases e
        | some r0 =>
          rw [hr] at e
          cases e
          obtain ⟨ks, ls, rfl, rfl, h⟩ := eqD_dict (by simpa using hc) hr
          exact (dict_core hu I rx ry n1 n2 h).1 Q q
theorem oc_ne (hu : X.A.units + 65 < cLine) : OpR X (compareOp .NotEq) (rTwoB X.K (cmpV .NotEq)) := by
  intro pz s σ H x y v u Q I rx ry h
  obtain ⟨F, φ, st, a, b, r, hs, ra, rb, e, q⟩ := h
  unfold cmpV at e
  dsimp only at e
  cases d1 : dataOf st a with
  | none => rw [d1] at e; cases e
  | some d =>
    cases d2 : dataOf st b with
    | none => rw [d1, d2] at e; cases e
    | some e' =>
      rw [d1, d2] at e
      dsimp only [Option.bind_some] at e
      obtain ⟨L1, n1⟩ := RV.data hs ra d1
      obtain ⟨L2, n2⟩ := RV.data hs rb d2
      by_cases hc : (scalD d e' || (SeqAt.shaped d && SeqAt.shaped e')) = true
      · unfold eqD at e
        rw [if_pos hc] at e
        cases e
        rw [Bool.or_eq_true, Bool.and_eq_true] at hc
        rcases hc with hc | ⟨c1, c2⟩
        · obtain ⟨z1, z2⟩ := scal_is n1 n2 hc
          exact op_ne pz s σ H _ _ v u Q I rx ry ⟨z1, by rw [z2]; exact q⟩
        · exact op_neD (by omega) pz s σ H _ _ v u Q I rx ry ⟨d, e', n1.dp (shaped_lay c1), n2.dp (shaped_lay c2), c1, c2, q⟩
      · cases hr : eqD d e' with
        | none => rw [hr] at e; cases e
        | some r0 =>
          rw [hr] at e
          cases e
          obtain ⟨ks, ls, rfl, rfl, h⟩ := eqD_dict (by simpa using hc) hr
          exact (dict_core hu I rx ry n1 n2 h).2 Q q
theorem non_is {K : PySem.W.Frag} {F : AP} {φ : List Addr} {st : Sto} {H : Hp} {x : V} {a : Val} (r : RV K F φ st H x a) (h : a ≠ vNone) : x ≠ .non := by
  intro z
  subst z
  cases a with
  | w w =>
    cases w with
    | d d => cases r; exact h rfl
    | fz xs => obtain ⟨_, _, e, _⟩ := r; cases e
    | ref i => obtain ⟨_, _, e⟩ := r; cases e
  | fl xs => obtain ⟨_, _, e, _⟩ := r; cases e
  | fd xs => obtain ⟨_, _, e, _⟩ := r; cases e
theorem oc_is : OpR X (compareOp .Is) (rTwoB X.K (cmpV .Is)) := by
  intro pz s σ H x y v u Q I rx ry h
  obtain ⟨F, φ, st, a, b, r, hs, ra, rb, e, q⟩ := h
  unfold cmpV at e
  dsimp only at e
  split at e
  · cases e
    rw [Den.non_inv ra] at rx; rw [Den.non_inv rb] at ry
    exact op_isN pz s σ H _ _ v u Q I rx ry ⟨rfl, q⟩
  · cases e
    rename_i b1 b2
    rw [Den.bl_inv ra] at rx; rw [Den.bl_inv rb] at ry
    exact op_isBl pz s σ H _ _ v u Q I rx ry ⟨_, _, rfl, rfl, by rw [show decide (b1 = b2) = (b1 == b2) by cases b1 <;> cases b2 <;> rfl]; exact q⟩
  · rename_i _ h1
    cases e
    rw [Den.non_inv rb] at ry
    have n := non_is ra fun z => h1 z
    exact op_isN pz s σ H _ _ v u Q I rx ry ⟨rfl, by rw [decide_eq_false n]; exact q⟩
  · cases e
theorem oc_isnot : OpR X (compareOp .IsNot) (rTwoB X.K (cmpV .IsNot)) := by
  intro pz s σ H x y v u Q I rx ry h
  obtain ⟨F, φ, st, a, b, r, hs, ra, rb, e, q⟩ := h
  unfold cmpV at e
  dsimp only at e
  split at e
  · cases e
    rw [Den.non_inv ra] at rx; rw [Den.non_inv rb] at ry
    exact op_notN pz s σ H _ _ v u Q I rx ry ⟨rfl, q⟩
  · cases e
    rename_i b1 b2
    rw [Den.bl_inv ra] at rx; rw [Den.bl_inv rb] at ry
    exact op_isnot_bl pz s σ H _ _ v u Q I rx ry ⟨_, _, rfl, rfl, by rw [show decide (b1 = b2) = (b1 == b2) by cases b1 <;> cases b2 <;> rfl]; exact q⟩
  · rename_i _ h1
    cases e
    rw [Den.non_inv rb] at ry
    have n := non_is ra fun z => h1 z
    exact op_notN pz s σ H _ _ v u Q I rx ry ⟨rfl, by rw [decide_eq_false n]; exact q⟩
  · cases e
theorem oc_ord {op : CmpOp} {f : Sto → Val → Val → Option Bool} {r1 r2 : R2} (o1 : OpR X (compareOp op) r1) (o2 : OpR X (compareOp op) r2)
    (k : ∀ st a b z, f st a b = some z → (∃ i j, a = vInt i ∧ b = vInt j ∧ ∀ H Q, Q (.bl z) H → r1 (.int i) (.int j) H Q) ∨ ∃ i j, a = vStr i ∧ b = vStr j ∧ ∀ H Q, Q (.bl z) H → r2 (.str i) (.str j) H Q) : OpR X (compareOp op) (rTwoB X.K f) := by
  intro pz s σ H x y v u Q I rx ry h
  obtain ⟨F, φ, st, a, b, r, hs, ra, rb, e, q⟩ := h
  rcases k _ _ _ _ e with ⟨i, j, rfl, rfl, kk⟩ | ⟨i, j, rfl, rfl, kk⟩
  · rw [Den.int_inv ra] at rx; rw [Den.int_inv rb] at ry
    exact o1 pz s σ H _ _ v u Q I rx ry (kk H Q q)
  · rw [Den.str_inv ra] at rx; rw [Den.str_inv rb] at ry
    exact o2 pz s σ H _ _ v u Q I rx ry (kk H Q q)
theorem oc_lt : OpR X (compareOp .Lt) (rTwoB X.K (cmpV .Lt)) := oc_ord op_lt op_lt_str fun st a b z e => by
  unfold cmpV at e
  dsimp only at e
  split at e
  · cases e; exact .inl ⟨_, _, rfl, rfl, fun H Q q => ⟨_, _, rfl, rfl, q⟩⟩
  · cases e; exact .inr ⟨_, _, rfl, rfl, fun H Q q => ⟨_, _, rfl, rfl, q⟩⟩
  · cases e
theorem oc_le : OpR X (compareOp .LtE) (rTwoB X.K (cmpV .LtE)) := oc_ord op_le op_le_str fun st a b z e => by
  unfold cmpV at e
  dsimp only at e
  split at e
  · cases e; exact .inl ⟨_, _, rfl, rfl, fun H Q q => ⟨_, _, rfl, rfl, q⟩⟩
  · cases e; exact .inr ⟨_, _, rfl, rfl, fun H Q q => ⟨_, _, rfl, rfl, q⟩⟩
  · cases e
theorem oc_gt : OpR X (compareOp .Gt) (rTwoB X.K (cmpV .Gt)) := oc_ord op_gt op_gt_str fun st a b z e => by
  unfold cmpV at e
  dsimp only at e
  split at e
  · cases e; exact .inl ⟨_, _, rfl, rfl, fun H Q q => ⟨_, _, rfl, rfl, q⟩⟩
  · cases e; exact .inr ⟨_, _, rfl, rfl, fun H Q q => ⟨_, _, rfl, rfl, q⟩⟩
  · cases e
theorem oc_ge : OpR X (compareOp .GtE) (rTwoB X.K (cmpV .GtE)) := oc_ord op_ge op_ge_str fun st a b z e => by
  unfold cmpV at e
  dsimp only at e
  split at e
  · cases e; exact .inl ⟨_, _, rfl, rfl, fun H Q q => ⟨_, _, rfl, rfl, q⟩⟩
  · cases e; exact .inr ⟨_, _, rfl, rfl, fun H Q q => ⟨_, _, rfl, rfl, q⟩⟩
  · cases e
/-! ### in -/
theorem flat_is {K : PySem.W.Frag} {L : AP} {H : Hp} {x : V} {d : D} (hx : Den K L H x d) (h : flatD d = true) : flatV x = true := by
  cases hx <;> first | rfl | exact absurd (show false = true from h) Bool.false_ne_true
theorem flat_eq {K : PySem.W.Frag} {L L' : AP} {H : Hp} {x y : V} {d e : D} (hx : Den K L H x d) (hy : Den K L' H y e) (h1 : flatD d = true) (h2 : flatD e = true) : eqV x y = PyData.eqv d e := by
  cases hx <;> cases hy <;> first
    | (exact absurd (show false = true from h1) Bool.false_ne_true)
    | (exact absurd (show false = true from h2) Bool.false_ne_true)
    | simp [eqV, PyData.eqv]
theorem flats_is {K : PySem.W.Frag} {L : AP} {H : Hp} : ∀ {xs : List V} {ds : List D}, DenAll K L H xs ds → ds.all flatD = true → xs.all flatV = true
  | _, _, .nil, _ => rfl
  | _, _, .cons a r, h => by
    simp only [List.all_cons, Bool.and_eq_true] at h ⊢
    exact ⟨flat_is a h.1, flats_is r h.2⟩
theorem flats_in {K : PySem.W.Frag} {L L' : AP} {H : Hp} {x : V} {d : D} (hx : Den K L' H x d) (hd : flatD d = true) : ∀ {xs : List V} {ds : List D}, DenAll K L H xs ds → ds.all flatD = true → L2.inV x xs = ds.any fun y => PyData.eqv y d
  | _, _, .nil, _ => rfl
  | _, _, .cons a r, h => by
    rw [List.all_cons, Bool.and_eq_true_iff] at h
    have ih := flats_in hx hd r h.2
    unfold L2.inV at ih ⊢
    rw [List.any_cons, List.any_cons, ih, flat_eq a hx h.1 hd]
theorem str1_is {a : Str} {c : Nat} (h : isStr1 a = some c) : a = ⟨#[c]⟩ := by
  unfold isStr1 at h
  split at h
  · cases h; rfl
  · cases h
theorem key_of_den {K : PySem.W.Frag} {L : AP} {H : Hp} {v : V} {d : D} {k : Key} (h : Den K L H v d) (e : keyOf d = some k) : v = kV k ∧ d = keyD k := by
  unfold keyOf at e
  split at e
  · cases e; cases h; exact ⟨rfl, rfl⟩
  · cases e; cases h; exact ⟨rfl, rfl⟩
  · cases e
theorem in_core (hu : X.A.units + 65 < cLine) {pz : List (Addr × Obj)} {s : Shared} {σ : L2.St} {H : Hp} {x y : V} {v u : Value} {F : AP} {φ : List Addr} {st : Sto} {a b : Val} {r : Bool} (I : Inv X pz σ H s) (rx : RelV x v) (ry : RelV y u)
    (hs : SC X.K F φ st H) (ra : RV X.K F φ st H x a) (rb : RV X.K F φ st H y b) (e : MP.inV st a b = some r) :
    (∀ Q : VK, Q (.bl r) H → wpAny (model X.prog X.w) X.A (compareOp .In v u) (EP X pz σ Q) X.xe s) ∧ (∀ Q : VK, Q (.bl (!r)) H → wpAny (model X.prog X.w) X.A (compareOp .NotIn v u) (EP X pz σ Q) X.xe s) := by
  unfold MP.inV at e
  split at e
  · split at e
    · cases q : isStr1 _ with
      | none => rw [q] at e; nomatch e
      | some c =>
        rw [q] at e
        cases e
        have := str1_is q
        subst this
        rw [Den.str_inv ra] at rx; rw [Den.str_inv rb] at ry
        exact ⟨fun Q q => op_in_sign pz s σ H _ _ v u Q I rx ry ⟨_, _, rfl, rfl, q⟩, fun Q q => op_notIn_sign pz s σ H _ _ v u Q I rx ry ⟨_, _, rfl, rfl, q⟩⟩
    · cases e
  · rename_i ys
    cases d1 : dataOf st a with
    | none => rw [d1] at e; cases e
    | some d =>
      rw [d1] at e
      dsimp only [Option.bind_some] at e
      obtain ⟨L1, n1⟩ := RV.data hs ra d1
      obtain ⟨p, xs, e1, h1, d2⟩ := Den.tup_inv rb
      unfold inRow at e
      split at e
      · rename_i hc
        cases e
        rw [Bool.and_eq_true] at hc
        have e2 := flats_in n1 hc.1 d2 hc.2
        exact ⟨fun Q q => op_in_seq pz s σ H _ _ v u Q I rx ry ⟨p, xs, e1, .inr h1, flat_is n1 hc.1, flats_is d2 hc.2, by show Q (.bl (L2.inV x xs)) H; rw [e2]; exact q⟩,
          fun Q q => op_notIn_seq pz s σ H _ _ v u Q I rx ry ⟨p, xs, e1, .inr h1, flat_is n1 hc.1, flats_is d2 hc.2, by show Q (.bl (!L2.inV x xs)) H; rw [e2]; exact q⟩⟩
      · cases e
  · split at e
   -- a dict
    case h_1 kvs hq =>
     cases d1 : dataOf st a with
     | none => rw [d1] at e; cases e
     | some d =>
      rw [d1] at e
      dsimp only [Option.bind_some] at e
      obtain ⟨L1, n1⟩ := RV.data hs ra d1
      cases k1 : keyOf d with
      | none => rw [k1] at e; cases e
      | some k =>
        rw [k1] at e
        cases e
        obtain ⟨p, xs, e1, h1, d2⟩ := RV.dct hs rb hq
        obtain ⟨z1, z2⟩ := key_of_den n1 k1
        subst z1 z2 e1
        have lk := kv_lookW k d2
        have g : DGet H p (kV k) (valV xs k) := DGet.k h1
        have es : (valV xs k).isSome = (dLookW kvs (keyD k)).isSome := by
          cases ql : dLookW kvs (keyD k) with
          | none => rw [ql] at lk; have lk' : valV xs k = none := lk; rw [lk']; rfl
          | some w => rw [ql] at lk; obtain ⟨v', hv, _⟩ := lk; rw [hv]; rfl
        obtain rfl : u = Value.ref p := ry
        refine ⟨fun Q q => d_in (by omega) I g rx fun s3 I3 => ⟨.bl _, H, I3, rfl, by rw [es]; exact q⟩, fun Q q => d_notIn (by omega) I g rx fun s3 I3 => ⟨.bl _, H, I3, rfl, by rw [es]; exact q⟩⟩
    case h_2 =>
     cases l1 : listOf st b with
     | none => rw [l1] at e; cases e
     | some ws =>
       rw [l1] at e
       dsimp only [Option.bind_some] at e
       cases w1 : datas ws with
       | none => rw [w1] at e; cases e
       | some ys =>
         rw [w1] at e
         dsimp only [Option.bind_some] at e
         cases d1 : dataOf st a with
         | none => rw [d1] at e; cases e
         | some d =>
           rw [d1] at e
           dsimp only [Option.bind_some] at e
           obtain ⟨L1, n1⟩ := RV.data hs ra d1
           obtain ⟨p, xs, e1, h1, r2⟩ := RV.list hs rb l1
           have d2 := datas_rw r2 w1
           unfold inList at e
           split at e
           · rename_i hc
             cases e
             rw [Bool.and_eq_true] at hc
             have e2 := flats_in n1 hc.1 d2 hc.2
             exact ⟨fun Q q => op_in_seq pz s σ H _ _ v u Q I rx ry ⟨p, xs, e1, .inl (.of h1), flat_is n1 hc.1, flats_is d2 hc.2, by show Q (.bl (L2.inV x xs)) H; rw [e2]; exact q⟩,
               fun Q q => op_notIn_seq pz s σ H _ _ v u Q I rx ry ⟨p, xs, e1, .inl (.of h1), flat_is n1 hc.1, flats_is d2 hc.2, by show Q (.bl (!L2.inV x xs)) H; rw [e2]; exact q⟩⟩
           · split at e
             · rename_i hc
               cases e
               rw [Bool.and_eq_true] at hc
               have c2 := shaped_lay hc.2
               rw [PyData.canLay0] at c2
               have dl : Dp X.K H y (.list ys) := by rw [e1]; exact .lst (.of h1) (d2.dp c2)
               exact ⟨fun Q q => op_inD hu pz s σ H _ _ v u Q I rx ry ⟨d, ys, n1.dp (shaped_lay hc.1), dl, hc.1, hc.2, q⟩,
                 fun Q q => op_notInD hu pz s σ H _ _ v u Q I rx ry ⟨d, ys, n1.dp (shaped_lay hc.1), dl, hc.1, hc.2, q⟩⟩
             · cases e
theorem oc_in (hu : X.A.units + 65 < cLine) : OpR X (compareOp .In) (rTwoB X.K (cmpV .In)) := by
  intro pz s σ H x y v u Q I rx ry h
  obtain ⟨F, φ, st, a, b, r, hs, ra, rb, e, q⟩ := h
  exact (in_core hu I rx ry hs ra rb e).1 Q q
theorem oc_notin (hu : X.A.units + 65 < cLine) : OpR X (compareOp .NotIn) (rTwoB X.K (cmpV .NotIn)) := by
  intro pz s σ H x y v u Q I rx ry h
  obtain ⟨F, φ, st, a, b, r, hs, ra, rb, e, q⟩ := h
  have e' : (MP.inV st a b).map (!·) = some r := e
  cases q' : MP.inV st a b with
  | none => rw [q'] at e'; cases e'
  | some r' =>
    rw [q'] at e'
    cases e'
    exact (in_core hu I rx ry hs ra rb q').2 Q q
end
end MP
set_option maxHeartbeats 1200000
/-! Ev5: subscripts, slices, built-ins, methods, stores by values. -/
namespace MP
open PySem PySem.Spec L2
section
variable {K : PySem.W.Frag} {F : AP} {φ : List Addr} {st : Sto} {H : Hp} {L : AP}
theorem atI_len {α β : Type} {xs : List α} {ys : List β} (h : xs.length = ys.length) {i : Int} {j : Nat} (e : ixN ys.length i = some j) : ixN xs.length i = some j := by rw [h]; exact e
theorem atI_den {vs : List V} {xs : List D} {i : Int} {x : D} (h : DenAll K L H vs xs) (e : atI xs i = some x) : ∃ v, atI vs i = some v ∧ Den K L H v x := by
  unfold atI at e ⊢
  cases q : ixN xs.length i with
  | none => rw [q] at e; nomatch e
  | some j =>
    rw [q] at e
    rw [atI_len h.length q]
    exact h.get e
theorem atI_rw {vs : List V} {xs : List W} {i : Int} {x : W} (h : RWs K L H φ vs xs) (e : atI xs i = some x) : ∃ v, atI vs i = some v ∧ RW K L H φ v x := by
  unfold atI at e ⊢
  cases q : ixN xs.length i with
  | none => rw [q] at e; nomatch e
  | some j =>
    rw [q] at e
    rw [atI_len (paired_len h) q]
    exact paired_get h e
theorem RV.int {v : V} {x : Val} {i : Int} (r : RV K F φ st H v x) (e : int? x = some i) : v = .int i := by
  unfold int? at e
  split at e
  · cases e; exact Den.int_inv r
  · cases e
theorem RV.bool {v : V} {x : Val} {b : Bool} (r : RV K F φ st H v x) (e : bool? x = some b) : v = .bl b := by
  unfold bool? at e
  split at e
  · cases e; exact Den.bl_inv r
  · cases e
/-- the cell at a turns: what is no cell stays -/
theorem way_write {a : Addr} {o : HO} (h : L a) : Way L H L (upd H a o) := ⟨fun b u e n => ⟨by rw [upd_ne (fun z => n (by rw [z]; exact h))]; exact e, n⟩⟩
theorem live_set {i : Nat} {c c' : Cell} (hc : st[i]? = some c) (hn : c ≠ .dead) (hn' : c' ≠ .dead) (a : Addr) : Live φ (st.set i c') a ↔ Live φ st a := by
  constructor
  · rintro ⟨j, d, e1, e2, n⟩
    by_cases hj : j = i
    · subst hj; exact ⟨j, c, e1, hc, hn⟩
    · rw [List.getElem?_set_ne (Ne.symm hj)] at e2; exact ⟨j, d, e1, e2, n⟩
  · rintro ⟨j, d, e1, e2, n⟩
    by_cases hj : j = i
    · subst hj
      exact ⟨j, c', e1, List.getElem?_set_self (List.getElem?_eq_some_iff.mp hc).1, hn'⟩
    · exact ⟨j, d, e1, by rw [List.getElem?_set_ne (Ne.symm hj)]; exact e2, n⟩
theorem SC.write {i : Nat} {a : Addr} {c c' : Cell} {o : HO} (s : SC K F φ st H) (ha : φ[i]? = some a) (hc : st[i]? = some c) (hn : c ≠ .dead) (hn' : c' ≠ .dead) (ho : Mut (some o))
    (r : RC K (Or2 F (Live φ st)) (upd H a o) φ a c') : Step K F φ st H φ (st.set i c') (upd H a o) := by
  have la : Live φ st a := ⟨i, c, ha, hc, hn⟩
  have lv := live_set (φ := φ) hc hn hn'
  have w : Way (Or2 F (Live φ st)) H (Or2 F (Live φ (st.set i c'))) (upd H a o) := ⟨fun b u e n => by
    have ne : b ≠ a := fun z => n (.inr (z ▸ la))
    exact ⟨by rw [upd_ne ne]; exact e, fun l => n (l.elim .inl fun l => .inr ((lv b).mp l))⟩⟩
  have ma : a ∈ φ := List.mem_of_getElem? ha
  have nn : ∀ b, H b ≠ none → upd H a o b ≠ none := fun b h => by
    by_cases z : b = a
    · rw [z, upd_same]; simp
    · rw [upd_ne z]; exact h
  refine ⟨⟨[], by simp, by simp⟩, fun b u e n => ⟨?_, fun l => n ((lv b).mp l)⟩, nn, ⟨by simpa using s.len, s.nd, fun b h => nn b (s.al b h), fun b h => nn b (s.fo b h), fun b h u hu => ?_, s.fd, fun j b d e1 e2 => ?_⟩⟩
  · rw [upd_ne (fun z => n (by rw [z]; exact la))]; exact e
  · have ne : b ≠ a := fun z => s.fd b h (z ▸ ma)
    rw [upd_ne ne] at hu
    exact s.fc b h u hu
  · by_cases hj : j = i
    · subst hj
      rw [ha] at e1; cases e1
      rw [List.getElem?_set_self (List.getElem?_eq_some_iff.mp hc).1] at e2
      cases e2
      exact RC.way ⟨fun b u e n => ⟨e, fun l => n (l.elim .inl fun l => .inr ((lv b).mp l))⟩⟩ (fun b l u hu => by
        by_cases z : b = a
        · rw [z, upd_same] at hu; cases hu; exact ho
        · rw [upd_ne z] at hu; exact s.cells b l u hu) ⟨[], by simp⟩ (fun _ => rfl) r
    · rw [List.getElem?_set_ne (fun z => hj z.symm)] at e2
      have nb : b ≠ a := fun z => by
        subst z
        have hi := (List.getElem?_eq_some_iff.mp ha)
        have hj' := (List.getElem?_eq_some_iff.mp e1)
        obtain ⟨p1, q1⟩ := hi
        obtain ⟨p2, q2⟩ := hj'
        exact hj ((List.getElem_inj s.nd).mp (q2.trans q1.symm))
      exact RC.way w s.cells ⟨[], by simp⟩ (fun _ => upd_ne nb) (s.cell j b d e1 e2)
end
section
variable {X : Cx}
theorem ixr_any (hu : X.A.units + 1 < cLine) : IxR X (rTwo X.K ixV) := by
  intro value slice pz s σ H x y v u Q I rx ry h hsl
  obtain ⟨F, φ, st, a, b, r, hs, ra, rb, e, q⟩ := h
  have q0 := fun u => q φ H u (Step.refl hs)
  unfold ixV at e
  split at e
  · cases ei : int? b with
    | none => rw [ei] at e; cases e
    | some i =>
      rw [ei] at e
      dsimp only [Option.bind_some] at e
      cases ea : atI _ i with
      | none => rw [ea] at e; cases e
      | some z =>
        rw [ea] at e; cases e
        obtain ⟨p, vs, e1, h1, d1⟩ := Den.tup_inv ra
        subst e1
        have e2 := RV.int rb ei
        subst e2
        obtain ⟨w, hw, dw⟩ := atI_den d1 ea
        exact ix_tup value slice pz s σ H _ _ v u Q I rx ry ⟨p, vs, i, w, rfl, rfl, h1, hw, q0 _ dw⟩ hsl
  · cases ei : int? b with
    | none => rw [ei] at e; cases e
    | some i =>
      rw [ei] at e
      dsimp only [Option.bind_some] at e
      split at e
      · rename_i hz
        cases ea : atI _ i with
        | none => rw [ea] at e; cases e
        | some c =>
          rw [ea] at e; cases e
          have e2 := RV.int rb ei
          subst e2
          rw [Den.str_inv ra] at rx
          exact ix_str value slice pz s σ H _ _ v u Q I rx ry ⟨_, i, c, rfl, rfl, by rw [line_is]; exact hz, ea, q0 _ (RU.str _)⟩ hsl
      · cases e
  · split at e
    case h_1 kvs hq =>
      cases d1 : dataOf st b with
      | none => rw [d1] at e; cases e
      | some d =>
        rw [d1] at e
        dsimp only [Option.bind_some] at e
        cases k1 : keyOf d with
        | none => rw [k1] at e; cases e
        | some k =>
          rw [k1] at e
          dsimp only [Option.bind_some] at e
          cases l1 : dLookW kvs d with
          | none => rw [l1] at e; cases e
          | some z =>
            rw [l1] at e; cases e
            obtain ⟨L1, n1⟩ := RV.data hs rb d1
            obtain ⟨p, ks, e1, h1, d2⟩ := RV.dct hs ra hq
            obtain ⟨z1, z2⟩ := key_of_den n1 k1
            subst z1 z2 e1
            have lk := kv_lookW k d2
            rw [l1] at lk
            obtain ⟨w, hw, dw⟩ := lk
            have g : DGet H p (kV k) (some w) := by rw [← hw]; exact DGet.k h1
            have ev : v = Value.ref p := rx; subst ev
            exact PyProof.Rows.tail_any (dict_typeIs I g) PySem.F.slot_dict_getitem.lookup (d_getItem hu I g ry fun w' s3 I3 rw' => ⟨w, H, I3, rw', q0 _ dw⟩) hsl
    case h_2 =>
      cases l1 : listOf' st a with
      | none => rw [l1] at e; cases e
      | some xs =>
        rw [l1] at e
        dsimp only [Option.bind_some] at e
        cases ei : int? b with
        | none => rw [ei] at e; cases e
        | some i =>
          rw [ei] at e
          dsimp only [Option.bind_some] at e
          cases ea : atI xs i with
          | none => rw [ea] at e; cases e
          | some z =>
            rw [ea] at e; cases e
            obtain ⟨p, vs, e1, h1, d1⟩ := RV.list' hs ra l1
            subst e1
            have e2 := RV.int rb ei
            subst e2
            obtain ⟨w, hw, dw⟩ := atI_rw d1 ea
            exact ix_list value slice pz s σ H _ _ v u Q I rx ry ⟨p, vs, i, w, rfl, rfl, h1, hw, q0 _ dw⟩ hsl
theorem sIx_len {α β : Type} {xs : List α} {ys : List β} (h : xs.length = ys.length) (d : Nat) (i : Option Int) : HT.sIx xs.length d i = HT.sIx ys.length d i := by rw [h]
theorem cut_den {K : PySem.W.Frag} {L : AP} {H : Hp} {vs : List V} {xs : List D} (h : DenAll K L H vs xs) (lo hi : Option Int) : DenAll K L H (cutV vs lo hi) (cutL xs lo hi) := by
  unfold cutV cutL
  rw [h.length]
  exact (h.drop _).take _
theorem cut_rw {K : PySem.W.Frag} {L : AP} {H : Hp} {φ : List Addr} {vs : List V} {xs : List W} (h : RWs K L H φ vs xs) (lo hi : Option Int) : RWs K L H φ (cutV vs lo hi) (cutL xs lo hi) := by
  unfold cutV cutL
  rw [paired_len h]
  exact paired_take _ (paired_drop _ h)
theorem cut_whole {α : Type} (xs : List α) (lo hi : Option Int) (h : HT.sIx xs.length 0 lo = 0 ∧ HT.sIx xs.length xs.length hi = xs.length) : cutL xs lo hi = xs := by
  unfold cutL
  rw [h.1, h.2]
  simp
theorem slr_any : SlR X (fun x lo hi H Q => ∃ F φ st a r, SC X.K F φ st H ∧ RV X.K F φ st H x a ∧ slV st a lo hi = some r ∧ ∀ φ' H' u, Step X.K F φ st H φ' st H' → RU X.K F H φ' st H' u r → Q u H') := by
  intro pz s σ H x v vl vu lo hi sl Q I rx hsl pl pu h
  obtain ⟨F, φ, st, a, r, hs, ra, e, q⟩ := h
  unfold slV at e
  split at e
  · cases e
    obtain ⟨p, vs, e1, h1, d1⟩ := Den.tup_inv ra
    subst e1
    refine sl_N pz s σ H _ v vl vu lo hi sl Q I rx hsl pl pu ⟨p, vs, rfl, h1, fun hw => ?_, fun _ p' o hp ho => q φ _ _ (Step.laid hs hp) (Den.tupNew hs hp ho (cut_den d1 lo hi))⟩
    rw [d1.length] at hw
    rw [cut_whole _ lo hi hw] at q
    exact q φ H _ (Step.refl hs) ra
  · split at e
    · rename_i hz
      cases e
      rw [Den.str_inv ra] at rx
      exact sl_str pz s σ H _ v vl vu lo hi sl Q I rx hsl pl pu ⟨_, rfl, by rw [line_is]; exact hz, q φ H _ (Step.refl hs) (RU.str _)⟩
    · cases e
  · cases l1 : listOf' st a with
    | none => rw [l1] at e; cases e
    | some xs =>
      rw [l1] at e; cases e
      obtain ⟨p, vs, e1, h1, d1⟩ := RV.list' hs ra l1
      subst e1
      exact sl_list pz s σ H _ v vl vu lo hi sl Q I rx hsl pl pu ⟨p, vs, rfl, h1, fun p' hp => q φ _ _ (Step.laid hs hp) (RU.list hs hp (cut_rw d1 lo hi))⟩
/-! ### built-ins -/
def rBlt (K : PySem.W.Frag) (b : Blt) : List V → Hp → VK → Prop := fun xs H Q => ∃ F φ st vs r, SC K F φ st H ∧ RVs K F φ st H xs vs ∧ bltV b st vs = some r ∧ ∀ φ' H' u, Step K F φ st H φ' st H' → RU K F H φ' st H' u r → Q u H'
theorem RVs.one {K : PySem.W.Frag} {F : AP} {φ : List Addr} {st : Sto} {H : Hp} {xs : List V} {a : Val} (h : RVs K F φ st H xs [a]) : ∃ x, xs = [x] ∧ RV K F φ st H x a := by
  cases h with
  | cons r t => cases t; exact ⟨_, rfl, r⟩
theorem RVs.two {K : PySem.W.Frag} {F : AP} {φ : List Addr} {st : Sto} {H : Hp} {xs : List V} {a b : Val} (h : RVs K F φ st H xs [a, b]) : ∃ x y, xs = [x, y] ∧ RV K F φ st H x a ∧ RV K F φ st H y b := by
  cases h with
  | cons r t =>
    cases t with
    | cons r2 t2 => cases t2; exact ⟨_, _, rfl, r, r2⟩
theorem cb_len : CallR X (.builtin "len") (rBlt X.K .len) := by
  intro pz s σ H xs us Q I r h
  obtain ⟨F, φ, st, vs, z, hs, rs, e, q⟩ := h
  have q0 := fun u => q φ H u (Step.refl hs)
  unfold bltV at e
  split at e <;> try (cases ‹Blt.len = _›)
  case h_1 v =>
    obtain ⟨x, rfl, ra⟩ := RVs.one rs
    cases en : lenOf st v with
    | none => rw [en] at e; cases e
    | some n =>
      rw [en] at e; cases e
      unfold lenOf at en
      split at en
      · split at en
        · rename_i hz
          cases en
          exact call_len pz s σ H _ us Q I r ⟨_, _, rfl, by rw [Den.str_inv ra]; exact ⟨by rw [line_is]; exact hz, rfl⟩, q0 _ (RU.int _)⟩
        · cases en
      · cases en
        obtain ⟨p, ws, e1, h1, d1⟩ := Den.tup_inv ra
        exact call_len pz s σ H _ us Q I r ⟨_, ws.length, rfl, by rw [e1]; exact .inr ⟨ws, h1, rfl⟩, by rw [d1.length]; exact q0 _ (RU.int _)⟩
      · cases en
        obtain ⟨p, ws, e1, h1, d1⟩ := Den.dct_inv ra
        subst e1
        have el : ws.length = _ := (by
          have : ∀ {ks : List (Key × V)} {ds : List (D × D)} {L : AP}, DenKv X.K L H ks ds → ks.length = ds.length := by
            intro ks
            induction ks with
            | nil => intro ds L h; cases h; rfl
            | cons a r ih => intro ds L h; cases h with | cons a b => simp [ih b]
          exact this d1)
        exact call_lenD pz s σ H _ us Q I r ⟨p, ws, rfl, h1, by rw [el]; exact q0 _ (RU.int _)⟩
      · cases en
        obtain ⟨p, ws, e1, h1, _, d1⟩ := ra
        subst e1
        exact call_lenD pz s σ H _ us Q I r ⟨p, ws, rfl, h1, by rw [paired_len d1]; exact q0 _ (RU.int _)⟩
      · split at en
        · rename_i hi
          cases en
          obtain ⟨p, e1, e2⟩ := ra
          obtain ⟨ws, h1, d1⟩ := hs.cell _ p _ e1 hi
          exact call_len pz s σ H _ us Q I r ⟨_, ws.length, rfl, by rw [e2]; exact .inl ⟨ws, .of h1, rfl⟩, by rw [paired_len d1]; exact q0 _ (RU.int _)⟩
        · rename_i hi
          cases en
          obtain ⟨p, e1, e2⟩ := ra
          obtain ⟨ws, h1, d1⟩ := hs.cell _ p _ e1 hi
          subst e2
          exact call_lenD pz s σ H _ us Q I r ⟨p, ws, rfl, h1, by rw [paired_len d1]; exact q0 _ (RU.int _)⟩
        · cases en
      · cases l1 : listOf' st v with
        | none => rw [l1] at en; cases en
        | some ys =>
          rw [l1] at en; cases en
          obtain ⟨p, ws, e1, h1, d1⟩ := RV.list' hs ra l1
          exact call_len pz s σ H _ us Q I r ⟨_, ws.length, rfl, by rw [e1]; exact .inl ⟨ws, h1, rfl⟩, by rw [paired_len d1]; exact q0 _ (RU.int _)⟩
  all_goals cases e
end
end MP
set_option maxHeartbeats 1200000
/-! Ev6: more built-ins, methods, stores by values. -/
namespace MP
open PySem PySem.Spec L2
/-! ### tuple(dict): the walk over the keys is the kit's (KE.KDictSum), the tuple's maker is walked here -/
section
variable {P0 : Program} {w0 : World} {B : Around} {Z : Value → Shared → Prop} {g : Shared} {m : Nat} {R : Nat → Value → Prop} {D D1 : Addr} {Ok : Heap → Prop}
/-- what the making of a tuple of m items leaves -/
def LeftT (g : Shared) (R : Nat → Value → Prop) (m : Nat) (Q : Value → Shared → Prop) : Prop :=
  ∀ (k : Heap) (c : Nat) (its : Array Value), (∀ a x, g.heap.get? a = some x → k.get? a = some x) →
    ItemsOf R its m → Q (.ref k.objs.size) { g with heap := k.push { cls := .type "tuple", data := .seq its }, toks := c }
theorem exact_made {Q : Value → Shared → Prop} {its : Array Value} (hz : its.size ≤ sizeLine)
    (h : Q (.ref g.heap.objs.size) { g with heap := g.heap.push { cls := .type "tuple", data := .seq its } }) :
    wpAny (model P0 w0) B (Builtin.Tuple.tupleExact its.toList.toArray) Q Z g := by
  rw [Array.toArray_toList]; unfold Builtin.Tuple.tupleExact
  exact wpAny_newObj_type h hz
theorem called_tupD {Q : Value → Shared → Prop} (K : PySem.W.KdlSrc P0 w0 "dict" D D1 m R Ok) (calm : B.handled = none) (ok : Ok g.heap) (few : m ≤ sizeLine) (left : LeftT g R m Q) :
    wpAny (model P0 w0) B (call (.type "tuple") [.ref D]) Q Z g := by
  have isD : g.TypeIs (.ref D) "dict" := K.type g ok
  have c1 : B.in1.in1.handled = none := calm
  have made : codeAny (model P0 w0) B.in1 (.call (.builtin "tuple.__new__") ⟨[.type "tuple", .ref D], []⟩)
      (wants (fun v g1 => g1.TypeIs v "tuple" ∧ Q v g1) Z) g :=
    codeAny_of_tree (wpAny_bind (wpAny_of_eq (F.newCall_tuple_1 _) (wpAny_pure ⟨plainId_quiet F.plain_tuple_new _,
      codeAny_builtin F.entry_tuple_new (by
        have x1 := sub_tuple_self; have x2 := init_tuple_lookup; have x3 := madeHere_tuple
        rw [show _ = _ from Around.under_plainId F.plain_tuple_new _]
        wp_walk using wpAny_typeOf isD, PySem.W.kdu_collect (A := B.in1.in1) K c1 ok few
        exact fun k c its hk hi => wpAny_bind (wpAny_pure (wpAny_bind (exact_made (by rw [hi.1]; exact few) (wpAny_pure ⟨⟨_, Heap.get?_push_size _ rfl, rfl⟩, left k c its hk hi⟩)))))⟩)))
  exact callType_codes F.called_tuple (F.typeCall_tuple_1 _) F.entry_object_init made
    fun v g1 x => ⟨x.1, F.args_object_init_2 v _, object_init_meets F.called_tuple.init.lookup F.called_tuple.made (by decide) P0 w0 B.in1 _ g1 ⟨x.1, rfl, x.2⟩⟩
end
theorem keyed {kvs : List (Key × V)} {vs : List (Key × Value)} (r : KV kvs vs) {its : List Value} (hl : its.length = kvs.length)
    (h : ∀ (j : Nat) (u : Value), its[j]? = some u → ∃ k y, vs[j]? = some (k, y) ∧ keyIs k u = true) : Vals (kvs.map fun kv => kV kv.1) its := by
  have ks := KV.keys r
  refine vals_of_at (by simp [hl]) fun j x u a b => ?_
  obtain ⟨k, y, c, d⟩ := h j u b
  have g := congrArg (fun l => l[j]?) ks
  simp only [List.getElem?_map, c, Option.map_some] at g
  simp only [List.getElem?_map] at a
  cases q : kvs[j]? with
  | none => rw [q] at a; cases a
  | some kv =>
    rw [q] at a g
    cases a
    obtain rfl : kv.1 = k := Option.some.inj g
    exact keyIs_rel d
theorem call_tupD {X : Cx} (hc : X.calm = true) : CallR X (.type "tuple") (fun xs H Q => ∃ p kvs, xs = [.ref p] ∧ H p = some (.dK kvs) ∧ TNew H (kvs.map fun kv => kV kv.1) Q) := by
  rintro pz s σ H _ us Q I r ⟨p, kvs, rfl, hk, q⟩
  obtain ⟨_, rfl, rfl⟩ := vals1 r
  obtain ⟨z, lo, vs, rk, hd⟩ := I.hok p _ hk
  obtain ⟨ep, at0⟩ := hd.dictAt
  have len : kvs.length = vs.length := Paired.length rk
  refine called_tupD (PySem.W.kdl_dict (knd := mixKind X.prog X.w) (kvs := vs) (ep := ep) lo) (I.ok.hd hc) at0 (by rw [← len]; exact z) fun k c its keep got => ?_
  have I1 : Inv X pz σ H { s with heap := k, toks := c } := I.kept keep
  have rv : Vals (kvs.map fun kv => kV kv.1) its.toList := by
    refine keyed rk (by simp [got.1, len]) fun j u e => ?_
    have ⟨k, y, a, b⟩ := got.2 j u (by rw [← Array.getElem?_toList]; exact e)
    exact ⟨k, y, a, b⟩
  simpa using tup_laid I1 rv (by rw [List.length_map]; exact z) q
section
variable {X : Cx}
section
variable {K : PySem.W.Frag} {F : AP} {φ : List Addr} {st : Sto} {H : Hp} {L : AP}
theorem bools_rw : ∀ {vs : List V} {xs : List W} {bs : List Bool}, RWs K L H φ vs xs → bools xs = some bs → vs = bs.map V.bl
  | _, _, _, .nil, e => by simp [bools] at e; subst e; rfl
  | _, _, _, .cons (b := w) a r, e => by
    cases w with
    | fz _ => cases e
    | ref _ => cases e
    | d x =>
      cases x with
      | bool b =>
        simp only [bools] at e
        cases q : bools _ with
        | none => rw [q] at e; nomatch e
        | some ds' => rw [q] at e; cases e; rw [List.map_cons, bools_rw r q, Den.bl_inv a]
      | _ => cases e
theorem ints_rw : ∀ {vs : List V} {xs : List W} {bs : List Int}, RWs K L H φ vs xs → intsOf xs = some bs → vs = bs.map V.int
  | _, _, _, .nil, e => by simp [intsOf] at e; subst e; rfl
  | _, _, _, .cons (b := w) a r, e => by
    cases w with
    | fz _ => cases e
    | ref _ => cases e
    | d x =>
      cases x with
      | int b =>
        simp only [intsOf] at e
        cases q : intsOf _ with
        | none => rw [q] at e; nomatch e
        | some ds' => rw [q] at e; cases e; rw [List.map_cons, ints_rw r q, Den.int_inv a]
      | _ => cases e
theorem strs_rw : ∀ {vs : List V} {xs : List W} {bs : List Str}, RWs K L H φ vs xs → strsOf xs = some bs → vs = bs.map V.str
  | _, _, _, .nil, e => by simp [strsOf] at e; subst e; rfl
  | _, _, _, .cons (b := w) a r, e => by
    cases w with
    | fz _ => cases e
    | ref _ => cases e
    | d x =>
      cases x with
      | str b =>
        simp only [strsOf] at e
        cases q : strsOf _ with
        | none => rw [q] at e; nomatch e
        | some ds' => rw [q] at e; cases e; rw [List.map_cons, strs_rw r q, Den.str_inv a]
      | _ => cases e
theorem maxI_ok : ∀ (l : List Int) (m : Int), (maxI m l ∈ m :: l) ∧ ∀ y ∈ m :: l, y ≤ maxI m l
  | [], m => by simp [maxI]
  | x :: r, m => by
    unfold maxI
    by_cases c : m < x
    · rw [if_pos c]
      obtain ⟨h1, h2⟩ := maxI_ok r x
      refine ⟨List.mem_cons_of_mem _ h1, fun y hy => ?_⟩
      rcases List.eq_or_mem_of_mem_cons hy with e | hy
      · have := h2 x (List.mem_cons_self ..); omega
      · exact h2 y hy
    · rw [if_neg c]
      obtain ⟨h1, h2⟩ := maxI_ok r m
      have hm := h2 m (List.mem_cons_self ..)
      refine ⟨?_, fun y hy => ?_⟩
      · obtain e | e := List.mem_cons.mp h1
        · rw [e]; exact List.mem_cons_self ..
        · exact List.mem_cons_of_mem _ (List.mem_cons_of_mem _ e)
      · rcases List.eq_or_mem_of_mem_cons hy with e | hy
        · omega
        · rcases List.eq_or_mem_of_mem_cons hy with e | hy
          · omega
          · exact h2 y (List.mem_cons_of_mem _ hy)
theorem minI_ok : ∀ (l : List Int) (m : Int), (minI m l ∈ m :: l) ∧ ∀ y ∈ m :: l, minI m l ≤ y
  | [], m => by simp [minI]
  | x :: r, m => by
    unfold minI
    by_cases c : x < m
    · rw [if_pos c]
      obtain ⟨h1, h2⟩ := minI_ok r x
      refine ⟨List.mem_cons_of_mem _ h1, fun y hy => ?_⟩
      rcases List.eq_or_mem_of_mem_cons hy with e | hy
      · have := h2 x (List.mem_cons_self ..); omega
      · exact h2 y hy
    · rw [if_neg c]
      obtain ⟨h1, h2⟩ := minI_ok r m
      have hm := h2 m (List.mem_cons_self ..)
      refine ⟨?_, fun y hy => ?_⟩
      · obtain e | e := List.mem_cons.mp h1
        · rw [e]; exact List.mem_cons_self ..
        · exact List.mem_cons_of_mem _ (List.mem_cons_of_mem _ e)
      · rcases List.eq_or_mem_of_mem_cons hy with e | hy
        · omega
        · rcases List.eq_or_mem_of_mem_cons hy with e | hy
          · omega
          · exact h2 y (List.mem_cons_of_mem _ hy)
theorem kv_keys : ∀ {ks : List (Key × V)} {ds : List (D × W)}, Paired (RKv K L H φ) ks ds → DenAll K L H (ks.map fun kv => kV kv.1) (ds.map (·.1))
  | _, _, .nil => .nil
  | _, _, .cons (a := p) (b := q) a r => by
    simp only [List.map_cons]
    refine .cons ?_ (kv_keys r)
    rw [a.1]
    cases p.1 with
    | inl i => exact .int i
    | inr x => exact .str x
end
theorem cb_abs : CallR X (.builtin "abs") (rBlt X.K .abs) := by
  intro pz s σ H xs us Q I r h
  obtain ⟨F, φ, st, vs, z, hs, rs, e, q⟩ := h
  unfold bltV at e
  split at e <;> try (cases ‹Blt.abs = _›)
  case h_2 v =>
    obtain ⟨x, rfl, ra⟩ := RVs.one rs
    cases en : int? v with
    | none => rw [en] at e; cases e
    | some n =>
      rw [en] at e; cases e
      rw [RV.int ra en] at r
      exact call_abs pz s σ H _ us Q I r ⟨_, rfl, q φ H _ (Step.refl hs) (RU.int _)⟩
  all_goals cases e
theorem cb_int : CallR X (.type "int") (rBlt X.K .int) := by
  intro pz s σ H xs us Q I r h
  obtain ⟨F, φ, st, vs, z, hs, rs, e, q⟩ := h
  have q0 := fun u => q φ H u (Step.refl hs)
  unfold bltV at e
  split at e <;> try (cases ‹Blt.int = _›)
  case h_3 =>
    cases e
    obtain ⟨x, rfl, ra⟩ := RVs.one rs
    rw [Den.int_inv ra] at r
    exact call_int1 pz s σ H _ us Q I r (.inl ⟨_, rfl, q0 _ (RU.int _)⟩)
  case h_4 =>
    cases e
    obtain ⟨x, rfl, ra⟩ := RVs.one rs
    rw [Den.bl_inv ra] at r
    exact call_int1 pz s σ H _ us Q I r (.inr ⟨_, rfl, q0 _ (RU.int _)⟩)
  all_goals cases e
theorem cb_str : CallR X (.type "str") (rBlt X.K .str) := by
  intro pz s σ H xs us Q I r h
  obtain ⟨F, φ, st, vs, z, hs, rs, e, q⟩ := h
  have q0 := fun u => q φ H u (Step.refl hs)
  unfold bltV at e
  split at e <;> try (cases ‹Blt.str = _›)
  case h_5 =>
    split at e
    · rename_i hz
      cases e
      obtain ⟨x, rfl, ra⟩ := RVs.one rs
      rw [Den.int_inv ra] at r
      exact call_str_int pz s σ H _ us Q I r ⟨_, rfl, hz, q0 _ (RU.str _)⟩
    · cases e
  case h_6 =>
    cases e
    obtain ⟨x, rfl, ra⟩ := RVs.one rs
    rw [Den.str_inv ra] at r
    exact SkE.call_str_str pz s σ H _ us Q I r ⟨_, rfl, q0 _ (RU.str _)⟩
  all_goals cases e
theorem cb_tuple (hc : X.calm = true) : CallR X (.type "tuple") (rBlt X.K .tuple) := by
  intro pz s σ H xs us Q I r h
  obtain ⟨F, φ, st, vs, z, hs, rs, e, q⟩ := h
  unfold bltV at e
  split at e <;> try (cases ‹Blt.tuple = _›)
  case h_7 =>
    cases e
    obtain ⟨x, rfl, ra⟩ := RVs.one rs
    obtain ⟨p, ws, e1, h1, d1⟩ := Den.tup_inv ra
    subst e1
    exact call_tuple_of pz s σ H _ us Q I r ⟨p, ws, rfl, .inr ⟨h1, q φ H _ (Step.refl hs) ra⟩⟩
  case h_8 => cases e
  case h_9 =>
    obtain ⟨x, rfl, ra⟩ := RVs.one rs
    obtain ⟨p, e1, e2⟩ := ra
    subst e2
    split at e
    · rename_i hi
      obtain ⟨ws, h1, d1⟩ := hs.cell _ p _ e1 hi
      cases qd : datas _ with
      | none => rw [qd] at e; cases e
      | some ds =>
        rw [qd] at e; cases e
        exact call_tupleN pz s σ H _ us Q I r ⟨p, ws, rfl, .inl ⟨.of h1, fun l o hl ho => q φ _ _ (Step.laid hs hl) (Den.tupNew hs hl ho (datas_rw d1 qd))⟩⟩
    · rename_i hi
      cases e
      obtain ⟨ks, h1, d1⟩ := hs.cell _ p _ e1 hi
      exact call_tupD hc pz s σ H _ us Q I r ⟨p, ks, rfl, h1, fun l o hl ho => q φ _ _ (Step.laid hs hl) (Den.tupNew hs hl ho (kv_keys d1))⟩
    · cases e
  case h_10 v _ _ _ =>
    obtain ⟨x, rfl, ra⟩ := RVs.one rs
    cases l1 : listOf' st v with
    | none => rw [l1] at e; cases e
    | some ys =>
      rw [l1] at e
      dsimp only [Option.bind_some] at e
      cases qd : datas ys with
      | none => rw [qd] at e; cases e
      | some ds =>
        rw [qd] at e; cases e
        obtain ⟨p, ws, e1, h1, d1⟩ := RV.list' hs ra l1
        subst e1
        exact call_tupleN pz s σ H _ us Q I r ⟨p, ws, rfl, .inl ⟨h1, fun l o hl ho => q φ _ _ (Step.laid hs hl) (Den.tupNew hs hl ho (datas_rw d1 qd))⟩⟩
  all_goals cases e
theorem cb_list : CallR X (.type "list") (rBlt X.K .list) := by
  intro pz s σ H xs us Q I r h
  obtain ⟨F, φ, st, vs, z, hs, rs, e, q⟩ := h
  unfold bltV at e
  split at e <;> try (cases ‹Blt.list = _›)
  case h_11 =>
    cases e
    obtain ⟨x, rfl, ra⟩ := RVs.one rs
    obtain ⟨p, ws, e1, h1, d1⟩ := Den.tup_inv ra
    subst e1
    exact call_list_of pz s σ H _ us Q I r ⟨p, ws, rfl, .inr h1, fun l hl => q φ _ _ (Step.laid hs hl) (RU.list hs hl (den_ds d1))⟩
  case h_12 v _ =>
    obtain ⟨x, rfl, ra⟩ := RVs.one rs
    cases l1 : listOf' st v with
    | none => rw [l1] at e; cases e
    | some ys =>
      rw [l1] at e; cases e
      obtain ⟨p, ws, e1, h1, d1⟩ := RV.list' hs ra l1
      subst e1
      exact call_list_of pz s σ H _ us Q I r ⟨p, ws, rfl, .inl h1, fun l hl => q φ _ _ (Step.laid hs hl) (RU.list hs hl d1)⟩
  all_goals cases e
/-- of a list, to a scalar -/
theorem cb_seq {b : Blt} {f : Value} {r : List V → Hp → VK → Prop} (ho : CallR X f r)
    (k : ∀ st vs z, bltV b st vs = some z → ∃ v xs sv, vs = [v] ∧ listOf st v = some xs ∧ (∀ (F : AP) (H : Hp) (φ : List Addr) (st : Sto), RU X.K F H φ st H sv z) ∧
      ∀ (L : AP) (H : Hp) (φ : List Addr) (p : Addr) (ws : List V) (Q : VK), H p = some (.lst ws) → RWs X.K L H φ ws xs → Q sv H → r [.ref p] H Q) : CallR X f (rBlt X.K b) := by
  intro pz s σ H xs us Q I rr h
  obtain ⟨F, φ, st, vs, z, hs, rs, e, q⟩ := h
  obtain ⟨v, ys, sv, rfl, l1, hsv, kk⟩ := k _ _ _ e
  obtain ⟨x, rfl, ra⟩ := RVs.one rs
  obtain ⟨p, ws, e1, h1, d1⟩ := RV.list hs ra l1
  subst e1
  exact ho pz s σ H _ us Q I rr (kk _ H φ p ws Q h1 d1 (q φ H _ (Step.refl hs) (hsv F H φ st)))
theorem cb_any (hc : X.calm = true) : CallR X (.builtin "any") (rBlt X.K .any) := cb_seq (cr_any hc) fun st vs z e => by
  unfold bltV at e
  split at e <;> try (cases ‹Blt.any = _›)
  case h_13 v =>
    cases l1 : listOf st v with
    | none => rw [l1] at e; cases e
    | some xs =>
      rw [l1] at e
      dsimp only [Option.bind_some] at e
      cases qb : bools xs with
      | none => rw [qb] at e; cases e
      | some bs =>
        rw [qb] at e; cases e
        refine ⟨v, xs, _, rfl, l1, fun F H φ st => RU.bl _, fun L H φ p ws Q hp d q => ⟨p, bs, rfl, ?_, q⟩⟩
        rw [← bools_rw d qb]
        exact .of hp
  all_goals cases e
theorem cb_all (hc : X.calm = true) : CallR X (.builtin "all") (rBlt X.K .all) := cb_seq (cr_all hc) fun st vs z e => by
  unfold bltV at e
  split at e <;> try (cases ‹Blt.all = _›)
  case h_14 v =>
    cases l1 : listOf st v with
    | none => rw [l1] at e; cases e
    | some xs =>
      rw [l1] at e
      dsimp only [Option.bind_some] at e
      cases qb : bools xs with
      | none => rw [qb] at e; cases e
      | some bs =>
        rw [qb] at e; cases e
        refine ⟨v, xs, _, rfl, l1, fun F H φ st => RU.bl _, fun L H φ p ws Q hp d q => ⟨p, bs, rfl, ?_, q⟩⟩
        rw [← bools_rw d qb]
        exact .of hp
  all_goals cases e
theorem cb_sum (hc : X.calm = true) : CallR X (.builtin "sum") (rBlt X.K .sum) := cb_seq (cr_sum hc) fun st vs z e => by
  unfold bltV at e
  split at e <;> try (cases ‹Blt.sum = _›)
  case h_15 v =>
    cases l1 : listOf st v with
    | none => rw [l1] at e; cases e
    | some xs =>
      rw [l1] at e
      dsimp only [Option.bind_some] at e
      cases qb : intsOf xs with
      | none => rw [qb] at e; cases e
      | some bs =>
        rw [qb] at e; cases e
        refine ⟨v, xs, _, rfl, l1, fun F H φ st => RU.int _, fun L H φ p ws Q hp d q => ⟨p, bs, rfl, ?_, q⟩⟩
        rw [← ints_rw d qb]
        exact .of hp
  all_goals cases e
theorem cb_max (hc : X.calm = true) : CallR X (.builtin "max") (rBlt X.K .max) := by
  intro pz s σ H xs us Q I rr h
  obtain ⟨F, φ, st, vs, z, hs, rs, e, q⟩ := h
  have q0 := fun u => q φ H u (Step.refl hs)
  unfold bltV at e
  split at e <;> try (cases ‹Blt.max = _›)
  case h_16 =>
    cases e
    obtain ⟨x, y, rfl, ra, rb⟩ := RVs.two rs
    rw [Den.int_inv ra, Den.int_inv rb] at rr
    exact call_max2 hc pz s σ H _ us Q I rr ⟨_, _, rfl, q0 _ (RU.int _)⟩
  case h_18 v =>
    obtain ⟨x, rfl, ra⟩ := RVs.one rs
    cases l1 : listOf st v with
    | none => rw [l1] at e; cases e
    | some ys =>
      rw [l1] at e
      dsimp only [Option.bind_some] at e
      cases qb : intsOf ys with
      | none => rw [qb] at e; cases e
      | some bs =>
        rw [qb] at e
        dsimp only [Option.bind_some] at e
        obtain ⟨p, ws, e1, h1, d1⟩ := RV.list hs ra l1
        subst e1
        cases bs with
        | nil => cases e
        | cons m t =>
          cases e
          obtain ⟨k1, k2⟩ := maxI_ok t m
          refine cr_max hc pz s σ H _ us Q I rr ⟨p, m :: t, rfl, ?_, by simp, fun n hn hy => ?_⟩
          · rw [← ints_rw d1 qb]; exact .of h1
          · have : n = maxI m t := Int.le_antisymm (k2 n hn) (hy _ k1)
            rw [this]
            exact q0 _ (RU.int _)
  all_goals cases e
theorem cb_min (hc : X.calm = true) : CallR X (.builtin "min") (rBlt X.K .min) := by
  intro pz s σ H xs us Q I rr h
  obtain ⟨F, φ, st, vs, z, hs, rs, e, q⟩ := h
  have q0 := fun u => q φ H u (Step.refl hs)
  unfold bltV at e
  split at e <;> try (cases ‹Blt.min = _›)
  case h_17 =>
    cases e
    obtain ⟨x, y, rfl, ra, rb⟩ := RVs.two rs
    rw [Den.int_inv ra, Den.int_inv rb] at rr
    exact call_min2 hc pz s σ H _ us Q I rr ⟨_, _, rfl, q0 _ (RU.int _)⟩
  case h_19 v =>
    obtain ⟨x, rfl, ra⟩ := RVs.one rs
    cases l1 : listOf st v with
    | none => rw [l1] at e; cases e
    | some ys =>
      rw [l1] at e
      dsimp only [Option.bind_some] at e
      cases qb : intsOf ys with
      | none => rw [qb] at e; cases e
      | some bs =>
        rw [qb] at e
        dsimp only [Option.bind_some] at e
        obtain ⟨p, ws, e1, h1, d1⟩ := RV.list hs ra l1
        subst e1
        cases bs with
        | nil => cases e
        | cons m t =>
          cases e
          obtain ⟨k1, k2⟩ := minI_ok t m
          refine cr_min hc pz s σ H _ us Q I rr ⟨p, m :: t, rfl, ?_, by simp, fun n hn hy => ?_⟩
          · rw [← ints_rw d1 qb]; exact .of h1
          · have : n = minI m t := Int.le_antisymm (hy _ k1) (k2 n hn)
            rw [this]
            exact q0 _ (RU.int _)
  all_goals cases e
/-! ### dict(pairs) -/
theorem pair_rw {K : PySem.W.Frag} {L : AP} {H : Hp} {φ : List Addr} {v : V} {w : W} {kw : D × W} (h : RW K L H φ v w) (e : pairD w = some kw) :
    ∃ (p : Addr) (kv : Key × V), v = .ref p ∧ SqT K H p [kV kv.1, kv.2] ∧ RKv K L H φ kv kw := by
  unfold pairD at e
  split at e
  · rename_i k x
    cases q : keyOf k with
    | none => rw [q] at e; nomatch e
    | some k' =>
      rw [q] at e; cases e
      obtain ⟨p, xs, e1, h1, d1⟩ := Den.tup_inv h
      cases d1 with
      | cons a d2 =>
        cases d2 with
        | cons b d3 =>
          cases d3
          obtain ⟨z1, z2⟩ := key_of_den a q
          subst z1
          exact ⟨p, (k', _), e1, h1, z2, b⟩
  · cases e
theorem pairs_rw {K : PySem.W.Frag} {L : AP} {H : Hp} {φ : List Addr} : ∀ {vs : List V} {xs : List W} {kvs : List (D × W)}, RWs K L H φ vs xs → pairsD xs = some kvs →
    ∃ (ps : List Addr) (ks : List (Key × V)), vs = ps.map V.ref ∧ Paired (fun p kv => SqT K H p [kV kv.1, kv.2]) ps ks ∧ Paired (RKv K L H φ) ks kvs
  | _, _, _, .nil, e => by simp [pairsD] at e; subst e; exact ⟨[], [], rfl, .nil, .nil⟩
  | _, _, _, .cons (b := w) a r, e => by
    unfold pairsD at e
    cases q1 : pairD w with
    | none => rw [q1] at e; cases e
    | some kw =>
      rw [q1] at e
      dsimp only [Option.bind_some] at e
      cases q2 : pairsD _ with
      | none => rw [q2] at e; cases e
      | some kws =>
        rw [q2] at e; cases e
        obtain ⟨p, kv, e1, h1, d1⟩ := pair_rw a q1
        obtain ⟨ps, ks, e2, h2, d2⟩ := pairs_rw r q2
        exact ⟨p :: ps, kv :: ks, by rw [e1, e2]; rfl, .cons h1 h2, .cons d1 d2⟩
theorem eqv_key (k k' : Key) : PyData.eqv (keyD k) (keyD k') = decide (k = k') := by
  cases k <;> cases k' <;> (unfold keyD PyData.eqv; first | exact (key_ll _ _).symm | (rw [key_rr]; exact (Bool.beq_eq_decide_eq _ _)) | exact (key_lr _ _).symm | exact (key_rl _ _).symm)
theorem put_any {K : PySem.W.Frag} {L : AP} {H : Hp} {φ : List Addr} {k : Key} : ∀ {ks : List (Key × V)} {kvs : List (D × W)}, Paired (RKv K L H φ) ks kvs → (kvs.any fun kv => PyData.eqv kv.1 (keyD k)) = ks.any fun kv => decide (kv.1 = k)
  | _, _, .nil => rfl
  | _, _, .cons (a := p) (b := q) a r => by
    rw [List.any_cons, List.any_cons, put_any r, a.1, eqv_key]
theorem put_map {K : PySem.W.Frag} {L : AP} {H : Hp} {φ : List Addr} {k : Key} {v : V} {w : W} (hv : RW K L H φ v w) : ∀ {ks : List (Key × V)} {kvs : List (D × W)}, Paired (RKv K L H φ) ks kvs →
    Paired (RKv K L H φ) (ks.map fun kv => if kv.1 = k then (kv.1, v) else kv) (kvs.map fun kv => if PyData.eqv kv.1 (keyD k) = true then (kv.1, w) else kv)
  | _, _, .nil => .nil
  | _, _, .cons (a := p) (b := q) a r => by
    simp only [List.map_cons]
    refine .cons ?_ (put_map hv r)
    have e : PyData.eqv q.1 (keyD k) = decide (p.1 = k) := by rw [a.1, eqv_key]
    rw [e]
    by_cases c : p.1 = k
    · rw [if_pos c, if_pos (decide_eq_true c)]
      exact ⟨a.1, hv⟩
    · rw [if_neg c, if_neg (by rw [decide_eq_false c]; simp)]
      exact a
theorem put_rw {K : PySem.W.Frag} {L : AP} {H : Hp} {φ : List Addr} {k : Key} {v : V} {w : W} (hv : RW K L H φ v w) {ks : List (Key × V)} {kvs : List (D × W)} (r : Paired (RKv K L H φ) ks kvs) : Paired (RKv K L H φ) (putK ks k v) (putD kvs (keyD k) w) := by
  unfold putK putD
  rw [put_any r]
  split
  · exact put_map hv r
  · exact paired_app r (.cons ⟨rfl, hv⟩ .nil)
theorem merge_rw {K : PySem.W.Frag} {L : AP} {H : Hp} {φ : List Addr} : ∀ {ks : List (Key × V)} {kvs : List (D × W)} {ks0 : List (Key × V)} {kvs0 : List (D × W)}, Paired (RKv K L H φ) ks kvs → Paired (RKv K L H φ) ks0 kvs0 → Paired (RKv K L H φ) (mergeK ks0 ks) (mergeD kvs0 kvs)
  | _, _, _, _, .nil, h => h
  | _, _, _, _, .cons (a := p) (b := q) a r, h => by
    unfold mergeK mergeD
    simp only [List.foldl_cons]
    rw [a.1]
    exact merge_rw r (put_rw a.2 h)
theorem cb_dict (hc : X.calm = true) : CallR X (.type "dict") (rBlt X.K .dict) := by
  intro pz s σ H xs us Q I rr h
  obtain ⟨F, φ, st, vs, z, hs, rs, e, q⟩ := h
  unfold bltV at e
  split at e <;> try (cases ‹Blt.dict = _›)
  case h_23 ys =>
    obtain ⟨x, rfl, ra⟩ := RVs.one rs
    cases qb : pairsD (ys.map W.d) with
    | none => rw [qb] at e; cases e
    | some kvs =>
      rw [qb] at e; cases e
      obtain ⟨p, ws, e1, h1, d1⟩ := Den.tupN_inv ra
      subst e1
      obtain ⟨ps, ks, e2, h2, d2⟩ := pairs_rw (φ := φ) (den_ds d1) qb
      subst e2
      exact call_dictN hc pz s σ H _ us Q I rr ⟨p, ps, ks, rfl, h1, h2, fun l hl => q φ _ _ (Step.laid hs hl) (RU.dict hs hl (merge_rw d2 .nil))⟩
  case h_24 v _ =>
    obtain ⟨x, rfl, ra⟩ := RVs.one rs
    cases l1 : listOf st v with
    | none => rw [l1] at e; cases e
    | some ys =>
      rw [l1] at e
      dsimp only [Option.bind_some] at e
      cases qb : pairsD ys with
      | none => rw [qb] at e; cases e
      | some kvs =>
        rw [qb] at e; cases e
        obtain ⟨p, ws, e1, h1, d1⟩ := RV.list hs ra l1
        subst e1
        obtain ⟨ps, ks, e2, h2, d2⟩ := pairs_rw d1 qb
        subst e2
        exact call_dictP hc pz s σ H _ us Q I rr ⟨p, ps, ks, rfl, .of h1, h2, fun l hl => q φ _ _ (Step.laid hs hl) (RU.dict hs hl (merge_rw d2 .nil))⟩
  all_goals cases e
/-! ### isinstance -/
def tyV' : Ty → V
  | .int => .ty "int" | .str => .ty "str" | .bool => .ty "bool" | .tuple => .ty "tuple" | .list => .ty "list" | .dict => .ty "dict"
def tyL : Ty → Value
  | .int => .type "int" | .str => .type "str" | .bool => .type "bool" | .tuple => .type "tuple" | .list => .type "list" | .dict => .type "dict"
theorem ty_cls (t : Ty) : ClsV (tyV' t) (tyL t) := by cases t <;> exact .ty _
def tyR : Ty → Value := tyL
theorem tyx_of {K : PySem.W.Frag} {F : AP} {φ : List Addr} {st : Sto} {H : Hp} {x : V} {a : Val} {t : Ty} (hs : SC K F φ st H) (ra : RV K F φ st H x a) (e : tyOf st a = some t) : TyX K H x (tyL t) := by
  unfold tyOf at e
  split at e
  · cases e; rw [Den.int_inv ra]; exact .base (.int _)
  · cases e; rw [Den.str_inv ra]; exact .base (.str _)
  · cases e; rw [Den.bl_inv ra]; exact .base (.bl _)
  · cases e
    obtain ⟨p, xs, e1, h1, _⟩ := Den.tup_inv ra
    subst e1
    rcases h1 with (h1 | ⟨o, h1⟩) | ⟨o, its, n, h1, h2, _⟩
    · exact .base (.tup h1)
    · exact .fTuple h1
    · exact .kTuple h1 h2
  · cases e
    obtain ⟨p, xs, e1, h1, _⟩ := Den.lst_inv ra
    subst e1
    exact .base (.lst h1)
  · cases e
    obtain ⟨p, xs, e1, h1, _⟩ := Den.dct_inv ra
    subst e1
    exact .base (.dK h1)
  · cases e
    obtain ⟨p, xs, e1, h1, _⟩ := ra
    subst e1
    rcases h1 with ⟨o, h1⟩ | ⟨o, its, n, h1, h2, _⟩
    · exact .base (.frz h1)
    · exact .kList h1 h2
  · obtain ⟨p, e1, e2⟩ := ra
    subst e2
    split at e
    · rename_i hi
      cases e
      obtain ⟨ws, h1, _⟩ := hs.cell _ p _ e1 hi
      exact .base (.lst h1)
    · rename_i hi
      cases e
      obtain ⟨ws, h1, _⟩ := hs.cell _ p _ e1 hi
      exact .base (.dK h1)
    · cases e
  · cases e
    obtain ⟨p, xs, e1, h1, _⟩ := ra
    subst e1
    exact .base (.lst h1)
  · cases e
    obtain ⟨p, xs, e1, h1, _⟩ := ra
    subst e1
    exact .base (.dK h1)
  · cases e
theorem kit_ty (K : PySem.W.Frag) : ∀ u t : Ty, PySem.W.kitOne K (tyL u) (tyL t) = some (match u, t with | .bool, .int => true | u, t => u == t) := by
  intro u t
  cases u <;> cases t <;> (first | rfl | decide +kernel | kernel_rfl)
theorem kit_non (K : PySem.W.Frag) : ∀ t : Ty, PySem.W.kitOne K (.type "NoneType") (tyL t) = some false := by
  intro t
  cases t <;> (first | rfl | decide +kernel | kernel_rfl)
theorem ci_one {pz : List (Addr × Obj)} {s : Shared} {σ : L2.St} {H : Hp} {x : V} {us : List Value} {Q : VK} {F : AP} {φ : List Addr} {st : Sto} {a : Val} {t : Ty} {b : Bool} (I : Inv X pz σ H s) (r : Vals [x, tyV' t] us) (hs : SC X.K F φ st H)
    (ra : RV X.K F φ st H x a) (e : isTy st a t = some b) (q : Q (.bl b) H) : wpAny (model X.prog X.w) X.A (call (.builtin "isinstance") us) (EP X pz σ Q) X.xe s := by
  unfold isTy at e
  split at e
  · cases e
    rw [Den.non_inv ra] at r
    exact call_isi pz s σ H _ us Q I r ⟨_, _, _, _, _, rfl, ty_cls t, .base .non, kit_non X.K t, q⟩
  · cases q1 : tyOf st a with
    | none => rw [q1] at e; cases e
    | some u =>
      rw [q1] at e
      have e' : some _ = some b := e
      cases e'
      exact call_isi pz s σ H _ us Q I r ⟨_, _, _, _, _, rfl, ty_cls t, tyx_of hs ra q1, kit_ty X.K u t, q⟩
end
end MP
set_option maxHeartbeats 1200000
/-! Ev7: methods, stores, what is walked. -/
namespace MP
open PySem PySem.Spec L2
section
variable {X : Cx}
def rMth (K : PySem.W.Frag) (m : Mth) : V → List V → Hp → VK → Prop := fun x xs H Q => ∃ F φ st o vs r st', SC K F φ st H ∧ RV K F φ st H x o ∧ RVs K F φ st H xs vs ∧ mthV m st o vs = some (r, st') ∧
  ∀ φ' H' u, Step K F φ st H φ' st' H' → RU K F H φ' st' H' u r → Q u H'
theorem paired_last {α β : Type} {P : α → β → Prop} : ∀ {xs : List α} {ys : List β}, Paired P xs ys → Paired P xs.dropLast ys.dropLast
  | _, _, .nil => .nil
  | _, _, .cons _ .nil => .nil
  | _, _, .cons a (.cons b r) => .cons a (paired_last (.cons b r))
theorem mm_append : MtR X "list.append" (rMth X.K .append) := by
  intro pz s σ H x xs v us Q I rx rs h
  obtain ⟨F, φ, st, o, vs, r, st', hs, ro, ra, e, q⟩ := h
  unfold mthV at e
  split at e <;> try (cases ‹Mth.append = _›)
  case h_1 i w =>
    split at e
    · rename_i ys hi
      split at e
      · rename_i hz
        cases e
        obtain ⟨a, e1, e2⟩ := ro
        subst e2
        obtain ⟨y, rfl, ry⟩ := RVs.one ra
        obtain ⟨ws, h1, d1⟩ := hs.cell _ a _ e1 hi
        have lv : Or2 F (Live φ st) a := .inr ⟨i, _, e1, hi, by intro z; cases z⟩
        refine mt_append pz s σ H _ _ v us Q I rx rs ⟨a, ws, y, rfl, rfl, h1, by rw [line_is, paired_len d1]; exact hz, q φ _ _ (hs.write e1 hi (by intro z; cases z) (by intro z; cases z) trivial ⟨_, upd_same, ?_⟩) (RU.non (K := X.K))⟩
        exact paired_app (paired_imp (fun _ _ z => RW.way (way_write lv) hs.cells ⟨[], by simp⟩ z) d1) (.cons (RW.way (way_write lv) hs.cells ⟨[], by simp⟩ ry) .nil)
      · cases e
    · cases e
  all_goals cases e
theorem mm_pop : MtR X "list.pop" (rMth X.K .pop) := by
  intro pz s σ H x xs v us Q I rx rs h
  obtain ⟨F, φ, st, o, vs, r, st', hs, ro, ra, e, q⟩ := h
  unfold mthV at e
  split at e <;> try (cases ‹Mth.pop = _›)
  case h_2 i =>
    split at e
    · rename_i ys hi
      cases ql : ys.getLast? with
      | none => rw [ql] at e; cases e
      | some y =>
        rw [ql] at e
        cases e
        obtain ⟨a, e1, e2⟩ := ro
        subst e2
        cases ra
        obtain ⟨ws, h1, d1⟩ := hs.cell _ a _ e1 hi
        have lv : Or2 F (Live φ st) a := .inr ⟨i, _, e1, hi, by intro z; cases z⟩
        rw [List.getLast?_eq_getElem?] at ql
        obtain ⟨u, hu, ru⟩ := paired_get d1 ql
        refine mt_pop pz s σ H _ _ v us Q I rx rs ⟨a, ws, u, rfl, rfl, h1, by rw [paired_len d1]; exact hu, ?_⟩
        have stp : Step X.K F φ st H φ (st.set i (.lst ys.dropLast)) (upd H a (.lst ws.dropLast)) :=
          hs.write e1 hi (by intro z; cases z) (by intro z; cases z) trivial ⟨_, upd_same, paired_imp (fun _ _ z => RW.way (way_write lv) hs.cells ⟨[], by simp⟩ z) (paired_last d1)⟩
        exact q φ _ _ stp (stp.rw hs ru)
    · cases e
  case h_3 i =>
    split at e
    · rename_i y ys hi
      cases e
      obtain ⟨a, e1, e2⟩ := ro
      subst e2
      obtain ⟨y0, rfl, ry⟩ := RVs.one ra
      have ei := Den.int_inv ry
      subst ei
      obtain ⟨ws, h1, d1⟩ := hs.cell _ a _ e1 hi
      have lv : Or2 F (Live φ st) a := .inr ⟨i, _, e1, hi, by intro z; cases z⟩
      cases d1 with
      | @cons u _ us' _ ru d1 =>
        refine mt_popAt pz s σ H _ _ v us Q I rx rs ⟨a, u :: us', 0, 0, u, rfl, rfl, h1, by decide, by decide, ?_, rfl, ?_⟩
        · have hz : ¬ ((us'.length : Int) + 1 ≤ 0) := by omega
          simp [seqIndex?, hz]
        · have stp : Step X.K F φ st H φ (st.set i (.lst ys)) (upd H a (.lst us')) :=
            hs.write e1 hi (by intro z; cases z) (by intro z; cases z) trivial ⟨_, upd_same, paired_imp (fun _ _ z => RW.way (way_write lv) hs.cells ⟨[], by simp⟩ z) d1⟩
          exact q φ _ _ stp (stp.rw hs ru)
    · cases e
  all_goals cases e
theorem mm_join : MtR X "str.join" (rMth X.K .join) := by
  intro pz s σ H x xs v us Q I rx rs h
  obtain ⟨F, φ, st, o, vs, r, st', hs, ro, ra, e, q⟩ := h
  unfold mthV at e
  split at e <;> try (cases ‹Mth.join = _›)
  case h_7 a w =>
    cases l1 : listOf st w with
    | none => rw [l1] at e; cases e
    | some zs =>
      rw [l1] at e
      dsimp only [Option.bind_some] at e
      cases q1 : strsOf zs with
      | none => rw [q1] at e; cases e
      | some ys =>
        rw [q1] at e
        dsimp only [Option.bind_some] at e
        split at e
        · rename_i hz
          cases e
          obtain ⟨y, rfl, ry⟩ := RVs.one ra
          obtain ⟨p, ws, e2, h2, d2⟩ := RV.list hs ry l1
          subst e2
          have e3 := strs_rw d2 q1
          subst e3
          rw [Den.str_inv ro] at rx
          exact mt_join pz s σ H _ _ v us Q I rx rs ⟨_, p, ys, rfl, rfl, .inl (.of h2), hz, q φ H _ (Step.refl hs) (RU.str _)⟩
        · cases e
  all_goals cases e
/-- nothing to replace -/
theorem mm_replace : MtR X "str.replace" (rMth X.K .replace) := by
  intro pz s σ H x xs v us Q I rx rs h
  obtain ⟨F, φ, st, o, vs, r, st', hs, ro, ra, e, q⟩ := h
  unfold mthV at e
  split at e <;> try (cases ‹Mth.replace = _›)
  case h_8 a b c =>
    split at e
    · rename_i hz
      cases e
      obtain ⟨y, z, rfl, ry, rz⟩ := RVs.two ra
      rw [Den.str_inv ro] at rx
      rw [Den.str_inv ry, Den.str_inv rz] at rs
      obtain ⟨t, rfl⟩ := rx
      cases rs with
      | cons r1 rs =>
        cases rs with
        | cons r2 rs =>
          cases rs
          obtain ⟨t1, rfl⟩ := r1
          obtain ⟨t2, rfl⟩ := r2
          have hc : ((Builtin.Str.occurrences a b 0 a.length (a.length + 1)).isEmpty || (b.length == 0 && c.length == 0)) = true := by rw [hz]; rfl
          refine PySem.call_gives PySem.F.slot_str_replace (typeIs_str _ _ _) PySem.F.entry_str_replace (PySem.F.args_str_replace_3 _ _ _) (PySem.gives_str_replace a b c t t1 t2 fun z => by rw [hc] at z; cases z) ?_
          rw [if_pos hc]
          exact ⟨.str a, H, I, ⟨t, rfl⟩, q φ H _ (Step.refl hs) (RU.str _)⟩
    · cases e
  all_goals cases e
theorem strs_rws {K : PySem.W.Frag} {L : AP} {H : Hp} {φ : List Addr} : ∀ ys : List Str, RWs K L H φ (ys.map V.str) (ys.map fun z => W.d (.str z))
  | [] => .nil
  | y :: ys => .cons (Den.str y) (strs_rws ys)
theorem mm_split : MtR X "str.split" (rMth X.K .split) := by
  intro pz s σ H x xs v us Q I rx rs h
  obtain ⟨F, φ, st, o, vs, r, st', hs, ro, ra, e, q⟩ := h
  unfold mthV at e
  split at e <;> try (cases ‹Mth.split = _›)
  case h_9 a b =>
    split at e
    · rename_i hz
      cases e
      obtain ⟨y, rfl, ry⟩ := RVs.one ra
      rw [Den.str_inv ro] at rx
      rw [Den.str_inv ry] at rs
      refine mt_split pz s σ H _ _ v us Q I rx rs ⟨a, b, rfl, rfl, hz.1, by rw [line_is]; exact hz.2, fun p hp => ?_⟩
      exact q φ _ _ (Step.laid hs hp) (RU.weak (fun a n => n) (RU.list hs hp (strs_rws _)))
    · cases e
  all_goals cases e
/-! ### o[i] = v -/
def rSet (K : PySem.W.Frag) : TSet := fun o i v H Q => ∃ F φ st a b w st', SC K F φ st H ∧ RV K F φ st H o a ∧ RV K F φ st H i b ∧ RW K (Or2 F (Live φ st)) H φ v w ∧ setCell st a b w = some st' ∧ ∀ H', Step K F φ st H φ st' H' → Q H'
theorem set_any (hu : X.A.units + 1 < cLine) : PSet X (rSet X.K) := by
  intro pz s σ H o i v ov iv u Q I ro ri rv h
  obtain ⟨F, φ, st, a, b, w, st', hs, ra, rb, rw', e, q⟩ := h
  unfold setCell at e
  split at e
  · rename_i r
    obtain ⟨p, e1, e2⟩ := ra
    subst e2
    split at e
    · rename_i xs hi
      cases ei : int? b with
      | none => rw [ei] at e; cases e
      | some k =>
        rw [ei] at e
        dsimp only [Option.bind_some] at e
        cases ej : ixN xs.length k with
        | none => rw [ej] at e; cases e
        | some j =>
          rw [ej] at e
          cases e
          obtain ⟨ws, h1, d1⟩ := hs.cell _ p _ e1 hi
          have lv : Or2 F (Live φ st) p := .inr ⟨r, _, e1, hi, by intro z; cases z⟩
          have e3 := RV.int rb ei
          subst e3
          exact set_list pz s σ H _ _ v ov iv u Q I ro ri rv ⟨p, ws, k, j, rfl, rfl, h1, by rw [paired_len d1]; exact ej,
            q _ (hs.write e1 hi (by intro z; cases z) (by intro z; cases z) trivial ⟨_, upd_same, paired_set (RW.way (way_write lv) hs.cells ⟨[], by simp⟩ rw') j (paired_imp (fun _ _ z => RW.way (way_write lv) hs.cells ⟨[], by simp⟩ z) d1)⟩)⟩
    · rename_i kvs hi
      cases ed : dataOf st b with
      | none => rw [ed] at e; cases e
      | some d =>
        rw [ed] at e
        dsimp only [Option.bind_some] at e
        cases ek : keyOf d with
        | none => rw [ek] at e; cases e
        | some k =>
          rw [ek] at e
          dsimp only [Option.bind_some] at e
          split at e
          · rename_i hz
            cases e
            obtain ⟨ks, h1, d1⟩ := hs.cell _ p _ e1 hi
            have lv : Or2 F (Live φ st) p := .inr ⟨r, _, e1, hi, by intro z; cases z⟩
            obtain ⟨L1, n1⟩ := RV.data hs rb ed
            obtain ⟨z1, z2⟩ := key_of_den n1 ek
            subst z1 z2
            exact set_dict hu pz s σ H _ _ v ov iv u Q I ro ri rv ⟨p, _, rfl, DPut.k h1 (by rw [line_is, paired_len d1]; exact hz),
              q _ (hs.write e1 hi (by intro z; cases z) (by intro z; cases z) trivial ⟨_, upd_same, put_rw (RW.way (way_write lv) hs.cells ⟨[], by simp⟩ rw') (paired_imp (fun _ _ z => ⟨z.1, RW.way (way_write lv) hs.cells ⟨[], by simp⟩ z.2⟩) d1)⟩)⟩
          · cases e
    · cases e
  · cases e
end
/-! ### what is walked -/
structure ItOk (K : PySem.W.Frag) (wk : Bool) (L : AP) (H : Hp) (φ : List Addr) (xs : List W) (J : It) : Prop where
  go : ∀ L2 H2, Way L H L2 H2 → ∀ i, i < xs.length → J.go i H2
  stop : ∀ L2 H2, Way L H L2 H2 → ∀ i, xs.length ≤ i → J.stop i H2
  yld : ∀ L2 H2, Way L H L2 H2 → ∀ i v H3, J.yld i H2 v H3 → i < xs.length → ∃ x, xs[i]? = some x ∧
    ((H3 = H2 ∧ RW K L2 H2 φ v x) ∨ wk = true ∧ ∃ p vs ds, H2 p = none ∧ H3 = upd H2 p (.tup vs) ∧ v = .ref p ∧ x = .d (.tuple ds) ∧ DenAll K L2 H2 vs ds)
def ItxOk (K : PySem.W.Frag) (wk : Bool) (L : AP) (H : Hp) (φ : List Addr) (J : It) : Itx → Prop
  | .items xs => ItOk K wk L H φ xs J
  | .live r => ∃ a, φ[r]? = some a ∧ J = Itl K a
def tSrc (K : PySem.W.Frag) (P : Par) (C : CE) (s : Src) : TI := fun σ H R => ∃ F φ st δ, SC K F φ st H ∧ Sl K F φ st H δ σ ∧
  Post K F (exOf P.XR P.W σ) φ st H (evSrc C s δ st) fun it φ' st' H' => ∀ J, ItxOk K s.isW (Or2 F (Live φ' st')) H' φ' J it → R J H'
section
variable {K : PySem.W.Frag} {wk : Bool} {L : AP} {H : Hp} {φ : List Addr}
theorem ok_lst {a : Addr} {vs : List V} {xs : List W} (c : Cells L H) (h : H a = some (.lst vs)) (n : ¬ L a) (d : RWs K L H φ vs xs) : ItOk K wk L H φ xs (Itl K a) where
  go := fun L2 H2 w i hi => by
    have e := (w.keep a _ h n).1
    have hl := paired_len d
    exact ⟨vs, vs[i]'(by omega), .of e, by simp⟩
  stop := fun L2 H2 w i hi => ⟨vs, .of (w.keep a _ h n).1, by rw [paired_len d]; exact hi⟩
  yld := fun L2 H2 w i v H3 y hi => by
    obtain ⟨e, y⟩ := y
    subst e
    have e := (w.keep a _ h n).1
    have q := y vs (.of e)
    obtain ⟨u, hu, ru⟩ := paired_get d (List.getElem?_eq_getElem hi)
    rw [q] at hu; cases hu
    exact ⟨_, List.getElem?_eq_getElem hi, .inl ⟨rfl, RW.way w c ⟨[], by simp⟩ ru⟩⟩
theorem ok_fz {a : Addr} {vs : List V} {xs : List D} (c : Cells L H) (h : SqF K H a vs) (d : DenAll K L H vs xs) : ItOk K wk L H φ (xs.map W.d) (Itl K a) where
  go := fun L2 H2 w i hi => by
    have e := (SqF.way w c h).sq
    have hl := d.length
    rw [List.length_map] at hi
    exact ⟨vs, vs[i]'(by omega), e, by simp⟩
  stop := fun L2 H2 w i hi => ⟨vs, (SqF.way w c h).sq, by rw [d.length]; rw [List.length_map] at hi; exact hi⟩
  yld := fun L2 H2 w i v H3 y hi => by
    obtain ⟨e, y⟩ := y
    subst e
    have q := y vs (SqF.way w c h).sq
    rw [List.length_map] at hi
    obtain ⟨u, hu, ru⟩ := d.get (List.getElem?_eq_getElem hi)
    rw [q] at hu; cases hu
    exact ⟨.d xs[i], by rw [List.getElem?_map, List.getElem?_eq_getElem hi]; rfl, .inl ⟨rfl, Den.way w c ru⟩⟩
theorem ok_tup {a : Addr} {vs : List V} {xs : List D} (c : Cells L H) (h : SqT K H a vs) (d : DenAll K L H vs xs) : ItOk K wk L H φ (xs.map W.d) (Itt K a) where
  go := fun L2 H2 w i hi => by
    have e := SqT.way w c h
    have hl := d.length
    rw [List.length_map] at hi
    exact ⟨vs, vs[i]'(by omega), e, by simp⟩
  stop := fun L2 H2 w i hi => ⟨vs, SqT.way w c h, by rw [d.length]; rw [List.length_map] at hi; exact hi⟩
  yld := fun L2 H2 w i v H3 y hi => by
    obtain ⟨e, y⟩ := y
    subst e
    have q := y vs (SqT.way w c h)
    rw [List.length_map] at hi
    obtain ⟨u, hu, ru⟩ := d.get (List.getElem?_eq_getElem hi)
    rw [q] at hu; cases hu
    exact ⟨.d xs[i], by rw [List.getElem?_map, List.getElem?_eq_getElem hi]; rfl, .inl ⟨rfl, Den.way w c ru⟩⟩
theorem ok_str (z : Str) : ItOk K wk L H φ (z.cps.toList.map fun c => W.d (.str ⟨#[c]⟩)) (Its z) where
  go := fun L2 H2 w i hi => by show i < z.cps.size; simpa using hi
  stop := fun L2 H2 w i hi => by show z.cps.size ≤ i; simpa using hi
  yld := fun L2 H2 w i v H3 y hi => by
    obtain ⟨e, c, hc, ev⟩ := y
    subst e; subst ev
    exact ⟨.d (.str ⟨#[c]⟩), by simp [hc], .inl ⟨rfl, Den.str _⟩⟩
theorem ok_rng (lo : Int) (n : Nat) (xs : List W) (h : xs = (List.range n).map fun (k : Nat) => W.d (.int (lo + (k : Int)))) : ItOk K wk L H φ xs (L2.Itr lo n) where
  go := fun L2 H2 w i hi => by rw [h] at hi; show i < n; simpa using hi
  stop := fun L2 H2 w i hi => by rw [h] at hi; show n ≤ i; simpa using hi
  yld := fun L2 H2 w i v H3 y hi => by
    obtain ⟨e, ev⟩ := y
    subst e; subst ev
    rw [h] at hi ⊢
    have hi' : i < n := by simpa using hi
    exact ⟨.d (.int (lo + (i : Int))), by simp [hi'], .inl ⟨rfl, Den.int _⟩⟩
end
section
variable {X : Cx} {tg : Expr}
/-- a list, a tuple or a text -/
theorem pi_any {l : Expr} {tl : TE} (hl : PE X l tl) : PI X tg l (fun σ H R => tl σ H fun x H1 => (∃ a, x = .ref a ∧ (∃ xs, SqL X.K H1 a xs) ∧ R (Itl X.K a) H1) ∨ (∃ a, x = .ref a ∧ (∃ xs, SqT X.K H1 a xs) ∧ R (Itt X.K a) H1) ∨ ∃ z, x = .str z ∧ R (Its z) H1) := by
  refine ⟨fun pz s σ H R I h => ?_⟩
  refine thn (hl.run pz s σ H _ I h) fun v s1 ⟨x, H1, I1, r1, q1⟩ => ?_
  rcases q1 with ⟨a, e, ⟨xs, hq⟩, q⟩ | ⟨a, e, ⟨xs, hq⟩, q⟩ | ⟨z, e, q⟩
  · subst e
    cases r1
    have ⟨its, rv, p, hz⟩ := I1.list hq
    exact wpAny_pyIter_list p.isList (pi_one (tk := s1.toks) I1 _ (turn_list a _) ⟨_, Heap.get?_push_size _ rfl, rfl, rfl⟩ q)
  · subst e
    cases r1
    have ⟨its, rv, p, hz⟩ := I1.tuple hq
    exact wpAny_pyIter_tuple (show s1.heap.IsTuple a its.toArray from p) (pi_one (tk := s1.toks) I1 _ (turn_tuple a _) ⟨_, Heap.get?_push_size _ rfl, rfl, rfl⟩ q)
  · subst e
    obtain ⟨t, rfl⟩ := r1
    cases ha : z.cps.all (· < 128)
    · exact wpAny_pyIter_wide ha (pi_one (tk := s1.toks) I1 _ (turn_str _ z t "str_iterator" (.inr rfl)) ⟨_, Heap.get?_push_size _ rfl, rfl, rfl⟩ q)
    · exact wpAny_pyIter_ascii ha (pi_one (tk := s1.toks) I1 _ (turn_str _ z t "str_ascii_iterator" (.inl rfl)) ⟨_, Heap.get?_push_size _ rfl, rfl, rfl⟩ q)
theorem pi_weak {l : Expr} {t t' : TI} (h : PI X tg l t) (k : ∀ σ H R, t' σ H R → t σ H R) : PI X tg l t' := ⟨fun pz s σ H R I q => h.run pz s σ H R I (k σ H R q)⟩
theorem src_it {P : Par} {C : CE} {l : Expr} {e : E} (hl : PE X l (tE X.K P C e)) : PI X tg l (tSrc X.K P C (.it e)) := pi_weak (pi_any hl) fun σ H R ⟨F, φ, st, δ, s, d, h⟩ => by
  refine ⟨F, φ, st, δ, s, d, (Post.bind (by simpa only [evSrc] using h)).imp fun v φ1 st1 H1 t1 h1 u ru => ?_⟩
  obtain ⟨it, e1, h2⟩ := h1.lift
  have s1 := t1.sc
  have hR := h2 φ1 H1 (Step.refl s1)
  have rv := ru.rv s1 fun a f => s.fo a f
  unfold itOf at e1
  split at e1
  · split at e1
    · rename_i hi
      cases e1
      obtain ⟨a, e2, e3⟩ := rv
      obtain ⟨ws, h3, d3⟩ := s1.cell _ a _ e2 hi
      exact .inl ⟨a, e3, ⟨ws, .of h3⟩, hR _ ⟨a, e2, rfl⟩⟩
    · cases e1
  · cases e1
    obtain ⟨a, vs, e3, h3, d3⟩ := Den.tup_inv rv
    exact .inr (.inl ⟨a, e3, ⟨vs, h3⟩, hR _ (ok_tup s1.cells h3 d3)⟩)
  · cases e1
    exact .inr (.inr ⟨_, Den.str_inv rv, hR _ (ok_str _)⟩)
  · rename_i w _ _ _
    cases l1 : listOf' st1 v with
    | none => rw [l1] at e1; cases e1
    | some ys =>
      rw [l1] at e1; cases e1
      unfold listOf' at l1
      split at l1
      · cases l1
        obtain ⟨a, vs, e3, h3, d3⟩ := rv
        exact .inl ⟨a, e3, ⟨vs, h3.sq⟩, hR _ (ok_fz s1.cells h3 d3)⟩
      · unfold listOf at l1
        split at l1
        · cases l1
          cases rv with
          | lst h3 n3 d3 => exact .inl ⟨_, rfl, ⟨_, .of h3⟩, hR _ (ok_lst s1.cells h3 n3 (den_ds d3))⟩
        · rename_i k _ hn _ _ _
          exact (hn _ rfl).elim
        · cases l1
          obtain ⟨a, vs, e3, h3, n3, d3⟩ := rv
          exact .inl ⟨a, e3, ⟨vs, .of h3⟩, hR _ (ok_lst s1.cells h3 n3 d3)⟩
        · cases l1
end
/-- a row that nobody changes -/
def SqD (K : PySem.W.Frag) (L : AP) (H : Hp) (v : V) (d : Bool × List D) : Prop :=
  ∃ a vs, v = .ref a ∧ DenAll K L H vs d.2 ∧ ((d.1 = true ∧ ∀ L2 H2, Way L H L2 H2 → SqT K H2 a vs) ∨ (d.1 = false ∧ ∀ L2 H2, Way L H L2 H2 → SqL K H2 a vs))
theorem RV.seq {K : PySem.W.Frag} {F : AP} {φ : List Addr} {st : Sto} {H : Hp} {v : V} {x : Val} {d : Bool × List D} (s : SC K F φ st H) (r : RV K F φ st H v x) (e : seqOf x = some d) : SqD K (Or2 F (Live φ st)) H v d := by
  unfold seqOf at e
  split at e
  · cases e
    obtain ⟨a, vs, e3, h3, d3⟩ := Den.tup_inv r
    exact ⟨a, vs, e3, d3, .inl ⟨rfl, fun _ _ w => SqT.way w s.cells h3⟩⟩
  · cases e
    cases r with
    | lst h3 n3 d3 => exact ⟨_, _, rfl, d3, .inr ⟨rfl, fun _ _ w => .of (w.keep _ _ h3 n3).1⟩⟩
  · cases e
    obtain ⟨a, vs, e3, h3, d3⟩ := r
    exact ⟨a, vs, e3, d3, .inr ⟨rfl, fun _ _ w => (SqF.way w s.cells h3).sq⟩⟩
  · rename_i xs
    cases q : datas xs with
    | none => rw [q] at e; nomatch e
    | some ds =>
      rw [q] at e; cases e
      obtain ⟨a, vs, e3, h3, n3, d3⟩ := r
      exact ⟨a, vs, e3, datas_rw d3 q, .inr ⟨rfl, fun _ _ w => .of (w.keep _ _ h3 n3).1⟩⟩
  · cases e
theorem SqD.less {K : PySem.W.Frag} {L L' : AP} {H H' : Hp} {v : V} {d : Bool × List D} (w : Way L H L' H') (c : Cells L H) (h : SqD K L H v d) : SqD K L' H' v d := by
  obtain ⟨a, vs, e, d1, h⟩ := h
  have tr : ∀ L2 H2, Way L' H' L2 H2 → Way L H L2 H2 := fun L2 H2 w2 => ⟨fun a o e n => let k := w.keep a o e n; w2.keep a o k.1 k.2⟩
  exact ⟨a, vs, e, DenAll.way w c d1, h.elim (fun h => .inl ⟨h.1, fun L2 H2 w2 => h.2 L2 H2 (tr _ _ w2)⟩) fun h => .inr ⟨h.1, fun L2 H2 w2 => h.2 L2 H2 (tr _ _ w2)⟩⟩
theorem enumW_get : ∀ (xs : List D) (k i : Nat), (enumW k xs)[i]? = xs[i]?.map fun x => W.d (.tuple [.int ((k + i : Nat) : Int), x])
  | [], _, _ => by simp [enumW]
  | x :: r, k, 0 => by simp [enumW]
  | x :: r, k, i + 1 => by
    simp only [enumW, List.getElem?_cons_succ]
    rw [enumW_get r (k + 1) i]
    congr 1; funext y; congr 4; omega
theorem enumW_len : ∀ (xs : List D) (k : Nat), (enumW k xs).length = xs.length
  | [], _ => rfl
  | _ :: r, k => by simp [enumW, enumW_len r]
theorem zipW_len : ∀ (xs ys : List D), (zipW xs ys).length = min xs.length ys.length
  | [], _ => by simp [zipW]
  | _ :: _, [] => by simp [zipW]
  | _ :: r, _ :: s => by simp [zipW, zipW_len r s]
theorem zipW_get : ∀ (xs ys : List D) (i : Nat) (x y : D), xs[i]? = some x → ys[i]? = some y → (zipW xs ys)[i]? = some (.d (.tuple [x, y]))
  | [], _, _, _, _, h, _ => nomatch h
  | _ :: _, [], _, _, _, _, h => nomatch h
  | _ :: r, _ :: s, 0, _, _, h, k => by simp at h k; simp [zipW, h, k]
  | _ :: r, _ :: s, i + 1, x, y, h, k => by
    simp only [zipW, List.getElem?_cons_succ] at h k ⊢
    exact zipW_get r s i x y h k
section
variable {K : PySem.W.Frag} {wk : Bool} {L : AP} {H : Hp} {φ : List Addr}
theorem ok_enum {a : Addr} {vs : List V} {xs : List D} (c : Cells L H) (h : ∀ L2 H2, Way L H L2 H2 → SqL K H2 a vs) (d : DenAll K L H vs xs) : ItOk K true L H φ (enumW 0 xs) (Ite K a) where
  go := fun L2 H2 w i hi => by
    have hl := d.length
    rw [enumW_len] at hi
    exact ⟨vs, vs[i]'(by omega), h L2 H2 w, by simp⟩
  stop := fun L2 H2 w i hi => ⟨vs, h L2 H2 w, by rw [d.length]; rw [enumW_len] at hi; exact hi⟩
  yld := fun L2 H2 w i v H3 y hi => by
    obtain ⟨T, x, ev, hT, e3, q⟩ := y
    subst ev; subst e3
    have q := q vs (h L2 H2 w)
    rw [enumW_len] at hi
    obtain ⟨u, hu, ru⟩ := d.get (List.getElem?_eq_getElem hi)
    rw [q] at hu; cases hu
    refine ⟨.d (.tuple [.int ((i : Nat) : Int), xs[i]]), by rw [enumW_get, List.getElem?_eq_getElem hi]; simp, .inr ⟨rfl, T, _, _, hT, rfl, rfl, rfl, .cons (.int _) (.cons (Den.way w c ru) .nil)⟩⟩
theorem ok_zip {a b : Addr} {vs us : List V} {xs ys : List D} (c : Cells L H) (h : ∀ L2 H2, Way L H L2 H2 → SqL K H2 a vs) (h2 : ∀ L2 H2, Way L H L2 H2 → SqL K H2 b us) (d : DenAll K L H vs xs) (d2 : DenAll K L H us ys) : ItOk K true L H φ (zipW xs ys) (Itz K a b) where
  go := fun L2 H2 w i hi => by
    have hl := d.length
    have hl2 := d2.length
    rw [zipW_len] at hi
    exact ⟨vs, us, vs[i]'(by omega), us[i]'(by omega), h L2 H2 w, h2 L2 H2 w, by simp, by simp⟩
  stop := fun L2 H2 w i hi => ⟨vs, us, h L2 H2 w, h2 L2 H2 w, by rw [d.length, d2.length]; rw [zipW_len] at hi; omega⟩
  yld := fun L2 H2 w i v H3 y hi => by
    obtain ⟨T, x, y, ev, hT, e3, q, q2⟩ := y
    subst ev; subst e3
    have q := q vs (h L2 H2 w)
    have q2 := q2 us (h2 L2 H2 w)
    rw [zipW_len] at hi
    obtain ⟨u, hu, ru⟩ := d.get (List.getElem?_eq_getElem (show i < xs.length by omega))
    obtain ⟨u2, hu2, ru2⟩ := d2.get (List.getElem?_eq_getElem (show i < ys.length by omega))
    rw [q] at hu; cases hu
    rw [q2] at hu2; cases hu2
    exact ⟨_, zipW_get _ _ _ _ _ (List.getElem?_eq_getElem _) (List.getElem?_eq_getElem _), .inr ⟨rfl, T, _, _, hT, rfl, rfl, rfl, .cons (Den.way w c ru) (.cons (Den.way w c ru2) .nil)⟩⟩
theorem ok_zipT {a b : Addr} {vs us : List V} {xs ys : List D} (c : Cells L H) (h : ∀ L2 H2, Way L H L2 H2 → SqT K H2 a vs) (h2 : ∀ L2 H2, Way L H L2 H2 → SqT K H2 b us) (d : DenAll K L H vs xs) (d2 : DenAll K L H us ys) : ItOk K true L H φ (zipW xs ys) (RZ.ItzT K a b) where
  go := fun L2 H2 w i hi => by
    have hl := d.length
    have hl2 := d2.length
    rw [zipW_len] at hi
    exact ⟨vs, us, vs[i]'(by omega), us[i]'(by omega), h L2 H2 w, h2 L2 H2 w, by simp, by simp⟩
  stop := fun L2 H2 w i hi => ⟨vs, us, h L2 H2 w, h2 L2 H2 w, by rw [d.length, d2.length]; rw [zipW_len] at hi; omega⟩
  yld := fun L2 H2 w i v H3 y hi => by
    obtain ⟨T, x, y, ev, hT, e3, q, q2⟩ := y
    subst ev; subst e3
    have q := q vs (h L2 H2 w)
    have q2 := q2 us (h2 L2 H2 w)
    rw [zipW_len] at hi
    obtain ⟨u, hu, ru⟩ := d.get (List.getElem?_eq_getElem (show i < xs.length by omega))
    obtain ⟨u2, hu2, ru2⟩ := d2.get (List.getElem?_eq_getElem (show i < ys.length by omega))
    rw [q] at hu; cases hu
    rw [q2] at hu2; cases hu2
    exact ⟨_, zipW_get _ _ _ _ _ (List.getElem?_eq_getElem _) (List.getElem?_eq_getElem _), .inr ⟨rfl, T, _, _, hT, rfl, rfl, rfl, .cons (Den.way w c ru) (.cons (Den.way w c ru2) .nil)⟩⟩
theorem rev_get (xs : List D) (i : Nat) (hi : i < xs.length) : (xs.reverse.map W.d)[i]? = some (.d (xs[xs.length - 1 - i]'(by omega))) := by
  rw [List.getElem?_map, List.getElem?_reverse hi, List.getElem?_eq_getElem (by omega)]; rfl
theorem ok_rev {a : Addr} {vs : List V} {xs : List D} (c : Cells L H) (h : ∀ L2 H2, Way L H L2 H2 → SqL K H2 a vs) (d : DenAll K L H vs xs) : ItOk K wk L H φ (xs.reverse.map W.d) (Itv K a vs.length) where
  go := fun L2 H2 w i hi => by
    have hl := d.length
    have hi : i < xs.length := by simpa using hi
    exact ⟨by omega, vs, vs[vs.length - 1 - i]'(by omega), h L2 H2 w, by simp⟩
  stop := fun L2 H2 w i hi => by
    show vs.length ≤ i
    rw [d.length]; simpa using hi
  yld := fun L2 H2 w i v H3 y hi => by
    have q := y.2 vs (h L2 H2 w)
    have e := y.1
    subst e
    have hi : i < xs.length := by simpa using hi
    rw [d.length] at q
    obtain ⟨u, hu, ru⟩ := d.get (List.getElem?_eq_getElem (show xs.length - 1 - i < xs.length by omega))
    rw [q] at hu; cases hu
    exact ⟨_, rev_get xs i hi, .inl ⟨rfl, Den.way w c ru⟩⟩
theorem ok_revT {a : Addr} {vs : List V} {xs : List D} (c : Cells L H) (h : ∀ L2 H2, Way L H L2 H2 → SqT K H2 a vs) (d : DenAll K L H vs xs) : ItOk K wk L H φ (xs.reverse.map W.d) (RT.ItvT K a vs.length) where
  go := fun L2 H2 w i hi => by
    have hl := d.length
    have hi : i < xs.length := by simpa using hi
    exact ⟨by omega, vs, vs[vs.length - 1 - i]'(by omega), h L2 H2 w, by simp⟩
  stop := fun L2 H2 w i hi => by
    show vs.length ≤ i
    rw [d.length]; simpa using hi
  yld := fun L2 H2 w i v H3 y hi => by
    have q := y.2 vs (h L2 H2 w)
    have e := y.1
    subst e
    have hi : i < xs.length := by simpa using hi
    rw [d.length] at q
    obtain ⟨u, hu, ru⟩ := d.get (List.getElem?_eq_getElem (show xs.length - 1 - i < xs.length by omega))
    rw [q] at hu; cases hu
    exact ⟨_, rev_get xs i hi, .inl ⟨rfl, Den.way w c ru⟩⟩
end
section
variable {X : Cx} {tg : Expr} {P : Par} {C : CE}
theorem int?_inv {v : Val} {i : Int} (h : int? v = some i) : v = vInt i := by
  unfold int? at h; split at h
  · cases h; rfl
  · cases h
theorem rngOk_iff {i : Int} (h : rngOk i = true) : -(2 ^ 62) ≤ i ∧ i < 2 ^ 62 := by simpa [rngOk] using h
theorem src_rng1 {a : Expr} {es : List E} {p pos : Pos} (hg : Gl X "range") (hm : X.mg "range" = none) (ha : PA X [a] (tEs X.K P C es)) (hs : starEach [a] X.env = [(false, eval a X.env)]) :
    PI X tg (.Call (.Name "range" p) [a] [] pos) (tSrc X.K P C (.rng1 es)) := pi_weak (pi_range1 hg hm ha hs) fun σ H R ⟨F, φ, st, δ, s, d, h⟩ => by
  refine ⟨F, φ, st, δ, s, d, (Post.bind (by simpa only [evSrc] using h)).imp fun vs φ1 st1 H1 t1 h1 us ru => ?_⟩
  obtain ⟨it, e1, h2⟩ := h1.lift
  have hR := h2 φ1 H1 (Step.refl t1.sc)
  cases q : rng1V vs with
  | none => rw [q] at e1; cases e1
  | some xs =>
    rw [q] at e1; cases e1
    unfold rng1V at q
    split at q
    · rename_i v
      cases qi : int? v with
      | none => rw [qi] at q; cases q
      | some j =>
        rw [qi] at q
        dsimp only [Option.bind_some] at q
        split at q
        · rename_i hj
          cases q
          obtain ⟨x, rfl, rx⟩ := RVs.one ru
          obtain ⟨j1, j2⟩ := rngOk_iff hj
          exact ⟨j, by rw [RV.int rx qi], j1, j2, hR _ (ok_rng _ _ _ (by simp only [rngW, Int.sub_zero]))⟩
        · cases q
    · cases q
theorem src_rng2 {a b : Expr} {es : List E} {p pos : Pos} (hg : Gl X "range") (hm : X.mg "range" = none) (ha : PA X [a, b] (tEs X.K P C es)) (hs : starEach [a, b] X.env = [(false, eval a X.env), (false, eval b X.env)]) (hs2 : starEach [b] X.env = [(false, eval b X.env)]) :
    PI X tg (.Call (.Name "range" p) [a, b] [] pos) (tSrc X.K P C (.rng2 es)) := pi_weak (pi_range2 hg hm ha hs hs2) fun σ H R ⟨F, φ, st, δ, s, d, h⟩ => by
  refine ⟨F, φ, st, δ, s, d, (Post.bind (by simpa only [evSrc] using h)).imp fun vs φ1 st1 H1 t1 h1 us ru => ?_⟩
  obtain ⟨it, e1, h2⟩ := h1.lift
  have hR := h2 φ1 H1 (Step.refl t1.sc)
  cases q : rng2V vs with
  | none => rw [q] at e1; cases e1
  | some xs =>
    rw [q] at e1; cases e1
    unfold rng2V at q
    split at q
    · rename_i v u
      cases qi : int? v with
      | none => rw [qi] at q; cases q
      | some i =>
        rw [qi] at q
        dsimp only [Option.bind_some] at q
        cases qj : int? u with
        | none => rw [qj] at q; cases q
        | some j =>
          rw [qj] at q
          dsimp only [Option.bind_some] at q
          split at q
          · rename_i hj
            cases q
            obtain ⟨x, y, rfl, rx, ry⟩ := RVs.two ru
            rw [Bool.and_eq_true] at hj
            obtain ⟨i1, i2⟩ := rngOk_iff hj.1
            obtain ⟨j1, j2⟩ := rngOk_iff hj.2
            exact ⟨i, j, by rw [RV.int rx qi, RV.int ry qj], ⟨i1, i2, j1, j2⟩, hR _ (ok_rng _ _ _ rfl)⟩
          · cases q
    · cases q
theorem src_enm {a : Expr} {es : List E} {p pos tpos : Pos} {elts : List Expr} {kk : Nat} (hg : Gl X "enumerate") (hm : X.mg "enumerate" = none) (ha : PA X [a] (tEs X.K P C es)) (hs : starEach [a] X.env = [(false, eval a X.env)]) :
    PI X (.Tuple elts kk tpos) (.Call (.Name "enumerate" p) [a] [] pos) (tSrc X.K P C (.enm es)) := pi_weak (pi_enum hg hm ha hs) fun σ H R ⟨F, φ, st, δ, s, d, h⟩ => by
  refine ⟨F, φ, st, δ, s, d, (Post.bind (by simpa only [evSrc] using h)).imp fun vs φ1 st1 H1 t1 h1 us ru => ?_⟩
  obtain ⟨it, e1, h2⟩ := h1.lift
  have hR := h2 φ1 H1 (Step.refl t1.sc)
  cases q : enmV vs with
  | none => rw [q] at e1; cases e1
  | some xs =>
    rw [q] at e1; cases e1
    unfold enmV at q
    split at q
    · rename_i v
      cases qi : seqOf v with
      | none => rw [qi] at q; cases q
      | some j =>
        rw [qi] at q
        dsimp only [Option.bind_some] at q
        split at q
        · cases q
          obtain ⟨x, rfl, rx⟩ := RVs.one ru
          obtain ⟨a, ws, e3, d3, z | z⟩ := RV.seq t1.sc rx qi
          · cases z.1
          · exact ⟨a, ws, by rw [e3], z.2 _ _ ⟨fun _ _ e n => ⟨e, n⟩⟩, hR _ (ok_enum t1.sc.cells z.2 d3)⟩
        · cases q
    · cases q
theorem src_zp {a b : Expr} {es : List E} {p pos tpos : Pos} {elts : List Expr} {kk : Nat} (hg : Gl X "zip") (hm : X.mg "zip" = none) (ha : PA X [a, b] (tEs X.K P C es)) (hs : starEach [a, b] X.env = (false, eval a X.env) :: starEach [b] X.env) (hs2 : (backTo pos (starEach [b] X.env)).any (·.1) = false) :
    PI X (.Tuple elts kk tpos) (.Call (.Name "zip" p) [a, b] [] pos) (tSrc X.K P C (.zp es)) := pi_weak (RZ.pi_zipA hg hm ha hs hs2) fun σ H R ⟨F, φ, st, δ, s, d, h⟩ => by
  refine ⟨F, φ, st, δ, s, d, (Post.bind (by simpa only [evSrc] using h)).imp fun vs φ1 st1 H1 t1 h1 us ru => ?_⟩
  obtain ⟨it, e1, h2⟩ := h1.lift
  have hR := h2 φ1 H1 (Step.refl t1.sc)
  cases q : zpV vs with
  | none => rw [q] at e1; cases e1
  | some xs =>
    rw [q] at e1; cases e1
    unfold zpV at q
    split at q
    · rename_i v u
      cases qi : seqOf v with
      | none => rw [qi] at q; cases q
      | some i =>
        rw [qi] at q
        dsimp only [Option.bind_some] at q
        cases qj : seqOf u with
        | none => rw [qj] at q; cases q
        | some j =>
          rw [qj] at q
          dsimp only [Option.bind_some] at q
          split at q
          · rename_i hj
            cases q
            obtain ⟨x, y, rfl, rx, ry⟩ := RVs.two ru
            obtain ⟨a, ws, e3, d3, z⟩ := RV.seq t1.sc rx qi
            obtain ⟨b, us, e4, d4, z2⟩ := RV.seq t1.sc ry qj
            refine ⟨a, b, ws, us, by rw [e3, e4], ?_⟩
            rcases z with z | z <;> rcases z2 with z2 | z2
            · exact .inr ⟨z.2 _ _ ⟨fun _ _ e n => ⟨e, n⟩⟩, z2.2 _ _ ⟨fun _ _ e n => ⟨e, n⟩⟩, hR _ (ok_zipT t1.sc.cells z.2 z2.2 d3 d4)⟩
            · rw [z.1, z2.1] at hj; cases hj
            · rw [z.1, z2.1] at hj; cases hj
            · exact .inl ⟨z.2 _ _ ⟨fun _ _ e n => ⟨e, n⟩⟩, z2.2 _ _ ⟨fun _ _ e n => ⟨e, n⟩⟩, hR _ (ok_zip t1.sc.cells z.2 z2.2 d3 d4)⟩
          · cases q
    · cases q
theorem src_rv {a : Expr} {e : E} {p pos : Pos} (hg : Gl X "reversed") (hm : X.mg "reversed" = none) (ha : PE X a (tE X.K P C e)) (hs : starEach [a] X.env = (false, eval a X.env) :: starEach [] X.env) :
    PI X tg (.Call (.Name "reversed" p) [a] [] pos) (tSrc X.K P C (.rv e)) := pi_weak (RT.pi_revA hg hm ha hs) fun σ H R ⟨F, φ, st, δ, s, d, h⟩ => by
  refine ⟨F, φ, st, δ, s, d, (Post.bind (by simpa only [evSrc] using h)).imp fun v φ1 st1 H1 t1 h1 u ru => ?_⟩
  obtain ⟨it, e1, h2⟩ := h1.lift
  have hR := h2 φ1 H1 (Step.refl t1.sc)
  cases qi : seqOf v with
  | none => rw [qi] at e1; cases e1
  | some i =>
    rw [qi] at e1; cases e1
    obtain ⟨a, ws, e3, d3, z⟩ := RV.seq t1.sc (ru.rv t1.sc fun a f => s.fo a f) qi
    refine ⟨a, ws, e3, ?_⟩
    rcases z with z | z
    · exact .inr ⟨z.2 _ _ ⟨fun _ _ e n => ⟨e, n⟩⟩, hR _ (ok_revT t1.sc.cells z.2 d3)⟩
    · exact .inl ⟨z.2 _ _ ⟨fun _ _ e n => ⟨e, n⟩⟩, hR _ (ok_rev t1.sc.cells z.2 d3)⟩
end
end MP
set_option maxHeartbeats 1200000
/-! Ev8: expressions, one by one. -/
namespace MP
open PySem PySem.Spec L2
theorem RU.scal {K : PySem.W.Frag} {F : AP} {φ : List Addr} {st : Sto} {H H0 : Hp} {v : V} {b : Bool} (r : RU K F H0 φ st H v (vBool b)) : v = .bl b := Den.bl_inv r
theorem bool?_inv {v : Val} {b : Bool} (h : bool? v = some b) : v = vBool b := by
  unfold bool? at h; split at h
  · cases h; rfl
  · cases h
section
variable {X : Cx} {P : Par} {C : CE}
theorem xe_var {i : Nat} {x : Expr} (h : PE X x (tVar i)) : PE X x (tE X.K P C (.var i)) := pe_weak h fun σ H Q ⟨F, φ, st, δ, s, d, h⟩ => by
  simp only [evE] at h
  split at h
  · rename_i w hw
    obtain ⟨v, e, r⟩ := d.slot _ _ hw
    exact ⟨v, e, h φ H (Step.refl s) v r⟩
  · exact h.elim
theorem xe_cst {x : Expr} {v : V} {a : D} (h : PE X x (tC v)) (r : ∀ L H, Den X.K L H v a) : PE X x (tE X.K P C (.cst a)) := pe_weak h fun σ H Q ⟨F, φ, st, δ, s, d, h⟩ => by
  simp only [evE] at h
  exact h φ H (Step.refl s) v (r _ _)
theorem xe_bin {op : Operator} {a b : Expr} {e f : E} {pos : Pos} (ho : OpR X (binaryOp op) (rTwo X.K (binV op))) (ha : PE X a (tE X.K P C e)) (hb : PE X b (tE X.K P C f)) : PE X (.BinOp a op b pos) (tE X.K P C (.bin op e f)) :=
  pe_weak (pe_op ho ha hb) fun σ H Q ⟨F, φ, st, δ, s, d, h⟩ => by
    simp only [evE] at h
    refine ⟨F, φ, st, δ, s, d, (Post.bind h).imp fun v φ1 st1 H1 t1 h1 u ru => ⟨F, φ1, st1, δ, t1.sc, d.step s t1, (Post.bind h1).imp fun w φ2 st2 H2 t2 h2 u2 ru2 => ?_⟩⟩
    obtain ⟨r, e, q⟩ := h2.lift
    exact ⟨F, φ2, st2, v, w, r, t2.sc, Step.rv t1.sc t2 (ru.rv t1.sc fun a f => s.fo a f), ru2.rv t2.sc (fun a f => t1.sc.fo a f), e, fun φ' H' u t3 r3 => q φ' H' t3 u (RU.weak (fun a n => t2.al a (t1.al a n)) r3)⟩
theorem xe_ix {a b : Expr} {e f : E} {pos : Pos} (hu : X.A.units + 1 < cLine) (ha : PE X a (tE X.K P C e)) (hb : PE X b (tE X.K P C f)) (hs : PlainIx b) : PE X (.Subscript a b pos) (tE X.K P C (.ix e f)) :=
  pe_weak (pe_ix (ixr_any hu) ha hb hs) fun σ H Q ⟨F, φ, st, δ, s, d, h⟩ => by
    simp only [evE] at h
    refine ⟨F, φ, st, δ, s, d, (Post.bind h).imp fun v φ1 st1 H1 t1 h1 u ru => ⟨F, φ1, st1, δ, t1.sc, d.step s t1, (Post.bind h1).imp fun w φ2 st2 H2 t2 h2 u2 ru2 => ?_⟩⟩
    obtain ⟨r, e, q⟩ := h2.lift
    exact ⟨F, φ2, st2, v, w, r, t2.sc, Step.rv t1.sc t2 (ru.rv t1.sc fun a f => s.fo a f), ru2.rv t2.sc (fun a f => t1.sc.fo a f), e, fun φ' H' u t3 r3 => q φ' H' t3 u (RU.weak (fun a n => t2.al a (t1.al a n)) r3)⟩
theorem xe_cmp {op : CmpOp} {a b : Expr} {e f : E} {pos : Pos} (ho : OpR X (compareOp op) (rTwoB X.K (cmpV op))) (ha : PE X a (tE X.K P C e)) (hb : PE X b (tE X.K P C f)) (hm : behindInMarks op b = false) : PE X (.Compare a [op] [b] pos) (tE X.K P C (.cmp op e f)) :=
  pe_weak (pe_cmpR ho ha hb hm) fun σ H Q ⟨F, φ, st, δ, s, d, h⟩ => by
    simp only [evE, cmpB] at h
    refine ⟨F, φ, st, δ, s, d, (Post.bind h).imp fun v φ1 st1 H1 t1 h1 u ru => ⟨F, φ1, st1, δ, t1.sc, d.step s t1, (Post.bind h1).imp fun w φ2 st2 H2 t2 h2 u2 ru2 => ?_⟩⟩
    obtain ⟨r, e, q⟩ := (Post.bind h2).lift
    exact ⟨F, φ2, st2, v, w, r, t2.sc, Step.rv t1.sc t2 (ru.rv t1.sc fun a f => s.fo a f), ru2.rv t2.sc (fun a f => t1.sc.fo a f), e, q φ2 H2 (Step.refl t2.sc) φ2 H2 (Step.refl t2.sc) _ (RU.bl r)⟩
theorem xt_cmp {op : CmpOp} {a b : Expr} {e f : E} {pos : Pos} (ho : OpR X (compareOp op) (rTwoB X.K (cmpV op))) (ha : PE X a (tE X.K P C e)) (hb : PE X b (tE X.K P C f)) (hm : behindInMarks op b = false) : PT X (.Compare a [op] [b] pos) (tT X.K P C (.cmp op e f)) :=
  pt_weak (pt_cmpR ho ha hb hm) fun σ H Q ⟨F, φ, st, δ, s, d, h⟩ => by
    simp only [evE, cmpB] at h
    refine ⟨F, φ, st, δ, s, d, (Post.bind h).imp fun v φ1 st1 H1 t1 h1 u ru => ⟨F, φ1, st1, δ, t1.sc, d.step s t1, (Post.bind h1).imp fun w φ2 st2 H2 t2 h2 u2 ru2 => ?_⟩⟩
    obtain ⟨r, e, q⟩ := (Post.bind h2).lift
    refine ⟨F, φ2, st2, v, w, r, t2.sc, Step.rv t1.sc t2 (ru.rv t1.sc fun a f => s.fo a f), ru2.rv t2.sc (fun a f => t1.sc.fo a f), e, r, rfl, ?_⟩
    obtain ⟨b, e2, q⟩ := q φ2 H2 (Step.refl t2.sc) φ2 H2 (Step.refl t2.sc)
    cases e2
    exact q
theorem xe_cmp2 {o1 o2 : CmpOp} {a b c : Expr} {e f g : E} {pos : Pos} (h1 : OpR X (compareOp o1) (rTwoB X.K (cmpV o1))) (h2 : OpR X (compareOp o2) (rTwoB X.K (cmpV o2))) (ha : PE X a (tE X.K P C e)) (hb : PE X b (tE X.K P C f)) (hc : PE X c (tE X.K P C g))
    (hm : lastMarks [o1, o2] [b, c] = false) : PE X (.Compare a [o1, o2] [b, c] pos) (tE X.K P C (.cmp2 o1 o2 e f g)) :=
  pe_weak (pe_chain h1 h2 ha hb hc hm) fun σ H Q ⟨F, φ, st, δ, s, d, h⟩ => by
    simp only [evE, cmpB] at h
    refine ⟨F, φ, st, δ, s, d, (Post.bind h).imp fun v φ1 st1 H1 t1 h1 u ru => ⟨F, φ1, st1, δ, t1.sc, d.step s t1, (Post.bind h1).imp fun w φ2 st2 H2 t2 h2 u2 ru2 => ?_⟩⟩
    obtain ⟨r, e, q⟩ := (Post.bind h2).lift
    have ra := Step.rv t1.sc t2 (ru.rv t1.sc fun a f => s.fo a f)
    have rb := ru2.rv t2.sc (fun a f => t1.sc.fo a f)
    refine ⟨F, φ2, st2, v, w, r, t2.sc, ra, rb, e, r, rfl, ?_⟩
    have q := q φ2 H2 (Step.refl t2.sc)
    cases r with
    | true =>
      simp only [if_true]
      refine ⟨F, φ2, st2, δ, t2.sc, (d.step s t1).step t1.sc t2, (Post.bind q).imp fun z φ3 st3 H3 t3 h3 u3 ru3 => ?_⟩
      obtain ⟨r', e', q'⟩ := (Post.bind h3).lift
      exact ⟨F, φ3, st3, w, z, r', t3.sc, Step.rv t2.sc t3 rb, ru3.rv t3.sc (fun a f => t2.sc.fo a f), e', q' φ3 H3 (Step.refl t3.sc) φ3 H3 (Step.refl t3.sc) _ (RU.bl r')⟩
    | false => exact q φ2 H2 (Step.refl t2.sc) _ (RU.bl false)
theorem xe_neg {a : Expr} {e : E} {pos : Pos} (ha : PE X a (tE X.K P C e)) : PE X (.UnaryOp .USub a pos) (tE X.K P C (.neg e)) :=
  pe_weak (pe_un un_negV ha) fun σ H Q ⟨F, φ, st, δ, s, d, h⟩ => by
    simp only [evE] at h
    refine ⟨F, φ, st, δ, s, d, (Post.bind h).imp fun v φ1 st1 H1 t1 h1 u ru => ?_⟩
    obtain ⟨r, e, q⟩ := h1.lift
    exact ⟨F, φ1, st1, v, r, t1.sc, ru.rv t1.sc (fun a f => s.fo a f), e, fun u r3 => q φ1 H1 (Step.refl t1.sc) u (RU.weak (fun a n => t1.al a n) r3)⟩
theorem xe_nt {a : Expr} {e : E} {pos : Pos} (ha : PE X a (tE X.K P C e)) : PE X (.UnaryOp .Not a pos) (tE X.K P C (.nt e)) :=
  pe_weak (pe_not ha) fun σ H Q ⟨F, φ, st, δ, s, d, h⟩ => by
    simp only [evE] at h
    refine ⟨F, φ, st, δ, s, d, (Post.bind h).imp fun v φ1 st1 H1 t1 h1 u ru => ?_⟩
    obtain ⟨r, e, q⟩ := h1.lift
    cases qb : bool? v with
    | none => rw [qb] at e; cases e
    | some b =>
      rw [qb] at e; cases e
      exact ⟨b, RV.bool (ru.rv t1.sc (fun a f => s.fo a f)) qb, q φ1 H1 (Step.refl t1.sc) _ (RU.bl _)⟩
theorem xe_an {a b : Expr} {rest : List Expr} {e f : E} {pos : Pos} (ha : PE X a (tE X.K P C e)) (hb : PE X (.BoolOp .And (b :: rest) pos) (tE X.K P C f)) : PE X (.BoolOp .And (a :: b :: rest) pos) (tE X.K P C (.an e f)) :=
  pe_weak (pe_and ha hb) fun σ H Q ⟨F, φ, st, δ, s, d, h⟩ => by
    simp only [evE] at h
    refine ⟨F, φ, st, δ, s, d, (Post.bind h).imp fun v φ1 st1 H1 t1 h1 u ru => ?_⟩
    cases qb : bool? v with
    | none => rw [qb] at h1; exact h1.elim
    | some b =>
      rw [qb] at h1
      refine ⟨b, RV.bool (ru.rv t1.sc (fun a f => s.fo a f)) qb, ?_⟩
      cases b with
      | true => simp only [if_true]; exact ⟨F, φ1, st1, δ, t1.sc, d.step s t1, h1.imp fun w φ2 st2 H2 t2 h2 u2 ru2 => h2 u2 (RU.weak t1.al ru2)⟩
      | false => exact h1 φ1 H1 (Step.refl t1.sc) _ (RU.bl _)
theorem xe_or {a b : Expr} {rest : List Expr} {e f : E} {pos : Pos} (ha : PE X a (tE X.K P C e)) (hb : PE X (.BoolOp .Or (b :: rest) pos) (tE X.K P C f)) : PE X (.BoolOp .Or (a :: b :: rest) pos) (tE X.K P C (.orr e f)) :=
  pe_weak (pe_or ha hb) fun σ H Q ⟨F, φ, st, δ, s, d, h⟩ => by
    simp only [evE] at h
    refine ⟨F, φ, st, δ, s, d, (Post.bind h).imp fun v φ1 st1 H1 t1 h1 u ru => ?_⟩
    cases qb : bool? v with
    | none => rw [qb] at h1; exact h1.elim
    | some b =>
      rw [qb] at h1
      refine ⟨b, RV.bool (ru.rv t1.sc (fun a f => s.fo a f)) qb, ?_⟩
      cases b with
      | false => simp only [Bool.false_eq_true, if_false]; exact ⟨F, φ1, st1, δ, t1.sc, d.step s t1, h1.imp fun w φ2 st2 H2 t2 h2 u2 ru2 => h2 u2 (RU.weak t1.al ru2)⟩
      | true => exact h1 φ1 H1 (Step.refl t1.sc) _ (RU.bl _)
/-- a test -/
theorem xt_val {a : Expr} {e : E} (ha : PE X a (tE X.K P C e)) (he : ∀ whole, isTrue a X.env whole = (do let v ← whole; standAt a.pos; holding [v] (truthy v))) : PT X a (tT X.K P C e) :=
  pt_weak (pt_val ha he) fun σ H Q ⟨F, φ, st, δ, s, d, h⟩ => by
    refine ⟨F, φ, st, δ, s, d, h.imp fun v φ1 st1 H1 t1 h1 u ru => ?_⟩
    obtain ⟨b, e, q⟩ := h1
    exact ⟨b, RV.bool (ru.rv t1.sc (fun a f => s.fo a f)) e, q⟩
theorem xt_not {a : Expr} {e : E} {pos : Pos} (ha : PT X a (tT X.K P C e)) : PT X (.UnaryOp .Not a pos) (tT X.K P C (.nt e)) :=
  pt_weak (pt_not ha) fun σ H Q ⟨F, φ, st, δ, s, d, h⟩ => by
    simp only [evE] at h
    refine ⟨F, φ, st, δ, s, d, (Post.bind h).imp fun v φ1 st1 H1 t1 h1 => ?_⟩
    obtain ⟨r, e, q⟩ := h1.lift
    cases qb : bool? v with
    | none => rw [qb] at e; cases e
    | some b =>
      rw [qb] at e; cases e
      obtain ⟨b', e', q'⟩ := q φ1 H1 (Step.refl t1.sc)
      cases e'
      exact ⟨b, rfl, q'⟩
theorem pw_weak {a : Expr} {t t' : TT} (h : PW X a t) (k : ∀ σ H Q, t' σ H Q → t σ H Q) : PW X a t' := ⟨fun wh pins s σ H Q I q => h.run wh pins s σ H Q I (k σ H Q q)⟩
theorem xt_an {a b : Expr} {rest : List Expr} {e f : E} {pos : Pos} (ha : PT X a (tT X.K P C e)) (hb : PW X (.BoolOp .And (b :: rest) pos) (tT X.K P C f)) : PW X (.BoolOp .And (a :: b :: rest) pos) (tT X.K P C (.an e f)) :=
  pw_weak (pw_and ha hb) fun σ H Q ⟨F, φ, st, δ, s, d, h⟩ => by
    simp only [evE] at h
    refine ⟨F, φ, st, δ, s, d, (Post.bind h).imp fun v φ1 st1 H1 t1 h1 => ?_⟩
    cases qb : bool? v with
    | none => rw [qb] at h1; exact h1.elim
    | some b =>
      rw [qb] at h1
      refine ⟨b, rfl, ?_⟩
      cases b with
      | true => simp only [if_true]; exact ⟨F, φ1, st1, δ, t1.sc, d.step s t1, h1⟩
      | false =>
        obtain ⟨b', e', q'⟩ := h1 φ1 H1 (Step.refl t1.sc)
        cases e'
        exact q'
theorem xt_or {a b : Expr} {rest : List Expr} {e f : E} {pos : Pos} (ha : PT X a (tT X.K P C e)) (hb : PW X (.BoolOp .Or (b :: rest) pos) (tT X.K P C f)) : PW X (.BoolOp .Or (a :: b :: rest) pos) (tT X.K P C (.orr e f)) :=
  pw_weak (pw_or ha hb) fun σ H Q ⟨F, φ, st, δ, s, d, h⟩ => by
    simp only [evE] at h
    refine ⟨F, φ, st, δ, s, d, (Post.bind h).imp fun v φ1 st1 H1 t1 h1 => ?_⟩
    cases qb : bool? v with
    | none => rw [qb] at h1; exact h1.elim
    | some b =>
      rw [qb] at h1
      refine ⟨b, rfl, ?_⟩
      cases b with
      | false => simp only [Bool.false_eq_true, if_false]; exact ⟨F, φ1, st1, δ, t1.sc, d.step s t1, h1⟩
      | true =>
        obtain ⟨b', e', q'⟩ := h1 φ1 H1 (Step.refl t1.sc)
        cases e'
        exact q'
theorem xe_ife {c a b : Expr} {g e f : E} {pos : Pos} (hc : PT X c (tT X.K P C g)) (ha : PE X a (tE X.K P C e)) (hb : PE X b (tE X.K P C f)) : PE X (.IfExp c a b pos) (tE X.K P C (.ife g e f)) :=
  pe_weak (pe_ifExp hc ha hb) fun σ H Q ⟨F, φ, st, δ, s, d, h⟩ => by
    simp only [evE] at h
    refine ⟨F, φ, st, δ, s, d, (Post.bind h).imp fun v φ1 st1 H1 t1 h1 => ?_⟩
    cases qb : bool? v with
    | none => rw [qb] at h1; exact h1.elim
    | some b =>
      rw [qb] at h1
      refine ⟨b, rfl, ?_⟩
      cases b with
      | true => simp only [if_true]; exact ⟨F, φ1, st1, δ, t1.sc, d.step s t1, h1.imp fun w φ2 st2 H2 t2 h2 u2 ru2 => h2 u2 (RU.weak t1.al ru2)⟩
      | false => simp only [Bool.false_eq_true, if_false]; exact ⟨F, φ1, st1, δ, t1.sc, d.step s t1, h1.imp fun w φ2 st2 H2 t2 h2 u2 ru2 => h2 u2 (RU.weak t1.al ru2)⟩
/-! ### rows of arguments -/
theorem xa_nil : PA X [] (tEs X.K P C []) := pa_weak pa_nil fun σ H Q ⟨F, φ, st, δ, s, d, h⟩ => by
  simp only [evEs] at h
  exact h φ H (Step.refl s) [] .nil
theorem RVs.step {K : PySem.W.Frag} {F : AP} {φ φ1 : List Addr} {st st1 : Sto} {H H1 : Hp} {us : List V} {vs : List Val} (s : SC K F φ st H) (t : Step K F φ st H φ1 st1 H1) (r : RVs K F φ st H us vs) : RVs K F φ1 st1 H1 us vs := paired_imp (fun _ _ q => Step.rv s t q) r
theorem xa_cons {a : Expr} {as : List Expr} {e : E} {es : List E} (ha : PE X a (tE X.K P C e)) (hr : PA X as (tEs X.K P C es)) (hs : starEach (a :: as) X.env = (false, eval a X.env) :: starEach as X.env) : PA X (a :: as) (tEs X.K P C (e :: es)) :=
  pa_weak (pa_cons ha hr hs) fun σ H Q ⟨F, φ, st, δ, s, d, h⟩ => by
    simp only [evEs] at h
    refine ⟨F, φ, st, δ, s, d, (Post.bind h).imp fun v φ1 st1 H1 t1 h1 u ru => ⟨F, φ1, st1, δ, t1.sc, d.step s t1, (Post.bind h1).imp fun vs φ2 st2 H2 t2 h2 us rus => ?_⟩⟩
    exact h2 φ2 H2 (Step.refl t2.sc) (u :: us) (.cons (Step.rv t1.sc t2 (ru.rv t1.sc fun a f => s.fo a f)) rus)
/-! ### tuples, lists -/
theorem wOf_den {K : PySem.W.Frag} {F : AP} {φ : List Addr} {st : Sto} {H : Hp} {v : V} {x : Val} {w : W} (s : SC K F φ st H) (r : RV K F φ st H v x) (e : wOf x = some w) : RW K (Or2 F (Live φ st)) H φ v w := by
  unfold wOf at e
  split at e
  · cases e; exact r
  · rename_i xs
    cases q : datas xs with
    | none => rw [q] at e; nomatch e
    | some ds =>
      rw [q] at e; cases e
      obtain ⟨a, vs, e3, h3, n3, d3⟩ := r
      subst e3
      exact Den.lst h3 n3 (datas_rw d3 q)
  · rename_i kvs
    cases q : datas (kvs.map (·.2)) with
    | none => rw [q] at e; nomatch e
    | some ds =>
      rw [q] at e; cases e
      obtain ⟨a, ks, e3, h3, n3, d3⟩ := r
      subst e3
      exact Den.dct h3 n3 (kv_den d3 q)
theorem wsOf_den {K : PySem.W.Frag} {F : AP} {φ : List Addr} {st : Sto} {H : Hp} (s : SC K F φ st H) : ∀ {us : List V} {vs : List Val} {ws : List W}, RVs K F φ st H us vs → wsOf vs = some ws → RWs K (Or2 F (Live φ st)) H φ us ws
  | _, _, _, .nil, e => by simp [wsOf] at e; subst e; exact .nil
  | _, _, _, .cons (b := b) a r, e => by
    simp only [wsOf] at e
    cases q : wOf b with
    | none => rw [q] at e; nomatch e
    | some w =>
      rw [q] at e
      dsimp only [Option.bind_some] at e
      cases q2 : wsOf _ with
      | none => rw [q2] at e; cases e
      | some ws' => rw [q2] at e; cases e; exact .cons (wOf_den s a q) (wsOf_den s r q2)
theorem Step.own {K : PySem.W.Frag} {F : AP} {φ : List Addr} {st : Sto} {H : Hp} {p : Addr} {o : HO} {c : Cell} (s : SC K F φ st H) (hp : H p = none) (ho : Mut (some o)) (r : RC K (Or2 (Or2 F (One p)) (Live φ st)) (upd H p o) φ p c) :
    Step K F φ st H (φ ++ [p]) (st ++ [c]) (upd H p o) ∧ ∀ (L : AP) (H' : Hp), RW K L H' (φ ++ [p]) (.ref p) (.ref st.length) := by
  have hn : p ∉ φ := fun h => s.al p h hp
  refine ⟨⟨⟨[p], rfl, fun a h => by rw [List.mem_singleton.mp h]; exact hp⟩, fun a u e n => ?_, fun a h => ?_, (s.new hp ho).own hn (fun f => s.fo p f hp) r⟩, fun L H' => ⟨p, by rw [← s.len]; simp, rfl⟩⟩
  · have ne : a ≠ p := fun z => by rw [z, hp] at e; cases e
    exact ⟨by rw [upd_ne ne]; exact e, fun l => (l.snoc s.len).elim n ne⟩
  · by_cases z : a = p
    · rw [z, upd_same]; simp
    · rw [upd_ne z]; exact h
/-- what an expression made becomes a cell -/
theorem Step.take {K : PySem.W.Frag} {F : AP} {φ φ1 : List Addr} {st st1 : Sto} {H H1 : Hp} {p : Addr} {c : Cell} (s : SC K F φ st H) (t : Step K F φ st H φ1 st1 H1) (h0 : H p = none) (hp : p ∉ φ1) (s1 : SC K (Or2 F (One p)) φ1 st1 H1) (r : RC K (Or2 (Or2 F (One p)) (Live φ1 st1)) H1 φ1 p c) :
    Step K F φ st H (φ1 ++ [p]) (st1 ++ [c]) H1 ∧ ∀ (L : AP) (H' : Hp), RW K L H' (φ1 ++ [p]) (.ref p) (.ref st1.length) := by
  obtain ⟨ψ, e, n⟩ := t.ext
  refine ⟨⟨⟨ψ ++ [p], by rw [e, List.append_assoc], fun a h => (List.mem_append.mp h).elim (n a) fun h => by rw [List.mem_singleton.mp h]; exact h0⟩, fun a u e n => ?_, t.al, s1.own hp (fun f => s.fo p f h0) r⟩, fun L H' => ⟨p, by rw [← t.sc.len]; simp, rfl⟩⟩
  obtain ⟨k1, k2⟩ := t.keep a u e n
  exact ⟨k1, fun l => (l.snoc t.sc.len).elim k2 fun z => by rw [z, h0] at e; cases e⟩
theorem xe_tup {as : List Expr} {es : List E} {k : Nat} {pos : Pos} (ha : PA X as (tEs X.K P C es)) : PE X (.Tuple as k pos) (tE X.K P C (.tup es)) :=
  pe_weak (pe_tupN ha) fun σ H Q ⟨F, φ, st, δ, s, d, h⟩ => by
    simp only [evE] at h
    refine ⟨F, φ, st, δ, s, d, (Post.bind h).imp fun vs φ1 st1 H1 t1 h1 us ru => ?_⟩
    obtain ⟨r, e, q⟩ := h1.lift
    unfold dsOf at e
    cases q1 : wsOf vs with
    | none => rw [q1] at e; cases e
    | some ws =>
      rw [q1] at e
      dsimp only [Option.bind_some] at e
      cases q2 : datas ws with
      | none => rw [q2] at e; cases e
      | some ds =>
        rw [q2] at e
        dsimp only [Option.bind_some] at e
        split at e
        · rename_i hz
          cases e
          have d1 := datas_rw (wsOf_den t1.sc ru q1) q2
          exact ⟨by rw [line_is, d1.length]; exact hz, fun p o hp ho => q φ1 _ (Step.laid t1.sc hp) _ (Den.tupNew t1.sc hp ho d1)⟩
        · cases e
theorem xe_lst {as : List Expr} {es : List E} {own : Bool} {pos : Pos} (ha : PA X as (tEs X.K P C es)) : PE X (.List as pos) (tE X.K P C (.lst own es)) :=
  pe_weak (pe_lst ha) fun σ H Q ⟨F, φ, st, δ, s, d, h⟩ => by
    simp only [evE] at h
    refine ⟨F, φ, st, δ, s, d, (Post.bind h).imp fun vs φ1 st1 H1 t1 h1 us ru => ?_⟩
    obtain ⟨ws, e, q⟩ := (Post.bind h1).lift
    cases q1 : wsOf vs with
    | none => rw [q1] at e; cases e
    | some ws' =>
      rw [q1] at e
      dsimp only [Option.bind_some] at e
      split at e
      · rename_i hz
        cases e
        have d1 := wsOf_den t1.sc ru q1
        refine ⟨by rw [line_is, paired_len d1]; exact hz, fun p hp => ?_⟩
        have q := q φ1 H1 (Step.refl t1.sc)
        have r1 := RU.list t1.sc hp d1
        cases own with
        | false => exact q φ1 _ (Step.laid t1.sc hp) _ (RU.weak (fun a n => t1.al a n) r1)
        | true =>
          obtain ⟨t2, r2⟩ := Step.own (o := .lst us) (c := .lst ws) t1.sc hp trivial ⟨us, upd_same, paired_imp (fun _ _ q => RW.new t1.sc hp q) d1⟩
          exact q _ _ t2 _ (r2 (Or2 F (Live (φ1 ++ [p]) (st1 ++ [Cell.lst ws]))) (upd H1 p (HO.lst us)))
      · cases e
/-- what an expression made, as a cell -/
theorem xe_cel {a : Expr} {e : E} (ha : PE X a (tE X.K P C e)) : PE X a (tE X.K P C (.cel e)) :=
  pe_weak ha fun σ H Q ⟨F, φ, st, δ, s, d, h⟩ => by
    simp only [evE] at h
    refine ⟨F, φ, st, δ, s, d, ?_⟩
    cases q : evE C e δ st with
    | bad => rw [q] at h; exact h
    | exc c p st1 => rw [q] at h; exact h
    | ok v st1 =>
      rw [q] at h
      intro φ1 H1 t1 u ru
      cases v with
      | w w => exact h φ1 H1 t1 u ru
      | fl xs =>
        obtain ⟨a, vs, e1, h1, h2, h3, h4, h5⟩ := ru
        subst e1
        obtain ⟨t2, r2⟩ := Step.take (c := .lst _) s t1 h2 h3 h5 ⟨vs, h1, h4⟩
        exact h _ _ t2 _ (r2 (Or2 F (Live (φ1 ++ [a]) (st1 ++ [Cell.lst xs]))) H1)
      | fd xs =>
        obtain ⟨a, vs, e1, h1, h2, h3, h4, h5⟩ := ru
        subst e1
        obtain ⟨t2, r2⟩ := Step.take (c := .dct _) s t1 h2 h3 h5 ⟨vs, h1, h4⟩
        exact h _ _ t2 _ (r2 (Or2 F (Live (φ1 ++ [a]) (st1 ++ [Cell.dct xs]))) H1)
/-! ### slices -/
def tO (K : PySem.W.Frag) (P : Par) (C : CE) (o : Option E) : TO := fun σ H Q => ∃ F φ st δ, SC K F φ st H ∧ Sl K F φ st H δ σ ∧
  Post K F (exOf P.XR P.W σ) φ st H (evO C o δ st) fun i φ' st' H' => Q i H'
theorem po_weak {e : Option Expr} {t t' : TO} (h : PO X e t) (k : ∀ σ H Q, t' σ H Q → t σ H Q) : PO X e t' := ⟨fun pins s σ H Q I q => h.run pins s σ H Q I (k σ H Q q)⟩
theorem xo_none : PO X none (tO X.K P C none) := po_weak po_none fun σ H Q ⟨F, φ, st, δ, s, d, h⟩ => by
  simp only [evO] at h
  exact h φ H (Step.refl s)
theorem xo_some {a : Expr} {e : E} (ha : PE X a (tE X.K P C e)) : PO X (some a) (tO X.K P C (some e)) := po_weak (po_some ha) fun σ H Q ⟨F, φ, st, δ, s, d, h⟩ => by
  simp only [evO] at h
  refine ⟨F, φ, st, δ, s, d, (Post.bind h).imp fun v φ1 st1 H1 t1 h1 u ru => ?_⟩
  obtain ⟨r, e, q⟩ := h1.lift
  cases qi : int? v with
  | none => rw [qi] at e; cases e
  | some i =>
    rw [qi] at e; cases e
    exact ⟨i, RV.int (ru.rv t1.sc (fun a f => s.fo a f)) qi, q φ1 H1 (Step.refl t1.sc)⟩
theorem xe_sl {a : Expr} {l h : Option Expr} {e : E} {lo hi : Option E} {pos p2 : Pos} (ha : PE X a (tE X.K P C e)) (hl : PO X l (tO X.K P C lo)) (hh : PO X h (tO X.K P C hi)) : PE X (.Subscript a (.Slice l h none p2) pos) (tE X.K P C (.sl e lo hi)) :=
  pe_weak (pe_slice slr_any ha hl hh) fun σ H Q ⟨F, φ, st, δ, s, d, h⟩ => by
    simp only [evE] at h
    refine ⟨F, φ, st, δ, s, d, (Post.bind h).imp fun v φ1 st1 H1 t1 h1 u ru => ⟨F, φ1, st1, δ, t1.sc, d.step s t1, (Post.bind h1).imp fun l φ2 st2 H2 t2 h2 => ⟨F, φ2, st2, δ, t2.sc, (d.step s t1).step t1.sc t2, (Post.bind h2).imp fun k φ3 st3 H3 t3 h3 => ?_⟩⟩⟩
    obtain ⟨r, e, q⟩ := h3.lift
    exact ⟨F, φ3, st3, v, r, t3.sc, Step.rv t2.sc t3 (Step.rv t1.sc t2 (ru.rv t1.sc fun a f => s.fo a f)), e, fun φ' H' u t4 r4 => q φ' H' t4 u (RU.weak (fun a n => t3.al a (t2.al a (t1.al a n))) r4)⟩
/-! ### built-in functions -/
theorem ds_blt {b : Blt} {es : List E} {σ : L2.St} {H : Hp} {Q : VK} (h : tE X.K P C (.blt b es) σ H Q) : tEs X.K P C es σ H fun vs H1 => rBlt X.K b vs H1 Q := by
  obtain ⟨F, φ, st, δ, s, d, h⟩ := h
  simp only [evE] at h
  refine ⟨F, φ, st, δ, s, d, (Post.bind h).imp fun vs φ1 st1 H1 t1 h1 us ru => ?_⟩
  obtain ⟨r, e, q⟩ := h1.lift
  exact ⟨F, φ1, st1, vs, r, t1.sc, ru, e, fun φ' H' u t2 r2 => q φ' H' t2 u (RU.weak t1.al r2)⟩
theorem xe_bltB {b : Blt} {x : Str} {id : String} {a : Expr} {as : List Expr} {es : List E} {p pos : Pos} (hc : CallR X (.builtin id) (rBlt X.K b)) (hg : Gl X x) (hm : X.mg x = none) (hv : bootBuiltins x = some (.builtin id)) (ha : PA X (a :: as) (tEs X.K P C es)) (hn : x ≠ "__name__") (hdb : (x == ("__debug__" : Str)) = false)
    (he : starEach (a :: as) X.env = (false, eval a X.env) :: starEach as X.env) (hpl : (backTo pos (starEach as X.env)).any (·.1) = false) : PE X (.Call (.Name x p) (a :: as) [] pos) (tE X.K P C (.blt b es)) :=
  pe_weak (pe_callB hc hg hm hv ha hn hdb he hpl) fun _ _ _ h => ds_blt h
theorem xe_bltT {b : Blt} {x : Str} {T : String} {a : Expr} {as : List Expr} {es : List E} {p pos : Pos} (hc : CallR X (.type T) (rBlt X.K b)) (hg : Gl X x) (hm : X.mg x = none) (hv : bootBuiltins x = some (.type T)) (ha : PA X (a :: as) (tEs X.K P C es)) (hn : x ≠ "__name__") (hdb : (x == ("__debug__" : Str)) = false)
    (he : starEach (a :: as) X.env = (false, eval a X.env) :: starEach as X.env) (hpl : (backTo pos (starEach as X.env)).any (·.1) = false) : PE X (.Call (.Name x p) (a :: as) [] pos) (tE X.K P C (.blt b es)) :=
  pe_weak (pe_callTy hc hg hm hv ha hn hdb he hpl) fun _ _ _ h => ds_blt h
/-! ### methods -/
def tyOk (K : PySem.W.Frag) (T : String) (m : Mth) : Prop := ∀ {F : AP} {φ : List Addr} {st : Sto} {H : Hp} {x : V} {v : Val}, SC K F φ st H → RV K F φ st H x v → recvOk m st v = true → tyV K T x H
theorem ds_mth {m : Mth} {o : E} {es : List E} {T : String} {σ : L2.St} {H : Hp} {Q : VK} (hT : tyOk X.K T m) (h : tE X.K P C (.mth m o es) σ H Q) :
    tE X.K P C o σ H fun x H1 => tyV X.K T x H1 ∧ tEs X.K P C es σ H1 fun xs H2 => rMth X.K m x xs H2 Q := by
  obtain ⟨F, φ, st, δ, s, d, h⟩ := h
  simp only [evE] at h
  refine ⟨F, φ, st, δ, s, d, (Post.bind h).imp fun v φ1 st1 H1 t1 h1 u ru => ?_⟩
  have rv := ru.rv t1.sc fun a f => s.fo a f
  cases q : recvOk m st1 v with
  | false => rw [q] at h1; exact h1.elim
  | true =>
    rw [q] at h1
    refine ⟨hT t1.sc rv q, F, φ1, st1, δ, t1.sc, d.step s t1, (Post.bind h1).imp fun vs φ2 st2 H2 t2 h2 us rus => ?_⟩
    cases qm : mthV m st2 v vs with
    | none => rw [qm] at h2; exact h2.elim
    | some r =>
      rw [qm] at h2
      exact ⟨F, φ2, st2, v, vs, r.1, r.2, t2.sc, Step.rv t1.sc t2 rv, rus, qm, fun φ' H' u t3 r3 => h2 φ' H' t3 u (RU.weak (fun a n => t2.al a (t1.al a n)) r3)⟩
theorem ds_mth0 {m : Mth} {o : E} {T : String} {σ : L2.St} {H : Hp} {Q : VK} (hT : tyOk X.K T m) (h : tE X.K P C (.mth m o []) σ H Q) :
    tE X.K P C o σ H fun x H1 => tyV X.K T x H1 ∧ rMth X.K m x [] H1 Q := by
  obtain ⟨F, φ, st, δ, s, d, h⟩ := h
  simp only [evE, evEs] at h
  refine ⟨F, φ, st, δ, s, d, (Post.bind h).imp fun v φ1 st1 H1 t1 h1 u ru => ?_⟩
  have rv := ru.rv t1.sc fun a f => s.fo a f
  cases q : recvOk m st1 v with
  | false => rw [q] at h1; exact h1.elim
  | true =>
    rw [q] at h1
    cases qm : mthV m st1 v [] with
    | none => simp only [Out.bind, qm] at h1; exact h1.elim
    | some r =>
      simp only [Out.bind, qm] at h1
      exact ⟨hT t1.sc rv q, F, φ1, st1, v, [], r.1, r.2, t1.sc, rv, .nil, qm, fun φ' H' u t3 r3 => h1 φ' H' t3 u (RU.weak t1.al r3)⟩
theorem ty_list_app : tyOk X.K "list" .append := fun {F φ st H x v} s r e => by
  unfold recvOk at e
  split at e <;> try (first | (cases ‹Mth.append = _›; done) | (cases e; done))
  all_goals split at e <;> try (cases e; done)
  all_goals
    rename_i hi
    obtain ⟨a, e1, e2⟩ := r
    obtain ⟨vs, h1, h2⟩ := s.cell _ a _ e1 hi
    subst e2
    exact .inl ⟨rfl, vs, .of h1⟩
theorem ty_list_pop : tyOk X.K "list" .pop := fun {F φ st H x v} s r e => by
  unfold recvOk at e
  split at e <;> try (first | (cases ‹Mth.pop = _›; done) | (cases e; done))
  all_goals split at e <;> try (cases e; done)
  all_goals
    rename_i hi
    obtain ⟨a, e1, e2⟩ := r
    obtain ⟨vs, h1, h2⟩ := s.cell _ a _ e1 hi
    subst e2
    exact .inl ⟨rfl, vs, .of h1⟩
theorem ty_str_join : tyOk X.K "str" .join := fun {F φ st H x v} s r e => by
  unfold recvOk at e
  split at e <;> try (first | (cases ‹Mth.join = _›; done) | (cases e; done))
  rw [Den.str_inv r]; exact rfl
theorem ty_str_replace : tyOk X.K "str" .replace := fun {F φ st H x v} s r e => by
  unfold recvOk at e
  split at e <;> try (first | (cases ‹Mth.replace = _›; done) | (cases e; done))
  rw [Den.str_inv r]; exact rfl
theorem ty_str_split : tyOk X.K "str" .split := fun {F φ st H x v} s r e => by
  unfold recvOk at e
  split at e <;> try (first | (cases ‹Mth.split = _›; done) | (cases e; done))
  rw [Den.str_inv r]; exact rfl
/-! ### dicts' own methods -/
theorem rd_isd {H : Hp} {a : Addr} {ks : List (Key × V)} (h : H a = some (.dK ks)) : IsD H a := .inl ⟨ks, .inl h⟩
theorem ds_get1 {o k : E} {σ : L2.St} {H : Hp} {Q : VK} (h : tE X.K P C (.mth .get o [k]) σ H Q) : tDGet1 (tE X.K P C o) (tE X.K P C k) σ H Q := by
  obtain ⟨F, φ, st, δ, s, d, h⟩ := h
  simp only [evE, evEs] at h
  refine ⟨F, φ, st, δ, s, d, (Post.bind h).imp fun v φ1 st1 H1 t1 h1 u ru => ?_⟩
  have rv := ru.rv t1.sc fun a f => s.fo a f
  cases q : recvOk .get st1 v with
  | false => rw [q] at h1; exact h1.elim
  | true =>
    rw [q] at h1
    obtain ⟨kvs, hk⟩ := Option.isSome_iff_exists.mp (show (dctOf st1 v).isSome = true from q)
    obtain ⟨a, ks, e1, hD, dk⟩ := RV.dct t1.sc rv hk
    subst e1
    refine ⟨a, rfl, rd_isd hD, F, φ1, st1, δ, t1.sc, d.step s t1, (Post.bind (Post.bind h1)).imp fun vk φ2 st2 H2 t2 h2 uk ruk => ?_⟩
    have h3 := h2 φ2 H2 (Step.refl t2.sc)
    cases qm : mthV .get st2 v [vk] with
    | none => simp only [qm] at h3; exact h3.elim
    | some r =>
      simp only [qm] at h3
      simp only [mthV] at qm
      cases q1 : dctOf st2 v with
      | none => rw [q1] at qm; cases qm
      | some kvs2 =>
        rw [q1] at qm
        dsimp only [Option.bind_some] at qm
        cases q2 : dataOf st2 vk with
        | none => rw [q2] at qm; cases qm
        | some dd =>
          rw [q2] at qm
          dsimp only [Option.bind_some] at qm
          cases q3 : keyOf dd with
          | none => rw [q3] at qm; cases qm
          | some kk =>
            rw [q3] at qm
            cases qm
            obtain ⟨a', ks2, e2, hD2, dk2⟩ := RV.dct t2.sc (Step.rv t1.sc t2 rv) q1
            cases e2
            obtain ⟨L1, n1⟩ := RV.data t2.sc (ruk.rv t2.sc fun a f => t1.sc.fo a f) q2
            obtain ⟨z1, z2⟩ := key_of_den n1 q3
            subst z1 z2
            refine ⟨valV ks2 kk, DGet.k hD2, ?_⟩
            have lk := kv_lookW kk dk2
            cases ql : dLookW kvs2 (keyD kk) with
            | none =>
              rw [ql] at lk h3
              have lk' : valV ks2 kk = none := lk
              rw [lk']
              exact h3 φ2 H2 (Step.refl t2.sc) _ RU.non
            | some x =>
              rw [ql] at lk h3
              obtain ⟨w, hw, dw⟩ := lk
              rw [hw]
              exact h3 φ2 H2 (Step.refl t2.sc) _ dw
theorem ds_get2 {o k z : E} {σ : L2.St} {H : Hp} {Q : VK} (h : tE X.K P C (.mth .get o [k, z]) σ H Q) : tDGet2 (tE X.K P C o) (tE X.K P C k) (tE X.K P C z) σ H Q := by
  obtain ⟨F, φ, st, δ, s, d, h⟩ := h
  simp only [evE, evEs] at h
  refine ⟨F, φ, st, δ, s, d, (Post.bind h).imp fun v φ1 st1 H1 t1 h1 u ru => ?_⟩
  have rv := ru.rv t1.sc fun a f => s.fo a f
  cases q : recvOk .get st1 v with
  | false => rw [q] at h1; exact h1.elim
  | true =>
    rw [q] at h1
    obtain ⟨kvs, hk⟩ := Option.isSome_iff_exists.mp (show (dctOf st1 v).isSome = true from q)
    obtain ⟨a, ks, e1, hD, dk⟩ := RV.dct t1.sc rv hk
    subst e1
    refine ⟨a, rfl, rd_isd hD, F, φ1, st1, δ, t1.sc, d.step s t1, (Post.bind (Post.bind h1)).imp fun vk φ2 st2 H2 t2 h2 uk ruk => ?_⟩
    refine ⟨F, φ2, st2, δ, t2.sc, (d.step s t1).step t1.sc t2, (Post.bind (Post.bind h2)).imp fun vz φ3 st3 H3 t3 h3 uz ruz => ?_⟩
    have h3 := h3 φ3 H3 (Step.refl t3.sc) φ3 H3 (Step.refl t3.sc)
    cases qm : mthV .get st3 v [vk, vz] with
    | none => simp only [qm] at h3; exact h3.elim
    | some r =>
      simp only [qm] at h3
      simp only [mthV] at qm
      cases q1 : dctOf st3 v with
      | none => rw [q1] at qm; cases qm
      | some kvs2 =>
        rw [q1] at qm
        dsimp only [Option.bind_some] at qm
        cases q2 : dataOf st3 vk with
        | none => rw [q2] at qm; cases qm
        | some dd =>
          rw [q2] at qm
          dsimp only [Option.bind_some] at qm
          cases q3 : keyOf dd with
          | none => rw [q3] at qm; cases qm
          | some kk =>
            rw [q3] at qm
            dsimp only [Option.bind_some] at qm
            cases vz with
            | fl _ => cases qm
            | fd _ => cases qm
            | w wz =>
              cases qm
              obtain ⟨a', ks2, e2, hD2, dk2⟩ := RV.dct t3.sc (Step.rv t2.sc t3 (Step.rv t1.sc t2 rv)) q1
              cases e2
              obtain ⟨L1, n1⟩ := RV.data t3.sc (Step.rv t2.sc t3 (ruk.rv t2.sc fun a f => t1.sc.fo a f)) q2
              obtain ⟨z1, z2⟩ := key_of_den n1 q3
              subst z1 z2
              refine ⟨valV ks2 kk, DGet.k hD2, ?_⟩
              have lk := kv_lookW kk dk2
              cases ql : dLookW kvs2 (keyD kk) with
              | none =>
                rw [ql] at lk h3
                have lk' : valV ks2 kk = none := lk
                rw [lk']
                exact h3 φ3 H3 (Step.refl t3.sc) _ ruz
              | some x =>
                rw [ql] at lk h3
                obtain ⟨w, hw, dw⟩ := lk
                rw [hw]
                exact h3 φ3 H3 (Step.refl t3.sc) _ dw
theorem ds_setd {o k z : E} {σ : L2.St} {H : Hp} {Q : VK} (h : tE X.K P C (.mth .setdefault o [k, z]) σ H Q) : tDSetd (tE X.K P C o) (tE X.K P C k) (tE X.K P C z) σ H Q := by
  obtain ⟨F, φ, st, δ, s, d, h⟩ := h
  simp only [evE, evEs] at h
  refine ⟨F, φ, st, δ, s, d, (Post.bind h).imp fun v φ1 st1 H1 t1 h1 u ru => ?_⟩
  have rv := ru.rv t1.sc fun a f => s.fo a f
  cases q : recvOk .setdefault st1 v with
  | false => rw [q] at h1; exact h1.elim
  | true =>
    rw [q] at h1
    unfold recvOk at q
    split at q <;> try (first | (cases ‹Mth.setdefault = _›; done) | (cases q; done))
    rename_i i _
    split at q <;> try (cases q; done)
    rename_i kvs hi
    obtain ⟨a, e1, e2⟩ := rv
    subst e2
    obtain ⟨ks, hD, dk⟩ := t1.sc.cell _ a _ e1 hi
    refine ⟨a, rfl, rd_isd hD, F, φ1, st1, δ, t1.sc, d.step s t1, (Post.bind (Post.bind h1)).imp fun vk φ2 st2 H2 t2 h2 uk ruk => ?_⟩
    refine ⟨F, φ2, st2, δ, t2.sc, (d.step s t1).step t1.sc t2, (Post.bind (Post.bind h2)).imp fun vz φ3 st3 H3 t3 h3 uz ruz => ?_⟩
    have h3 := h3 φ3 H3 (Step.refl t3.sc) φ3 H3 (Step.refl t3.sc)
    cases qm : mthV .setdefault st3 (.w (.ref i)) [vk, vz] with
    | none => simp only [qm] at h3; exact h3.elim
    | some r =>
      simp only [qm] at h3
      cases vz with
      | fl _ => simp [mthV] at qm
      | fd _ => simp [mthV] at qm
      | w wz =>
        simp only [mthV] at qm
        split at qm <;> try (cases qm; done)
        rename_i kvs2 hi2
        cases q2 : dataOf st3 vk with
        | none => rw [q2] at qm; cases qm
        | some dd =>
          rw [q2] at qm
          dsimp only [Option.bind_some] at qm
          cases q3 : keyOf dd with
          | none => rw [q3] at qm; cases qm
          | some kk =>
            rw [q3] at qm
            dsimp only [Option.bind_some] at qm
            obtain ⟨ψ2, x2⟩ := t2.pre
            obtain ⟨ψ3, x3⟩ := t3.pre
            have e3 : φ3[i]? = some a := by
              have hi' := (List.getElem?_eq_some_iff.mp e1).1
              rw [x3, x2, List.append_assoc, List.getElem?_append_left hi']; exact e1
            obtain ⟨ks2, hD2, dk2⟩ := t3.sc.cell _ a _ e3 hi2
            obtain ⟨L1, n1⟩ := RV.data t3.sc (Step.rv t2.sc t3 (ruk.rv t2.sc fun a f => t1.sc.fo a f)) q2
            obtain ⟨z1, z2⟩ := key_of_den n1 q3
            subst z1 z2
            have lk := kv_lookW kk dk2
            have hlen : ks2.length = kvs2.length := paired_len dk2
            split at qm
            · rename_i hz
              cases ql : dLookW kvs2 (keyD kk) with
              | some x =>
                rw [ql] at lk qm
                obtain ⟨w, hw, dw⟩ := lk
                cases qm
                refine ⟨ks2, kk, hD2, rfl, by rw [line_is, hlen]; exact hz, fun v hv => ?_, fun hn => (by rw [hw] at hn; cases hn)⟩
                rw [hw] at hv
                cases hv
                exact h3 φ3 H3 (Step.refl t3.sc) _ dw
              | none =>
                rw [ql] at lk qm
                have lk' : valV ks2 kk = none := lk
                cases qm
                have lv : Or2 F (Live φ3 st3) a := .inr ⟨i, _, e3, hi2, by intro z; cases z⟩
                refine ⟨ks2, kk, hD2, rfl, by rw [line_is, hlen]; exact hz, fun v hv => (by rw [lk'] at hv; cases hv), fun _ => ?_⟩
                have stp : Step X.K F φ3 st3 H3 φ3 (st3.set i (.dct (putD kvs2 (keyD kk) wz))) (upd H3 a (.dK (putK ks2 kk uz))) :=
                  t3.sc.write e3 hi2 (by intro z; cases z) (by intro z; cases z) trivial ⟨_, upd_same, put_rw (RW.way (way_write lv) t3.sc.cells ⟨[], by simp⟩ ruz) (paired_imp (fun _ _ z => ⟨z.1, RW.way (way_write lv) t3.sc.cells ⟨[], by simp⟩ z.2⟩) dk2)⟩
                exact h3 φ3 _ stp _ (stp.rw t3.sc ruz)
            · cases qm
/-! ### isinstance -/
def tTys (ts : List Ty) : TA := fun _ H Q => Q (ts.map tyV') H
theorem isTys_kit {K : PySem.W.Frag} {st : Sto} {v : Val} (u : Value) (hu : ∀ t b, isTy st v t = some b → PySem.W.kitOne K u (tyL t) = some b) : ∀ {ts : List Ty} {b : Bool}, isTys st v ts = some b → PySem.W.kitAny K u (ts.map tyL) = some b
  | [], b, e => by simp [isTys] at e; subst e; exact kitAny_nil
  | t :: ts, b, e => by
    simp only [isTys] at e
    cases q : isTy st v t with
    | none => rw [q] at e; nomatch e
    | some c =>
      rw [q] at e
      dsimp only [Option.bind_some] at e
      cases q2 : isTys st v ts with
      | none => rw [q2] at e; cases e
      | some d =>
        rw [q2] at e
        cases e
        exact kitAny_cons (hu t c q) (fun z => by rw [z]; simpa using isTys_kit u hu q2) (fun z => by rw [z]; rfl)
theorem ty_paired : ∀ ts : List Ty, Paired ClsV (ts.map tyV') (ts.map tyL)
  | [] => .nil
  | t :: ts => .cons (ty_cls t) (ty_paired ts)
/-- the type a value is of, for isinstance -/
theorem tyx_any {K : PySem.W.Frag} {F : AP} {φ : List Addr} {st : Sto} {H : Hp} {x : V} {a : Val} (hs : SC K F φ st H) (ra : RV K F φ st H x a) (t0 : Ty) (b0 : Bool) (e0 : isTy st a t0 = some b0) : ∃ u, TyX K H x u ∧ ∀ t b, isTy st a t = some b → PySem.W.kitOne K u (tyL t) = some b := by
  by_cases hn : a = vNone
  · subst hn
    refine ⟨.type "NoneType", by rw [Den.non_inv ra]; exact .base .non, fun t b e => ?_⟩
    unfold isTy at e
    cases e
    exact kit_non K t
  · have hx : ∀ t b, isTy st a t = some b → ∃ u, tyOf st a = some u ∧ b = (match u, t with | .bool, .int => true | u, t => u == t) := fun t b e => by
      unfold isTy at e
      split at e
      · exact absurd rfl hn
      · cases q1 : tyOf st a with
        | none => rw [q1] at e; cases e
        | some u => rw [q1] at e; have e' : some _ = some b := e; cases e'; exact ⟨u, rfl, rfl⟩
    obtain ⟨u, hu, _⟩ := hx t0 b0 e0
    refine ⟨tyL u, tyx_of hs ra hu, fun t b e => ?_⟩
    obtain ⟨u', hu', hb⟩ := hx t b e
    rw [hu] at hu'; cases hu'
    rw [hb]
    exact kit_ty K u t
def rIsV (K : PySem.W.Frag) (ts : List Ty) : V → Hp → VK → Prop := fun x H Q => ∃ F φ st v b, SC K F φ st H ∧ RV K F φ st H x v ∧ isTys st v ts = some b ∧ ∀ H', Step K F φ st H φ st H' → Q (.bl b) H'
theorem ds_isi {a : E} {ts : List Ty} {σ : L2.St} {H : Hp} {Q : VK} (h : tE X.K P C (.isi a ts) σ H Q) : tE X.K P C a σ H fun x H1 => rIsV X.K ts x H1 Q := by
  obtain ⟨F, φ, st, δ, s, d, h⟩ := h
  simp only [evE] at h
  refine ⟨F, φ, st, δ, s, d, (Post.bind h).imp fun v φ1 st1 H1 t1 h1 u ru => ?_⟩
  obtain ⟨r, e, q⟩ := h1.lift
  cases qb : isTys st1 v ts with
  | none => rw [qb] at e; cases e
  | some b =>
    rw [qb] at e; cases e
    exact ⟨F, φ1, st1, v, b, t1.sc, ru.rv t1.sc (fun a f => s.fo a f), qb, fun H' t2 => q φ1 H' t2 _ (RU.bl b)⟩
theorem xe_isi {a y : Expr} {e : E} {t : Ty} {p pos : Pos} (hg : Gl X "isinstance") (hm : X.mg "isinstance" = none) (hv : bootBuiltins "isinstance" = some (.builtin "isinstance")) (ha : PE X a (tE X.K P C e)) (hy : PE X y (tC (tyV' t)))
    (h1 : starEach (a :: [y]) X.env = (false, eval a X.env) :: starEach [y] X.env) (h2 : starEach (y :: []) X.env = (false, eval y X.env) :: starEach [] X.env) (hpl : (backTo pos (starEach [y] X.env)).any (·.1) = false) :
    PE X (.Call (.Name "isinstance" p) [a, y] [] pos) (tE X.K P C (.isi e [t])) :=
  pe_weak (pe_callB call_isi hg hm hv (pa_cons ha (pa_cons hy pa_nil h2) h1) (by decide) (by decide) h1 hpl) fun σ H Q h => by
    obtain ⟨F, φ, st, δ, s, d, h⟩ := ds_isi h
    refine ⟨F, φ, st, δ, s, d, h.imp fun v φ1 st1 H1 t1 h1 u ru => ?_⟩
    obtain ⟨F', φ', st', v', b, s', r', e', q⟩ := h1 u ru
    show rIsi X.K [u, tyV' t] H1 Q
    have e2 : isTy st' v' t = some b := by
      simp only [isTys] at e'
      cases qq : isTy st' v' t with
      | none => rw [qq] at e'; cases e'
      | some c => rw [qq] at e'; simpa using e'
    obtain ⟨w, tx, k⟩ := tyx_any s' r' t b e2
    exact ⟨u, tyV' t, w, tyL t, b, rfl, ty_cls t, tx, k t b e2, q H1 (Step.refl s')⟩
end
theorem xa_tys {X : Cx} : ∀ {ts : List Ty} {ys : List Expr}, Paired (fun y t => PE X y (tC (tyV' t))) ys ts → (∀ y ys', starEach (y :: ys') X.env = (false, eval y X.env) :: starEach ys' X.env ∨ y ∉ ys) → PA X ys (tTys ts)
  | [], _, .nil, _ => pa_weak pa_nil fun _ _ _ h => h
  | t :: ts, y :: ys, .cons a r, h => pa_weak (pa_cons a (xa_tys r fun y' ys' => (h y' ys').imp_right fun n z => n (List.mem_cons_of_mem _ z)) ((h y ys).resolve_right fun n => n (List.mem_cons_self ..))) fun _ _ _ h => h
theorem xe_isiT {X : Cx} {P : Par} {C : CE} {a : Expr} {ys : List Expr} {e : E} {t : Ty} {ts : List Ty} {p pos p2 : Pos} {k2 : Nat} (hg : Gl X "isinstance") (hm : X.mg "isinstance" = none) (hv : bootBuiltins "isinstance" = some (.builtin "isinstance")) (ha : PE X a (tE X.K P C e)) (hy : PA X ys (tTys (t :: ts))) (hl : (t :: ts).length ≤ sizeLine)
    (h1 : starEach (a :: [Expr.Tuple ys k2 p2]) X.env = (false, eval a X.env) :: starEach [Expr.Tuple ys k2 p2] X.env) (hpl : (backTo pos (starEach [Expr.Tuple ys k2 p2] X.env)).any (·.1) = false) :
    PE X (.Call (.Name "isinstance" p) [a, Expr.Tuple ys k2 p2] [] pos) (tE X.K P C (.isi e (t :: ts))) :=
  pe_weak (pe_callB call_isiT hg hm hv (pa_cons ha (pa_cons (pe_tup hy) pa_nil rfl) h1) (by decide) (by decide) h1 hpl) fun σ H Q h => by
    obtain ⟨F, φ, st, δ, s, d, h⟩ := ds_isi h
    refine ⟨F, φ, st, δ, s, d, h.imp fun v φ1 st1 H1 t1 h1 u ru => ?_⟩
    obtain ⟨F', φ', st', v', b, s', r', e', q⟩ := h1 u ru
    have e0 := e'
    simp only [isTys] at e0
    cases qq : isTy st' v' t with
    | none => rw [qq] at e0; cases e0
    | some c =>
      refine ⟨by rw [List.length_map]; exact hl, fun p hp => ?_⟩
      obtain ⟨w, tx, k⟩ := tyx_any (s'.laid (o := .tup ((t :: ts).map tyV')) hp).1 (Step.rv s' (Step.laid s' hp) r') t c qq
      exact ⟨u, p, _, w, (t :: ts).map tyL, b, rfl, upd_same, ty_paired _, tx, isTys_kit w k e', q _ (Step.laid s' hp)⟩
end MP
set_option maxHeartbeats 1200000
/-! Ev9: calls. -/
namespace MP
open PySem PySem.Spec L2
def Mono (ex : EX) : Prop := ∀ c p L L' H, (∀ a, L' a → L a) → ex c p L' H → ex c p L H
section
variable {K : PySem.W.Frag} {F : AP} {ex : EX} {φ φ1 ψ : List Addr} {st st1 : Sto} {H H0 H1 : Hp} {L L' : AP}
theorem rw_cut {v : V} {w : W} (hφ : φ1 = φ ++ ψ) (hl : ∀ a, L' a → L a) (r : RW K L H φ1 v w) (hb : w.below φ.length = true) : RW K L' H φ v w := by
  cases w with
  | d x => exact Den.less hl r
  | fz xs => obtain ⟨a, vs, e, h1, h2⟩ := r; exact ⟨a, vs, e, h1, DenAll.less hl h2⟩
  | ref i =>
    obtain ⟨a, e, h⟩ := r
    have hi : i < φ.length := by simpa [W.below] using hb
    rw [hφ, List.getElem?_append_left hi] at e
    exact ⟨a, e, h⟩
theorem rws_cut {vs : List V} {ws : List W} (hφ : φ1 = φ ++ ψ) (hl : ∀ a, L' a → L a) (r : RWs K L H φ1 vs ws) (hb : ws.all (W.below φ.length) = true) : RWs K L' H φ vs ws := by
  induction r with
  | nil => exact .nil
  | cons a r ih =>
    rw [List.all_cons, Bool.and_eq_true] at hb
    exact .cons (rw_cut hφ hl a hb.1) (ih hb.2)
theorem rkv_cut {vs : List (Key × V)} {ws : List (D × W)} (hφ : φ1 = φ ++ ψ) (hl : ∀ a, L' a → L a) (r : Paired (RKv K L H φ1) vs ws) (hb : ws.all (fun kv => kv.2.below φ.length) = true) : Paired (RKv K L' H φ) vs ws := by
  induction r with
  | nil => exact .nil
  | cons a r ih =>
    rw [List.all_cons, Bool.and_eq_true] at hb
    exact .cons ⟨a.1, rw_cut hφ hl a.2 hb.1⟩ (ih hb.2)
theorem rc_cut {a : Addr} {c : Cell} (hφ : φ1 = φ ++ ψ) (hl : ∀ a, L' a → L a) (r : RC K L H φ1 a c) (hb : c.below φ.length = true) : RC K L' H φ a c := by
  cases c with
  | dead => trivial
  | lst xs => obtain ⟨vs, e, h⟩ := r; exact ⟨vs, e, rws_cut hφ hl h hb⟩
  | dct kvs => obtain ⟨vs, e, h⟩ := r; exact ⟨vs, e, rkv_cut hφ hl h hb⟩
  | obj _ _ => exact r.elim
theorem live_cut {n : Nat} {a : Addr} (hφ : φ1 = φ ++ ψ) (h : Live φ (st1.take n) a) : Live φ1 st1 a := by
  obtain ⟨i, c, e1, e2, n1⟩ := h
  refine ⟨i, c, ?_, ?_, n1⟩
  · rw [hφ, List.getElem?_append_left (List.getElem?_eq_some_iff.mp e1).1]; exact e1
  · rw [List.getElem?_take] at e2
    split at e2
    · exact e2
    · cases e2
theorem or_cut {n : Nat} {a : Addr} (hφ : φ1 = φ ++ ψ) (h : Or2 F (Live φ (st1.take n)) a) : Or2 F (Live φ1 st1) a := h.imp_right (live_cut hφ)
/-- the new cells are forgotten -/
theorem Step.cut (s : SC K F φ st H) (t : Step K F φ st H φ1 st1 H1) (hb : (st1.take st.length).all (Cell.below st.length) = true) : Step K F φ st H φ (st1.take st.length) H1 := by
  obtain ⟨ψ, e, n⟩ := t.ext
  have hl := t.sc.len
  have hle : st.length ≤ st1.length := by rw [← hl, e, List.length_append, s.len]; omega
  refine ⟨⟨[], by simp, by simp⟩, fun a o e1 n1 => ⟨(t.keep a o e1 n1).1, fun l => (t.keep a o e1 n1).2 (live_cut e l)⟩, t.al, ?_⟩
  refine ⟨by rw [List.length_take, s.len]; omega, s.nd, fun a h => t.sc.al a (by rw [e]; exact List.mem_append_left _ h), t.sc.fo, t.sc.fc, s.fd, fun i a c e1 e2 => ?_⟩
  have e2' := e2
  rw [List.getElem?_take] at e2
  split at e2
  · have e1' : φ1[i]? = some a := by rw [e, List.getElem?_append_left (List.getElem?_eq_some_iff.mp e1).1]; exact e1
    refine rc_cut e (fun a h => or_cut e h) (t.sc.cell i a c e1' e2) ?_
    rw [s.len]
    exact List.all_eq_true.mp hb c (List.mem_of_getElem? e2')
  · cases e2
theorem SC.fewer {F' : AP} (s : SC K F φ st H) (h : ∀ a, F' a → F a) : SC K F' φ st H :=
  ⟨s.len, s.nd, s.al, fun a f => s.fo a (h a f), fun a f => s.fc a (h a f), fun a f => s.fd a (h a f), fun i a c e1 e2 => RC.way ⟨fun b o e n => ⟨e, fun l => n (l.imp_left (h b))⟩⟩ s.cells ⟨[], by simp⟩ (fun _ => rfl) (s.cell i a c e1 e2)⟩
/-- a call's value, without the new cells -/
theorem RU.cut {u : V} {v v' : Val} (s : SC K F φ st H) (t : Step K F φ st H φ1 st1 H1) (hb : (st1.take st.length).all (Cell.below st.length) = true) (e : valBelow st.length st1 v = some v') (r : RU K F H φ1 st1 H1 u v) : RU K F H φ (st1.take st.length) H1 u v' := by
  have tc := Step.cut s t hb
  obtain ⟨ψ, ee, n⟩ := t.ext
  have sub : ∀ a, Or2 F (Live φ (st1.take st.length)) a → Or2 F (Live φ1 st1) a := fun a h => or_cut ee h
  unfold valBelow at e
  split at e
  · rename_i i
    split at e
    · rename_i hi
      cases e
      exact rw_cut (K := K) (H := H1) (w := .ref i) ee sub r (by simp [W.below, s.len, hi])
    · rename_i hi
      obtain ⟨a, e1, e2⟩ := r
      have hge : φ.length ≤ i := by rw [s.len]; omega
      have ha : a ∈ ψ := by
        rw [ee, List.getElem?_append_right hge] at e1
        exact List.mem_of_getElem? e1
      have hn : H a = none := n a ha
      have hφ : a ∉ φ := fun z => s.al a z hn
      have more : ∀ b, Or2 (Or2 F (One a)) (Live φ (st1.take st.length)) b → Or2 F (Live φ1 st1) b ∨ b = a := fun b h => h.elim (fun h => h.elim (fun h => .inl (.inl h)) .inr) fun h => .inl (sub b (.inr h))
      split at e
      · rename_i xs hx
        split at e
        · rename_i hbx
          cases e
          obtain ⟨vs, h1, h2⟩ := t.sc.cell i a _ e1 hx
          have lv : Or2 F (Live φ1 st1) a := .inr ⟨i, _, e1, hx, by intro z; cases z⟩
          have sub' : ∀ b, Or2 (Or2 F (One a)) (Live φ (st1.take st.length)) b → Or2 F (Live φ1 st1) b := fun b h => (more b h).elim id fun z => z ▸ lv
          refine ⟨a, vs, e2, h1, hn, hφ, rws_cut ee sub' h2 (by rw [s.len]; exact hbx), ?_⟩
          refine ⟨tc.sc.len, tc.sc.nd, tc.sc.al, fun b f => f.elim (tc.sc.fo b) fun z => by rw [show b = a from z, h1]; simp, fun b f o ho => f.elim (fun f => tc.sc.fc b f o ho) fun z => by rw [show b = a from z, h1] at ho; cases ho; trivial,
            fun b f => f.elim (s.fd b) fun z => by rw [show b = a from z]; exact hφ, fun j b c j1 j2 => ?_⟩
          have j2' := j2
          rw [List.getElem?_take] at j2
          split at j2
          · have j1' : φ1[j]? = some b := by rw [ee, List.getElem?_append_left (List.getElem?_eq_some_iff.mp j1).1]; exact j1
            exact rc_cut ee sub' (t.sc.cell j b c j1' j2) (by rw [s.len]; exact List.all_eq_true.mp hb c (List.mem_of_getElem? j2'))
          · cases j2
        · cases e
      · rename_i xs hx
        split at e
        · rename_i hbx
          cases e
          obtain ⟨vs, h1, h2⟩ := t.sc.cell i a _ e1 hx
          have lv : Or2 F (Live φ1 st1) a := .inr ⟨i, _, e1, hx, by intro z; cases z⟩
          have sub' : ∀ b, Or2 (Or2 F (One a)) (Live φ (st1.take st.length)) b → Or2 F (Live φ1 st1) b := fun b h => (more b h).elim id fun z => z ▸ lv
          refine ⟨a, vs, e2, h1, hn, hφ, rkv_cut ee sub' h2 (by rw [s.len]; exact hbx), ?_⟩
          refine ⟨tc.sc.len, tc.sc.nd, tc.sc.al, fun b f => f.elim (tc.sc.fo b) fun z => by rw [show b = a from z, h1]; simp, fun b f o ho => f.elim (fun f => tc.sc.fc b f o ho) fun z => by rw [show b = a from z, h1] at ho; cases ho; trivial,
            fun b f => f.elim (s.fd b) fun z => by rw [show b = a from z]; exact hφ, fun j b c j1 j2 => ?_⟩
          have j2' := j2
          rw [List.getElem?_take] at j2
          split at j2
          · have j1' : φ1[j]? = some b := by rw [ee, List.getElem?_append_left (List.getElem?_eq_some_iff.mp j1).1]; exact j1
            exact rc_cut ee sub' (t.sc.cell j b c j1' j2) (by rw [s.len]; exact List.all_eq_true.mp hb c (List.mem_of_getElem? j2'))
          · cases j2
        · cases e
      · cases e
  · rename_i x hx
    cases e
    refine rw_cut ee sub r ?_
    cases x with
    | d _ => rfl
    | fz _ => rfl
    | ref i => exact (hx i rfl).elim
  · split at e
    · rename_i xs hbx
      cases e
      obtain ⟨a, vs, e1, h1, h2, h3, h4, h5⟩ := r
      have sub' : ∀ b, Or2 (Or2 F (One a)) (Live φ (st1.take st.length)) b → Or2 (Or2 F (One a)) (Live φ1 st1) b := fun b h => h.imp_right (live_cut ee)
      have hφ : a ∉ φ := fun z => s.al a z h2
      refine ⟨a, vs, e1, h1, h2, hφ, rws_cut ee sub' h4 (by rw [s.len]; exact hbx), ?_⟩
      refine ⟨tc.sc.len, tc.sc.nd, tc.sc.al, h5.fo, h5.fc, fun b f => f.elim (s.fd b) fun z => by rw [show b = a from z]; exact hφ, fun j b c j1 j2 => ?_⟩
      have j2' := j2
      rw [List.getElem?_take] at j2
      split at j2
      · have j1' : φ1[j]? = some b := by rw [ee, List.getElem?_append_left (List.getElem?_eq_some_iff.mp j1).1]; exact j1
        exact rc_cut ee sub' (h5.cell j b c j1' j2) (by rw [s.len]; exact List.all_eq_true.mp hb c (List.mem_of_getElem? j2'))
      · cases j2
    · cases e
  · split at e
    · rename_i xs hbx
      cases e
      obtain ⟨a, vs, e1, h1, h2, h3, h4, h5⟩ := r
      have sub' : ∀ b, Or2 (Or2 F (One a)) (Live φ (st1.take st.length)) b → Or2 (Or2 F (One a)) (Live φ1 st1) b := fun b h => h.imp_right (live_cut ee)
      have hφ : a ∉ φ := fun z => s.al a z h2
      refine ⟨a, vs, e1, h1, h2, hφ, rkv_cut ee sub' h4 (by rw [s.len]; exact hbx), ?_⟩
      refine ⟨tc.sc.len, tc.sc.nd, tc.sc.al, h5.fo, h5.fc, fun b f => f.elim (s.fd b) fun z => by rw [show b = a from z]; exact hφ, fun j b c j1 j2 => ?_⟩
      have j2' := j2
      rw [List.getElem?_take] at j2
      split at j2
      · have j1' : φ1[j]? = some b := by rw [ee, List.getElem?_append_left (List.getElem?_eq_some_iff.mp j1).1]; exact j1
        exact rc_cut ee sub' (h5.cell j b c j1' j2) (by rw [s.len]; exact List.all_eq_true.mp hb c (List.mem_of_getElem? j2'))
      · cases j2
    · cases e
theorem post_gc {o : Out Val} {Q : VK} (s : SC K F φ st H) (an : Mono ex) (h : Post K F ex φ st H (gcAt st.length o) fun v φ' st' H' => ∀ u, RU K F H φ' st' H' u v → Q u H') : Post K F ex φ st H o fun v φ' st' H' => ∀ u, RU K F H φ' st' H' u v → Q u H' := by
  unfold gcAt at h
  split at h
  · split at h
    · rename_i hb
      split at h
      · rename_i v' e
        exact fun φ1 H1 t1 u r => h φ H1 (Step.cut s t1 hb) u (RU.cut s t1 hb e r)
      · exact h
    · exact h
  · split at h
    · rename_i hb
      intro φ1 H1 t1
      obtain ⟨ψ, ee, n⟩ := t1.ext
      exact an _ _ _ _ _ (fun a l => or_cut ee l) (h φ H1 (Step.cut s t1 hb))
    · exact h
  · exact h.elim
/-! from the empty store -/
theorem SC.empty (s : SC K F φ st H) : SC K (Or2 F (Live φ st)) [] [] H :=
  by
    refine ⟨rfl, List.nodup_nil, ?_, ?_, s.cells, ?_, ?_⟩
    · intro a h; cases h
    · intro a h
      rcases h with f | l
      · exact s.fo a f
      · exact s.al a l.mem
    · intro a _ h; cases h
    · intro i a c e _; simp at e
theorem no_live {a : Addr} : ¬ Live [] [] a := fun ⟨i, c, e, _⟩ => by simp at e
theorem Step.full (s : SC K F φ st H) (t : Step K (Or2 F (Live φ st)) [] [] H φ1 st1 H1) : Step K F φ st H φ st H1 := by
  have k : ∀ a o, H a = some o → H1 a = some o := fun a o e => (t.keep a o e no_live).1
  have kn : ∀ a, H a ≠ none → H1 a ≠ none := t.al
  have w : Way (Or2 F (Live φ st)) H (Or2 F (Live φ st)) H1 := ⟨fun a o e n => ⟨k a o e, n⟩⟩
  refine ⟨⟨[], by simp, by simp⟩, fun a o e n => ⟨k a o e, n⟩, kn, ⟨s.len, s.nd, fun a h => kn a (s.al a h), fun a h => kn a (s.fo a h), fun a f o ho => ?_, s.fd, fun i a c e1 e2 => RC.way w s.cells ⟨[], by simp⟩ (fun n => ?_) (s.cell i a c e1 e2)⟩⟩
  · cases q : H a with
    | none => exact absurd q (s.fo a f)
    | some o' =>
      have := k a o' q
      rw [ho] at this; cases this
      exact s.fc a f _ q
  · cases q : H a with
    | none => exact absurd q (s.al a (List.mem_of_getElem? e1))
    | some o' => exact k a o' q
theorem SC.plus {p : Addr} {o : HO} (s : SC K F φ st H) (k : ∀ a o, H a = some o → H1 a = some o) (kn : ∀ a, H a ≠ none → H1 a ≠ none) (hp : H p = none) (hp1 : H1 p = some o) (ho : Mut (some o)) : SC K (Or2 F (One p)) φ st H1 := by
  have np : p ∉ φ := fun h => s.al p h hp
  have w : Way (Or2 F (Live φ st)) H (Or2 (Or2 F (One p)) (Live φ st)) H1 := ⟨fun a u e n => by
    have ne : a ≠ p := fun z => by rw [z, hp] at e; cases e
    exact ⟨k a u e, fun l => l.elim (fun f => f.elim (fun f => n (.inl f)) ne) fun l => n (.inr l)⟩⟩
  refine ⟨s.len, s.nd, fun a h => kn a (s.al a h), fun a h => ?_, ?_, fun a h => ?_, fun i a c e1 e2 => RC.way w s.cells ⟨[], by simp⟩ (fun _ => ?_) (s.cell i a c e1 e2)⟩
  · rcases h with h | h
    · exact kn a (s.fo a h)
    · rw [show a = p from h, hp1]; simp
  · rintro a (h | h) u hu
    · cases q : H a with
      | none => exact absurd q (s.fo a h)
      | some o' =>
        have := k a o' q
        rw [hu] at this; cases this
        exact s.fc a h _ q
    · rw [show a = p from h, hp1] at hu
      cases hu
      exact ho
  · rcases h with h | h
    · exact s.fd a h
    · rw [show a = p from h]; exact np
  · cases q : H a with
    | none => exact absurd q (s.al a (List.mem_of_getElem? e1))
    | some o' => exact k a o' q
theorem pure_rw {v : V} {w : W} (hl : ∀ a, L' a → L a) (r : RW K L H φ1 v w) (hp : w.below 0 = true) : RW K L' H φ v w := by
  cases w with
  | d x => exact Den.less hl r
  | fz xs => obtain ⟨a, vs, e, h1, h2⟩ := r; exact ⟨a, vs, e, h1, DenAll.less hl h2⟩
  | ref i => simp [W.below] at hp
theorem pure_rws {vs : List V} {ws : List W} (hl : ∀ a, L' a → L a) (r : RWs K L H φ1 vs ws) (hb : ws.all (W.below 0) = true) : RWs K L' H φ vs ws := by
  induction r with
  | nil => exact .nil
  | cons a r ih =>
    rw [List.all_cons, Bool.and_eq_true] at hb
    exact .cons (pure_rw hl a hb.1) (ih hb.2)
theorem pure_rkv {vs : List (Key × V)} {ws : List (D × W)} (hl : ∀ a, L' a → L a) (r : Paired (RKv K L H φ1) vs ws) (hb : ws.all (fun kv => kv.2.below 0) = true) : Paired (RKv K L' H φ) vs ws := by
  induction r with
  | nil => exact .nil
  | cons a r ih =>
    rw [List.all_cons, Bool.and_eq_true] at hb
    exact .cons ⟨a.1, pure_rw hl a.2 hb.1⟩ (ih hb.2)
theorem RU.full {u : V} {v v' : Val} (s : SC K F φ st H) (t : Step K (Or2 F (Live φ st)) [] [] H φ1 st1 H1) (e : valBelow 0 st1 v = some v') (r : RU K (Or2 F (Live φ st)) H φ1 st1 H1 u v) : RU K F H φ st H1 u v' := by
  have sub : ∀ a, Or2 F (Live φ st) a → Or2 (Or2 F (Live φ st)) (Live φ1 st1) a := fun a h => .inl h
  have k : ∀ a o, H a = some o → H1 a = some o := fun a o e => (t.keep a o e no_live).1
  unfold valBelow at e
  split at e
  · rename_i i
    split at e
    · omega
    · obtain ⟨a, e1, e2⟩ := r
      obtain ⟨ψ, ee, n⟩ := t.ext
      have hn : H a = none := n a (by rw [ee] at e1; exact List.mem_of_getElem? e1)
      have hφ : a ∉ φ := fun z => s.al a z hn
      split at e
      · rename_i xs hx
        split at e
        · rename_i hbx
          cases e
          obtain ⟨vs, h1, h2⟩ := t.sc.cell i a _ e1 hx
          have lv : Live φ1 st1 a := ⟨i, _, e1, hx, by intro z; cases z⟩
          have sub1 : ∀ b, Or2 (Or2 F (One a)) (Live φ st) b → Or2 (Or2 F (Live φ st)) (Live φ1 st1) b := fun b l => l.elim (fun l => l.elim (fun f => .inl (.inl f)) fun z => .inr (by rw [show b = a from z]; exact lv)) fun l => .inl (.inr l)
          exact ⟨a, vs, e2, h1, hn, hφ, pure_rws sub1 h2 hbx, s.plus k t.al hn h1 trivial⟩
        · cases e
      · rename_i xs hx
        split at e
        · rename_i hbx
          cases e
          obtain ⟨vs, h1, h2⟩ := t.sc.cell i a _ e1 hx
          have lv : Live φ1 st1 a := ⟨i, _, e1, hx, by intro z; cases z⟩
          have sub1 : ∀ b, Or2 (Or2 F (One a)) (Live φ st) b → Or2 (Or2 F (Live φ st)) (Live φ1 st1) b := fun b l => l.elim (fun l => l.elim (fun f => .inl (.inl f)) fun z => .inr (by rw [show b = a from z]; exact lv)) fun l => .inl (.inr l)
          exact ⟨a, vs, e2, h1, hn, hφ, pure_rkv sub1 h2 hbx, s.plus k t.al hn h1 trivial⟩
        · cases e
      · cases e
  · rename_i x hx
    cases e
    refine pure_rw sub r ?_
    cases x with
    | d _ => rfl
    | fz _ => rfl
    | ref i => exact (hx i rfl).elim
  · split at e
    · rename_i xs hbx
      cases e
      obtain ⟨a, vs, e1, h1, h2, h3, h4, h5⟩ := r
      have sub2 : ∀ b, Or2 (Or2 F (One a)) (Live φ st) b → Or2 (Or2 (Or2 F (Live φ st)) (One a)) (Live φ1 st1) b := fun b l => l.elim (fun l => l.elim (fun f => .inl (.inl (.inl f))) fun z => .inl (.inr z)) fun l => .inl (.inl (.inr l))
      exact ⟨a, vs, e1, h1, h2, fun z => s.al a z h2, pure_rws sub2 h4 hbx, s.plus k t.al h2 h1 trivial⟩
    · cases e
  · split at e
    · rename_i xs hbx
      cases e
      obtain ⟨a, vs, e1, h1, h2, h3, h4, h5⟩ := r
      have sub2 : ∀ b, Or2 (Or2 F (One a)) (Live φ st) b → Or2 (Or2 (Or2 F (Live φ st)) (One a)) (Live φ1 st1) b := fun b l => l.elim (fun l => l.elim (fun f => .inl (.inl (.inl f))) fun z => .inl (.inr z)) fun l => .inl (.inl (.inr l))
      exact ⟨a, vs, e1, h1, h2, fun z => s.al a z h2, pure_rkv sub2 h4 hbx, s.plus k t.al h2 h1 trivial⟩
    · cases e
theorem post_onto {o : Out Val} {Q : VK} (s : SC K F φ st H) (an : Mono ex) (h : Post K F ex φ st H (onto st (gcS o)) fun v φ' st' H' => ∀ u, RU K F H φ' st' H' u v → Q u H') :
    Post K (Or2 F (Live φ st)) ex [] [] H o fun v φ' st' H' => ∀ u, RU K (Or2 F (Live φ st)) H φ' st' H' u v → Q u H' := by
  cases o with
  | bad => exact h
  | ok v st1 =>
    simp only [gcS] at h
    intro φ1 H1 t1 u r
    cases q : valBelow 0 st1 v with
    | none => rw [q] at h; exact h.elim
    | some v' =>
      rw [q] at h
      exact h φ H1 (Step.full s t1) u (RU.full s t1 q r)
  | exc c p st1 =>
    simp only [gcS] at h
    intro φ1 H1 t1
    exact an _ _ _ _ _ (fun a l => .inl l) (h φ H1 (Step.full s t1))
end
/-! ### a def's promise -/
def spR (K : PySem.W.Frag) (XR : XRel) (np : Nat) (run : List W → Sto → Out Val) : Sp := fun vs H Q E => vs.length = np ∧ ∃ F φ st ws, SC K F φ st H ∧ RWs K (Or2 F (Live φ st)) H φ vs ws ∧
  Post K F (fun c p L H' => ∀ cls d, XR c p cls d L H' → E cls d H') φ st H (run ws st) fun v φ' st' H' => ∀ u, RU K F H φ' st' H' u v → Q u H'
def XAnti (XR : XRel) : Prop := ∀ c p cls d L L' H, (∀ a, L' a → L a) → XR c p cls d L H → XR c p cls d L' H
section
variable {X : Cx} {P : Par} {C : CE}
theorem call_sp {F : AP} {φ : List Addr} {st : Sto} {H H0 : Hp} {f np : Nat} {vs : List V} {ws : List W} {Q : VK} {E : XK} (xa : XAnti P.XR) (s : SC X.K F φ st H) (r : RWs X.K (Or2 F (Live φ st)) H φ vs ws) (hbad : ∀ ws st, ws.length ≠ np → C.run f ws st = .bad) (h0 : ∀ a, H0 a ≠ none → H a ≠ none)
    (h : Post X.K F (fun c p L H' => ∀ cls d, P.XR c p cls d L H' → E cls d H') φ st H (callV C f ws st) fun v φ' st' H' => ∀ u, RU X.K F H0 φ' st' H' u v → Q u H') : spR X.K P.XR np (C.run f) vs H Q E := by
  have an : Mono (fun c p L H' => ∀ cls d, P.XR c p cls d L H' → E cls d H') := fun c p L L' H hs e cls d x => e cls d (xa _ _ _ _ _ _ _ hs x)
  have h : Post X.K F (fun c p L H' => ∀ cls d, P.XR c p cls d L H' → E cls d H') φ st H (callV C f ws st) fun v φ' st' H' => ∀ u, RU X.K F H φ' st' H' u v → Q u H' := h.imp fun v φ1 st1 H1 t1 h1 u ru => h1 u (RU.weak h0 ru)
  have hl : vs.length = np := by
    rw [paired_len r]
    by_cases hw : ws.length = np
    · exact hw
    · have e : callV C f ws st = .bad := by
        unfold callV
        rw [hbad ws [] hw, hbad ws st hw]
        cases ws.all W.pur <;> cases st <;> rfl
      rw [e] at h
      exact h.elim
  refine ⟨hl, ?_⟩
  unfold callV at h
  split at h
  · rename_i hp
    split at h
    · exact ⟨F, φ, [], ws, s, r, post_gc s an h⟩
    · refine ⟨_, [], [], ws, s.empty, ?_, post_onto s an h⟩
      refine pure_rws (fun a l => (show Or2 F (Live φ _) a from (show Or2 (Or2 F (Live φ _)) (Live [] []) a from l).elim id fun l => (no_live l).elim)) r ?_
      rw [List.all_eq_true] at hp ⊢
      intro w hw
      have := hp w hw
      cases w with
      | d _ => rfl
      | fz _ => rfl
      | ref _ => cases this
  · exact ⟨F, φ, st, ws, s, r, post_gc s an h⟩
theorem data_den {K : PySem.W.Frag} {L : AP} {H : Hp} {φ : List Addr} : ∀ {vs : List V} {ds : List D}, DenAll K L H vs ds → RWs K L H φ vs (ds.map .d) := fun h => den_ds h
theorem xe_call {CX : CXT} {k i np : Nat} {f : Addr} {fd : FuncData} {ps : List Str} {dvs : List V} {ds : List Value} {x : Str} {a : Expr} {as : List Expr} {es : List E} {dfl : List D} {p pos : Pos} (xa : XAnti P.XR)
    (fo : FnOk X.prog X.w X.K X.mg X.base CX k f fd ps (spR X.K P.XR np (C.run i))) (hr : Room k X.A) (hg : Gl X x) (hm : X.mg x = some (.ref f)) (hk : PySem.W.keepIn X.K (.ref f) = true) (hb : Binds X.K fd ps ds) (hd : Vals dvs ds) (hx : ∀ σ, PassesAt CX X σ (WE P.W σ))
    (hdd : ∀ L H, DenAll X.K L H dvs dfl) (hbad : ∀ ws st, ws.length ≠ np → C.run i ws st = .bad)
    (ha : PA X (a :: as) (tEs X.K P C es)) (hdb : (x == ("__debug__" : Str)) = false) (he : starEach (a :: as) X.env = (false, eval a X.env) :: starEach as X.env) (hpl : (backTo pos (starEach as X.env)).any (·.1) = false) :
    PE X (.Call (.Name x p) (a :: as) [] pos) (tE X.K P C (.call i es dfl)) :=
  pe_weak (pe_callSD fo hr hg hm hk hb hd hx ha hdb he hpl) fun σ H Q ⟨F, φ, st, δ, s, d, h⟩ => by
    simp only [evE] at h
    refine ⟨F, φ, st, δ, s, d, (Post.bind h).imp fun vs φ1 st1 H1 t1 h1 us ru => ?_⟩
    obtain ⟨ws, e, q⟩ := (Post.bind h1).lift
    have q := q φ1 H1 (Step.refl t1.sc)
    have r1 := wsOf_den t1.sc ru e
    exact call_sp xa t1.sc (paired_app r1 (data_den (hdd _ _))) hbad t1.al q
end
end MP
set_option maxHeartbeats 1200000
/-! Ev10: targets, comprehensions. -/
namespace MP
open PySem PySem.Spec L2
mutual
def gT (K : PySem.W.Frag) : Tg → TG
  | .nm i => gName i
  | .tp ts => gTup K ts.length (gTs K ts)
def gTs (K : PySem.W.Frag) : List Tg → TGs
  | [] => gNil
  | t :: ts => gCons (gT K t) (gTs K ts)
end
mutual
def Tg.slots : Tg → List Nat
  | .nm i => [i]
  | .tp ts => slotsL ts
def slotsL : List Tg → List Nat
  | [] => []
  | t :: ts => t.slots ++ slotsL ts
end
theorem wipe_set {σ : L2.St} {i : Nat} {x : Option V} : ∀ {vs : List Nat}, i ∈ vs → wipe (σ.set i x) vs = wipe σ vs := by
  intro vs
  induction vs with
  | nil => intro h; cases h
  | cons v vs ih =>
    intro h
    unfold wipe
    by_cases hv : i ∈ vs
    · rw [ih hv]
    · have e : i = v := by
        rcases List.eq_or_mem_of_mem_cons h with e | e
        · exact e
        · exact absurd e hv
      subst e
      apply List.ext_getElem?
      intro j
      have key : ∀ {vs : List Nat} {τ : L2.St}, i ∉ vs → wipe (τ.set i x) vs = (wipe τ vs).set i x := by
        intro vs
        induction vs with
        | nil => intro τ _; rfl
        | cons u us ih2 =>
          intro τ hu
          have h1 : i ≠ u := fun z => hu (by rw [z]; exact List.mem_cons_self ..)
          have h2 : i ∉ us := fun z => hu (List.mem_cons_of_mem _ z)
          unfold wipe
          rw [ih2 h2, List.set_comm _ _ h1]
      rw [key hv, List.set_set]
theorem bindTs_len : ∀ {ts : List Tg} {xs : List D} {δ δ' : Env}, bindTs ts xs δ = some δ' → ts.length = xs.length
  | [], [], _, _, _ => rfl
  | [], _ :: _, _, _, e => by simp [bindTs] at e
  | _ :: _, [], _, _, e => by simp [bindTs] at e
  | t :: ts, x :: xs, δ, δ', e => by
    simp only [bindTs] at e
    cases q1 : bindT t (.d x) δ with
    | none => rw [q1] at e; cases e
    | some δ1 => rw [q1] at e; exact congrArg Nat.succ (bindTs_len e)
section
variable {K : PySem.W.Frag} {F : AP} {φ : List Addr} {st : Sto} {H : Hp}
mutual
theorem gT_run : ∀ {t : Tg} {w : W} {δ δ' : Env} {v : V} {σ : L2.St} {Q : L2.St → Hp → Prop}, Sl K F φ st H δ σ → RW K (Or2 F (Live φ st)) H φ v w → bindT t w δ = some δ' →
    (∀ σ', Sl K F φ st H δ' σ' → (∀ own : List Nat, (∀ i ∈ t.slots, i ∈ own) → wipe σ' own = wipe σ own) → Q σ' H) → gT K t v σ H Q
  | .nm i, w, δ, δ', v, σ, Q, s, r, e, q => by
    simp only [bindT] at e
    cases e
    simp only [gT]
    exact q _ (s.set r) fun own ho => wipe_set (ho i (by simp [Tg.slots]))
  | .tp ts, w, δ, δ', v, σ, Q, s, r, e, q => by
    simp only [bindT] at e
    split at e
    · rename_i xs
      obtain ⟨a, vs, e3, h3, d3⟩ := Den.tup_inv r
      simp only [gT]
      exact ⟨a, vs, e3, h3, by rw [d3.length]; exact (bindTs_len e).symm, gTs_run s d3 e fun σ' s' k => q σ' s' fun own ho => k own (by simpa [Tg.slots] using ho)⟩
    · cases e
theorem gTs_run : ∀ {ts : List Tg} {xs : List D} {δ δ' : Env} {vs : List V} {σ : L2.St} {Q : L2.St → Hp → Prop}, Sl K F φ st H δ σ → DenAll K (Or2 F (Live φ st)) H vs xs → bindTs ts xs δ = some δ' →
    (∀ σ', Sl K F φ st H δ' σ' → (∀ own : List Nat, (∀ i ∈ slotsL ts, i ∈ own) → wipe σ' own = wipe σ own) → Q σ' H) → gTs K ts vs σ H Q
  | [], _, δ, δ', _, σ, Q, s, .nil, e, q => by
    simp only [bindTs] at e
    cases e
    simp only [gTs]
    exact ⟨rfl, q σ s fun _ _ => rfl⟩
  | [], _, δ, δ', _, σ, Q, s, .cons _ _, e, q => by simp [bindTs] at e
  | t :: ts, _, δ, δ', _, σ, Q, s, .nil, e, q => by simp [bindTs] at e
  | t :: ts, _, δ, δ', _, σ, Q, s, .cons (d := x) a r, e, q => by
    simp only [bindTs] at e
    cases q1 : bindT t (.d x) δ with
    | none => rw [q1] at e; cases e
    | some δ1 =>
      rw [q1] at e
      simp only [gTs]
      exact ⟨_, _, rfl, gT_run (w := .d x) s a q1 fun σ1 s1 k1 => gTs_run s1 r e fun σ2 s2 k2 => q σ2 s2 fun own ho => (k2 own fun i hi => ho i (by simp [slotsL, hi])).trans (k1 own fun i hi => ho i (by simp [slotsL, hi]))⟩
end
end
/-- .. of a value, or of a tuple that is only taken apart -/
def RWt (K : PySem.W.Frag) (L : AP) (H : Hp) (φ : List Addr) (v : V) (w : W) (tp : Bool) : Prop := RW K L H φ v w ∨ tp = true ∧ ∃ p vs ds, v = .ref p ∧ SqT K H p vs ∧ w = .d (.tuple ds) ∧ DenAll K L H vs ds
theorem gT_runW {K : PySem.W.Frag} {F : AP} {φ : List Addr} {st : Sto} {H : Hp} {t : Tg} {w : W} {δ δ' : Env} {v : V} {σ : L2.St} {Q : L2.St → Hp → Prop} (s : Sl K F φ st H δ σ) (r : RWt K (Or2 F (Live φ st)) H φ v w t.isTp) (e : bindT t w δ = some δ')
    (q : ∀ σ', Sl K F φ st H δ' σ' → (∀ own : List Nat, (∀ i ∈ t.slots, i ∈ own) → wipe σ' own = wipe σ own) → Q σ' H) : gT K t v σ H Q := by
  rcases r with r | ⟨ht, p, vs, ds, ev, hq, ew, dd⟩
  · exact gT_run s r e q
  · cases t with
    | nm i => cases ht
    | tp ts =>
      subst ev ew
      simp only [bindT] at e
      simp only [gT]
      exact ⟨p, vs, rfl, hq, by rw [dd.length]; exact (bindTs_len e).symm, gTs_run s dd e fun σ' s' k => q σ' s' fun own ho => k own (by simpa [Tg.slots] using ho)⟩
/-! ### what is walked, at each turn -/
structure ItA (K : PySem.W.Frag) (wk : Bool) (F : AP) (it : Itx) (i : Nat) (φ : List Addr) (st : Sto) (H : Hp) (J : It) : Prop where
  stop : itAt it i st = some none → J.stop i H
  go : ∀ x, itAt it i st = some (some x) → J.go i H
  yld : ∀ x, itAt it i st = some (some x) → ∀ v H3, J.yld i H v H3 → (H3 = H ∧ RW K (Or2 F (Live φ st)) H φ v x) ∨ wk = true ∧ ∃ p vs ds, H p = none ∧ H3 = upd H p (.tup vs) ∧ v = .ref p ∧ x = .d (.tuple ds) ∧ DenAll K (Or2 F (Live φ st)) H vs ds
theorem itA {K : PySem.W.Frag} {wk : Bool} {F F1 : AP} {it : Itx} {φ φ' : List Addr} {st st' : Sto} {H H' : Hp} {J : It} (o : ItxOk K wk (Or2 F (Live φ st)) H φ J it) (y : Way (Or2 F (Live φ st)) H (Or2 F1 (Live φ' st')) H') (hp : ∃ ψ, φ' = φ ++ ψ) (s : SC K F1 φ' st' H') (i : Nat) : ItA K wk F1 it i φ' st' H' J := by
  cases it with
  | items xs =>
    have o : ItOk K wk (Or2 F (Live φ st)) H φ xs J := o
    refine ⟨fun e => ?_, fun x e => ?_, fun x e v H3 yy => ?_⟩
    · have e : xs[i]? = none := by simpa [itAt] using e
      exact o.stop _ _ y i (List.getElem?_eq_none_iff.mp e)
    · have e : xs[i]? = some x := by simpa [itAt] using e
      exact o.go _ _ y i (List.getElem?_eq_some_iff.mp e).1
    · have e : xs[i]? = some x := by simpa [itAt] using e
      obtain ⟨x', e', h⟩ := o.yld _ _ y i v H3 yy (List.getElem?_eq_some_iff.mp e).1
      rw [e] at e'; cases e'
      rcases h with ⟨h1, h2⟩ | h
      · refine .inl ⟨h1, ?_⟩
        obtain ⟨ψ, rfl⟩ := hp
        cases x with
        | d _ => exact h2
        | fz _ => exact h2
        | ref j => obtain ⟨a, e1, e2⟩ := h2; exact ⟨a, by rw [List.getElem?_append_left (List.getElem?_eq_some_iff.mp e1).1]; exact e1, e2⟩
      · exact .inr h
  | live r =>
    obtain ⟨a, e1, e2⟩ := o
    subst e2
    obtain ⟨ψ, rfl⟩ := hp
    have e1' : (φ ++ ψ)[r]? = some a := by rw [List.getElem?_append_left (List.getElem?_eq_some_iff.mp e1).1]; exact e1
    refine ⟨fun e => ?_, fun x e => ?_, fun x e v H3 yy => ?_⟩
    all_goals
      simp only [itAt] at e
      split at e
      · rename_i xs hx
        obtain ⟨vs, h1, h2⟩ := s.cell r a _ e1' hx
        first
          | exact ⟨vs, .of h1, by rw [paired_len h2]; exact List.getElem?_eq_none_iff.mp (Option.some.inj e)⟩
          | (obtain ⟨u, hu, ru⟩ := paired_get h2 (Option.some.inj e)
             first
              | exact ⟨vs, u, .of h1, hu⟩
              | (obtain ⟨z, yy⟩ := yy
                 have q := yy vs (.of h1)
                 rw [hu] at q
                 cases q
                 exact .inl ⟨z, ru⟩))
      · cases e
theorem post_intro {α : Type} {K : PySem.W.Frag} {F : AP} {ex : EX} {φ : List Addr} {st : Sto} {H : Hp} {o : Out α} {R : α → List Addr → Sto → Hp → Prop} (hb : o.noX ≠ .bad) (h : ∀ a st', o = .ok a st' → ∀ φ' H', Step K F φ st H φ' st' H' → R a φ' st' H') : Post K F ex φ st H o R := by
  cases o with
  | ok a st' => exact h a st' rfl
  | exc c p st' => exact absurd rfl hb
  | bad => exact absurd rfl hb
/-! ### tests of a comprehension -/
def tCs (K : PySem.W.Frag) (P : Par) (C : CE) (cs : List E) : TT := fun σ H Q => ∃ F φ st δ, SC K F φ st H ∧ Sl K F φ st H δ σ ∧
  Post K F (exOf P.XR P.W σ) φ st H (evCs C cs δ st) fun b φ' st' H' => Q b H'
section
variable {X : Cx} {P : Par} {C : CE}
theorem pts_weak {cs : List Expr} {t t' : TT} (h : PTs X cs t) (k : ∀ σ H Q, t' σ H Q → t σ H Q) : PTs X cs t' := ⟨fun pins s σ H Q I q => h.run pins s σ H Q I (k σ H Q q)⟩
theorem xc_nil : PTs X [] (tCs X.K P C []) := pts_weak pts_nil fun σ H Q ⟨F, φ, st, δ, s, d, h⟩ => by
  simp only [evCs] at h
  exact h φ H (Step.refl s)
theorem xc_one {a : Expr} {e : E} (ha : PT X a (tT X.K P C e)) : PTs X [a] (tCs X.K P C [e]) := pts_weak (pts_one ha) fun σ H Q ⟨F, φ, st, δ, s, d, h⟩ => by
  simp only [evCs] at h
  refine ⟨F, φ, st, δ, s, d, (Post.bind h).imp fun v φ1 st1 H1 t1 h1 => ?_⟩
  cases qb : bool? v with
  | none => rw [qb] at h1; exact h1.elim
  | some b =>
    rw [qb] at h1
    refine ⟨b, rfl, ?_⟩
    cases b <;> exact h1 φ1 H1 (Step.refl t1.sc)
end
/-- only D changed -/
theorem SC.grow {K : PySem.W.Frag} {F : AP} {φ : List Addr} {st : Sto} {H : Hp} {D : Addr} {o : HO} (s : SC K (Or2 F (One D)) φ st H) (ho : Mut (some o)) : SC K (Or2 F (One D)) φ st (upd H D o) := by
  have hD : Or2 F (One D) D := .inr rfl
  have nd : D ∉ φ := s.fd D hD
  have w : Way (Or2 (Or2 F (One D)) (Live φ st)) H (Or2 (Or2 F (One D)) (Live φ st)) (upd H D o) := way_write (.inl hD)
  have nn : ∀ a, H a ≠ none → upd H D o a ≠ none := fun a h => by
    by_cases z : a = D
    · rw [z, upd_same]; simp
    · rw [upd_ne z]; exact h
  refine ⟨s.len, s.nd, fun a h => nn a (s.al a h), fun a h => nn a (s.fo a h), fun a f u hu => ?_, s.fd, fun i a c e1 e2 => RC.way w s.cells ⟨[], by simp⟩ (fun _ => upd_ne fun z => nd (z ▸ List.mem_of_getElem? e1)) (s.cell i a c e1 e2)⟩
  by_cases z : a = D
  · rw [z, upd_same] at hu; cases hu; exact ho
  · rw [upd_ne z] at hu; exact s.fc a f u hu
theorem Step.grow {K : PySem.W.Frag} {F : AP} {φ φ1 : List Addr} {st st1 : Sto} {H H1 : Hp} {D : Addr} {o : HO} (t : Step K F φ st H φ1 st1 H1) (h0 : H D = none) (s : SC K (Or2 F (One D)) φ1 st1 H1) (ho : Mut (some o)) : Step K F φ st H φ1 st1 (upd H1 D o) := by
  refine ⟨t.ext, fun a u e n => ⟨?_, (t.keep a u e n).2⟩, fun a h => ?_, (s.grow ho).fewer fun a f => .inl f⟩
  · rw [upd_ne (fun z => by rw [z, h0] at e; cases e)]; exact (t.keep a u e n).1
  · by_cases z : a = D
    · rw [z, upd_same]; simp
    · rw [upd_ne z]; exact t.al a h
theorem Step.fewer {K : PySem.W.Frag} {F F' : AP} {φ φ1 : List Addr} {st st1 : Sto} {H H1 : Hp} (t : Step K F φ st H φ1 st1 H1) (h : ∀ a, F' a → F a) : Step K F' φ st H φ1 st1 H1 := ⟨t.ext, t.keep, t.al, t.sc.fewer h⟩
theorem wipe_none {σ : L2.St} {i : Nat} : ∀ {vs : List Nat}, (wipe σ vs).set i none = wipe (σ.set i none) vs := by
  intro vs
  induction vs with
  | nil => rfl
  | cons v vs ih =>
    unfold wipe
    rw [← ih]
    by_cases h : v = i
    · subst h; rfl
    · rw [List.set_comm _ _ h]
theorem wipe_idem (σ : L2.St) : ∀ vs : List Nat, wipe (wipe σ vs) vs = wipe σ vs
  | [] => rfl
  | v :: vs => by
    show (wipe ((wipe σ vs).set v none) vs).set v none = (wipe σ vs).set v none
    rw [← wipe_none, wipe_idem σ vs, List.set_set]
theorem Out.bind_noX {α β : Type} {o : Out α} {f : α → Sto → Out β} (h : o.noX = .bad) : o.noX.bind f = .bad := by rw [h]; rfl
theorem ds_lc {X : Cx} {P P0 : Par} {C : CE} {own : List Nat} {t : Tg} {s : Src} {cs : List E} {e : E} {σ : L2.St} {H : Hp} {Q : VK} (hs : ∀ i ∈ t.slots, i ∈ own) (h : tE X.K P C (.lc own t s cs e) σ H Q) :
    tLc (tSrc X.K P C s) (gT X.K t) (tCs X.K P0 C cs) (tE X.K P0 C e) own σ H Q := by
  obtain ⟨F, φ, st, δ, s0, d, h⟩ := h
  simp only [evE] at h
  split at h
  · exact h.elim
  rename_i hwk
  have hwk : s.isW = true → t.isTp = true := fun z => by
    rw [z] at hwk
    simpa using hwk
  refine ⟨F, φ, st, δ, s0, d, (Post.bind h).imp fun it φ1 st1 H1 t1 h1 J oJ D hD => ?_⟩
  generalize hf : (fun (x : W) (st : Sto) => match bindT t x (wipeE δ own) with
      | none => Out.bad
      | some σ' => (evCs C cs σ' st).noX.bind fun b st => match b with
        | true => (evE C e σ' st).noX.bind fun v st => liftO ((wOf v).map some) st
        | false => Out.ok none st) = f at h1
  have hn0 : ∃ n0, gathOf C.lf f it st1 = gathI f it n0 0 [] st1 := by
    cases it with
    | items xs => exact ⟨xs.length + 1, gath_items f xs xs.length 0 [] st1 rfl⟩
    | live r => exact ⟨C.lf, gath_live f r C.lf 0 [] st1⟩
  obtain ⟨n0, hn0⟩ := hn0
  rw [hn0] at h1
  have hH : H D = none := by
    cases q : H D with
    | none => rfl
    | some o => exact absurd hD (t1.al D (by rw [q]; simp))
  have hnb : ∀ {m i acc st2}, gathI f it n0 0 [] st1 = gathI f it m i acc st2 → gathI f it m i acc st2 ≠ .bad := fun e z => by rw [e, z] at h1; exact h1.elim
  refine ⟨fun i m H2 => ∃ φ2 st2 acc vs, m + i = n0 ∧ Step X.K F φ1 st1 H1 φ2 st2 H2 ∧ SC X.K (Or2 F (One D)) φ2 st2 H2 ∧ H2 D = some (.lst vs) ∧ RWs X.K (Or2 (Or2 F (One D)) (Live φ2 st2)) H2 φ2 vs acc ∧ gathI f it n0 0 [] st1 = gathI f it m i acc st2,
    ⟨n0, φ1, st1, [], [], rfl, Step.laid t1.sc hD, t1.sc.new hD trivial, upd_same, .nil, rfl⟩, ?_⟩
  rintro i m H2 ⟨φ2, st2, acc, vs, hm, t2, s2, hv, dv, heq⟩
  cases m with
  | zero => exact (hnb heq rfl).elim
  | succ m =>
    have hw : ∀ H3, Step X.K F φ1 st1 H1 φ2 st2 H3 → Way (Or2 F (Live φ1 st1)) H1 (Or2 (Or2 F (One D)) (Live φ2 st2)) H3 := fun H3 t2 => ⟨fun a o e n => by
      have k := t2.keep a o e fun l => n (.inr l)
      exact ⟨k.1, fun l => l.elim (fun l => l.elim (fun f => n (.inl f)) fun z => by rw [show a = D from z, hD] at e; cases e) k.2⟩⟩
    have ia := itA oJ (hw H2 t2) t2.pre s2 i
    cases q : itAt it i st2 with
    | none => exact (hnb heq (by simp only [gathI]; rw [q])).elim
    | some ox =>
      cases ox with
      | none =>
        refine .inl ⟨ia.stop q, ?_⟩
        have heq' : gathI f it n0 0 [] st1 = .ok acc st2 := by rw [heq]; simp only [gathI]; rw [q]
        rw [heq'] at h1
        exact h1 φ2 H2 t2 _ ⟨D, vs, rfl, hv, hH, s2.fd D (.inr rfl), dv, s2⟩
      | some x =>
        refine .inr ⟨ia.go x q, fun H5 => ∃ φ2 st2 acc vs, m + (i + 1) = n0 ∧ Step X.K F φ1 st1 H1 φ2 st2 H5 ∧ SC X.K (Or2 F (One D)) φ2 st2 H5 ∧ H5 D = some (.lst vs) ∧ RWs X.K (Or2 (Or2 F (One D)) (Live φ2 st2)) H5 φ2 vs acc ∧ gathI f it n0 0 [] st1 = gathI f it m (i + 1) acc st2,
          fun H' h' => ⟨m, Nat.lt_succ_self m, h'⟩, fun v H3 yy => ?_⟩
        have h3 : SC X.K (Or2 F (One D)) φ2 st2 H3 ∧ Step X.K F φ1 st1 H1 φ2 st2 H3 ∧ H3 D = some (.lst vs) ∧ RWs X.K (Or2 (Or2 F (One D)) (Live φ2 st2)) H3 φ2 vs acc ∧ RWt X.K (Or2 (Or2 F (One D)) (Live φ2 st2)) H3 φ2 v x t.isTp := by
          rcases ia.yld x q v H3 yy with ⟨e3, r⟩ | ⟨zw, p, ws, ds, hp, e3, ev, ex, dd⟩
          · subst e3; exact ⟨s2, t2, hv, dv, .inl r⟩
          · subst e3 ev ex
            exact ⟨(s2.laid hp).1, t2.trans (Step.laid t2.sc hp), by rw [upd_ne (fun z => by rw [z, hp] at hv; cases hv)]; exact hv, paired_imp (fun _ _ z => RW.laid s2 hp z) dv, .inr ⟨hwk zw, p, ws, ds, rfl, .of upd_same, rfl, DenAll.laid s2 hp dd⟩⟩
        obtain ⟨s3, t3, hv3, dv3, rx⟩ := h3
        have sl3 : Sl X.K (Or2 F (One D)) φ2 st2 H3 δ σ := by
          have d1 := d.step s0 t1
          exact ⟨d1.len, fun j w ej => let ⟨u, e1, r⟩ := d1.slot j w ej; ⟨u, e1, RW.way (hw H3 t3) t1.sc.cells t3.pre r⟩⟩
        have key : gathI f it n0 0 [] st1 = (f x st2).bind fun y st => match y with
            | some y => if acc.length < line then gathI f it m (i + 1) (acc ++ [y]) st else .bad
            | none => gathI f it m (i + 1) acc st := by rw [heq]; simp only [gathI]; rw [q]; try rfl
        have hfx : f x st2 = match bindT t x (wipeE δ own) with
            | none => Out.bad
            | some σ' => (evCs C cs σ' st2).noX.bind fun b st => match b with
              | true => (evE C e σ' st).noX.bind fun v st => liftO ((wOf v).map some) st
              | false => Out.ok none st := by rw [← hf]
        have hnb2 : (f x st2) ≠ .bad := fun z => by rw [key, z] at h1; exact h1.elim
        cases qb : bindT t x (wipeE δ own) with
        | none => rw [qb] at hfx; exact (hnb2 hfx).elim
        | some δ2 =>
          rw [qb] at hfx
          dsimp only at hfx
          refine gT_runW (sl3.wipe own) rx qb fun σ2 sl4 hw2 => ⟨by rw [hw2 own hs, wipe_idem], ?_⟩
          refine ⟨_, φ2, st2, δ2, s3, sl4, post_intro (fun z => hnb2 (hfx.trans (Out.bind_noX z))) fun b st4 e4 φ4 H4 t4 => ?_⟩
          rw [e4] at hfx
          have hv4 : H4 D = some (.lst vs) := (t4.keep D _ hv3 fun l => s3.fd D (.inr rfl) l.mem).1
          have dv4 : RWs X.K (Or2 (Or2 F (One D)) (Live φ4 st4)) H4 φ4 vs acc := paired_imp (fun _ _ z => t4.rw s3 z) dv3
          have tt4 : Step X.K F φ1 st1 H1 φ4 st4 H4 := t3.trans (t4.fewer fun a f => .inl f)
          cases b with
          | false =>
            simp only [if_neg Bool.false_ne_true]
            have hfx : f x st2 = .ok none st4 := hfx
            exact ⟨φ4, st4, acc, vs, by omega, tt4, t4.sc, hv4, dv4, by rw [key, hfx]; rfl⟩
          | true =>
            simp only [if_true]
            have hfx : f x st2 = (evE C e δ2 st4).noX.bind fun v st => liftO ((wOf v).map some) st := hfx
            refine ⟨_, φ4, st4, δ2, t4.sc, sl4.step s3 t4, post_intro (fun z => hnb2 (hfx.trans (Out.bind_noX z))) fun y st5 e5 φ5 H5 t5 u ru => ?_⟩
            rw [e5] at hfx
            have hfx : f x st2 = liftO ((wOf y).map some) st5 := hfx
            cases qw : wOf y with
            | none => rw [qw] at hfx; exact (hnb2 hfx).elim
            | some w =>
              rw [qw] at hfx
              have hfx : f x st2 = .ok (some w) st5 := hfx
              rw [hfx] at key
              have key : gathI f it n0 0 [] st1 = if acc.length < line then gathI f it m (i + 1) (acc ++ [w]) st5 else .bad := key
              split at key
              · rename_i hz
                have hv5 : H5 D = some (.lst vs) := (t5.keep D _ hv4 fun l => t4.sc.fd D (.inr rfl) l.mem).1
                have dv5 : RWs X.K (Or2 (Or2 F (One D)) (Live φ5 st5)) H5 φ5 vs acc := paired_imp (fun _ _ z => t5.rw t4.sc z) dv4
                have lD : Or2 (Or2 F (One D)) (Live φ5 st5) D := .inl (.inr rfl)
                have rw5 := wOf_den t5.sc (ru.rv t5.sc fun a f => t4.sc.fo a f) qw
                exact ⟨vs, hv5, by rw [line_is, paired_len dv5]; exact hz, φ5, st5, acc ++ [w], vs ++ [u], by omega, Step.grow (tt4.trans (t5.fewer fun a f => .inl f)) hD t5.sc trivial, t5.sc.grow trivial, upd_same,
                  paired_app (paired_imp (fun _ _ z => RW.way (way_write lD) t5.sc.cells ⟨[], by simp⟩ z) dv5) (.cons (RW.way (way_write lD) t5.sc.cells ⟨[], by simp⟩ rw5) .nil), key⟩
              · rw [key] at h1; exact h1.elim
end MP
set_option maxHeartbeats 1200000
/-! EvD: a dict comprehension is the dict of a list of pairs. -/
namespace MP
open PySem PySem.Spec L2
theorem pairs_snoc {w : W} {kw : D × W} (hw : pairD w = some kw) : ∀ {acc : List W} {k1 : List (D × W)}, pairsD acc = some k1 → pairsD (acc ++ [w]) = some (k1 ++ [kw])
  | [], _, h => by cases h; simp [pairsD, hw]
  | x :: acc, k1, h => by
    simp only [List.cons_append, pairsD] at h ⊢
    cases q : pairD x with
    | none => rw [q] at h; cases h
    | some p =>
      rw [q] at h
      dsimp only [Option.bind_some] at h ⊢
      cases q3 : pairsD acc with
      | none => rw [q3] at h; cases h
      | some k3 =>
        rw [q3] at h; cases h
        rw [pairs_snoc hw q3]; rfl
theorem pairs_len : ∀ {acc : List W} {k1 : List (D × W)}, pairsD acc = some k1 → k1.length = acc.length
  | [], _, h => by cases h; rfl
  | x :: acc, k1, h => by
    simp only [pairsD] at h
    cases q : pairD x with
    | none => rw [q] at h; cases h
    | some p =>
      rw [q] at h
      dsimp only [Option.bind_some] at h
      cases q3 : pairsD acc with
      | none => rw [q3] at h; cases h
      | some k3 => rw [q3] at h; cases h; simp only [List.length_cons, pairs_len q3]
theorem putD_len {β : Type} (kvs : List (D × β)) (k : D) (v : β) : (putD kvs k v).length ≤ kvs.length + 1 := by
  unfold putD
  split
  · rw [List.length_map]; omega
  · rw [List.length_append]; exact Nat.le_refl _
theorem mergeD_len {β : Type} : ∀ (more kvs : List (D × β)), (mergeD kvs more).length ≤ kvs.length + more.length
  | [], kvs => Nat.le_refl _
  | p :: r, kvs => by
    have h := mergeD_len r (putD kvs p.1 p.2)
    have h2 := putD_len kvs p.1 p.2
    show (mergeD (putD kvs p.1 p.2) r).length ≤ _
    rw [List.length_cons]; omega
theorem mergeD_snoc {β : Type} (k1 : List (D × β)) (kw : D × β) : mergeD [] (k1 ++ [kw]) = putD (mergeD [] k1) kw.1 kw.2 := by
  unfold mergeD
  rw [List.foldl_append]; rfl
theorem paired_rev {α β : Type} {P : α → β → Prop} : ∀ {xs : List α} {ys : List β}, Paired P xs ys → Paired P xs.reverse ys.reverse
  | _, _, .nil => .nil
  | _, _, .cons a r => by
    simp only [List.reverse_cons]
    exact paired_app (paired_rev r) (.cons a .nil)
abbrev tDi (X : Cx) (P P0 : Par) (C : CE) (own : List Nat) (t : Tg) (s : Src) (cs : List E) (k e : E) : TE := tDc (tSrc X.K P C s) (gT X.K t) (tCs X.K P0 C cs) (tE X.K P0 C k) (tE X.K P0 C e) own
theorem pair_inv {st : Sto} {u v : Val} {y : Val} (h : bltV .pair st [u, v] = some y) : ∃ k x kk, u = .w (.d k) ∧ v = .w (.d x) ∧ keyOf k = some kk ∧ y = vTup [k, x] := by
  have no : ∀ {o : Option Val}, o = none → o = some y → False := fun e1 e2 => by rw [e1] at e2; cases e2
  cases u with
  | fl a => exact (no rfl h).elim
  | fd a => exact (no rfl h).elim
  | w a =>
    cases a with
    | fz _ => exact (no rfl h).elim
    | ref _ => exact (no rfl h).elim
    | d k =>
      cases v with
      | fl a => exact (no rfl h).elim
      | fd a => exact (no rfl h).elim
      | w b =>
        cases b with
        | fz _ => exact (no rfl h).elim
        | ref _ => exact (no rfl h).elim
        | d x =>
          have h : (keyOf k).map (fun _ => vTup [k, x]) = some y := h
          cases q : keyOf k with
          | none => rw [q] at h; cases h
          | some kk => rw [q] at h; cases h; exact ⟨_, _, kk, rfl, rfl, q, rfl⟩
theorem ds_dc {X : Cx} {P P0 : Par} {C : CE} {own : List Nat} {t : Tg} {s : Src} {cs : List E} {k e : E} {σ : L2.St} {H : Hp} {Q : VK} (hs : ∀ i ∈ t.slots, i ∈ own) (h : tE X.K P C (.blt .dict [.lc own t s cs (.blt .pair [k, e])]) σ H Q) :
    tDi X P P0 C own t s cs k e σ H Q := by
  obtain ⟨F, φ, st, δ, s0, d, h⟩ := h
  rw [evE, evEs, evE] at h
  split at h
  · exact h.elim
  rename_i hwk
  have hwk : s.isW = true → t.isTp = true := fun z => by
    rw [z] at hwk
    simpa using hwk
  refine ⟨F, φ, st, δ, s0, d, (Post.bind (Post.bind (Post.bind h))).imp fun it φ1 st1 H1 t1 h1 J oJ D hD => ?_⟩
  generalize hf : (fun (x : W) (st : Sto) => match bindT t x (wipeE δ own) with
      | none => Out.bad
      | some σ' => (evCs C cs σ' st).noX.bind fun b st => match b with
        | true => (evE C (.blt .pair [k, e]) σ' st).noX.bind fun v st => liftO ((wOf v).map some) st
        | false => Out.ok none st) = f at h1
  have hn0 : ∃ n0, gathOf C.lf f it st1 = gathI f it n0 0 [] st1 := by
    cases it with
    | items xs => exact ⟨xs.length + 1, gath_items f xs xs.length 0 [] st1 rfl⟩
    | live r => exact ⟨C.lf, gath_live f r C.lf 0 [] st1⟩
  obtain ⟨n0, hn0⟩ := hn0
  dsimp only at h1
  rw [hn0] at h1
  simp only [evEs] at h1
  have hH : H D = none := by
    cases q : H D with
    | none => rfl
    | some o => exact absurd hD (t1.al D (by rw [q]; simp))
  have hnb : ∀ {m i acc st2}, gathI f it n0 0 [] st1 = gathI f it m i acc st2 → gathI f it m i acc st2 ≠ .bad := fun e z => by rw [e, z] at h1; exact h1.elim
  refine ⟨fun i m H2 => ∃ φ2 st2 acc kvs ks, m + i = n0 ∧ Step X.K F φ1 st1 H1 φ2 st2 H2 ∧ SC X.K (Or2 F (One D)) φ2 st2 H2 ∧ H2 D = some (.dK ks) ∧ pairsD acc = some kvs ∧ Paired (RKv X.K (Or2 (Or2 F (One D)) (Live φ2 st2)) H2 φ2) ks (mergeD [] kvs) ∧ gathI f it n0 0 [] st1 = gathI f it m i acc st2,
    ⟨n0, φ1, st1, [], [], [], rfl, Step.laid t1.sc hD, t1.sc.new hD trivial, upd_same, rfl, .nil, rfl⟩, ?_⟩
  rintro i m H2 ⟨φ2, st2, acc, kvs, ks, hm, t2, s2, hv, hp, dv, heq⟩
  cases m with
  | zero => exact (hnb heq rfl).elim
  | succ m =>
    have hw : ∀ H3, Step X.K F φ1 st1 H1 φ2 st2 H3 → Way (Or2 F (Live φ1 st1)) H1 (Or2 (Or2 F (One D)) (Live φ2 st2)) H3 := fun H3 t2 => ⟨fun a o e n => by
      have k := t2.keep a o e fun l => n (.inr l)
      exact ⟨k.1, fun l => l.elim (fun l => l.elim (fun f => n (.inl f)) fun z => by rw [show a = D from z, hD] at e; cases e) k.2⟩⟩
    have ia := itA oJ (hw H2 t2) t2.pre s2 i
    cases q : itAt it i st2 with
    | none => exact (hnb heq (by simp only [gathI]; rw [q])).elim
    | some ox =>
      cases ox with
      | none =>
        refine .inl ⟨ia.stop q, ?_⟩
        have heq' : gathI f it n0 0 [] st1 = .ok acc st2 := by rw [heq]; simp only [gathI]; rw [q]
        rw [heq'] at h1
        have h2 := h1 φ2 H2 t2 φ2 H2 (Step.refl t2.sc)
        dsimp only at h2
        have e2 : bltV .dict st2 [.fl acc] = some (.fd (mergeD [] kvs)) := by
          show ((some acc).bind fun xs => (pairsD xs).map fun kvs => Val.fd (mergeD [] kvs)) = _
          rw [Option.bind_some, hp]; rfl
        rw [e2] at h2
        exact h2 φ2 H2 (Step.refl t2.sc) _ ⟨D, ks, rfl, hv, hH, s2.fd D (.inr rfl), dv, s2⟩
      | some x =>
        refine .inr ⟨ia.go x q, fun H5 => ∃ φ2 st2 acc kvs ks, m + (i + 1) = n0 ∧ Step X.K F φ1 st1 H1 φ2 st2 H5 ∧ SC X.K (Or2 F (One D)) φ2 st2 H5 ∧ H5 D = some (.dK ks) ∧ pairsD acc = some kvs ∧ Paired (RKv X.K (Or2 (Or2 F (One D)) (Live φ2 st2)) H5 φ2) ks (mergeD [] kvs) ∧ gathI f it n0 0 [] st1 = gathI f it m (i + 1) acc st2,
          fun H' h' => ⟨m, Nat.lt_succ_self m, h'⟩, fun v H3 yy => ?_⟩
        have h3 : SC X.K (Or2 F (One D)) φ2 st2 H3 ∧ Step X.K F φ1 st1 H1 φ2 st2 H3 ∧ H3 D = some (.dK ks) ∧ Paired (RKv X.K (Or2 (Or2 F (One D)) (Live φ2 st2)) H3 φ2) ks (mergeD [] kvs) ∧ RWt X.K (Or2 (Or2 F (One D)) (Live φ2 st2)) H3 φ2 v x t.isTp := by
          rcases ia.yld x q v H3 yy with ⟨e3, r⟩ | ⟨zw, p, ws, ds, hp2, e3, ev, ex, dd⟩
          · subst e3; exact ⟨s2, t2, hv, dv, .inl r⟩
          · subst e3 ev ex
            exact ⟨(s2.laid hp2).1, t2.trans (Step.laid t2.sc hp2), by rw [upd_ne (fun z => by rw [z, hp2] at hv; cases hv)]; exact hv, paired_imp (fun _ _ z => ⟨z.1, RW.laid s2 hp2 z.2⟩) dv, .inr ⟨hwk zw, p, ws, ds, rfl, .of upd_same, rfl, DenAll.laid s2 hp2 dd⟩⟩
        obtain ⟨s3, t3, hv3, dv3, rx⟩ := h3
        have sl3 : Sl X.K (Or2 F (One D)) φ2 st2 H3 δ σ := by
          have d1 := d.step s0 t1
          exact ⟨d1.len, fun j w ej => let ⟨u, e1, r⟩ := d1.slot j w ej; ⟨u, e1, RW.way (hw H3 t3) t1.sc.cells t3.pre r⟩⟩
        have key : gathI f it n0 0 [] st1 = (f x st2).bind fun y st => match y with
            | some y => if acc.length < line then gathI f it m (i + 1) (acc ++ [y]) st else .bad
            | none => gathI f it m (i + 1) acc st := by rw [heq]; simp only [gathI]; rw [q]; try rfl
        have hfx : f x st2 = match bindT t x (wipeE δ own) with
            | none => Out.bad
            | some σ' => (evCs C cs σ' st2).noX.bind fun b st => match b with
              | true => (evE C (.blt .pair [k, e]) σ' st).noX.bind fun v st => liftO ((wOf v).map some) st
              | false => Out.ok none st := by rw [← hf]
        have hnb2 : (f x st2) ≠ .bad := fun z => by rw [key, z] at h1; exact h1.elim
        cases qb : bindT t x (wipeE δ own) with
        | none => rw [qb] at hfx; exact (hnb2 hfx).elim
        | some δ2 =>
          rw [qb] at hfx
          dsimp only at hfx
          refine gT_runW (sl3.wipe own) rx qb fun σ2 sl4 hw2 => ⟨by rw [hw2 own hs, wipe_idem], ?_⟩
          refine ⟨_, φ2, st2, δ2, s3, sl4, post_intro (fun z => hnb2 (hfx.trans (Out.bind_noX z))) fun b st4 e4 φ4 H4 t4 => ?_⟩
          rw [e4] at hfx
          have hv4 : H4 D = some (.dK ks) := (t4.keep D _ hv3 fun l => s3.fd D (.inr rfl) l.mem).1
          have dv4 : Paired (RKv X.K (Or2 (Or2 F (One D)) (Live φ4 st4)) H4 φ4) ks (mergeD [] kvs) := paired_imp (fun _ _ z => ⟨z.1, t4.rw s3 z.2⟩) dv3
          have tt4 : Step X.K F φ1 st1 H1 φ4 st4 H4 := t3.trans (t4.fewer fun a f => .inl f)
          cases b with
          | false =>
            simp only [if_neg Bool.false_ne_true]
            have hfx : f x st2 = .ok none st4 := hfx
            exact ⟨φ4, st4, acc, kvs, ks, by omega, tt4, t4.sc, hv4, hp, dv4, by rw [key, hfx]; rfl⟩
          | true =>
            simp only [if_true]
            have hfx : f x st2 = (evE C (.blt .pair [k, e]) δ2 st4).noX.bind fun v st => liftO ((wOf v).map some) st := hfx
            have hb1 : (evE C k δ2 st4).noX ≠ .bad := fun z => hnb2 (hfx.trans (Out.bind_noX (by
              cases q7 : evE C k δ2 st4 with
              | ok a b => rw [q7] at z; cases z
              | exc c p s => simp only [evE, evEs, q7, Out.bind, Out.noX]
              | bad => simp only [evE, evEs, q7, Out.bind, Out.noX])))
            refine ⟨_, φ4, st4, δ2, t4.sc, sl4.step s3 t4, post_intro hb1 fun vk st5 e5 φ5 H5 t5 uk ruk => ?_⟩
            have hb2 : (evE C e δ2 st5).noX ≠ .bad := fun z => hnb2 (hfx.trans (Out.bind_noX (by
              cases q7 : evE C e δ2 st5 with
              | ok a b => rw [q7] at z; cases z
              | exc c p s => simp only [evE, evEs, e5, q7, Out.bind, Out.noX]
              | bad => simp only [evE, evEs, e5, q7, Out.bind, Out.noX])))
            refine ⟨_, φ5, st5, δ2, t5.sc, (sl4.step s3 t4).step t4.sc t5, post_intro hb2 fun ve st6 e6 φ6 H6 t6 ue rue => ?_⟩
            have hty : evE C (.blt .pair [k, e]) δ2 st4 = liftO (bltV .pair st6 [vk, ve]) st6 := by simp only [evE, evEs, e5, e6, Out.bind]
            rw [hty] at hfx
            cases qy : bltV .pair st6 [vk, ve] with
            | none => rw [qy] at hfx; exact (hnb2 hfx).elim
            | some y =>
              rw [qy] at hfx
              obtain ⟨dk, dx, kk, y1, y2, y3, y4⟩ := pair_inv qy
              subst y1 y2 y4
              have hfx : f x st2 = .ok (some (.d (.tuple [dk, dx]))) st6 := hfx
              rw [hfx] at key
              have key : gathI f it n0 0 [] st1 = if acc.length < line then gathI f it m (i + 1) (acc ++ [.d (.tuple [dk, dx])]) st6 else .bad := key
              split at key
              · rename_i hz
                obtain ⟨z1, z2⟩ := key_of_den (L := Or2 (Or2 F (One D)) (Live φ5 st5)) ruk y3
                subst z1 z2
                have hv5 : H5 D = some (.dK ks) := (t5.keep D _ hv4 fun l => t4.sc.fd D (.inr rfl) l.mem).1
                have hv6 : H6 D = some (.dK ks) := (t6.keep D _ hv5 fun l => t5.sc.fd D (.inr rfl) l.mem).1
                have dv6 : Paired (RKv X.K (Or2 (Or2 F (One D)) (Live φ6 st6)) H6 φ6) ks (mergeD [] kvs) := paired_imp (fun _ _ z => ⟨z.1, t6.rw t5.sc (t5.rw t4.sc z.2)⟩) dv4
                have lD : Or2 (Or2 F (One D)) (Live φ6 st6) D := .inl (.inr rfl)
                have hpw : pairD (.d (.tuple [keyD kk, dx])) = some (keyD kk, .d dx) := by
                  show (keyOf (keyD kk)).map (fun _ => (keyD kk, W.d dx)) = _
                  rw [y3]; rfl
                have hl : ks.length < sizeLine := by
                  have l1 := paired_len dv6
                  have l2 : (mergeD [] kvs).length ≤ 0 + kvs.length := mergeD_len kvs []
                  have l3 := pairs_len hp
                  rw [line_is]
                  omega
                refine ⟨ks, kk, rfl, hv6, hl, φ6, st6, acc ++ [.d (.tuple [keyD kk, dx])], kvs ++ [(keyD kk, .d dx)], putK ks kk ue, by omega, Step.grow ((tt4.trans (t5.fewer fun a f => .inl f)).trans (t6.fewer fun a f => .inl f)) hD t6.sc trivial, t6.sc.grow trivial, upd_same, pairs_snoc hpw hp, ?_, key⟩
                rw [mergeD_snoc]
                exact put_rw (RW.way (way_write lD) t6.sc.cells ⟨[], by simp⟩ (show RW X.K _ H6 φ6 ue (.d dx) from rue)) (paired_imp (fun _ _ z => ⟨z.1, RW.way (way_write lD) t6.sc.cells ⟨[], by simp⟩ z.2⟩) dv6)
              · rw [key] at h1; exact h1.elim
theorem ds_rev {X : Cx} {P : Par} {C : CE} {e : E} {σ : L2.St} {H : Hp} {Q : VK} (h : tE X.K P C (.blt .rev [e]) σ H Q) : tRevL X.K (tE X.K P C e) σ H Q := by
  obtain ⟨F, φ, st, δ, s, d, h⟩ := h
  simp only [evE, evEs] at h
  refine ⟨F, φ, st, δ, s, d, (Post.bind (Post.bind h)).imp fun v φ1 st1 H1 t1 h1 u ru => ?_⟩
  have h2 := h1 φ1 H1 (Step.refl t1.sc)
  dsimp only at h2
  have rv := ru.rv t1.sc fun a f => s.fo a f
  have e2 : bltV .rev st1 [v] = (listOf' st1 v).map fun xs => Val.fl xs.reverse := rfl
  rw [e2] at h2
  cases q : listOf' st1 v with
  | none => rw [q] at h2; exact h2.elim
  | some xs =>
    rw [q] at h2
    obtain ⟨a, vs, e1, hq, dq⟩ := RV.list' t1.sc rv q
    refine ⟨a, vs, e1, hq, fun p hp => ?_⟩
    exact h2 φ1 _ (Step.laid t1.sc hp) _ (RU.weak (fun a n => t1.al a n) (RU.list t1.sc hp (paired_rev dq)))
section
variable {X : Cx}
/-- in every block that a comprehension of this scope may run in -/
def InBlk (X : Cx) (scope : Scope) (p : Cx → Prop) : Prop := ∀ (s : Shared) (H : Hp) (C : Addr) (cl : List (Str × Addr)) (fp : List Addr), p (X.blk s H scope (compEnvC scope cl C X.env) fp)
/-- y = {k: v for ..} where y is a cell of the store -/
theorem ps_setDc {i : Nat} {y : Str} {py : Pos} {kx vx tg iter : Expr} {ifs : List Expr} {scope : Scope} {own : List (Str × Nat)} {pos spos : Pos} {wi : TI} {g : TG} {tt : TT} {tk tv : TE} (hc : X.calm = true) (hN : X.N.Nodup) (hy : X.N[i]? = some y) (hyl : X.env.scope.names.lookup y = some .local)
    (hsw : swapsWith (.DictComp kx vx [⟨tg, iter, ifs, 0⟩] scope pos) (some (.Name y py)) spos.line X.env = pure true) (hi : PI X tg iter wi) (ok : BlkOk X.N X.env.scope scope own)
    (hg : InBlk X scope fun Y => PG Y tg g) (ht : InBlk X scope fun Y => PTs Y ifs tt) (hk : InBlk X scope fun Y => PE Y kx tk) (he : InBlk X scope fun Y => PE Y vx tv) (hs : ∀ x, foldedSetIterable iter X.env x = pure x) :
    PS X (.Assign [.Name y py] (.DictComp kx vx [⟨tg, iter, ifs, 0⟩] scope pos) spos) (tAsg (tDc wi g tt tk tv (own.map (·.2))) (gName i)) where
  run pins s σ H D I h := by
    have z := exec_Assign_Name_used y py (.DictComp kx vx [⟨tg, iter, ifs, 0⟩] scope pos) spos hsw
    refine cast (congrArg (fun m => wpAny _ X.A m _ _ _) z.symm) (wpAny_bind (wpAny_standAt (wpAny_bind (m := evalThenUse _ X.env _) ?_)))
    show wpAny _ _ (comprehension (.DictComp kx vx [⟨tg, iter, ifs, 0⟩] scope pos) scope X.env (firstIterPos [⟨tg, iter, ifs, 0⟩] pos) newDict false (eval iter X.env) (some (assign (.Name y py) X.env)) >>= fun _ => pure ()) _ _ s
    refine wpAny_bind (thn (dc_core (Qf := fun _ s' => SP X pins D .next s') hc hN I hi ok hg ht hk he hs (show tDc wi g tt tk tv (own.map (·.2)) σ H (fun x H1 => gName i x σ H1 D.nx) from h) fun L C s' m H' J q hn f => ?_) fun _ _ p => wpAny_pure (wpAny_pure p))
    refine wpAny_assign_Name (store_ok2 (v := .ref L) J hN hy (.inl hyl) rfl (fun s2 J2 ⟨a, _, ha⟩ => ?_) (.inr hyl))
    have off : C ≠ a := match ha with
      | .inl z => fun e => f.2.1 (e.trans z)
      | .inr z => fun e => f.2.2.2.2.1 y a z e.symm
    exact ⟨m, hn.sameBut ‹_› off, fun h3 sb => ⟨_, H', J2.turned (t' := s2.toks) (fun b o hb e => (sb.2 b hb).trans e) f.1 f.2.1 f.2.2.2.1 f.2.2.2.2.1 f.2.2.2.2.2, q⟩⟩
theorem dsw_true {kx vx : Expr} {gs : List Comprehension} {scope : Scope} {pos py : Pos} {y : Str} {l : Nat} {env : PySem.Env} (hk : env.scope.kind = .function) (hy : env.scope.names.lookup y = some .local) (hl : (py.line == pos.line) = true)
    (ha : (scope.names.any fun (n, k) => n == y && (k == .local || k == .cell)) = false) : swapsWith (.DictComp kx vx gs scope pos) (some (.Name y py)) l env = pure true := by
  have f : env.blockKind = .function := by rw [PySem.Env.blockKind, hk]; rfl
  simp only [swapsWith, f, show env.kindOf y = some .local from hy, Expr.pos, hl, ha]
  rfl
end
end MP
set_option maxHeartbeats 1200000
/-! Zl: the next pair of zip(xs, ys) of two tuples, while pairs that were given out before stand. -/
namespace ZL
open PySem PySem.Calls PySem.W Builtin.SmallTypes
/-- what is not among wr stays -/
def Kept (wr : List Addr) (h h' : Heap) : Prop := ∀ c o, c ∉ wr → h.get? c = some o → h'.get? c = some o
theorem Kept.trans {wr : List Addr} {h h' h'' : Heap} (a : Kept wr h h') (b : Kept wr h' h'') : Kept wr h h'' := fun c o n e => b c o n (a c o n e)
theorem Kept.more {wr wr' : List Addr} {h h' : Heap} (a : Kept wr h h') (m : ∀ c, c ∉ wr' → c ∉ wr) : Kept wr' h h' := fun c o n e => a c o (m c n) e
section
variable {prog : Program} {w : World} {A : Around} {E : Value → Shared → Prop} {s : Shared} {z TI TO T i1 i2 l1 l2 : Addr} {xs ys : Array Value} {i : Nat}
/-- the turn of a zip that still has its last pair out: both parts in turn, then a tuple of its own -/
theorem turn {f : Bool} {oT : Obj} {Q : Fin → Shared → Prop} (hz : IsZipHeld s.heap z TI TO T f) (hT : s.heap.get? T = some oT) (hTI : IsPair s.heap TI (.ref i1) (.ref i2))
    (h : ∀ h₁, IsZipHeld h₁ z TI TO T true → Heap.SameBut z s.heap h₁ → wpAny (model prog w) A (nextOf (.ref i1))
      (fun x s1 => wpAny (model prog w) A (nextOf (.ref i2)) (fun y s2 => Q (.done (.ret (.ref s2.heap.objs.size))) { s2 with heap := s2.heap.push { cls := .type "tuple", data := .seq #[x, y] } }) E s1) E { s with heap := h₁ }) :
    wpAny (model prog w) A (Builtin.«zip.__next__» ⟨[Value.ref z], []⟩) Q E s := by
  refine wpAny_bind (m := field (.ref z) 2) (wpAny_field hz rfl (x := .bool false) rfl (wpAny_bind (m := field (.ref z) 3) (wpAny_field hz rfl (x := .ref TI) rfl (wpAny_bind (wpAny_seqItems hTI rfl
    (wpAny_bind (m := ownedTupleIsFree (.ref z)) (wpAny_tupleHeld_zip hz hT fun h₁ a b => ?_)))))))
  have g := h h₁ a b
  clear h
  simp only [if_neg Bool.false_ne_true]
  rw [← Array.forIn_toList, show (#[Value.ref i1, Value.ref i2] : Array Value).toList = [.ref i1, .ref i2] from rfl, List.forIn_cons]
  refine wpAny_bind (wpAny_bind (wpAny_bind (wpAny_holding (wpAny_bind (m := nextOf (.ref i1)) (wpAny_mono g (fun x s1 g1 => wpAny_pure (wpAny_pure ?_)) fun _ _ e => e)))))
  show wpAny _ _ (forIn [Value.ref i2] _ _) _ _ _
  rw [List.forIn_cons]
  refine wpAny_bind (wpAny_bind (wpAny_holding (wpAny_bind (m := nextOf (.ref i2)) (wpAny_mono g1 (fun y s2 g2 => wpAny_pure (wpAny_pure (?_ : wpAny _ _ (forIn ([] : List Value) _ _) _ _ _))) fun _ _ e => e))))
  rw [List.forIn_nil]
  exact wpAny_pure (wpAny_bind (m := newTuple [x, y]) (wpAny_newTuple (wpAny_pure g2)))
/-- the iterator after i pairs, beside a list at S -/
structure St (h : Heap) (z TI TO i1 i2 l1 l2 S : Addr) (xs ys : Array Value) (i : Nat) : Prop where
  zp : (i = 0 ∧ IsZip h z TI TO .none ∧ ∃ a b, IsPair h TO a b) ∨ ∃ T f oT, IsZipHeld h z TI TO T f ∧ h.get? T = some oT ∧ T ≠ z ∧ T ≠ i1 ∧ T ≠ i2 ∧ T ≠ S
  ti : IsPair h TI (.ref i1) (.ref i2)
  p1 : h.IsTupleIter i1 l1 i
  p2 : h.IsTupleIter i2 l2 i
  t1 : h.IsTuple l1 xs
  t2 : h.IsTuple l2 ys
/-- S is none of them -/
structure Off (S z TI TO i1 i2 l1 l2 : Addr) : Prop where
  z : z ≠ S
  TI : TI ≠ S
  TO : TO ≠ S
  i1 : i1 ≠ S
  i2 : i2 ≠ S
  l1 : l1 ≠ S
  l2 : l2 ≠ S
theorem St.keep {S : Addr} {h h' : Heap} (x : St h z TI TO i1 i2 l1 l2 S xs ys i) (O : Off S z TI TO i1 i2 l1 l2) (hk : Kept [S] h h') : St h' z TI TO i1 i2 l1 l2 S xs ys i := by
  have hk : ∀ b o, b ≠ S → h.get? b = some o → h'.get? b = some o := fun b o n => hk b o (by simpa using n)
  refine ⟨?_, hk _ _ O.TI x.ti, x.p1.at fun o e => hk _ _ O.i1 e, x.p2.at fun o e => hk _ _ O.i2 e, x.t1.at fun o e => hk _ _ O.l1 e, x.t2.at fun o e => hk _ _ O.l2 e⟩
  rcases x.zp with ⟨e, hz, a, b, hp⟩ | ⟨T, f, oT, hz, hT, n1, n2, n3, n4⟩
  · exact .inl ⟨e, hk _ _ O.z hz, a, b, hk _ _ O.TO hp⟩
  · exact .inr ⟨T, f, oT, hk _ _ O.z hz, hk _ _ n4 hT, n1, n2, n3, n4⟩
/-- next(z): what its method gives, or none where it stops -/
theorem by_method {P : Option Value → Shared → Prop} (hTy : s.TypeIs (.ref z) "zip")
    (h : ∀ E', (∀ e s', (∃ o, s'.heap.get? e = some o ∧ o.cls = .type "StopIteration") → P none s' → E' (.ref e) s') → wpAny (model prog w) A.in1 (Builtin.«zip.__next__» ⟨[.ref z], []⟩) (fun fin s' => ∃ v, fin = .done (.ret v) ∧ P (some v) s') E' s) :
    wpAny (model prog w) A (pyNext (.ref z)) P E s := by
  refine wpAny_bind (m := Sem.attempt _) (wpAny_attempt (wpAny_callSpecial?_slot (name := "__next__") hTy F.slot_zip_next (wpAny_call_entry F.slot_zip_next hTy F.entry_zip_next
    (wpAny_mono (h (fun e s' => wpAny (model prog w) A (do if ← isInstance e (.type "StopIteration") then pure none else throw e) P E s') fun e s' ⟨o, ho, hc⟩ q => ?_) (fun fin s' ⟨v, e, q⟩ => ⟨v, e, wpAny_pure q⟩) fun _ _ q => q) (F.args_zip_next_1 _))))
  exact wpAny_bind (wpAny_isInstance (b := true) ⟨o, ho, hc⟩ isSubtype_stop (wpAny_pure q))
theorem item {S : Addr} {x y : Value} {P : Option Value → Shared → Prop} (D : ZipApart z TI TO i1 i2 l1 l2) (hS : S < s.heap.objs.size) (st : St s.heap z TI TO i1 i2 l1 l2 S xs ys i) (hx : xs[i]? = some x) (hy : ys[i]? = some y)
    (hP : ∀ h', St h' z TI TO i1 i2 l1 l2 S xs ys (i + 1) → IsPair h' s.heap.objs.size x y → h'.objs.size = s.heap.objs.size + 1 → Kept [z, TO, i1, i2] s.heap h' → P (some (.ref s.heap.objs.size)) { s with heap := h' }) :
    wpAny (model prog w) A (pyNext (.ref z)) P E s := by
  have old : ∀ {a : Addr} {o : Obj}, s.heap.get? a = some o → s.heap.objs.size ≠ a := fun e => Nat.ne_of_gt (Heap.lt_size e)
  have n1 : s.heap.objs.size ≠ i1 := let ⟨_, e, _⟩ := st.p1; old e
  have n2 : s.heap.objs.size ≠ i2 := let ⟨_, e, _⟩ := st.p2; old e
  rcases st.zp with ⟨rfl, hz, a, b, hp⟩ | ⟨T, f, oT, hz, hT, m1, m2, m3, m4⟩
  · refine RZ.pyNext_zipT_item D hz st.ti hp st.p1 st.p2 st.t1 st.t2 hx hy fun h' a1 a2 a3 a4 a5 a6 a7 => hP h' ⟨.inr ⟨_, false, _, a1, a5, old hz, n1, n2, Nat.ne_of_gt hS⟩, a7 _ _ D.TIz D.TITO D.TIi1 D.TIi2 st.ti, a3, a4, ?_, ?_⟩ a5 a6 fun c o n e => ?_
    · exact st.t1.at fun o e => a7 _ _ D.l1z D.l1TO D.l1i1 D.l1i2 e
    · exact st.t2.at fun o e => a7 _ _ D.l2z D.l2TO D.l2i1 D.l2i2 e
    · simp only [List.mem_cons, List.not_mem_nil, or_false, not_or] at n
      exact a7 c o n.1 n.2.1 n.2.2.1 n.2.2.2 e
  · refine by_method ⟨_, hz, rfl⟩ fun E' _ => turn hz hT st.ti fun h₁ hz₁ k₁ => ?_
    refine RZ.nextOf_tuple_item (st.p1.extBut k₁.extBut D.i1z) (st.t1.extBut k₁.extBut D.l1z) hx fun h₂ p₂ k₂ => ?_
    refine RZ.nextOf_tuple_item ((st.p2.extBut k₁.extBut D.i2z).extBut k₂.extBut D.i12.symm) ((st.t2.extBut k₁.extBut D.l2z).extBut k₂.extBut D.l2i1) hy fun h₃ q₃ k₃ => ⟨_, rfl, ?_⟩
    have sz : h₃.objs.size = s.heap.objs.size := k₃.1.trans (k₂.1.trans k₁.1)
    have all : ∀ c o, c ≠ z → c ≠ i1 → c ≠ i2 → s.heap.get? c = some o → (h₃.push { cls := .type "tuple", data := .seq #[x, y] }).get? c = some o := fun c o c1 c2 c3 e =>
      Heap.get?_push_of_some _ (k₃.extBut c o c3 (k₂.extBut c o c2 (k₁.extBut c o c1 e)))
    have zz : IsZipHeld (h₃.push { cls := .type "tuple", data := .seq #[x, y] }) z TI TO T true := Heap.get?_push_of_some _ (k₃.extBut _ _ D.i2z.symm (k₂.extBut _ _ D.i1z.symm hz₁))
    have pr : IsPair (h₃.push { cls := .type "tuple", data := .seq #[x, y] }) h₃.objs.size x y := Heap.get?_push_size _ rfl
    have g : ∀ (c : Addr), c = h₃.objs.size → P (some (.ref c)) { s with heap := h₃.push { cls := .type "tuple", data := .seq #[x, y] } } := fun c e => by
      rw [sz] at e pr
      rw [e]
      refine hP _ ⟨.inr ⟨T, true, oT, zz, all _ _ m1 m2 m3 hT, m1, m2, m3, m4⟩, all _ _ D.TIz D.TIi1 D.TIi2 st.ti, ?_, ?_, ?_, ?_⟩ pr ((Heap.size_push ..).trans (congrArg (· + 1) sz)) fun c o n e => ?_
      · exact (p₂.extBut k₃.extBut D.i12).at fun o e => Heap.get?_push_of_some _ e
      · exact q₃.at fun o e => Heap.get?_push_of_some _ e
      · exact st.t1.at fun o e => all _ _ D.l1z D.l1i1 D.l1i2 e
      · exact st.t2.at fun o e => all _ _ D.l2z D.l2i1 D.l2i2 e
      · simp only [List.mem_cons, List.not_mem_nil, or_false, not_or] at n
        exact all c o n.1 n.2.2.1 n.2.2.2 e
    exact g _ rfl
theorem stop {S : Addr} {P : Option Value → Shared → Prop} (hh : A.handled = none) (D : ZipApart z TI TO i1 i2 l1 l2) (st : St s.heap z TI TO i1 i2 l1 l2 S xs ys i) (hend : xs[i]? = none ∨ ys[i]? = none)
    (hP : ∀ h', Kept [z, TO, i1, i2] s.heap h' → P none { s with heap := h' }) : wpAny (model prog w) A (pyNext (.ref z)) P E s := by
  rcases st.zp with ⟨rfl, hz, a, b, hp⟩ | ⟨T, f, oT, hz, hT, _, _, _, _⟩
  · refine RZ.pyNext_zipT_end hh D hz st.ti hp st.p1 st.p2 st.t1 st.t2 hend fun h' k => hP h' fun c o n e => ?_
    simp only [List.mem_cons, List.not_mem_nil, or_false, not_or] at n
    exact k c o n.1 n.2.1 n.2.2.1 n.2.2.2 e
  · refine by_method ⟨_, hz, rfl⟩ fun E' hE => turn hz hT st.ti fun h₁ hz₁ k₁ => ?_
    have out : ∀ h', (∀ c o, c ≠ z → c ≠ i1 → c ≠ i2 → s.heap.get? c = some o → h'.get? c = some o) → P none { s with heap := h' } := fun h' k => hP h' fun c o n e => by
      simp only [List.mem_cons, List.not_mem_nil, or_false, not_or] at n
      exact k c o n.1 n.2.2.1 n.2.2.2 e
    cases hx : xs[i]? with
    | none => exact RZ.nextOf_tuple_end (A := A.in1) hh (st.p1.extBut k₁.extBut D.i1z) (st.t1.extBut k₁.extBut D.l1z) hx fun h₂ e k₂ he => hE e _ he (out h₂ fun c o c1 c2 _ x => k₂ c o c2 (k₁.extBut c o c1 x))
    | some x =>
      refine RZ.nextOf_tuple_item (st.p1.extBut k₁.extBut D.i1z) (st.t1.extBut k₁.extBut D.l1z) hx fun h₂ _ k₂ => ?_
      exact RZ.nextOf_tuple_end (A := A.in1) hh ((st.p2.extBut k₁.extBut D.i2z).extBut k₂.extBut D.i12.symm) ((st.t2.extBut k₁.extBut D.l2z).extBut k₂.extBut D.l2i1) (hend.resolve_left fun q => by rw [hx] at q; cases q) fun h₃ e k₃ he =>
        hE e _ he (out h₃ fun c o c1 c2 c3 x => k₃ c o c3 (k₂.extBut c o c2 (k₁.extBut c o c1 x)))
end
/-- the pairs made so far, above lo -/
structure Made (xs ys : Array Value) (lo : Addr) (h : Heap) (as : List Addr) : Prop where
  rise : as.Pairwise (· < ·)
  above : ∀ a ∈ as, lo < a
  pairs : ∀ (j : Nat) (a : Addr), as[j]? = some a → ∃ x y, xs[j]? = some x ∧ ys[j]? = some y ∧ IsPair h a x y
theorem Made.there {xs ys : Array Value} {lo : Addr} {h : Heap} {as : List Addr} (g : Made xs ys lo h as) {a : Addr} (ha : a ∈ as) : a < h.objs.size :=
  let ⟨j, hj⟩ := List.getElem?_of_mem ha
  let ⟨_, _, _, _, e⟩ := g.pairs j a hj
  Heap.lt_size e
end ZL
set_option maxHeartbeats 1200000
/-! Zl2: list(z) of such a zip: the list's own loop, by what stands in it. -/
namespace ZL
open PySem PySem.Calls PySem.W
theorem zip_no_len : typeLookup (.type "zip") "__len__" = pure none := am_miss_of_fast (by decide +kernel)
theorem zip_no_hint : typeLookup (.type "zip") "__length_hint__" = pure none := am_miss_of_fast (by decide +kernel)
/-- what the list's making may touch -/
structure Low (S z TO i1 i2 : Addr) : Prop where
  z : z < S
  TO : TO < S
  i1 : i1 < S
  i2 : i2 < S
/-- the list at S holds the pairs as, in order -/
structure Row (xs ys : Array Value) (S : Addr) (h : Heap) (as : List Addr) : Prop where
  here : ∃ c, h.get? S = some { cls := .type "list", data := .seq (as.map Value.ref).toArray c }
  made : Made xs ys S h as
theorem Made.keep {xs ys : Array Value} {S : Addr} {h h' : Heap} {as : List Addr} (m : Made xs ys S h as) (k : ∀ a o, S < a → h.get? a = some o → h'.get? a = some o) : Made xs ys S h' as :=
  ⟨m.rise, m.above, fun j a e => let ⟨x, y, e1, e2, e3⟩ := m.pairs j a e; ⟨x, y, e1, e2, k a _ (m.above a (List.mem_of_getElem? e)) e3⟩⟩
theorem Made.snoc {xs ys : Array Value} {S p : Addr} {h : Heap} {as : List Addr} {x y : Value} (m : Made xs ys S h as) (b : ∀ a ∈ as, a < p) (hp : S < p) (hx : xs[as.length]? = some x) (hy : ys[as.length]? = some y) (e : IsPair h p x y) : Made xs ys S h (as ++ [p]) := by
  refine ⟨List.pairwise_append.mpr ⟨m.rise, List.pairwise_singleton .., fun a ha c hc => (List.mem_singleton.mp hc) ▸ b a ha⟩, fun a ha => (List.mem_append.mp ha).elim (m.above a) fun q => (List.mem_singleton.mp q) ▸ hp, fun j a hj => ?_⟩
  by_cases q : j < as.length
  · exact m.pairs j a (by rwa [List.getElem?_append_left q] at hj)
  · have q2 : j = as.length := by
      have := (List.getElem?_eq_some_iff.mp hj).1
      simp only [List.length_append, List.length_singleton] at this
      omega
    subst q2
    have q3 : p = a := by simpa using hj
    exact ⟨x, y, hx, hy, q3 ▸ e⟩
section
variable {prog : Program} {w : World} {A : Around} {s : Shared} {R : Result → Shared → Prop} {xs ys : Array Value} {z TI TO i1 i2 l1 l2 S : Addr}
theorem low_ne {S z TO i1 i2 : Addr} (W : Low S z TO i1 i2) {a : Addr} (h : S ≤ a) : a ∉ [z, TO, i1, i2] := by
  intro m
  simp only [List.mem_cons, List.not_mem_nil, or_false] at m
  rcases m with m | m | m | m <;> subst m
  · exact absurd W.z (Nat.not_lt.mpr h)
  · exact absurd W.TO (Nat.not_lt.mpr h)
  · exact absurd W.i1 (Nat.not_lt.mpr h)
  · exact absurd W.i2 (Nat.not_lt.mpr h)
/-- one row of the loop's turns -/
theorem loop (hh : A.handled = none) (D : ZipApart z TI TO i1 i2 l1 l2) (O : Off S z TI TO i1 i2 l1 l2) (W : Low S z TO i1 i2) (hn : min xs.size ys.size ≤ sizeLine) (res : Value) {h₀ : Heap}
    (hR : ∀ h' tk as, Kept [S, z, TO, i1, i2] h₀ h' → Row xs ys S h' as → as.length = min xs.size ys.size → R (.ok (.ret res)) { s with heap := h', toks := tk }) :
    ∀ (k : Nat) (h : Heap) (tk : Nat) (as : List Addr), as.length + k = min xs.size ys.size → St h z TI TO i1 i2 l1 l2 S xs ys as.length → Kept [S, z, TO, i1, i2] h₀ h → Row xs ys S h as →
      codeAny (model prog w) A (.builtin "list.extend.loop" ⟨[.ref S, .ref z, res], []⟩) R { s with heap := h, toks := tk } := by
  intro k
  induction k with
  | zero =>
    intro h tk as hk st kp rw_
    refine codeAny_builtin F.entry_extend_loop (cast (congrArg (fun B => wpAny _ B _ _ _ _) (Around.under_plainId F.plain_extend_loop _).symm) (wpAny_bind (m := pyNext (.ref z)) (stop (s := { s with heap := h, toks := tk }) (A := A.in1) hh D st ?_ fun h' k2 => wpAny_pure (hR h' tk as ?_ ?_ ?_))))
    · by_cases q : xs.size ≤ as.length
      · exact .inl (Array.getElem?_eq_none q)
      · exact .inr (Array.getElem?_eq_none (by omega))
    · exact kp.trans (k2.more fun c n m => n (List.mem_cons_of_mem _ m))
    · obtain ⟨c, e⟩ := rw_.here
      exact ⟨⟨c, k2 S _ (low_ne W (Nat.le_refl _)) e⟩, rw_.made.keep fun a o l e => k2 a o (low_ne W (Nat.le_of_lt l)) e⟩
    · omega
  | succ k ih =>
    intro h tk as hk st kp rw_
    have b1 : as.length < xs.size := by omega
    have b2 : as.length < ys.size := by omega
    obtain ⟨c, e⟩ := rw_.here
    have hx : xs[as.length]? = some xs[as.length] := Array.getElem?_eq_getElem b1
    have hy : ys[as.length]? = some ys[as.length] := Array.getElem?_eq_getElem b2
    have lS : S < h.objs.size := Heap.lt_size e
    refine codeAny_builtin F.entry_extend_loop (cast (congrArg (fun B => wpAny _ B _ _ _ _) (Around.under_plainId F.plain_extend_loop _).symm) (wpAny_bind (m := pyNext (.ref z)) (item (s := { s with heap := h, toks := tk }) (A := A.in1) (S := S) D lS st hx hy fun h' st' pr sz k2 => ?_)))
    dsimp only at pr sz k2 ⊢
    have e' := k2 S _ (low_ne W (Nat.le_refl _)) e
    have up : ∀ b o, b ≠ S → h'.get? b = some o → (h'.update S (Obj.mapSeq (·.push (Value.ref h.objs.size)))).get? b = some o := fun b o n q => (Heap.get?_update_other _ _ n.symm).trans q
    have ks : Kept [S] h' (h'.update S (Obj.mapSeq (·.push (Value.ref h.objs.size)))) := fun b o n q => up b o (by simpa using n) q
    have nw : ((as.map Value.ref).toArray.push (Value.ref h.objs.size)) = ((as ++ [h.objs.size]).map Value.ref).toArray := by simp
    have e2 : ∃ c, (h'.update S (Obj.mapSeq (·.push (Value.ref h.objs.size)))).get? S = some { cls := .type "list", data := .seq ((as.map Value.ref).toArray.push (Value.ref h.objs.size)) c } := ⟨_, Heap.get?_update_self _ e' rfl⟩
    rw [nw] at e2
    have ln : (as ++ [h.objs.size]).length = as.length + 1 := by simp
    have lim : as.length + 1 ≤ sizeLine := by omega
    refine wpAny_bind (m := updateSeq S _) (wpAny_updateSeq e' rfl (wpAny_pure ⟨plainId_quiet F.plain_extend_loop _, ih _ tk (as ++ [h.objs.size]) (by rw [ln]; omega) (ln ▸ st'.keep O ks) ?_ ⟨e2, ?_⟩⟩) ?_ ?_)
    · exact (kp.trans (k2.more fun c n m => n (List.mem_cons_of_mem _ m))).trans (ks.more fun c n m => n (by simp only [List.mem_singleton] at m; rw [m]; exact List.mem_cons_self ..))
    · refine Made.snoc (rw_.made.keep fun a o l q => up a o (Nat.ne_of_gt l) (k2 a o (low_ne W (Nat.le_of_lt l)) q)) (fun a ha => rw_.made.there ha) lS hx hy (up _ _ (Nat.ne_of_gt lS) pr)
    · simp only [List.size_toArray, List.length_map]; omega
    · simp only [Array.size_push, List.size_toArray, List.length_map]; omega
/-- list.__init__ of a new list and the zip -/
theorem init (hh : A.handled = none) (D : ZipApart z TI TO i1 i2 l1 l2) (O : Off S z TI TO i1 i2 l1 l2) (W : Low S z TO i1 i2) (hz : IsZip s.heap z TI TO .none) (st : St s.heap z TI TO i1 i2 l1 l2 S xs ys 0) (hS : s.heap.get? S = some { cls := .type "list", data := .seq #[] })
    (hR : ∀ h' tk as, Kept [S, z, TO, i1, i2] s.heap h' → Row xs ys S h' as → as.length = min xs.size ys.size → R (.ok (.ret .none)) { s with heap := h', toks := tk }) (hn : min xs.size ys.size ≤ sizeLine) :
    wpAny (model prog w) A.in1 (Builtin.«list.__init__» ⟨[.ref S, .ref z], []⟩) (fun fin s' => match fin with
      | .done f => R (.ok f) s'
      | .again c' => c'.quiet = true ∧ codeAny (model prog w) A c' R s') (fun e s' => R (.error e) s') s := by
  have k1 : ∀ {g : Array Value → Array Value}, Kept [S] s.heap (s.heap.update S (Obj.mapSeq g)) := fun b o n q => (Heap.get?_update_other _ _ fun z => n (by rw [z]; exact List.mem_singleton.mpr rfl)).trans q
  have e0 : (s.heap.update S (Obj.mapSeq fun _ => (#[] : Array Value))).get? S = some { cls := .type "list", data := .seq #[] 0 } := Heap.get?_update_self _ hS rfl
  have go : ∀ (h : Heap) (c tk : Nat), Kept [S] s.heap h → h.get? S = some { cls := .type "list", data := .seq #[] c } →
      codeAny (model prog w) A (.builtin "list.extend.loop" ⟨[.ref S, .ref z, .none], []⟩) R { s with heap := h, toks := tk } := fun h c tk k q =>
    loop (s := s) (h₀ := s.heap) hh D O W hn .none hR (min xs.size ys.size) h tk [] (Nat.zero_add _) (st.keep O k) (k.more fun c n m => n (by simp only [List.mem_singleton] at m; rw [m]; exact List.mem_cons_self ..)) ⟨⟨c, q⟩, .nil, (fun _ m => nomatch m), fun j a e => by simp at e⟩
  have hTy : ∀ {h : Heap}, Kept [S] s.heap h → ({ s with heap := h } : Shared).TypeIs (.ref z) "zip" := fun k => ⟨_, k _ _ (by simpa using O.z) hz, rfl⟩
  have nz : Builtin.List.listSameRef (.ref S) (.ref z) = false := by simp [Builtin.List.listSameRef, O.z.symm]
  refine wpAny_bind (m := Builtin.List.listItems (.ref S)) (wpAny_bind (wpAny_seqItems hS rfl (wpAny_pure (wpAny_bind (m := Builtin.List.listUpdate _ _) (wpAny_updateSeq hS rfl (wpAny_bind (wpAny_letGo ?_)))))))
  refine wpAny_bind (m := typeOf (.ref z)) (wpAny_typeOf (T := "zip") (hTy k1) ?_)
  rw [nz, show (Value.type "zip" == Value.type "list") = false by decide, show (Value.type "zip" == Value.type "tuple") = false by decide]
  refine wpAny_bind (m := pyIter (.ref z)) (wpAny_pyIter_zip (k1 _ _ (by simpa using O.z) hz) (wpAny_bind (wpAny_holding ?_)))
  refine wpAny_bind (m := specialOf (.ref z) "__len__") (wpAny_specialOf (hTy k1) zip_no_len (wpAny_bind (m := specialOf (.ref z) "__length_hint__") (wpAny_specialOf (hTy k1) zip_no_hint (wpAny_pure ?_))))
  have e1 := Heap.get?_update_self (Obj.mapSeq (·.push Value.none)) e0 rfl
  have e2 : ∃ c, (((s.heap.update S (Obj.mapSeq fun _ => (#[] : Array Value))).update S (Obj.mapSeq (·.push Value.none))).update S (Obj.mapSeq (·.pop))).get? S = some { cls := .type "list", data := .seq #[] c } := ⟨_, Heap.get?_update_self _ e1 rfl⟩
  obtain ⟨c, e2⟩ := e2
  have k3 : Kept [S] s.heap (((s.heap.update S (Obj.mapSeq fun _ => (#[] : Array Value))).update S (Obj.mapSeq (·.push Value.none))).update S (Obj.mapSeq (·.pop))) := fun b o n q =>
    have n' : S ≠ b := fun z => n (by rw [z]; exact List.mem_singleton.mpr rfl)
    (Heap.get?_update_other _ _ n').trans ((Heap.get?_update_other _ _ n').trans (k1 b o n q))
  exact wpAny_bind (wpAny_rule (wpAny_bind (m := Builtin.List.listTouch _) (wpAny_bind (m := updateSeq S _) (wpAny_updateSeq e0 rfl (wpAny_updateSeq (hz := by seq_fits) e1 rfl (wpAny_pure ⟨plainId_quiet F.plain_extend_loop _, go _ c _ k3 e2⟩)))))) 
end
section
variable {prog : Program} {w : World} {A : Around} {E : Value → Shared → Prop} {s : Shared} {xs ys : Array Value} {z TI TO i1 i2 l1 l2 : Addr}
/-- list(z) -/
theorem call_list {P : Value → Shared → Prop} (hh : A.handled = none) (D : ZipApart z TI TO i1 i2 l1 l2) (hz : IsZip s.heap z TI TO .none) (hTI : IsPair s.heap TI (.ref i1) (.ref i2)) (hTO : ∃ a b, IsPair s.heap TO a b)
    (p1 : s.heap.IsTupleIter i1 l1 0) (p2 : s.heap.IsTupleIter i2 l2 0) (t1 : s.heap.IsTuple l1 xs) (t2 : s.heap.IsTuple l2 ys) (hn : min xs.size ys.size ≤ sizeLine)
    (hP : ∀ h' tk as, Kept [z, TO, i1, i2] s.heap h' → Row xs ys s.heap.objs.size h' as → as.length = min xs.size ys.size → P (.ref s.heap.objs.size) { s with heap := h', toks := tk }) :
    wpAny (model prog w) A (call (.type "list") [.ref z]) P E s := by
  refine callType_codes (Q₁ := fun obj s₁ => obj = .ref s.heap.objs.size ∧ s₁ = { s with heap := s.heap.push (Obj.mk (.type "list") none (.seq #[] 0) #[]) }) F.called_list (F.typeCall_list_1 _) F.entry_list_init (code_list_new _ ⟨rfl, rfl⟩) fun obj s₁ hs => ?_
  obtain ⟨rfl, rfl⟩ := hs
  obtain ⟨a, b, hTO⟩ := hTO
  have old : ∀ {a : Addr} {o : Obj}, s.heap.get? a = some o → a < s.heap.objs.size := fun e => Heap.lt_size e
  have b1 : i1 < s.heap.objs.size := let ⟨_, e, _⟩ := p1; old e
  have b2 : i2 < s.heap.objs.size := let ⟨_, e, _⟩ := p2; old e
  have b3 : l1 < s.heap.objs.size := let ⟨_, e, _⟩ := t1; old e
  have b4 : l2 < s.heap.objs.size := let ⟨_, e, _⟩ := t2; old e
  have k : ∀ c o, s.heap.get? c = some o → (s.heap.push (Obj.mk (.type "list") none (.seq #[] 0) #[])).get? c = some o := fun c o e => Heap.get?_push_of_some _ e
  have nw : (s.heap.push (Obj.mk (.type "list") none (.seq #[] 0) #[])).get? s.heap.objs.size = some (Obj.mk (.type "list") none (.seq #[] 0) #[]) := Heap.get?_push_size _ rfl
  refine ⟨⟨_, nw, rfl⟩, F.args_list_init_2 _ _, init (A := A.in1) hh D ⟨Nat.ne_of_lt (old hz), Nat.ne_of_lt (old hTI), Nat.ne_of_lt (old hTO), Nat.ne_of_lt b1, Nat.ne_of_lt b2, Nat.ne_of_lt b3, Nat.ne_of_lt b4⟩ ⟨old hz, old hTO, b1, b2⟩ (k _ _ hz)
    ⟨.inl ⟨rfl, k _ _ hz, a, b, k _ _ hTO⟩, k _ _ hTI, p1.at fun o e => k _ _ e, p2.at fun o e => k _ _ e, t1.at fun o e => k _ _ e, t2.at fun o e => k _ _ e⟩ nw (fun h' tk as kk r l => ⟨rfl, hP h' tk as (fun c o n e => kk c o (fun m => ?_) (k _ _ e)) r l⟩) hn⟩
  obtain m | m := List.mem_cons.mp m
  · exact absurd (old e) (by rw [m]; exact Nat.lt_irrefl _)
  · exact n m
end
end ZL
set_option maxHeartbeats 1200000
/-! Zl3: list(zip(xs, ys)), over the hand layer and for the evaluator. -/
namespace ZL
open PySem PySem.Spec L2 MP
def tLz (K : PySem.W.Frag) (ta : TA) : TE := fun σ H Q => ta σ H fun vs H1 => ∃ a b xs ys, vs = [.ref a, .ref b] ∧ SqT K H1 a xs ∧ SqT K H1 b ys ∧
  ∀ (H' : Hp) (p : Addr) (ps : List Addr), (∀ c o, H1 c = some o → H' c = some o) → H1 p = none → H' p = some (.lst (ps.map V.ref)) → ps.length = min xs.length ys.length →
    (∀ (j : Nat) (q : Addr), ps[j]? = some q → H1 q = none ∧ ∃ x y o, xs[j]? = some x ∧ ys[j]? = some y ∧ o.dict = none ∧ H' q = some (.frz o (.tup [x, y]))) → Q (.ref p) H'
theorem vals_at {xs : List V} {us : List Value} (h : Vals xs us) {j : Nat} {u : Value} (e : us[j]? = some u) : ∃ x, xs[j]? = some x ∧ RelV x u := paired_get h e
/-- objects taken into the view, one behind the other -/
def layAll (f : Addr → HO) : List Addr → Hp → Hp
  | [], H => H
  | a :: L, H => layAll f L (upd H a (f a))
theorem layAll_off {f : Addr → HO} {b : Addr} : ∀ {L : List Addr} {H : Hp}, b ∉ L → layAll f L H b = H b
  | [], _, _ => rfl
  | a :: L, H, n => (layAll_off fun m => n (List.mem_cons_of_mem _ m)).trans (upd_ne fun e => n (e ▸ List.mem_cons_self ..))
theorem layAll_on {f : Addr → HO} {b : Addr} : ∀ {L : List Addr} {H : Hp}, (b ∈ L ∨ H b = some (f b)) → layAll f L H b = some (f b)
  | [], _, m => m.resolve_left (fun z => nomatch z)
  | a :: L, H, m => layAll_on (L := L) (by
    by_cases e : b = a
    · exact .inr (by rw [e]; exact upd_same)
    · exact m.imp (fun z => (List.mem_cons.mp z).resolve_left e) fun z => (upd_ne e).trans z)
theorem layAll_inv {X : Cx} {pz : List (Addr × Obj)} {σ : L2.St} {H0 : Hp} {s : Shared} {h' : Heap} {tk : Nat} {f : Addr → HO} (I0 : Inv X pz σ H0 s) : ∀ {L : List Addr} {H : Hp}, L.Nodup → (∀ a ∈ L, s.heap.objs.size ≤ a ∧ H a = none ∧ ∀ G, ObjOk X.prog X.w G h' a (f a)) →
    Inv X pz σ H { s with heap := h', toks := tk } → Inv X pz σ (layAll f L H) { s with heap := h', toks := tk }
  | [], _, _, _, I => I
  | a :: L, H, nd, k, I =>
    have nd := List.nodup_cons.mp nd
    have ka := k a (List.mem_cons_self ..)
    layAll_inv (L := L) I0 nd.2 (fun c hc => have kc := k c (List.mem_cons_of_mem _ hc); ⟨kc.1, (upd_ne fun (e : c = a) => nd.1 (e ▸ hc)).trans kc.2.1, kc.2.2⟩) (I.take (h' := h') (t' := tk) (fun _ _ _ e => e) (I0.fpOk ka.1 ka.2.1) (ka.2.2 _))
theorem pe_listzip {X : Cx} {e e2 : Expr} {ta : TA} {p p2 pos pos2 : Pos} (hc : X.calm = true) (hg : Gl X "list") (hm : X.mg "list" = none) (hg2 : Gl X "zip") (hm2 : X.mg "zip" = none) (ha : PA X [e, e2] ta)
    (hs : starEach [e, e2] X.env = (false, eval e X.env) :: starEach [e2] X.env) (hpl : (backTo pos2 (starEach [e2] X.env)).any (·.1) = false) :
    PE X (.Call (.Name "list" p) [.Call (.Name "zip" p2) [e, e2] [] pos2] [] pos) (tLz X.K ta) := by
  refine ⟨fun pz s σ H Q I h => ?_⟩
  refine PyProof.Rows.Call_ (ld_blt I hg hm (by decide +kernel : bootBuiltins "list" = some (.type "list")) (PyProof.Rows.callWith_type1 ?_ rfl rfl))
  show wpAny _ _ (spliced ((false, eval (.Call (.Name "zip" p2) [e, e2] [] pos2) X.env) :: backTo pos (starEach [] X.env))) _ _ s
  refine Calls.spliced_cons ?_
  refine PyProof.Rows.Call_ (ld_blt I hg2 hm2 PyProof.Rows.boot_zip (PyProof.Rows.callWith_type1 (thn (ha.run pos2 pz s σ H _ I h) fun us s1 ⟨vs, H1, I1, r1, q1⟩ => ?_) hs hpl))
  obtain ⟨a, b, xs, ys, ex, qx, qy, q⟩ := q1
  subst ex
  obtain ⟨u1, u2, rfl, ra, rb⟩ : ∃ u1 u2, us = [u1, u2] ∧ RelV (.ref a) u1 ∧ RelV (.ref b) u2 := by
    cases r1 with
    | cons r rr => cases rr with | cons r' rr => cases rr; exact ⟨_, _, rfl, r, r'⟩
  cases ra
  cases rb
  obtain ⟨its, rv, t1, n1⟩ := I1.tuple qx
  obtain ⟨its2, rv2, t2, n2⟩ := I1.tuple qy
  obtain ⟨o1, ho1, _⟩ := id t1
  obtain ⟨o2, ho2, _⟩ := id t2
  refine RZ.call_zipT (show s1.heap.IsTuple a its.toArray from t1) (show s1.heap.IsTuple b its2.toArray from t2) fun h' hz hTI hTO h1 h2 hsz hk => ?_
  show wpAny _ _ (spliced []) _ _ _
  refine Calls.spliced_nil ?_
  have len1 := rv.length
  have len2 := rv2.length
  have D := PySem.W.ktu_apart s1.heap.objs.size a b (Heap.lt_size ho1) (Heap.lt_size ho2)
  refine call_list (s := { s1 with heap := h' }) (xs := its.toArray) (ys := its2.toArray) (I.ok.hd hc) D hz hTI ⟨_, _, hTO⟩ h1 h2 (Heap.IsTuple.at t1 fun o e => hk _ _ e) (Heap.IsTuple.at t2 fun o e => hk _ _ e) (by simp only [List.size_toArray]; omega) fun h2' tk as kk row hl => ?_
  obtain ⟨⟨c, hS⟩, hG⟩ := row
  dsimp only at hS hG kk ⊢
  rw [hsz] at hS hG
  rw [List.size_toArray, List.size_toArray] at hl
  have b5 : s1.heap.objs.size ≤ s1.heap.objs.size + 5 := Nat.le_add_right ..
  have I3 : Inv X pz σ H1 { s1 with heap := h2', toks := tk } := I1.turnedL (t' := tk) (ch := [s1.heap.objs.size + 4, s1.heap.objs.size + 3, s1.heap.objs.size, s1.heap.objs.size + 1]) (fun c o hb e => kk c o hb (hk c o e)) fun c hcm => by
    have b : s1.heap.objs.size ≤ c := by
      simp only [List.mem_cons, List.not_mem_nil, or_false] at hcm
      rcases hcm with m | m | m | m <;> subst m <;> simp
    exact I1.fpOk b (I1.hok.fresh b)
  have I4 : Inv X pz σ (upd H1 (s1.heap.objs.size + 5) (.lst (as.map V.ref))) { s1 with heap := h2', toks := tk } :=
    I3.take (h' := h2') (t' := tk) (fun _ _ _ e => e) (I1.fpOk b5 (I1.hok.fresh b5)) ⟨by rw [List.length_map, hl]; omega, as.map Value.ref, c, vals_maps V.ref Value.ref as fun _ _ => rfl, hS⟩
  have n5 : H1 (s1.heap.objs.size + 5) = none := I1.hok.fresh b5
  have nd : as.Nodup := hG.rise.imp Nat.ne_of_lt
  -- what stands at the j-th pair
  have pr : ∀ (j : Nat) (q : Addr), as[j]? = some q → ∃ x y u v, xs[j]? = some x ∧ ys[j]? = some y ∧ RelV x u ∧ RelV y v ∧ IsPair h2' q u v ∧ as.idxOf q = j := fun j q hj => by
    obtain ⟨u, v, e1, e2, e3⟩ := hG.pairs j q hj
    obtain ⟨x, hx, rx⟩ := vals_at rv (j := j) (u := u) (by simpa using e1)
    obtain ⟨y, hy, ry⟩ := vals_at rv2 (j := j) (u := v) (by simpa using e2)
    have ⟨lj, ej⟩ := List.getElem?_eq_some_iff.mp hj
    exact ⟨x, y, u, v, hx, hy, rx, ry, e3, by rw [← ej]; exact List.Nodup.idxOf_getElem nd j lj⟩
  let f : Addr → HO := fun q => .frz ((h2'.get? q).getD default) (.tup [xs.getD (as.idxOf q) .non, ys.getD (as.idxOf q) .non])
  have fe : ∀ (j : Nat) (q : Addr), as[j]? = some q → ∃ x y u v, xs[j]? = some x ∧ ys[j]? = some y ∧ RelV x u ∧ RelV y v ∧ IsPair h2' q u v ∧ f q = .frz { cls := .type "tuple", data := .seq #[u, v] } (.tup [x, y]) := fun j q hj => by
    obtain ⟨x, y, u, v, e1, e2, e3, e4, e5, e6⟩ := pr j q hj
    refine ⟨x, y, u, v, e1, e2, e3, e4, e5, ?_⟩
    show HO.frz ((h2'.get? q).getD default) _ = _
    rw [show h2'.get? q = _ from e5, e6, List.getD_eq_getElem?_getD, List.getD_eq_getElem?_getD, e1, e2]
    rfl
  have hi : ∀ q ∈ as, s1.heap.objs.size + 5 < q := hG.above
  have I5 := layAll_inv (f := f) I1 nd (fun q hq => by
    obtain ⟨j, hj⟩ := List.getElem?_of_mem hq
    obtain ⟨x, y, u, v, _, _, e3, e4, e5, e6⟩ := fe j q hj
    have b := hi q hq
    refine ⟨by omega, (upd_ne (Nat.ne_of_gt b)).trans (I1.hok.fresh (by omega)), fun G => ?_⟩
    rw [e6]
    exact ⟨e5, (by rw [sizeLine_eq]; show 2 ≤ 16777216; omega), [u, v], .cons e3 (.cons e4 .nil), ⟨_, e5, rfl, 0, rfl⟩⟩) I4
  have off : ∀ b o, H1 b = some o → layAll f as (upd H1 (s1.heap.objs.size + 5) (.lst (as.map V.ref))) b = some o := fun b o e => by
    rw [layAll_off fun m => ?_, upd_ne fun z => ?_]
    · exact e
    · rw [z, n5] at e; cases e
    · rw [I1.hok.fresh (Nat.le_of_lt (Nat.lt_of_le_of_lt b5 (hi b m)))] at e; cases e
  refine ⟨.ref (s1.heap.objs.size + 5), _, I5, by show Value.ref _ = Value.ref _; rw [hsz], q _ (s1.heap.objs.size + 5) as off n5 ?_ (by rw [hl, rv.length, rv2.length]) fun j r hj => ?_⟩
  · rw [layAll_off fun m => Nat.lt_irrefl _ (hi _ m)]
    exact upd_same
  · obtain ⟨x, y, u, v, e1, e2, _, _, _, e6⟩ := fe j r hj
    have hr := List.mem_of_getElem? hj
    exact ⟨I1.hok.fresh (Nat.le_of_lt (Nat.lt_of_le_of_lt b5 (hi r hr))), x, y, _, e1, e2, rfl, (layAll_on (.inl hr)).trans (congrArg some e6)⟩
/-! the evaluator's side -/
theorem step_ext {K : PySem.W.Frag} {F : AP} {φ : List Addr} {st : Sto} {H H1 : Hp} (s : SC K F φ st H) (k : ∀ a o, H a = some o → H1 a = some o) : Step K F φ st H φ st H1 := by
  have kn : ∀ a, H a ≠ none → H1 a ≠ none := fun a n => by
    cases q : H a with
    | none => exact absurd q n
    | some o => rw [k a o q]; simp
  have w : Way (Or2 F (Live φ st)) H (Or2 F (Live φ st)) H1 := ⟨fun a o e n => ⟨k a o e, n⟩⟩
  have ko : ∀ a u, H a ≠ none → H1 a = some u → H a = some u := fun a u n e => by
    cases q : H a with
    | none => exact absurd q n
    | some o => have z := k a o q; rw [e] at z; cases z; rfl
  refine ⟨⟨[], by simp, by simp⟩, fun a o e n => ⟨k a o e, n⟩, kn, ⟨s.len, s.nd, fun a h => kn a (s.al a h), fun a h => kn a (s.fo a h), fun a f u hu => s.fc a f u (ko a u (s.fo a f) hu), s.fd, fun i a c e1 e2 => RC.way w s.cells ⟨[], by simp⟩ (fun _ => ?_) (s.cell i a c e1 e2)⟩⟩
  cases q : H a with
  | none => exact absurd q (s.al a (List.mem_of_getElem? e1))
  | some o => exact k a o q
theorem paired_idx {α β : Type} {P : α → β → Prop} : ∀ {xs : List α} {ys : List β}, xs.length = ys.length → (∀ (i : Nat) (x : α) (y : β), xs[i]? = some x → ys[i]? = some y → P x y) → Paired P xs ys
  | [], [], _, _ => .nil
  | x :: xs, y :: ys, h, k => .cons (k 0 x y rfl rfl) (paired_idx (Nat.succ.inj h) fun i a b ea eb => k (i + 1) a b ea eb)
  | [], _ :: _, h, _ => (Nat.succ_ne_zero _ h.symm).elim
  | _ :: _, [], h, _ => (Nat.succ_ne_zero _ h).elim
theorem lz_inv {st : Sto} {vs : List Val} {y : Val} (h : bltV .lzip st vs = some y) : ∃ xs ys, vs = [.w (.d (.tuple xs)), .w (.d (.tuple ys))] ∧ y = .fl (zipW xs ys) := by
  unfold bltV at h
  split at h <;> try (cases ‹Blt.lzip = _›)
  · cases h
    exact ⟨_, _, rfl, rfl⟩
  · cases h
theorem ds_lzip {X : Cx} {P : Par} {C : CE} {a b : E} {σ : L2.St} {H : Hp} {Q : VK} (h : tE X.K P C (.blt .lzip [a, b]) σ H Q) : tLz X.K (tEs X.K P C [a, b]) σ H Q := by
  obtain ⟨F, φ, st, δ, s, d, h⟩ := h
  simp only [evE] at h
  refine ⟨F, φ, st, δ, s, d, (Post.bind h).imp fun vs φ1 st1 H1 t1 h1 us ru => ?_⟩
  obtain ⟨y, e, q⟩ := h1.lift
  obtain ⟨xs, ys, e1, e3⟩ := lz_inv e
  subst e1 e3
  obtain ⟨x, y, rfl, rx, ry⟩ := RVs.two ru
  obtain ⟨pa, vx, rfl, hx, dx⟩ := Den.tup_inv rx
  obtain ⟨pb, vy, rfl, hy, dy⟩ := Den.tup_inv ry
  refine ⟨pa, pb, vx, vy, rfl, hx, hy, fun H' p ps k hp hl hlen hq => ?_⟩
  have t2 := step_ext t1.sc k
  have np : p ∉ φ1 := fun z => t1.sc.al p z hp
  have w : Way (Or2 F (Live φ1 st1)) H1 (Or2 (Or2 F (One p)) (Live φ1 st1)) H' := ⟨fun a o e n => ⟨k a o e, fun l => l.elim (fun l => l.elim (fun f => n (.inl f)) fun z => by rw [show a = p from z, hp] at e; cases e) fun l => n (.inr l)⟩⟩
  have n0 : H p = none := by
    cases z : H p with
    | none => rfl
    | some o => exact absurd hp (t1.al p (by rw [z]; simp))
  refine q φ1 H' t2 _ ⟨p, ps.map V.ref, rfl, hl, n0, np, paired_idx ?_ fun i v w' e1 e2 => ?_, t1.sc.plus k (fun a n => t2.al a n) hp hl trivial⟩
  · rw [List.length_map, hlen, zipW_len, dx.length, dy.length]
  · rw [List.getElem?_map] at e1
    cases qp : ps[i]? with
    | none => rw [qp] at e1; cases e1
    | some r =>
      rw [qp] at e1
      cases e1
      obtain ⟨_, x, y, ob, gx, gy, hd, hr⟩ := hq i r qp
      have ix : i < xs.length := by rw [← dx.length]; exact (List.getElem?_eq_some_iff.mp gx).1
      have iy : i < ys.length := by rw [← dy.length]; exact (List.getElem?_eq_some_iff.mp gy).1
      obtain ⟨x', g1, d1⟩ := dx.get (List.getElem?_eq_getElem ix)
      obtain ⟨y', g2, d2⟩ := dy.get (List.getElem?_eq_getElem iy)
      rw [gx] at g1; cases g1
      rw [gy] at g2; cases g2
      rw [zipW_get xs ys i _ _ (List.getElem?_eq_getElem ix) (List.getElem?_eq_getElem iy)] at e2
      cases e2
      exact Den.tup (.inl ⟨ob, hr, hd⟩) (.cons (Den.way w t1.sc.cells d1) (.cons (Den.way w t1.sc.cells d2) .nil))
end ZL
set_option maxHeartbeats 1200000
/-! Ev11: statements. -/
namespace MP
open PySem PySem.Spec L2
def endS (K : PySem.W.Frag) (F : AP) (H0 : Hp) (D : Ends) : Fl → List Addr → Sto → Hp → Prop
  | .nx δ, φ, st, H => ∀ σ, Sl K F φ st H δ σ → D.nx σ H
  | .bk δ, φ, st, H => ∀ σ, Sl K F φ st H δ σ → D.bk σ H
  | .ct δ, φ, st, H => ∀ σ, Sl K F φ st H δ σ → D.ct σ H
  | .rt v, φ, st, H => ∀ u, RU K F H0 φ st H u v → D.rt u H
def tS (K : PySem.W.Frag) (P : Par) (C : CE) (s : S) : TS := fun D σ H => ∃ F φ st δ, SC K F φ st H ∧ Sl K F φ st H δ σ ∧
  Post K F (exOf P.XR P.W σ) φ st H (evS C s δ st) (endS K F H D)
def tSs (K : PySem.W.Frag) (P : Par) (C : CE) (s : List S) : TS := fun D σ H => ∃ F φ st δ, SC K F φ st H ∧ Sl K F φ st H δ σ ∧
  Post K F (exOf P.XR P.W σ) φ st H (evSs C s δ st) (endS K F H D)
/-- what is wished of exceptions does not look at the slots -/
def WFree (W : WX) : Prop := ∀ c d σ σ' H, W c d σ H → W c d σ' H
theorem exOf_free {XR : XRel} {W : WX} (h : WFree W) (σ σ' : L2.St) : ∀ c p L H, exOf XR W σ c p L H → exOf XR W σ' c p L H := fun c p L H e cls d x => h _ _ _ _ _ (e cls d x)
theorem Post.ex {α : Type} {K : PySem.W.Frag} {F : AP} {ex ex' : EX} {φ : List Addr} {st : Sto} {H : Hp} {o : Out α} {R : α → List Addr → Sto → Hp → Prop} (k : ∀ c p L H, ex c p L H → ex' c p L H) (h : Post K F ex φ st H o R) : Post K F ex' φ st H o R := by
  cases o with
  | ok a st' => exact h
  | exc c p st' => exact fun φ' H' t => k _ _ _ _ (h φ' H' t)
  | bad => exact h
theorem endS.weak {K : PySem.W.Frag} {F : AP} {H0 H1 : Hp} {D : Ends} {φ : List Addr} {st : Sto} {H : Hp} {fl : Fl} (k : ∀ a, H0 a ≠ none → H1 a ≠ none) (h : endS K F H0 D fl φ st H) : endS K F H1 D fl φ st H := by
  cases fl with
  | rt v => exact fun u r => h u (RU.weak k r)
  | _ => exact h
section
variable {X : Cx} {P : Par} {C : CE}
theorem ds_asg {own : Bool} {i : Nat} {e : E} {D : Ends} {σ : L2.St} {H : Hp} (h : tS X.K P C (.asg own i e) D σ H) : tE X.K P C e σ H fun x H1 => D.nx (σ.set i (some x)) H1 := by
  obtain ⟨F, φ, st, δ, s, d, h⟩ := h
  simp only [evS] at h
  refine ⟨F, φ, st, δ, s, d, ?_⟩
  cases q : evE C e δ st with
  | bad => rw [q] at h; exact h
  | exc c p st1 => rw [q] at h; exact h
  | ok v st1 =>
    rw [q] at h
    intro φ1 H1 t1 u ru
    have d1 := d.step s t1
    have h : Post X.K F (exOf P.XR P.W σ) φ st H (match own, v with
      | true, .fl xs => Out.ok (.nx (δ.set i (some (.ref st1.length)))) (st1 ++ [.lst xs])
      | true, .fd kvs => .ok (.nx (δ.set i (some (.ref st1.length)))) (st1 ++ [.dct kvs])
      | _, v => match wOf v with
        | some w => .ok (.nx (δ.set i (some w))) st1
        | none => .bad) (endS X.K F H D) := h
    split at h
    · obtain ⟨a, vs, e1, h1, h2, h3, h4, h5⟩ := ru
      subst e1
      obtain ⟨t2, r2⟩ := Step.take (c := .lst _) s t1 h2 h3 h5 ⟨vs, h1, h4⟩
      exact h _ _ t2 _ (Sl.set (d.step s t2) (r2 _ _))
    · obtain ⟨a, vs, e1, h1, h2, h3, h4, h5⟩ := ru
      subst e1
      obtain ⟨t2, r2⟩ := Step.take (c := .dct _) s t1 h2 h3 h5 ⟨vs, h1, h4⟩
      exact h _ _ t2 _ (Sl.set (d.step s t2) (r2 _ _))
    · split at h
      · rename_i w hw
        exact h φ1 H1 t1 _ (d1.set (wOf_den t1.sc (ru.rv t1.sc fun a f => s.fo a f) hw))
      · exact h.elim
theorem xs_asg {own : Bool} {i : Nat} {e : E} {y : Str} {a : Expr} {py pos : Pos} (hN : X.N.Nodup) (hi : X.N[i]? = some y) (hx : X.env.scope.names.lookup y = some .local ∨ (X.env.scope.names.lookup y = some .cell ∧ X.fn y = true)) (ha : PE X a (tE X.K P C e))
    (hs : swapsWith a (some (.Name y py)) pos.line X.env = pure false) : PS X (.Assign [.Name y py] a pos) (tS X.K P C (.asg own i e)) :=
  ps_weak (ps_set hN hi (hx.imp id (·.1)) ha hs (hx.symm.imp (·.2) id)) fun D σ H h => ds_asg h
theorem ds_unp {ts : List Tg} {e : E} {D : Ends} {σ : L2.St} {H : Hp} (h : tS X.K P C (.unp ts e) D σ H) : tE X.K P C e σ H fun x H1 => gT X.K (.tp ts) x σ H1 D.nx := by
  obtain ⟨F, φ, st, δ, s, d, h⟩ := h
  simp only [evS] at h
  refine ⟨F, φ, st, δ, s, d, (Post.bind h).imp fun v φ1 st1 H1 t1 h1 u ru => ?_⟩
  cases v with
  | w w =>
    obtain ⟨fl, e1, q⟩ := h1.lift
    cases qb : bindT (.tp ts) w δ with
    | none => rw [qb] at e1; cases e1
    | some δ' =>
      rw [qb] at e1; cases e1
      exact gT_run (d.step s t1) ru qb fun σ' s' _ => q φ1 H1 (Step.refl t1.sc) σ' s'
  | fl _ => exact h1.elim
  | fd _ => exact h1.elim
theorem ds_set {o i e : E} {D : Ends} {σ : L2.St} {H : Hp} (h : tS X.K P C (.setI o i e) D σ H) : tE X.K P C e σ H fun x H1 => gSub (tE X.K P C o) (tE X.K P C i) (rSet X.K) x σ H1 D.nx := by
  obtain ⟨F, φ, st, δ, s, d, h⟩ := h
  simp only [evS] at h
  refine ⟨F, φ, st, δ, s, d, (Post.bind h).imp fun v φ1 st1 H1 t1 h1 u ru => ⟨F, φ1, st1, δ, t1.sc, d.step s t1, (Post.bind h1).imp fun ov φ2 st2 H2 t2 h2 uo ro => ⟨F, φ2, st2, δ, t2.sc, (d.step s t1).step t1.sc t2, (Post.bind h2).imp fun iv φ3 st3 H3 t3 h3 ui ri => ?_⟩⟩⟩
  cases qw : wOf v with
  | none => rw [qw] at h3; exact h3.elim
  | some w =>
    rw [qw] at h3
    dsimp only [Option.bind_some] at h3
    cases qs : setCell st3 ov iv w with
    | none => rw [qs] at h3; exact h3.elim
    | some st' =>
      rw [qs] at h3
      have rx := wOf_den t3.sc (Step.rv t2.sc t3 (Step.rv t1.sc t2 (ru.rv t1.sc fun a f => s.fo a f))) qw
      exact ⟨F, φ3, st3, ov, iv, w, st', t3.sc, Step.rv t2.sc t3 (ro.rv t2.sc fun a f => t1.sc.fo a f), ri.rv t3.sc (fun a f => t2.sc.fo a f), rx, qs, fun H' t4 => h3 φ3 H' t4 σ ((((d.step s t1).step t1.sc t2).step t2.sc t3).step t3.sc t4)⟩
theorem ds_par {i j : Nat} {a b : E} {D : Ends} {σ : L2.St} {H : Hp} (h : tS X.K P C (.par i j a b) D σ H) : tEs X.K P C [a, b] σ H fun vs H1 => ∃ v w, vs = [v, w] ∧ D.nx ((σ.set i (some v)).set j (some w)) H1 := by
  obtain ⟨F, φ, st, δ, s, d, h⟩ := h
  simp only [evS] at h
  refine ⟨F, φ, st, δ, s, d, ?_⟩
  simp only [evEs]
  cases q : evE C a δ st with
  | bad => rw [q] at h; exact h
  | exc c p st1 => rw [q] at h; exact h
  | ok v st1 =>
    rw [q] at h
    simp only [Out.bind] at h ⊢
    cases q2 : evE C b δ st1 with
    | bad => rw [q2] at h; exact h
    | exc c p st2 => rw [q2] at h; exact h
    | ok w st2 =>
      rw [q2] at h
      simp only [Out.bind] at h ⊢
      intro φ2 H2 t2 us ru
      obtain ⟨x, y, rfl, rx, ry⟩ := RVs.two ru
      refine ⟨x, y, rfl, ?_⟩
      split at h
      · rename_i x' y' h1 h2
        exact h φ2 H2 t2 _ (((d.step s t2).set (wOf_den t2.sc rx h1)).set (wOf_den t2.sc ry h2))
      · exact h.elim
theorem ds_ex {e : E} {D : Ends} {σ : L2.St} {H : Hp} (h : tS X.K P C (.ex e) D σ H) : tE X.K P C e σ H fun _ H1 => D.nx σ H1 := by
  obtain ⟨F, φ, st, δ, s, d, h⟩ := h
  simp only [evS] at h
  exact ⟨F, φ, st, δ, s, d, (Post.bind h).imp fun v φ1 st1 H1 t1 h1 u ru => h1 φ1 H1 (Step.refl t1.sc) σ (d.step s t1)⟩
theorem ds_augI {i : Nat} {op : Operator} {g : Int → Int → Int} {e : E} {D : Ends} {σ : L2.St} {H : Hp} (hno : ∀ st x y, augS op st x y = none) (hop : ∀ x y z, augV op x y = some z → ∃ i j, x = .d (.int i) ∧ y = vInt j ∧ z = .d (.int (g i j))) (h : tS X.K P C (.aug i op e) D σ H) : tAug i (tE X.K P C e) (ipI g) D σ H := by
  obtain ⟨F, φ, st, δ, s, d, h⟩ := h
  simp only [evS] at h
  split at h
  · rename_i w hw
    obtain ⟨x, e1, r1⟩ := d.slot _ _ hw
    refine ⟨x, e1, F, φ, st, δ, s, d, (Post.bind h).imp fun v φ1 st1 H1 t1 h1 u ru => ?_⟩
    cases qa : augV op w v with
    | none => rw [qa] at h1; simp only [hno] at h1; exact h1.elim
    | some z =>
      rw [qa] at h1
      obtain ⟨i', j', e2, e3, e4⟩ := hop _ _ _ qa
      subst e2 e3 e4
      exact ⟨i', j', Den.int_inv r1, Den.int_inv ru, h1 φ1 H1 (Step.refl t1.sc) _ ((d.step s t1).set (w := .d (.int (g i' j'))) (Den.int _))⟩
  · exact h.elim
/-- ints, or a list made longer -/
def ipA : TIp := fun x y H Q => ipI (fun i j => i + j) x y H Q ∨ rExt2 x y H Q
theorem ip_addA : PIp X .Add ipA := fun pins s σ H x y v u Q I r1 r2 h => h.elim (ip_add pins s σ H x y v u Q I r1 r2) (iop_ext pins s σ H x y v u Q I r1 r2)
theorem ds_augA {i : Nat} {e : E} {D : Ends} {σ : L2.St} {H : Hp} (hop : ∀ x y z, augV .Add x y = some z → ∃ i j, x = .d (.int i) ∧ y = vInt j ∧ z = .d (.int (i + j))) (h : tS X.K P C (.aug i .Add e) D σ H) : tAug i (tE X.K P C e) ipA D σ H := by
  obtain ⟨F, φ, st, δ, s, d, h⟩ := h
  simp only [evS] at h
  split at h
  · rename_i w hw
    obtain ⟨x, e1, r1⟩ := d.slot _ _ hw
    refine ⟨x, e1, F, φ, st, δ, s, d, (Post.bind h).imp fun v φ1 st1 H1 t1 h1 u ru => ?_⟩
    cases qa : augV .Add w v with
    | some z =>
      rw [qa] at h1
      obtain ⟨i', j', e2, e3, e4⟩ := hop _ _ _ qa
      subst e2 e3 e4
      exact .inl ⟨i', j', Den.int_inv r1, Den.int_inv ru, h1 φ1 H1 (Step.refl t1.sc) _ ((d.step s t1).set (w := .d (.int (i' + j'))) (Den.int _))⟩
    | none =>
      rw [qa] at h1
      cases qs : augS .Add st1 w v with
      | none => simp only [qs] at h1; exact h1.elim
      | some st2 =>
        simp only [qs] at h1
        unfold augS at qs
        split at qs <;> try (cases qs; done)
        rename_i _ r _
        split at qs <;> try (cases qs; done)
        rename_i xs hi
        cases ql : listOf st1 v with
        | none => rw [ql] at qs; cases qs
        | some ys =>
          rw [ql] at qs
          dsimp only [Option.bind_some] at qs
          split at qs
          · rename_i hz
            cases qs
            obtain ⟨a, e2, e3⟩ := r1
            subst e3
            obtain ⟨ψ, x1⟩ := t1.pre
            have e4 : φ1[r]? = some a := by
              rw [x1, List.getElem?_append_left (List.getElem?_eq_some_iff.mp e2).1]; exact e2
            obtain ⟨vs, hv, dv⟩ := t1.sc.cell _ a _ e4 hi
            obtain ⟨b, us, e5, hb, db⟩ := RV.list t1.sc (ru.rv t1.sc fun a f => s.fo a f) ql
            subst e5
            have lv : Or2 F (Live φ1 st1) a := .inr ⟨r, _, e4, hi, by intro z; cases z⟩
            refine .inr ⟨a, b, vs, us, rfl, rfl, hv, hb, by rw [line_is, paired_len dv, paired_len db]; exact hz, ?_⟩
            have stp : Step X.K F φ1 st1 H1 φ1 (st1.set r (.lst (xs ++ ys))) (upd H1 a (.lst (vs ++ us))) :=
              t1.sc.write e4 hi (by intro z; cases z) (by intro z; cases z) trivial ⟨_, upd_same, paired_app (paired_imp (fun _ _ z => RW.way (way_write lv) t1.sc.cells ⟨[], by simp⟩ z) dv) (paired_imp (fun _ _ z => RW.way (way_write lv) t1.sc.cells ⟨[], by simp⟩ z) db)⟩
            exact h1 φ1 _ stp _ (((d.step s t1).step t1.sc stp).set (w := .ref r) ⟨a, e4, rfl⟩)
          · cases qs
  · exact h.elim
theorem aug_noSub : ∀ st x y, augS .Sub st x y = none := fun st x y => by
  unfold augS
  split
  · cases ‹Operator.Sub = _›
  · rfl
theorem aug_add : ∀ x y z, augV .Add x y = some z → ∃ i j, x = .d (.int i) ∧ y = vInt j ∧ z = .d (.int (i + j)) := fun x y z e => by
  unfold augV at e
  split at e
  · cases e; exact ⟨_, _, rfl, rfl, rfl⟩
  · cases ‹Operator.Add = _›
  · cases e
theorem aug_sub : ∀ x y z, augV .Sub x y = some z → ∃ i j, x = .d (.int i) ∧ y = vInt j ∧ z = .d (.int (i - j)) := fun x y z e => by
  unfold augV at e
  split at e
  · cases ‹Operator.Sub = _›
  · cases e; exact ⟨_, _, rfl, rfl, rfl⟩
  · cases e
theorem ds_ret {e : E} {D : Ends} {σ : L2.St} {H : Hp} (h : tS X.K P C (.ret (some e)) D σ H) : tE X.K P C e σ H D.rt := by
  obtain ⟨F, φ, st, δ, s, d, h⟩ := h
  simp only [evS] at h
  exact ⟨F, φ, st, δ, s, d, (Post.bind h).imp fun v φ1 st1 H1 t1 h1 u ru => h1 φ1 H1 (Step.refl t1.sc) u ru⟩
theorem ds_retN {D : Ends} {σ : L2.St} {H : Hp} (h : tS X.K P C (.ret none) D σ H) : D.rt .non H := by
  obtain ⟨F, φ, st, δ, s, d, h⟩ := h
  simp only [evS] at h
  exact h φ H (Step.refl s) .non RU.non
theorem ds_if {c : E} {a b : List S} {D : Ends} {σ : L2.St} {H : Hp} (h : tS X.K P C (.iff c a b) D σ H) : tT X.K P C c σ H fun t H1 => if t = true then tSs X.K P C a D σ H1 else tSs X.K P C b D σ H1 := by
  obtain ⟨F, φ, st, δ, s, d, h⟩ := h
  simp only [evS, evB] at h
  refine ⟨F, φ, st, δ, s, d, (Post.bind (Post.bind h)).imp fun v φ1 st1 H1 t1 h1 => ?_⟩
  obtain ⟨r, e, q⟩ := h1.lift
  refine ⟨r, e, ?_⟩
  have q := q φ1 H1 (Step.refl t1.sc)
  cases r with
  | true => exact iteT ⟨F, φ1, st1, δ, t1.sc, d.step s t1, q.imp fun fl φ2 st2 H2 t2 h2 => h2.weak t1.al⟩
  | false => exact iteF ⟨F, φ1, st1, δ, t1.sc, d.step s t1, q.imp fun fl φ2 st2 H2 t2 h2 => h2.weak t1.al⟩
theorem ds_seq (hW : WFree P.W) {a : S} {r : List S} {D : Ends} {σ : L2.St} {H : Hp} (h : tSs X.K P C (a :: r) D σ H) : tSeq (tS X.K P C a) (tSs X.K P C r) D σ H := by
  obtain ⟨F, φ, st, δ, s, d, h⟩ := h
  simp only [evSs] at h
  refine ⟨F, φ, st, δ, s, d, (Post.bind h).imp fun fl φ1 st1 H1 t1 h1 => ?_⟩
  cases fl with
  | nx δ1 => exact fun σ1 d1 => ⟨F, φ1, st1, δ1, t1.sc, d1, (h1.ex (exOf_free hW σ σ1)).imp fun fl φ2 st2 H2 t2 h2 => h2.weak t1.al⟩
  | rt v => exact h1 φ1 H1 (Step.refl t1.sc)
  | bk δ1 => exact h1 φ1 H1 (Step.refl t1.sc)
  | ct δ1 => exact h1 φ1 H1 (Step.refl t1.sc)
theorem ds_nil {D : Ends} {σ : L2.St} {H : Hp} (h : tSs X.K P C [] D σ H) : D.nx σ H := by
  obtain ⟨F, φ, st, δ, s, d, h⟩ := h
  simp only [evSs] at h
  exact h φ H (Step.refl s) σ d
theorem ds_one {a : S} {D : Ends} {σ : L2.St} {H : Hp} (h : tSs X.K P C [a] D σ H) : tS X.K P C a D σ H := by
  obtain ⟨F, φ, st, δ, s, d, h⟩ := h
  simp only [evSs] at h
  refine ⟨F, φ, st, δ, s, d, (Post.bind h).imp fun fl φ1 st1 H1 t1 h1 => ?_⟩
  cases fl <;> exact h1 φ1 H1 (Step.refl t1.sc)
theorem ds_for (hW : WFree P.W) {t : Tg} {s : Src} {b : List S} {D : Ends} {σ : L2.St} {H : Hp} (h : tS X.K P C (.fr t s b) D σ H) : tFor (tSrc X.K P C s) (gT X.K t) (tSs X.K P C b) D σ H := by
  obtain ⟨F, φ, st, δ, s0, d, h⟩ := h
  simp only [evS] at h
  split at h
  · exact h.elim
  rename_i hwk
  have hwk : s.isW = true → t.isTp = true := fun z => by
    rw [z] at hwk
    simpa using hwk
  refine ⟨F, φ, st, δ, s0, d, (Post.bind h).imp fun it φ1 st1 H1 t1 h1 J oJ => ?_⟩
  generalize hf : (fun (x : W) (σ : Env) (st : Sto) => match bindT t x σ with
      | none => Out.bad
      | some σ' => evSs C b σ' st) = f at h1
  have hn0 : ∃ n0, forOf C.lf f it δ st1 = forI f it n0 0 δ st1 := by
    cases it with
    | items xs => exact ⟨xs.length + 1, for_items f xs xs.length 0 δ st1 rfl⟩
    | live r => exact ⟨C.lf, for_live f r C.lf 0 δ st1⟩
  obtain ⟨n0, hn0⟩ := hn0
  rw [hn0] at h1
  refine ⟨fun i m σ2 H2 => ∃ φ2 st2 δ2, m + i = n0 ∧ Step X.K F φ1 st1 H1 φ2 st2 H2 ∧ Sl X.K F φ2 st2 H2 δ2 σ2 ∧ Post X.K F (exOf P.XR P.W σ) φ2 st2 H2 (forI f it m i δ2 st2) (endS X.K F H1 D),
    ⟨n0, φ1, st1, δ, rfl, Step.refl t1.sc, d.step s0 t1, h1.imp fun fl φ2 st2 H2 t2 h2 => h2.weak t1.al⟩, ?_⟩
  rintro i m σ2 H2 ⟨φ2, st2, δ2, hm, t2, d2, h2⟩
  cases m with
  | zero => exact h2.elim
  | succ m =>
    have hw : Way (Or2 F (Live φ1 st1)) H1 (Or2 F (Live φ2 st2)) H2 := t2.way
    have ia := itA oJ hw t2.pre t2.sc i
    simp only [forI] at h2
    cases q : itAt it i st2 with
    | none => rw [q] at h2; exact h2.elim
    | some ox =>
      rw [q] at h2
      cases ox with
      | none => exact .inl ⟨ia.stop q, h2 φ2 H2 (Step.refl t2.sc) σ2 d2⟩
      | some x =>
        refine .inr ⟨ia.go x q, fun σ3 H3 => ∃ φ2 st2 δ2, m + (i + 1) = n0 ∧ Step X.K F φ1 st1 H1 φ2 st2 H3 ∧ Sl X.K F φ2 st2 H3 δ2 σ3 ∧ Post X.K F (exOf P.XR P.W σ) φ2 st2 H3 (forI f it m (i + 1) δ2 st2) (endS X.K F H1 D),
          fun σ' H' h' => ⟨m, Nat.lt_succ_self m, h'⟩, fun v H3 yy => ?_⟩
        have h3 : Step X.K F φ2 st2 H2 φ2 st2 H3 ∧ RWt X.K (Or2 F (Live φ2 st2)) H3 φ2 v x t.isTp := by
          rcases ia.yld x q v H3 yy with ⟨e3, r⟩ | ⟨zw, p, ws, ds, hp, e3, ev, ex, dd⟩
          · subst e3; exact ⟨Step.refl t2.sc, .inl r⟩
          · subst e3 ev ex
            exact ⟨Step.laid t2.sc hp, .inr ⟨hwk zw, p, ws, ds, rfl, .of upd_same, rfl, DenAll.laid t2.sc hp dd⟩⟩
        obtain ⟨t3, rx⟩ := h3
        have h2 := Post.bind (Post.step t3 h2)
        have hfx : f x δ2 st2 = match bindT t x δ2 with
            | none => Out.bad
            | some σ' => evSs C b σ' st2 := by rw [← hf]
        rw [hfx] at h2
        cases qb : bindT t x δ2 with
        | none => rw [qb] at h2; exact h2.elim
        | some δ3 =>
          rw [qb] at h2
          refine gT_runW (d2.step t2.sc t3) rx qb fun σ3 d3 _ => ⟨F, φ2, st2, δ3, t3.sc, d3, (h2.ex (exOf_free hW σ σ3)).imp fun fl φ4 st4 H4 t4 h4 => ?_⟩
          cases fl with
          | nx δ4 => exact fun σ4 d4 => ⟨φ4, st4, δ4, by omega, (t2.trans t3).trans t4, d4, h4⟩
          | ct δ4 => exact fun σ4 d4 => ⟨φ4, st4, δ4, by omega, (t2.trans t3).trans t4, d4, h4⟩
          | bk δ4 => exact h4 φ4 H4 (Step.refl t4.sc)
          | rt v => exact fun u ru => h4 φ4 H4 (Step.refl t4.sc) u (RU.weak (fun a n => (t2.trans t3).al a n) ru)
theorem ds_while (hW : WFree P.W) {c : E} {b : List S} {D : Ends} {σ : L2.St} {H : Hp} (h : tS X.K P C (.wh c b) D σ H) : tWhile (tT X.K P C c) (tSs X.K P C b) D σ H := by
  obtain ⟨F, φ, st, δ, s0, d, h⟩ := h
  simp only [evS] at h
  refine ⟨fun m σ2 H2 => ∃ φ2 st2 δ2, Step X.K F φ st H φ2 st2 H2 ∧ Sl X.K F φ2 st2 H2 δ2 σ2 ∧ Post X.K F (exOf P.XR P.W σ) φ2 st2 H2 (whileL (evB C c) (evSs C b) m δ2 st2) (endS X.K F H D),
    ⟨C.lf, φ, st, δ, Step.refl s0, d, h⟩, ?_⟩
  rintro m σ2 H2 ⟨φ2, st2, δ2, t2, d2, h2⟩
  cases m with
  | zero => exact h2.elim
  | succ m =>
    simp only [whileL, evB] at h2
    refine ⟨F, φ2, st2, δ2, t2.sc, d2, ((Post.bind (Post.bind h2)).ex (exOf_free hW σ σ2)).imp fun v φ3 st3 H3 t3 h3 => ?_⟩
    obtain ⟨r, e, q⟩ := h3.lift
    refine ⟨r, e, ?_⟩
    have q := q φ3 H3 (Step.refl t3.sc)
    cases r with
    | false => exact iteF (q φ3 H3 (Step.refl t3.sc) σ2 (d2.step t2.sc t3))
    | true =>
      refine iteT ⟨fun σ4 H4 => ∃ φ2 st2 δ2, Step X.K F φ st H φ2 st2 H4 ∧ Sl X.K F φ2 st2 H4 δ2 σ4 ∧ Post X.K F (exOf P.XR P.W σ) φ2 st2 H4 (whileL (evB C c) (evSs C b) m δ2 st2) (endS X.K F H D),
        fun σ' H' h' => ⟨m, Nat.lt_succ_self m, h'⟩, F, φ3, st3, δ2, t3.sc, d2.step t2.sc t3, ((Post.bind q).ex (exOf_free hW σ σ2)).imp fun fl φ4 st4 H4 t4 h4 => ?_⟩
      cases fl with
      | nx δ4 => exact fun σ4 d4 => ⟨φ4, st4, δ4, (t2.trans t3).trans t4, d4, h4⟩
      | ct δ4 => exact fun σ4 d4 => ⟨φ4, st4, δ4, (t2.trans t3).trans t4, d4, h4⟩
      | bk δ4 => exact h4 φ4 H4 (Step.refl t4.sc)
      | rt v => exact fun u ru => h4 φ4 H4 (Step.refl t4.sc) u (RU.weak (fun a n => (t2.trans t3).al a n) ru)
end
end MP
set_option maxHeartbeats 2400000
/-! Xn1: a def whose body begins with super().__init__(..), over an exception that is being made. -/
namespace MX
open PyProof.Rows PySem PySem.Spec L2
/-- the names of such a def: its parameters, and the class that it stands in -/
structure SupS (ps : List Str) (sc : Scope) : Prop where
  nd : ps.Nodup
  kind : sc.kind = .function
  co : sc.isCoroutine = false
  gen : sc.isGenerator = false
  noc : ∀ y ∈ sc.names, y.2 ≠ .cell
  fre : ∀ y ∈ sc.names, y.2 = .free → y.1 = "__class__"
  par : ∀ y ∈ ps, sc.names.lookup y = some .local
  cls : sc.names.lookup ("__class__" : Str) = some .free
  sup : sc.names.lookup ("super" : Str) = some .globalImplicit
def supSB (ps : List Str) (sc : Scope) : Bool :=
  decide ps.Nodup && (decide (sc.kind = .function) && (!sc.isCoroutine && (!sc.isGenerator && ((sc.names.all fun y => !decide (y.2 = .cell) && (!decide (y.2 = .free) || decide (y.1 = "__class__"))) &&
    ((ps.all fun y => decide (sc.names.lookup y = some .local)) && (decide (sc.names.lookup ("__class__" : Str) = some .free) && decide (sc.names.lookup ("super" : Str) = some .globalImplicit)))))))
theorem supS_by {ps : List Str} {sc : Scope} (h : supSB ps sc = true) : SupS ps sc := by
  unfold supSB at h
  simp only [List.all_eq_true, decide_eq_true_eq, decide_eq_false_iff_not, Bool.not_eq_true', Bool.or_eq_true, Bool.and_eq_true] at h
  obtain ⟨h1, h2, h3, h4, h5, h6, h7, h8⟩ := h
  exact ⟨h1, h2, h3, h4, fun y hy => (h5 y hy).1, fun y hy e => (h5 y hy).2.elim (fun n => absurd e n) id, h6, h7, h8⟩
abbrev sEnv (q : Str) (sc : Scope) (L f : Addr) (cd : Value) (cc : Addr) : Env := PySem.W.ksEnv q sc L f cd cc
/-- where its body runs -/
def supCx (CX : CXT) (P : Program) (w : World) (K : PySem.W.Frag) (mg : Str → Option Value) (base : Heap) (ps : List Str) (q : Str) (sc : Scope) (f : Addr) (cd : Value) (cc : Addr) (A : Around) (outer : List Env) (s : Shared) (H : Hp) (E : XK) : Cx where
  prog := P
  w := w
  K := K
  mg := mg
  base := base
  A := A.deeper (sEnv q sc s.heap.objs.size f cd cc)
  N := ps
  s_0 := s
  H_0 := H
  env := sEnv q sc s.heap.objs.size f cd cc
  outer := outer
  stack := sEnv q sc s.heap.objs.size f cd cc :: outer
  ex := []
  fn := fun _ => false
  calm := true
  pn := []
  xe := fun e s' => wpAny (model P w) (A.deeper (sEnv q sc s.heap.objs.size f cd cc)) (leaving (sEnv q sc s.heap.objs.size f cd cc) e) (fun _ s2 => CX outer H s E e s2) (fun e' s2 => CX outer H s E e' s2) s'
theorem zip_look : ∀ {ps : List Str} {us : List Value} {i : Nat} {y : Str} {u : Value}, ps.Nodup → ps[i]? = some y → us[i]? = some u → (ps.zip us).reverse.lookup y = some u := by
  intro ps us i y u nd hp hu
  have key : ∀ {l : List (Str × Value)}, (y, u) ∈ l → (∀ v, (y, v) ∈ l → v = u) → l.lookup y = some u := by
    intro l
    induction l with
    | nil => intro h _; cases h
    | cons p l ih =>
      intro h k
      obtain ⟨a, b⟩ := p
      by_cases e : y = a
      · subst e
        have := k b (List.mem_cons_self ..)
        subst this
        simp [List.lookup]
      · have e' : (y == a) = false := by simpa using e
        simp only [List.lookup, e']
        refine ih ?_ fun v hv => k v (List.mem_cons_of_mem _ hv)
        rcases List.eq_or_mem_of_mem_cons h with z | z
        · cases z; exact absurd rfl e
        · exact z
  have hm : (y, u) ∈ ps.zip us := by
    refine List.mem_of_getElem? (i := i) ?_
    rw [List.getElem?_zip_eq_some]
    exact ⟨hp, hu⟩
  refine key (List.mem_reverse.mpr hm) fun v hv => ?_
  obtain ⟨j, hj⟩ := List.getElem?_of_mem (List.mem_reverse.mp hv)
  rw [List.getElem?_zip_eq_some] at hj
  have : j = i := nodup_ix nd hj.1 hp
  subst this
  rw [hu] at hj
  exact (Option.some.inj hj.2).symm
section
variable {CX : CXT} {P : Program} {w : World} {K : PySem.W.Frag} {mg : Str → Option Value} {base : Heap} {ps : List Str} {q : Str} {sc : Scope} {f cc D : Addr} {cd : Value} {A : Around} {outer : List Env} {s : Shared} {H : Hp} {E : XK} {us : List Value} {vs : List V}
/-- the class's cell -/
def CellIn (K : PySem.W.Frag) (cc D : Addr) : Prop := ∃ cl cld csl, K.lookup cc = some ⟨cl, cld, .cell (some (.ref D)), csl⟩
theorem sup_inv (S : SupS ps sc) (hd : A.handled = none) (e0 : Env0 P w K mg base A outer s H) (hl : vs.length = ps.length) (r : Vals vs us) (hc : CellIn K cc D) {h1 : Heap} {t1 : Nat}
    (hns : h1.Ns s.heap.objs.size fun x => (ps.zip us).reverse.lookup x) (kp : ∀ b o, s.heap.get? b = some o → h1.get? b = some o) :
    Inv (supCx CX P w K mg base ps q sc f cd cc A outer s H E) [] (vs.map some) H { s with heap := h1, toks := t1 } := by
  obtain ⟨cl, cld, csl, hcc⟩ := hc
  have hb : base.get? cc = some ⟨cl, cld, .cell (some (.ref D)), csl⟩ := e0.mod.kin _ _ hcc
  have noA : ∀ b : Addr, b ∉ (supCx CX P w K mg base ps q sc f cd cc A outer s H E).ex := fun b z => absurd (show b ∈ ([] : List Addr) from z) (by simp)
  have cm : ∀ {y : Str} {c : Addr}, (supCx CX P w K mg base ps q sc f cd cc A outer s H E).env.cells.lookup y = some c → y = "__class__" ∧ c = cc := fun {y c} e => by
    have e : List.lookup y [(("__class__" : Str), cc)] = some c := e
    by_cases h : y = "__class__"
    · subst h
      simp [List.lookup] at e
      exact ⟨rfl, e.symm⟩
    · have h' : (y == ("__class__" : Str)) = false := by simpa using h
      simp only [List.lookup, h'] at e
      cases e
  refine ⟨⟨e0.mod, S.kind, rfl, rfl, Nat.le_refl _, fun y z c h1 h2 => by rw [(cm h1).1, (cm h2).1], fun y hy => ?_, fun y c z _ => ?_, fun _ => hd, Around.frames_deeper e0.frames, .inr ⟨rfl, rfl⟩, fun b z => absurd z (noA b), e0.bs, e0.bsz, fun b _ _ => noA b,
      fun b z => (noA b z).elim, e0.funs, e0.frf⟩,
    rfl, e0.bare, Un.kept kp, ⟨_, hns, fun i y v e1 e2 e3 => ?_⟩, fun y c e => ?_, e0.hok.fresh (Nat.le_refl _), fun y c e => ?_, fun p hp => absurd (show p ∈ ([] : List (Addr × Obj)) ++ [] from hp) (by simp), e0.hok.kept kp, ?_⟩
  · have hy : sc.names.lookup y = some .cell ∨ sc.names.lookup y = some .free := hy
    rcases hy with hy | hy
    · exact absurd rfl (S.noc _ (PySem.mem_of_lookup hy))
    · have := S.fre _ (PySem.mem_of_lookup hy) rfl
      have this : y = "__class__" := this
      subst this
      exact ⟨cc, by show List.lookup _ [(("__class__" : Str), cc)] = _; simp [List.lookup]⟩
  · have z : false = true := z
    cases z
  · have e1 : ps[i]? = some y := e1
    have hv : vs[i]? = some v := by
      rw [List.getElem?_map] at e2
      cases k : vs[i]? with
      | none => rw [k] at e2; cases e2
      | some a => rw [k] at e2; cases e2; rfl
    obtain ⟨u, hu, rv⟩ := r.get hv
    exact ⟨u, rv, .inl ⟨S.par y (List.mem_of_getElem? e1), zip_look S.nd e1 hu⟩⟩
  · obtain ⟨_, rfl⟩ := cm e
    exact ⟨_, _, kp _ _ (e0.bs _ _ hb).1, rfl⟩
  · obtain ⟨_, rfl⟩ := cm e
    exact (e0.bs _ _ hb).2
  · rw [List.length_map]; exact hl
end
end MX
set_option maxHeartbeats 2400000
/-! Xn2: super().__init__(..), step by step. -/
namespace MX
open PyProof.Rows PySem PySem.Spec L2
/-- what is known where super() is said: the def f of the class at D -/
structure SupX (X : Cx) (f cda cc D : Addr) (fd : FuncData) (me : Str) : Prop where
  fu : X.env.func = some f
  co : X.env.code = .ref cda
  ce : X.env.cells.lookup ("__class__" : Str) = some cc
  ks : X.env.kindOf "super" = some .globalImplicit
  kc : X.env.kindOf "__class__" = some .free
  km : X.env.kindOf me = some .local
  n0 : X.N[0]? = some me
  fn : ∃ oc od osl, X.K.lookup f = some ⟨oc, od, .func fd, osl⟩
  ar : ∃ ar, (fd.params.posonlyargs ++ fd.params.args).head? = some ar ∧ ar.arg = me
  code : ∃ cl cdd vs ccs file tf, X.K.lookup cda = some ⟨cl, cdd, .fields vs, ccs⟩ ∧ vs[2]? = some (.str file tf) ∧ ((X.prog.main.file : Str) == file) = true
  cell : CellIn X.K cc D
  cls : ∃ cd, PySem.W.clsIn X.K D = some cd
  top : (X.prog.main.scope.names.lookup ("super" : Str)).isSome = false
  mg : X.mg "super" = none
section
variable {X : Cx} {pins : List (Addr × Obj)} {σ : L2.St} {H : Hp} {s : Shared} {f cda cc D a C : Addr} {fd : FuncData} {me : Str} {ox : Obj} {A : Around} {E : Value → Shared → Prop} {body : List Stmt}
theorem cls_at {K : PySem.W.Frag} {h : Heap} {D : Addr} {cd : ClassData} (X : K.In h) (e : PySem.W.clsIn K D = some cd) : ∃ oD, h.get? D = some oD ∧ oD.data = .cls cd := by
  unfold PySem.W.clsIn at e
  split at e
  · rename_i c d cd' sl ho
    cases e
    exact ⟨_, X _ _ ho, rfl⟩
  · cases e
theorem me_look (I : Inv X pins σ H s) {i : Nat} {me : Str} {v : V} (hn : X.N[i]? = some me) (hk : X.env.kindOf me = some .local) (hσ : σ[i]? = some (some v)) : ∃ m u, s.heap.Ns X.env.locals m ∧ RelV v u ∧ m me = some u := by
  obtain ⟨m, h1, h2⟩ := I.loc
  obtain ⟨u, r, q⟩ := h2 i me v hn hσ (.inl hk)
  rcases q with ⟨_, q⟩ | ⟨q, _⟩
  · exact ⟨m, u, h1, r, q⟩
  · rw [hk] at q
    rcases q with q | q <;> cases q
theorem sup_attr (T : SupX X f cda cc D fd me) (I : Inv X pins σ H s) (hσ : σ[0]? = some (some (.ref a))) (ho : s.heap.get? a = some ox) (hcls : ox.cls = .ref C) (hnc : ∀ c, ox.data ≠ .cls c) (hsub : PySem.W.mroIn X.K C (.ref D) = some true)
    {p0 p1 : Pos} {attr : Str} {whole : Sem Value} {Q : Value → Shared → Prop} (hat : (attr == ("__class__" : Str)) = false)
    (h : ∀ so h', h'.get? so = some (PySem.W.ks_superObj D a C) → (∀ y o, s.heap.get? y = some o → h'.get? y = some o) → Inv X pins σ H { s with heap := h' } → Q (.ref so) { s with heap := h' }) :
    _root_.PySem.wpAt (model X.prog X.w) X.A (.func body X.env) (attributeBase (.Call (.Name "super" p0) [] [] p1) attr X.env whole) Q E s := by
  obtain ⟨oc, od, osl, hf⟩ := T.fn
  obtain ⟨ar, ha1, ha2⟩ := T.ar
  obtain ⟨cl, cdd, vs, ccs, file, tf, hc1, hc2, hc3⟩ := T.code
  obtain ⟨cl', cld, csl, hcell⟩ := T.cell
  obtain ⟨cdD, hcd⟩ := T.cls
  obtain ⟨oD, hD1, hD2⟩ := cls_at I.kIn hcd
  obtain ⟨mb, hb1, hb2⟩ := I.mod.blt
  obtain ⟨m, u, hm1, hm2, hm3⟩ := me_look I T.n0 T.km hσ
  obtain rfl : u = Value.ref a := hm2
  have kin := I.kIn
  refine ks_wpAt_super_base (prog := X.prog) (w := X.w) T.ks T.kc hat T.fu (kin _ _ hf) rfl ha1 T.co (kin _ _ hc1) rfl hc2 hc3 T.top ?_
  refine PySem.W.ks_loadName_global I.ok.kind T.ks (Calls.loadGlobal_builtin (by rw [I.ok.glob]; exact I.mod.glob.keeps I.bk) T.mg (by rw [I.ok.blt]; exact hb1.keeps I.bk) ((hb2 "super" (by decide)).trans (by decide +kernel)) ⟨rfl, ?_⟩)
  refine wpAny_loadName_free I.ok.kind T.kc T.ce ⟨_, kin _ _ hcell, rfl⟩ ?_
  rw [ha2]
  refine wpAny_loadName_local I.ok.kind T.km hm1 hm3 ?_
  obtain ⟨hh, g, d, t, os⟩ := s
  refine ks_wpAny_isType_cls (oD := _) hD1 hD2 ⟨rfl, ?_⟩
  exact ks_wpAny_call_super hD1 hD2 ho hcls hnc (PySem.W.looks_mroIn kin hsub) fun h' e k => h _ h' e k (I.kept k)
end
end MX
set_option maxHeartbeats 2400000
/-! Xn3: the method behind super(), called. -/
namespace MX
open PyProof.Rows PySem PySem.Spec L2
section
variable {prog : Program} {w : World} {A : Around} {E : Value → Shared → Prop} {h : Heap} {g : Array GenState} {dr : Drawn} {tk : Nat} {os : OsState}
variable {nm qn : Str} {C N : Addr} {bs bm : List Value} {hdct : Bool} {sn : List Str} {sub : List Value} {ab : Bool} {col : Option Bool} {dd : Option Addr} {k0 k1 k2 k3 k5 : Option Value}
/-- ValueError.__init__ bound to an exception of the class at C, called -/
theorem mw_call {u a t : Addr} {dv : Option Addr} {rest : List Value} {Q : Value → Shared → Prop}
    (hC : h.get? C = some (excClassObj nm qn C N bs bm hdct sn sub ab col dd k0 k1 k2 k3 k5 "ValueError.__new__")) (he : h.get? a = some (PySem.W.excObj C t dv .none)) (hu : h.get? u = some (PySem.W.kxs_mw "ValueError.__init__" a)) (hz : rest.length ≤ sizeLine)
    (hq : ∀ h' t', (∀ b o, b ≠ a → h.get? b = some o → h'.get? b = some o) → h'.get? a = some (PySem.W.excObj C t' dv .none) → Q .none ⟨h', g, dr, tk, os⟩) :
    wpAny (model prog w) A (call (.ref u) rest) Q E ⟨h, g, dr, tk, os⟩ := by
  have e1 : (Value.type "method-wrapper" == Value.type "method" || Value.type "method-wrapper" == Value.type "builtin_function_or_method" || Value.type "method-wrapper" == Value.type "method-wrapper") = true := by decide
  have FB := F.excBase_ValueError
  have tail : codeAny (model prog w) A (.builtin "ValueError.__init__" ⟨.ref a :: rest, []⟩) (fun r s' => match r with | .ok (.ret v) => Q v s' | .ok _ => False | .error e => E e s') ⟨h, g, dr, tk, os⟩ :=
    codeAny_builtin FB.initEntry (PySem.W.exc_init_tree (cls := .ref C) (t0 := t) (dv := dv) (c2 := .none) (c3 := .none) (b4 := .bool false) he hz fun h' k e' _ => hq h' _ k e')
  refine wpAny_call (codeAny_of_tree (show wpAny _ A.in1 (callAny (.ref u) ⟨rest, []⟩) _ _ _ from ?_))
  simp only [callAny]
  apply wpAny_bind; refine wpAny_load hu ?_
  simp only [PySem.W.kxs_mw, e1, if_true]
  exact PySem.W.KFB.if_so (by decide) (wpAny_bind (PySem.W.check_bound_init FB.toExcCallFacts hC he rfl (wpAny_bind (wpAny_pure (wpAny_pure ⟨plainId_quiet FB.init.plain _, tail⟩)))))
end
end MX
set_option maxHeartbeats 2400000
/-! Xn4: the statement super().__init__(e), over the hand layer. -/
namespace MX
open PySem PySem.Spec PyProof.Rows L2 ClX
/-- the class C, seen from the class at D: nothing stands between D and a built-in __init__ -/
structure SupV (K : PySem.W.Frag) (C D : Addr) : Prop where
  oc : OexC K C
  sub : PySem.W.mroIn K C (.ref D) = some true
  op : PySem.W.nsIn K cStatics "thirdparty.any" = some none
  mv : PySem.W.ks_superIn K C D "__init__" = some (some (.builtin "ValueError.__init__"))
  sv : PySem.W.subIn K (.ref C) (.type "ValueError") = some true
/-- .. or the def at g stands there -/
structure SupO (K : PySem.W.Frag) (C D g : Addr) : Prop where
  oc : OexC K C
  sub : PySem.W.mroIn K C (.ref D) = some true
  op : PySem.W.nsIn K cStatics "thirdparty.any" = some none
  mv : PySem.W.ks_superIn K C D "__init__" = some (some (.ref g))
  tg : PySem.W.typeIn K (.ref g) = some (.type "function")
  fg : PySem.W.fnIn K g = true
section
variable {X : Cx} {pins : List (Addr × Obj)} {σ : L2.St} {H : Hp} {s : Shared} {f cda cc D a C : Addr} {fd : FuncData} {me : Str} {A : Around} {E : Value → Shared → Prop} {body : List Stmt} {dd : Option Addr}
theorem superIn_cls {K : PySem.W.Frag} {C D : Addr} {n : Str} {r : Option Value} (e : PySem.W.ks_superIn K C D n = some r) : ∃ cd, PySem.W.clsIn K C = some cd ∧ PySem.W.alongIn K n ((cd.mro.dropWhile (· != .ref D)).drop 1) = some r := by
  unfold PySem.W.ks_superIn at e
  cases q : PySem.W.clsIn K C with
  | none => rw [q] at e; nomatch e
  | some cd => rw [q] at e; exact ⟨cd, rfl, e⟩
theorem exo_ne {K : PySem.W.Frag} {h : Heap} {cd : ClassData} {ox : Obj} (X : K.In h) (hc : PySem.W.clsIn K C = some cd) (ha : h.get? a = some ox) (hd : ∃ vs, ox.data = .fields vs) : a ≠ C := by
  rintro rfl
  obtain ⟨oC, h1, h2⟩ := cls_at X hc
  rw [ha] at h1
  cases h1
  obtain ⟨vs, hd⟩ := hd
  rw [hd] at h2
  cases h2
theorem upd_self {H : Hp} {a : Addr} {o : HO} (e : H a = some o) : upd H a o = H := by
  funext b
  by_cases hb : b = a
  · rw [hb, upd_same, e]
  · rw [upd_ne hb]
variable {p0 p1 p2 p3 p4 : Pos} {pl : Sem Bool} {e : Expr} {te : TE} {Q : Flow → Shared → Prop}
/-- the statement's way to the method that super() finds: R, what is wished of (method, arguments ahead) -/
theorem sup_way (T : SupX X f cda cc D fd me) (I : Inv X pins σ H s) (hσ : σ[0]? = some (some (.ref a))) (ea : H a = some (exo a C dd)) (hsub : PySem.W.mroIn X.K C (.ref D) = some true)
    (he : eval (.Call (.Attribute (.Call (.Name "super" p0) [] [] p1) "__init__" p2) [e] [] p3) X.env = (do
      let ov ← attributeBase (.Call (.Name "super" p0) [] [] p1) "__init__" X.env (eval (.Call (.Name "super" p0) [] [] p1) X.env)
      standAt p2.atName
      let (fu, first) ← holding [ov] (getMethod ov "__init__" pl)
      callWith p3 fu first (backTo p3 (starEach [e] X.env)) []) := by rfl)
    (h : ∀ so h', h'.get? so = some (PySem.W.ks_superObj D a C) → Inv X pins σ H { s with heap := h' } →
      wpAny (model X.prog X.w) X.A (getMethod (.ref so) "__init__" pl) (fun fx s2 => wpAny (model X.prog X.w) X.A (callWith p3 fx.1 fx.2 (backTo p3 (starEach [e] X.env)) []) (fun _ => Q .next) E s2) E { s with heap := h' }) :
    _root_.PySem.wpAt (model X.prog X.w) X.A (.func body X.env) (exec (.Expr (.Call (.Attribute (.Call (.Name "super" p0) [] [] p1) "__init__" p2) [e] [] p3) p4) X.env) Q E s := by
  obtain ⟨t1, ho⟩ := exo_at I.hok ea
  refine ks_wpAt_Expr_any (ks_wpAt_MethodCall (sup_attr T I hσ ho rfl (fun c z => by cases z) hsub (by decide) fun so h' hso k I1 => ?_) he) I.quiet rfl
  exact h so h' hso I1
theorem args_one (h : PE X e te) (I : Inv X pins σ H s) {QQ : VK} {Q : List Value → Shared → Prop} (q : te σ H QQ) (k : ∀ x H1 u s1, Inv X pins σ H1 s1 → RelV x u → QQ x H1 → Q [u] s1) : wpAny (model X.prog X.w) X.A (spliced [(false, eval e X.env)]) Q X.xe s :=
  Calls.spliced_cons (thn (h.run pins s σ H _ I q) fun u s1 ⟨x, H1, I1, r1, q1⟩ => Calls.spliced_nil (k x H1 u s1 I1 r1 q1))
theorem sup_V (T : SupX X f cda cc D fd me) (V : SupV X.K C D) (I : Inv X pins σ H s) (hσ : σ[0]? = some (some (.ref a))) (ea : H a = some (exo a C none)) (ha : PE X e te) (hs : starEach [e] X.env = [(false, eval e X.env)])
    (he : eval (.Call (.Attribute (.Call (.Name "super" p0) [] [] p1) "__init__" p2) [e] [] p3) X.env = (do
      let ov ← attributeBase (.Call (.Name "super" p0) [] [] p1) "__init__" X.env (eval (.Call (.Name "super" p0) [] [] p1) X.env)
      standAt p2.atName
      let (fu, first) ← holding [ov] (getMethod ov "__init__" pl)
      callWith p3 fu first (backTo p3 (starEach [e] X.env)) []))
    (q : te σ H fun _ H1 => H1 a = some (exo a C none) ∧ ∀ s1, Inv X pins σ H1 s1 → Q .next s1) :
    _root_.PySem.wpAt (model X.prog X.w) X.A (.func body X.env) (exec (.Expr (.Call (.Attribute (.Call (.Name "super" p0) [] [] p1) "__init__" p2) [e] [] p3) p4) X.env) Q X.xe s := by
  refine sup_way T I hσ ea V.sub he fun so h' hso I1 => ?_
  obtain ⟨cd, hcd, hal⟩ := superIn_cls V.mv
  obtain ⟨t1, ho⟩ := exo_at I1.hok ea
  have kin := I1.kIn
  obtain ⟨hh, g, dr, tk, os⟩ := s
  have kin : X.K.In h' := kin
  have ho : h'.get? a = some _ := ho
  have J : PySem.W.InstAt h' a ({ cls := .ref C, dict := none, data := .fields #[.ref t1, .none, .none, .none, .bool false, .none] } : Obj) C none := ⟨ho, rfl, rfl, trivial⟩
  have hI : PySem.W.Looks (model X.prog X.w) h' (isInstance (.ref a) (.type "ValueError")) true := J.type.andThen (PySem.W.looks_subIn kin V.sv)
  have hM : PySem.W.Looks (model X.prog X.w) h' (mroOf (.ref C)) cd.mro := (PySem.W.looks_clsIn kin hcd).andThen .now
  refine PySem.W.kxs_getMethod PySem.W.kxs_ValueError hso (PySem.W.looks_opaque kin V.op) hM rfl kin hal hI (exo_ne kin hcd ho ⟨_, rfl⟩) (by decide) ?_
  have I2 : Inv X ((h'.objs.size, PySem.W.kxs_mw "ValueError.__init__" a) :: pins) σ H ⟨h'.push (PySem.W.kxs_mw "ValueError.__init__" a), g, dr, tk + 1, os⟩ :=
    pin_new I1 (fun b u z => Heap.get?_push_of_some _ z) (Nat.le_refl _) (Heap.get?_push_size _ rfl) (fun v z => nomatch z)
  refine PySem.W.kxs_callWith (i := "ValueError.__init__") (x := a) (by rw [hs]; rfl) ?_
  rw [hs]
  refine Calls.evalArgs_plain (args_one ha I2 q fun x H1 u s1 I3 r q1 => ?_)
  obtain ⟨e1, q1⟩ := q1
  obtain ⟨t2, ho2⟩ := exo_at I3.hok e1
  obtain ⟨nm, qn, N, bs, bm, sn, sub, ab, col, dd, k0, k1, k2, k3, k5, hC, _⟩ := V.oc.cls
  have hp := pin_at I3
  refine ⟨hp, ?_⟩
  have I4 := unpin I3
  obtain ⟨hh4, g4, dr4, tk4, os4⟩ := s1
  refine mw_call (I4.kIn _ _ hC) ho2 hp (by show 1 ≤ sizeLine; decide) fun h5 t5 k5 e5 => ?_
  have J5 := I4.write (t' := tk4) (x := a) (e := a) (o := exo a C none) (by rw [e1]; exact True.intro) (.inl rfl) k5 ⟨_, e5⟩ (exo_ok e5)
  rw [upd_self e1] at J5
  exact q1 _ J5
end
end MX
set_option maxHeartbeats 2400000
/-! Xn5: super().__init__(e) where an own def stands behind it. -/
namespace MX
open PySem PySem.Spec PyProof.Rows L2 ClX
section
variable {X : Cx} {pins : List (Addr × Obj)} {σ : L2.St} {H : Hp} {s : Shared} {f cda cc D a C g : Addr} {fd fdG : FuncData} {me : Str} {body : List Stmt} {dd : Option Addr} {CX : CXT} {k : Nat} {psG : List Str} {sp : Sp}
variable {p0 p1 p2 p3 p4 : Pos} {pl : Sem Bool} {e : Expr} {te : TE} {Q : Flow → Shared → Prop}
theorem sup_O (T : SupX X f cda cc D fd me) (V : SupO X.K C D g) (G : FnOk X.prog X.w X.K X.mg X.base CX k g fdG psG sp) (hb : Binds X.K fdG psG []) (hr : Room k X.A) (hx : Passes CX X fun _ _ _ => False)
    (I : Inv X pins σ H s) (hσ : σ[0]? = some (some (.ref a))) (ea : H a = some (exo a C dd)) (ha : PE X e te) (hs : starEach [e] X.env = [(false, eval e X.env)])
    (he : eval (.Call (.Attribute (.Call (.Name "super" p0) [] [] p1) "__init__" p2) [e] [] p3) X.env = (do
      let ov ← attributeBase (.Call (.Name "super" p0) [] [] p1) "__init__" X.env (eval (.Call (.Name "super" p0) [] [] p1) X.env)
      standAt p2.atName
      let (fu, first) ← holding [ov] (getMethod ov "__init__" pl)
      callWith p3 fu first (backTo p3 (starEach [e] X.env)) []))
    (q : te σ H fun x H1 => sp [.ref a, x] H1 (fun _ H2 => ∀ s1, Inv X pins σ H2 s1 → Q .next s1) fun _ _ _ => False) :
    _root_.PySem.wpAt (model X.prog X.w) X.A (.func body X.env) (exec (.Expr (.Call (.Attribute (.Call (.Name "super" p0) [] [] p1) "__init__" p2) [e] [] p3) p4) X.env) Q X.xe s := by
  refine sup_way T I hσ ea V.sub he fun so h' hso I1 => ?_
  obtain ⟨cd, hcd, hal⟩ := superIn_cls V.mv
  obtain ⟨t1, ho⟩ := exo_at I1.hok ea
  have kin := I1.kIn
  obtain ⟨hh, g0, dr, tk, os⟩ := s
  have kin : X.K.In h' := kin
  have ho : h'.get? a = some _ := ho
  obtain ⟨of, hof, hofc⟩ : ∃ of, h'.get? g = some of ∧ of.cls = .type "function" := by
    have ht : (X.K.lookup g).map (·.cls) = some (.type "function") := V.tg
    cases z : X.K.lookup g with
    | none => rw [z] at ht; cases ht
    | some of => rw [z] at ht; exact ⟨of, kin _ _ z, Option.some.inj ht⟩
  have hM : PySem.W.Looks (model X.prog X.w) h' (mroOf (.ref C)) cd.mro := (PySem.W.looks_clsIn kin hcd).andThen .now
  refine ks_wpAny_getMethod_super hso (PySem.W.looks_opaque kin V.op) hM rfl kin hal hof hofc (exo_ne kin hcd ho ⟨_, rfl⟩) (by decide) ?_
  have I2 : Inv X ((h'.objs.size, PySem.W.methodObj (.ref g) (.ref a)) :: pins) σ H ⟨h'.push (PySem.W.methodObj (.ref g) (.ref a)), g0, dr, tk + 1, os⟩ :=
    pin_new I1 (fun b u z => Heap.get?_push_of_some _ z) (Nat.le_refl _) (Heap.get?_push_size _ rfl) (fun v z => nomatch z)
  refine PySem.W.callWith_of (P := PySem.W.MethP X.K h'.objs.size g (.ref a)) (by rw [hs]; rfl) (fun h hP => PySem.W.keeps_M V.fg h hP) ?_
  rw [hs]
  refine Calls.evalArgs_plain (args_one ha I2 q fun x H1 u s1 I3 r q1 => ?_)
  have hp := pin_at I3
  refine ⟨⟨hp, I3.kIn⟩, ?_⟩
  have I4 := unpin I3
  have hv : Vals [.ref a, x] [.ref a, u] := .cons rfl (.cons r .nil)
  have hl : ([Value.ref a, u] ++ []).length = psG.length := by rw [List.append_nil, ← hv.length]; exact G.len _ _ _ _ q1
  have hB : BindsTo s1 fdG ⟨[.ref a, u], []⟩ (psG.zip [.ref a, u]) := by
    have := hb s1 [.ref a, u] I4.kIn hl
    rwa [List.append_nil] at this
  refine wpAny_call (PySem.W.method_call hp (codeAny_mono (G.run X.A X.stack s1 H1 ⟨[.ref a, u], []⟩ _ _ _ _ hr I4.env0 hB hv q1) fun r2 s2 h2 => ?_))
  cases r2 with
  | error er => exact hx pins σ H1 s1 er s2 I4 h2
  | ok fl =>
    cases fl with
    | ret v =>
      obtain ⟨v2, H2, I5, _, q2⟩ := I4.after h2
      exact q2 _ I5
    | next => exact False.elim h2
    | brk => exact False.elim h2
    | cont => exact False.elim h2
end
end MX
set_option maxHeartbeats 2400000
/-! Xn6: the __init__ of an exception class, as a def with a promise. -/
namespace MX
open PySem PySem.Spec PyProof.Rows L2 ClX
theorem upd_swap {H : Hp} {a d : Addr} {o u v : HO} (h : d ≠ a) : upd (upd (upd H d o) a u) d v = upd (upd H d v) a u := by
  funext b
  by_cases h1 : b = d
  · subst h1
    rw [upd_same, upd_ne h, upd_same]
  · rw [upd_ne h1]
    by_cases h2 : b = a
    · subst h2
      rw [upd_same, upd_same]
    · rw [upd_ne h2, upd_ne h2, upd_ne h1, upd_ne h1]
/-- what the exception's own dict tells -/
structure XdOk (n : Nat) (v : V) (nm : Str) (fs : List (Str × V)) : Prop where
  pl : fs.lookup ("place" : Str) = some v
  nm : fs.lookup ("name" : Str) = some (.str nm)
  few : fs.length ≤ n
/-- the promise of an __init__(self, place): from an exception without a dict to one with its fields -/
def spI (n : Nat) (ok : Addr → Prop) (nm : Str) : Sp := fun vs H Q _ => ∃ a C v, vs = [.ref a, v] ∧ ok C ∧ H a = some (exo a C none) ∧
  ∀ dx fs, H dx = none → dx ≠ a → XdOk n v nm fs → Q .non (upd (upd H dx (exd dx fs)) a (exo a C (some dx)))
theorem spI_len {n : Nat} {ok : Addr → Prop} {nm : Str} : ∀ vs H Q E, spI n ok nm vs H Q E → vs.length = (["self", "place"] : List Str).length := fun vs H Q E ⟨_, _, _, e, _⟩ => by rw [e]; rfl
theorem cx_no {P : Program} {w : World} {outer : List Env} {H : Hp} {s : Shared} {e : Value} {s' : Shared} : L2.CX P w outer H s (fun _ _ _ => False) e s' → False := fun h => by
  obtain ⟨_, _, _, _, _, _, _, _, _, _, _, _, no⟩ := h
  exact no
/-- the def's text: super().__init__(place) ahead of the rest -/
abbrev bodyI (p0 p1 p2 p3 p4 p5 : Pos) (rest : List Stmt) : List Stmt := .Expr (.Call (.Attribute (.Call (.Name "super" p0) [] [] p1) "__init__" p2) [.Name "place" p3] [] p4) p5 :: rest
/-- what is known of such a def -/
structure DefI (P : Program) (K : PySem.W.Frag) (mg : Str → Option Value) (f cda cc D : Addr) (q : Str) (params : Arguments) (body : List Stmt) (sc : Scope) (fd : FuncData) : Prop where
  fn : ∃ dV kV doc pm an ct oc od osl, fd = PySem.W.ksFn "__init__" q params body sc dV kV doc pm an (.ref cda) ct cc ∧ K.lookup f = some ⟨oc, od, .func fd, osl⟩
  cd : PySem.W.codeIn K (.ref cda) q = true
  S : SupS ["self", "place"] sc
  ar : ∃ ar, (params.posonlyargs ++ params.args).head? = some ar ∧ ar.arg = ("self" : Str)
  code : ∃ cl cdd vs ccs file tf, K.lookup cda = some ⟨cl, cdd, .fields vs, ccs⟩ ∧ vs[2]? = some (.str file tf) ∧ ((P.main.file : Str) == file) = true
  cell : CellIn K cc D
  cls : ∃ cd, PySem.W.clsIn K D = some cd
  top : (P.main.scope.names.lookup ("super" : Str)).isSome = false
  mg : mg "super" = none
section
variable {P : Program} {w : World} {K : PySem.W.Frag} {mg : Str → Option Value} {base : Heap} {f cda cc D : Addr} {q : Str} {params : Arguments} {sc : Scope} {fd : FuncData} {k : Nat} {sp : Sp} {p0 p1 p2 p3 p4 p5 : Pos} {rest : List Stmt}
theorem DefI.supX (T : DefI P K mg f cda cc D q params (bodyI p0 p1 p2 p3 p4 p5 rest) sc fd) {CX : CXT} {A : Around} {outer : List Env} {s : Shared} {H : Hp} {E : XK} :
    SupX (supCx CX P w K mg base ["self", "place"] q sc f (.ref cda) cc A outer s H E) f cda cc D fd "self" where
  fu := rfl
  co := rfl
  ce := by show List.lookup _ [(("__class__" : Str), cc)] = _; simp [List.lookup]
  ks := T.S.sup
  kc := T.S.cls
  km := T.S.par _ (by simp)
  n0 := rfl
  fn := by obtain ⟨_, _, _, _, _, _, oc, od, osl, _, h⟩ := T.fn; exact ⟨oc, od, osl, h⟩
  ar := by obtain ⟨_, _, _, _, _, _, oc, od, osl, h, _⟩ := T.fn; subst h; exact T.ar
  code := T.code
  cell := T.cell
  cls := T.cls
  top := T.top
  mg := T.mg
/-- from the first statement's end on: the rest, over the hand layer -/
theorem init_ok (T : DefI P K mg f cda cc D q params (bodyI p0 p1 p2 p3 p4 p5 rest) sc fd) (len : ∀ vs H Q E, sp vs H Q E → vs.length = (["self", "place"] : List Str).length)
    (h : ∀ (A : Around) (outer : List Env) (s : Shared) (H : Hp) (vs : List V) (Q : VK) (E : XK), Room k (A.deeper (sEnv q sc s.heap.objs.size f (.ref cda) cc)) → sp vs H Q E →
      ∀ (X : Cx), X = supCx (L2.CX P w) P w K mg base ["self", "place"] q sc f (.ref cda) cc A outer s H E → SupX X f cda cc D fd "self" → ∀ s1, Inv X [] (vs.map some) H s1 →
        ∃ t : TS, PSs X rest t ∧ _root_.PySem.wpAt (model X.prog X.w) X.A (.func (bodyI p0 p1 p2 p3 p4 p5 rest) X.env) (exec (.Expr (.Call (.Attribute (.Call (.Name "super" p0) [] [] p1) "__init__" p2) [.Name "place" p3] [] p4) p5) X.env)
          (fun fl s2 => fl = .next ∧ ∃ σ2 H2, Inv X [] σ2 H2 s2 ∧ t { nx := fun _ H' => Q .non H', rt := Q } σ2 H2) X.xe s1) :
    FnOk P w K mg base (L2.CX P w) (k + 1) f fd ["self", "place"] sp := by
  refine ⟨len, fun A os s G as us ws R Z room env bnd rel spec => ?_⟩
  have two := len _ _ _ _ spec
  have kin : K.In s.heap := fun a o look => (env.bs a o (env.mod.kin a o look)).1
  obtain ⟨_, _, _, _, _, _, _, _, _, rfl, look⟩ := T.fn
  refine ks_codeAny_call_defAt room.depth (kin _ _ look) rfl (env.mod.nolimit.keeps fun _ _ e => (env.bs _ _ e).1) (PySem.W.codeRec_of kin T.cd) rfl bnd T.S.noc (fun y m => T.S.par _ (List.of_mem_zip m).1) (fun g names kept => ?_) T.S.co T.S.gen T.S.kind
  have J := sup_inv (CX := L2.CX P w) (q := q) (f := f) (cd := .ref cda) (E := Z) (t1 := s.toks + ((["self", "place"] : List Str).zip us).length) T.S room.hd env two rel T.cell names kept
  obtain ⟨t, text, first⟩ := h A os s G ws R Z (room.deeper _) spec _ rfl T.supX _ J
  refine ks_wpAt_execs_cons (ks_wpAt_mono first (fun _ s2 ⟨e, σ2, H2, J2, q2⟩ => ?_) fun _ _ => id)
  subst e
  refine wpAt_of_wpAny (wpAny_mono (text.run [] s2 σ2 H2 _ J2 q2) (fun fl s3 out => ?_) fun _ _ => id)
  match fl, out with
  | .next, ⟨_, H3, I3, q3⟩ => exact ⟨V.non, H3, I3.os, I3.bare, I3.base, I3.hok, rfl, q3⟩
  | .ret _, ⟨v, _, H3, I3, same, q3⟩ => exact ⟨v, H3, I3.os, I3.bare, I3.base, I3.hok, same, q3⟩
  | .brk, ⟨_, _, _, no⟩ => exact no.elim
  | .cont, ⟨_, _, _, no⟩ => exact no.elim
end
end MX
set_option maxHeartbeats 2400000
/-! Xn7: the two kinds of __init__: over ValueError, over an own class. -/
namespace MX
open PySem PySem.Spec PyProof.Rows L2 ClX
def noAt (K : PySem.W.Frag) (C : Addr) : Prop := PySem.W.findIn K (.ref C) "place" = some none ∧ PySem.W.findIn K (.ref C) "name" = some none
def okV (K : PySem.W.Frag) (D C : Addr) : Prop := SupV K C D ∧ noAt K C
def okO (K : PySem.W.Frag) (ok : Addr → Prop) (D g C : Addr) : Prop := SupO K C D g ∧ ok C ∧ noAt K C
abbrev setPl (q0 q1 q2 q3 : Pos) : Stmt := .Assign [.Attribute (.Name "self" q0) "place" q1] (.Name "place" q2) q3
abbrev setNm (nm : Str) (j : Nat) (q0 q1 q2 q3 : Pos) : Stmt := .Assign [.Attribute (.Name "self" q0) "name" q1] (.Constant (.str nm) j q2) q3
theorem he_line {p0 p1 p2 p3 p4 : Pos} (env : Env) (hl : (p2.endLine == p4.line) = true) : eval (.Call (.Attribute (.Call (.Name "super" p0) [] [] p1) "__init__" p2) [.Name "place" p3] [] p4) env = (do
      let ov ← attributeBase (.Call (.Name "super" p0) [] [] p1) "__init__" env (eval (.Call (.Name "super" p0) [] [] p1) env)
      standAt p2.atName
      let (fu, first) ← holding [ov] (getMethod ov "__init__" (plainOf (.Call (.Name "super" p0) [] [] p1) env))
      callWith p4 fu first (backTo p4 (starEach [.Name "place" p3] env)) []) := by
  rw [eval.eq_def]
  refine congrArg (Bind.bind _) (funext fun ov => congrArg (Bind.bind _) (funext fun _ => ?_))
  exact mcall_line (by rfl) hl
section
variable {P : Program} {w : World} {K : PySem.W.Frag} {mg : Str → Option Value} {base : Heap} {f cda cc D g : Addr} {q : Str} {params : Arguments} {sc : Scope} {fd fdG : FuncData} {k j n : Nat} {nm nm0 : Str} {p0 p1 p2 p3 p4 p5 q0 q1 q2 q3 r0 r1 r2 r3 : Pos} {ok : Addr → Prop}
theorem SupX.pe0 {X : Cx} {fd : FuncData} (T : SupX X f cda cc D fd "self") (h : X.env.kindOf "place" = some .local) (h1 : X.N[1]? = some ("place" : Str)) {p : Pos} : PE X (.Name "self" p) (tVar 0) ∧ PE X (.Name "place" p) (tVar 1) :=
  ⟨pe_var T.n0 (.inl T.km), pe_var h1 (.inl h)⟩
theorem base_ok (hl : (p2.endLine == p4.line) = true) (T : DefI P K mg f cda cc D q params (bodyI p0 p1 p2 p3 p4 p5 [setPl q0 q1 q2 q3, setNm nm j r0 r1 r2 r3]) sc fd) : FnOk P w K mg base (L2.CX P w) (k + 1) f fd ["self", "place"] (spI 2 (okV K D) nm) := by
  refine init_ok T spI_len fun A outer s H vs Q E hr hsp X hX TX s1 I => ?_
  obtain ⟨a, C, v, rfl, ⟨V, n1, n2⟩, ea, hq⟩ := hsp
  have hK : X.K = K := by rw [hX]; rfl
  have hk : X.env.kindOf "place" = some .local := by rw [hX]; exact T.S.par _ (by simp)
  have hN : X.N[1]? = some ("place" : Str) := by rw [hX]; rfl
  have V' : SupV X.K C D := by rw [hK]; exact V
  refine ⟨_, pss_cons (ps_ost (TX.pe0 hk hN).1 (TX.pe0 hk hN).2) (pss_one (ps_ost (TX.pe0 hk hN).1 pe_str)), ?_⟩
  refine sup_V TX V' I rfl ea (TX.pe0 hk hN).2 rfl (he_line X.env hl) ⟨v, rfl, ea, fun s2 I2 => ⟨rfl, _, H, I2, ?_⟩⟩
  refine ⟨v, rfl, .ref a, rfl, a, C, rfl, V'.oc, by rw [hK]; exact n1, .inl ⟨ea, fun dx hd hne => ?_⟩⟩
  refine ⟨.ref a, rfl, a, C, rfl, V'.oc, by rw [hK]; exact n2, .inr ⟨dx, _, upd_same, by rw [upd_ne hne, upd_same], by show 1 ≤ 900; decide, ?_⟩⟩
  show Q .non _
  rw [upd_swap hne]
  exact hq dx _ hd hne ⟨rfl, rfl, Nat.le_refl 2⟩
theorem more_ok (hl : (p2.endLine == p4.line) = true) (hn : n ≤ 800) (T : DefI P K mg f cda cc D q params (bodyI p0 p1 p2 p3 p4 p5 [setNm nm j r0 r1 r2 r3]) sc fd) (G : FnOk P w K mg base (L2.CX P w) k g fdG ["self", "place"] (spI n ok nm0)) (hb : Binds K fdG ["self", "place"] []) :
    FnOk P w K mg base (L2.CX P w) (k + 1) f fd ["self", "place"] (spI (n + 1) (okO K ok D g) nm) := by
  refine init_ok T spI_len fun A outer s H vs Q E hr hsp X hX TX s1 I => ?_
  obtain ⟨a, C, v, rfl, ⟨V, okC, n1, n2⟩, ea, hq⟩ := hsp
  have hK : X.K = K := by rw [hX]; rfl
  have hk : X.env.kindOf "place" = some .local := by rw [hX]; exact T.S.par _ (by simp)
  have hN : X.N[1]? = some ("place" : Str) := by rw [hX]; rfl
  have V' : SupO X.K C D g := by rw [hK]; exact V
  refine ⟨_, pss_one (ps_ost (TX.pe0 hk hN).1 pe_str), ?_⟩
  have G' : FnOk X.prog X.w X.K X.mg X.base (L2.CX P w) k g fdG ["self", "place"] (spI n ok nm0) := by rw [hX]; exact G
  have hb' : Binds X.K fdG ["self", "place"] [] := by rw [hK]; exact hb
  have hr' : Room k X.A := by rw [hX]; exact hr
  refine sup_O TX V' G' hb' hr' (fun _ _ _ _ _ _ _ h => (cx_no h).elim) I rfl ea (TX.pe0 hk hN).2 rfl (he_line X.env hl) ⟨v, rfl, a, C, v, rfl, okC, ea, fun dx fs hd hne xd s2 I2 => ⟨rfl, _, _, I2, ?_⟩⟩
  refine ⟨.ref a, rfl, a, C, rfl, V'.oc, by rw [hK]; exact n2, .inr ⟨dx, fs, upd_same, by rw [upd_ne hne, upd_same], by have := xd.few; omega, ?_⟩⟩
  show Q .non _
  rw [upd_swap hne]
  refine hq dx _ hd hne ⟨?_, rfl, by have := xd.few; show _ + 1 ≤ n + 1; omega⟩
  rw [lookup_put, if_neg (by decide)]
  exact xd.pl
end
end MX
set_option maxHeartbeats 4800000
/-! Xn8: a try with several clauses, each with a name or without. -/
namespace MX
open PySem PySem.Spec PyProof.Rows L2 ClX
abbrev SuR := Addr → Value → Option Addr → TS
def endN (D : Ends) : Option Nat → Ends
  | none => D
  | some i => { nx := fun σ' H' => D.nx (σ'.set i none) H', rt := D.rt, bk := fun σ' H' => D.bk (σ'.set i none) H', ct := fun σ' H' => D.ct (σ'.set i none) H' }
def setN (a : Addr) (σ : L2.St) : Option Nat → L2.St
  | none => σ
  | some i => σ.set i (some (.ref a))
/-- what the clauses wish of an exception of the body -/
def wOn (K : PySem.W.Frag) (Wout : WX) (D : Ends) : List (Value × Option Nat × SuR) → WX
  | [] => Wout
  | (c, i, ts) :: r => fun cls d σ H => ∃ b, PySem.W.exmOne K cls c = some b ∧ (b = true → ∀ a, H a = none → ts a cls d (endN D i) (setN a σ i) H) ∧ (b = false → wOn K Wout D r cls d σ H)
/-- a clause's name -/
def NmOk (X : Cx) : Option Str → Option Nat → Prop
  | none, none => True
  | some n, some i => X.N[i]? = some n ∧ X.env.kindOf n = some .local
  | _, _ => False
inductive HdN (X : Cx) : List ExceptHandler → List (Value × Option Nat × SuR) → Prop
  | nil : HdN X [] []
  | cons {x : Str} {c : Value} {n : Option Str} {i : Option Nat} {ts : SuR} {b₀ : Stmt} {suite : List Stmt} {np pp : Pos} {hds : List ExceptHandler} {l : List (Value × Option Nat × SuR)} (hc : Names X x c) (hn : NmOk X n i)
      (hsu : ∀ (a : Addr) (oe : Obj) (cls : Value) (d : Option Addr) (pn : List (Addr × Obj)), Zc cls d oe → (∃ vs, oe.data = .fields vs) → PSs (X.suite a ((a, oe) :: pn)) (b₀ :: suite) (ts a cls d)) (r : HdN X hds l) :
      HdN X (.ExceptHandler (some (.Name x np)) n (b₀ :: suite) pp :: hds) ((c, i, ts) :: l)
section
variable {X : Cx} {body : List Stmt} {h₀ : ExceptHandler} {hds : List ExceptHandler} {l : List (Value × Option Nat × SuR)} {pos : Pos} {tb : WX → TS} {Wout : WX}
theorem SP.endN {pins : List (Addr × Obj)} {D : Ends} {fl : Flow} {s : Shared} (h : SP X pins (endN D none) fl s) : SP X pins D fl s := h
/-- an exception in the air is looked at by the clauses -/
theorem hd_look (hs : X.stack = X.env :: X.outer) (hf : X.env.frame = some X.env.locals) (hN : X.N.Nodup) (tk : Takes X Wout) {D : Ends} {pins : List (Addr × Obj)} {a : Addr} {B : Heap} {sI s3 : Shared} {σ : L2.St} {H : Hp} {cls : Value} {d : Option Addr}
    (J : Inv X pins σ H sI) (nb : ∀ b o, sI.heap.get? b = some o → b ∉ frs X.stack → B.get? b = some o) (up : sI.heap.UpToSlots s3.heap) (fl : HandSPX.FlyingZ B (X.env :: X.outer) a (Zc cls d) s3.heap) (na : H a = none) (os : s3.os = sI.os) (ag : AllBare s3.gens) :
    ∀ {hs' : List ExceptHandler} {l' : List (Value × Option Nat × SuR)}, HdN X hs' l' → wOn X.K Wout D l' cls d σ H → wpAny (model X.prog X.w) X.A (handleBy (.ref a) X.env hs') (SP X pins D) X.xe s3 := by
  have ok := J.ok
  have J3 : Inv X pins σ H s3 := J.landed nb fl.1 up os ag
  obtain ⟨o3, v3, e3, z3, d3⟩ := fl.there
  have far : ∀ e ∈ X.env :: X.outer, e.frame ≠ some a := fun e he q => by
    obtain ⟨_, o', e', hnf⟩ := fl.2.2.1.mem (List.mem_filterMap.mpr ⟨e, he, q⟩)
    rw [e3] at e'
    cases e'
    exact hnf _ d3
  have nL : a ≠ X.env.locals := fun z => far _ List.mem_cons_self (by rw [hf, z])
  have nF : a ∉ X.fs := fun m => let ⟨e, he, q⟩ := List.mem_filterMap.mp m; far e (List.mem_cons_of_mem _ he) q
  have S3 := J3.suite e3 d3 na nL nF
  intro hs' l' hk
  induction hk with
  | nil =>
    intro w
    obtain ⟨_, _, _, oe, vs, T, oT, ts', he, _, hd, h1, _⟩ := id fl
    have fin : wpAny (model X.prog X.w) X.A (setFlight (.ref a) X.env.frame) (fun _ s4 => wpAny (model X.prog X.w) X.A (throw (.ref a) : Sem Flow) (SP X pins D) X.xe s4) X.xe s3 := by
      rw [hf]
      exact HandSPX.setFlight_upZ fl fun h4 hh4 up4 => wpAny_throw (tk _ _ ⟨a, B, sI, pins, σ, H, cls, d, rfl, J, nb, up.trans up4, .inr (.inr (by rw [hs]; exact hh4)), na, os, ag, w⟩)
    refine wpAny_handleBy_nil (show wpAny _ _ (PySem.passOn _ _ _) _ _ _ from ?_)
    unfold PySem.passOn
    apply wpAny_bind; refine wpAny_field he hd h1 ?_
    rw [if_neg (by simp)]
    first | exact wpAny_bind (wpAny_pure (wpAny_bind fin)) | exact wpAny_bind fin
  | @cons x c n i ts b₀ suite np pp hds2 l2 hc hn hsu r ih =>
    intro w
    obtain ⟨b, hb, yes, no⟩ := w
    have LT : PySem.W.Looks (model X.prog X.w) s3.heap (typeOf (.ref a)) cls := fun A Q E s k q => wpAny_typeOf_ref (k _ _ e3) (by rw [z3.1]; exact q)
    have LM := PySem.W.exm_one (M := model X.prog X.w) J3.kIn LT hb
    have tst : ∀ {Q E : Value → Shared → Prop}, Q c s3 → wpAny (model X.prog X.w) (X.A.mark (some (.ref a))) (eval (.Name x np) X.env) Q E s3 := fun {Q E} q => by
      obtain ⟨g1, g2, g3 | ⟨g3, g4, g5⟩⟩ := hc
      · exact ld_glob (X := X.suite a ((a, o3) :: (X.pn ++ pins))) S3 g1 g3 q g2
      · exact ld_blt (X := X.suite a ((a, o3) :: (X.pn ++ pins))) S3 g1 g3 g4 q g5 g2
    refine wpAny_handleBy_cons (codeAny_handlers_test (tst (LM.here ?_))) fun z => nomatch z
    cases b with
    | false => exact (show wpAny _ X.A (handleBy (.ref a) X.env hds2) _ _ _ from ih (no rfl))
    | true =>
      match n, i, hn with
      | none, none, _ =>
        refine codeAny_handlers_suite (HandSPX.lands_againZ fl fun h4 fl4 up4 => ?_)
        have J4 : Inv X pins σ H { s3 with heap := h4 } := J.landed nb fl4.1 (up.trans up4) os ag
        obtain ⟨o4, v4, e4, z4, d4⟩ := fl4.there
        refine wpAny_mono ((hsu a o4 cls d (X.pn ++ pins) z4 ⟨_, d4⟩).run [] _ _ H _ (J4.suite e4 d4 na nL nF) (yes rfl a na)) (fun f s6 hsp => ?_) fun _ _ z => z.elim
        cases f with
        | ret u => obtain ⟨v6, σ6, H6, S6, r6, q6⟩ := hsp; exact ⟨_, _, _, S6.unsuite ok, r6, q6⟩
        | next => obtain ⟨σ6, H6, S6, q6⟩ := hsp; exact ⟨_, _, S6.unsuite ok, q6⟩
        | brk => obtain ⟨σ6, H6, S6, q6⟩ := hsp; exact ⟨_, _, S6.unsuite ok, q6⟩
        | cont => obtain ⟨σ6, H6, S6, q6⟩ := hsp; exact ⟨_, _, S6.unsuite ok, q6⟩
      | some n, some i, hn =>
        obtain ⟨hi, hln⟩ := hn
        refine codeAny_handlers_suite_as (HandSPX.lands_againZ fl fun h4 fl4 up4 => ?_)
        have J4 : Inv X pins σ H { s3 with heap := h4 } := J.landed nb fl4.1 (up.trans up4) os ag
        obtain ⟨o4, v4, e4, z4, d4⟩ := fl4.there
        refine store_ok (X := X.suite a ((a, o4) :: (X.pn ++ pins))) (v := .ref a) (J4.suite e4 d4 na nL nF) hN hi (.inl hln) rfl (fun s5 S5 => ?_) (.inr hln)
        refine wpAny_mono ((hsu a o4 cls d (X.pn ++ pins) z4 ⟨_, d4⟩).run [] s5 _ H _ S5 (yes rfl a na)) (fun f s6 hsp => ?_) fun _ _ z => z.elim
        have off : ∀ {σ6 : L2.St} {H6 : Hp} {R : Shared → Prop}, Inv (X.suite a ((a, o4) :: (X.pn ++ pins))) [] σ6 H6 s6 → (∀ s7, Inv X pins (σ6.set i none) H6 s7 → R s7) → wpAny (model X.prog X.w) X.A (do bindName X.env n .none; unbindBehindTheSuite X.env n pp) (fun _ s7 => R s7) X.xe s6 :=
          fun {σ6 H6 R} S6 hq => gone_ok (S6.unsuite ok) hN hi hln hq
        cases f with
        | ret u => obtain ⟨v6, σ6, H6, S6, r6, q6⟩ := hsp; exact off S6 fun s7 J7 => ⟨_, _, _, J7, r6, q6⟩
        | next => obtain ⟨σ6, H6, S6, q6⟩ := hsp; exact off S6 fun s7 J7 => ⟨_, _, J7, q6⟩
        | brk => obtain ⟨σ6, H6, S6, q6⟩ := hsp; exact off S6 fun s7 J7 => ⟨_, _, J7, q6⟩
        | cont => obtain ⟨σ6, H6, S6, q6⟩ := hsp; exact off S6 fun s7 J7 => ⟨_, _, J7, q6⟩
theorem ps_try_named (hs : X.stack = X.env :: X.outer) (hf : X.env.frame = some X.env.locals) (hN : X.N.Nodup) (tk : Takes X Wout)
    (hb : ∀ (W : WX) (pn : List (Addr × Obj)) (xe : Value → Shared → Prop), Takes (X.tr pn xe) W → PassesOwn (model X.prog X.w) X.A X.env xe → PSs (X.tr pn xe) body (tb W)) (hh : HdN X (h₀ :: hds) l) :
    PS X (.Try body (h₀ :: hds) [] [] pos) (fun D σ H => tb (wOn X.K Wout D l) D σ H) where
  run pins s σ H D I h := by
    have ok := I.ok
    refine wpAny_Try_except (wpAny_mono ((hb (wOn X.K Wout D l) (X.pn ++ pins) _ (fun v s' q => ?_) PassesOwn.looking).run [] s σ H D (I.toTry _) h) (fun f s1 out => ?_) fun _ _ => id)
    · match q with
      | ⟨a, _, _, _, _, _, _, _, e, J, nb, up, sky, no, os, ag, w⟩ =>
        subst e
        exact Sky.land Zc.steady (hs ▸ ok.frames) hf (hs ▸ sky) fun g fl up2 => hd_look (s3 := { s' with heap := g }) hs hf hN tk (J.ofTry ok) nb (up.trans up2) fl no os ag hh w
    · match f, out with
      | .next, ⟨σ2, H2, J, q⟩ => exact wpAny_execs_nil ⟨σ2, H2, J.ofTry ok, q⟩
      | .ret _, ⟨v, σ2, H2, J, r, q⟩ => exact ⟨v, σ2, H2, J.ofTry ok, r, q⟩
      | .brk, ⟨σ2, H2, J, q⟩ | .cont, ⟨σ2, H2, J, q⟩ => exact ⟨σ2, H2, J.ofTry ok, q⟩
end
end MX
set_option maxHeartbeats 4800000
/-! Xn9: raise C(e); e.place, e.name. -/
namespace MX
open PySem PySem.Spec PyProof.Rows L2 ClX
/-- C(e): the exception's dict, new -/
def tMkX (n : Nat) (C : Addr) (nm : Str) (te : TE) : L2.St → Hp → XK → Prop := fun σ H Q => te σ H fun v H1 => ∀ d fs, H1 d = none → XdOk n v nm fs → Q (.ref C) (some d) (upd H1 d (.xd fs))
/-- what is known of an exception class -/
structure XcOk (P : Program) (w : World) (K : PySem.W.Frag) (mg : Str → Option Value) (base : Heap) (k n : Nat) (C : Addr) (nm : Str) : Prop where
  oc : OexC K C
  xf : XfC K C
  na : noAt K C
  fn : ∃ fI fd ok, PySem.W.findIn K (.ref C) "__init__" = some (some (.ref fI)) ∧ PySem.W.typeIn K (.ref fI) = some (.type "function") ∧ ok C ∧ FnOk P w K mg base (L2.CX P w) k fI fd ["self", "place"] (spI n ok nm) ∧ Binds K fd ["self", "place"] []
section
variable {X : Cx} {C : Addr} {nm x : Str} {k n : Nat} {e : Expr} {te : TE} {p pos : Pos}
theorem gone_xd {H1 : Hp} {a d : Addr} {o1 o2 o3 u : HO} (na : H1 a = none) : upd (del (upd (upd (upd H1 a o1) d o2) a o3) a) d u = upd H1 d u := by
  funext b
  by_cases h : b = d
  · rw [h, upd_same, upd_same]
  · rw [upd_ne h, upd_ne h]
    by_cases h2 : b = a
    · rw [h2, del_same, na]
    · rw [del_ne h2, upd_ne h2, upd_ne h, upd_ne h2]
theorem pmk_xn (T : XcOk X.prog X.w X.K X.mg X.base k n C nm) (hr : Room (k + 1) X.A) (hg : Gl X x) (hm : X.mg x = some (.ref C)) (ha : PE X e te) (hdb : (x == ("__debug__" : Str)) = false) (hs : starEach [e] X.env = [(false, eval e X.env)]) :
    ∃ ok, ok C ∧ PMk X (.Call (.Name x p) [e] [] pos) (tMkO C (spI n ok nm) [] (tCons te tNil)) := by
  obtain ⟨fI, fd, ok, h1, h2, h3, h4, h5⟩ := T.fn
  have hA : PA X [e] (tCons te tNil) := pa_cons ha pa_nil hs
  exact ⟨ok, h3, fun pins s σ H Q I h => pmk_oex (X := X) (dvs := []) (ds := []) T.oc h1 h2 h4 hr h5 .nil (fun _ _ _ _ _ _ _ z => (cx_no z).elim) hg hm hA hdb hs rfl pins s σ H Q I h⟩
theorem mk_read {ok : Addr → Prop} {C : Addr} {n : Nat} {nm : Str} {v : V} {H1 : Hp} {Q : XK} (hC : ok C) (h : ∀ d fs, H1 d = none → XdOk n v nm fs → Q (.ref C) (some d) (upd H1 d (.xd fs))) :
    ([v] : List V).length ≤ 1000 ∧ ∀ a, H1 a = none → spI n ok nm (.ref a :: ([v] ++ [])) (upd H1 a (exo a C none))
      (fun v H2 => v = .non ∧ ∃ (d : Addr) (fs : List (Str × V)), H2 a = some (exo a C (some d)) ∧ H2 d = some (exd d fs) ∧ H1 d = none ∧ Q (.ref C) (some d) (upd (del H2 a) d (.xd fs))) (fun _ _ _ => False) := by
  refine ⟨by show 1 ≤ 1000; decide, fun a na => ⟨a, C, v, rfl, hC, upd_same, fun dx fs hd hne xd => ?_⟩⟩
  rw [upd_ne hne] at hd
  refine ⟨rfl, dx, fs, upd_same, by rw [upd_ne hne, upd_same], hd, ?_⟩
  rw [gone_xd na]
  exact h dx fs hd xd
end
end MX
set_option maxHeartbeats 4800000
/-! Xh: what the head tells of exception classes. -/
namespace MX
open PySem PySem.Spec PyProof.Rows L2 ClX
/-! ### a hook with one more Bool, over the module's reach and the statics -/
def frE (g : Addr → Option Obj) (n : Nat) : PySem.W.Frag := He.frG g (cStatics :: He.asD g n)
abbrev AlE : Type := He.AlD × Bool
def obsE (n : Nat) (fa : List He.Fa) (fn : List He.DefD) (ex : PySem.W.Frag → Bool) (g : Addr → Option Obj) : AlE := (He.obsD fa fn (frE g n), ex (frE g n))
def hookE (n : Nat) (fa : List He.Fa) (fn : List He.DefD) (ex : PySem.W.Frag → Bool) : PySem.W.Hook where
  α := AlE
  obs := fun s => obsE n fa fn ex s.heap.get?
  val := fun _ => (He.valD fn, true)
  says := fun _ h => ∃ K : PySem.W.Frag, K.In h ∧ He.SaysD fa fn K ∧ ex K = true
  of := fun _ _ e => ⟨_, He.frG_in, congrArg (fun z : AlE => z.1) e, congrArg (fun z : AlE => z.2) e⟩
  keeps := fun _ _ _ e k => e.imp fun _ z => ⟨PySem.W.Frag.In.keeps z.1 k, z.2⟩
theorem obsE_eq {n : Nat} {fa : List He.Fa} {fn : List He.DefD} {ex : PySem.W.Frag → Bool} {g : Addr → Option Obj} {s : Shared} (h : ∀ a, g a = s.heap.get? a) : obsE n fa fn ex g = (hookE n fa fn ex).obs s := by
  rw [show g = s.heap.get? from funext h] <;> rfl
/-! ### deciders -/
def oexB (K : PySem.W.Frag) (C : Addr) : Bool := (match K.lookup C with
  | some ⟨.type t, _, .cls cd, sl⟩ => (match cd.mro, sl.toList with
    | .ref C' :: bm, [_, _, _, _, some (.builtin n), _] => decide (t = "type") && (decide (C' = C) && (decide (n = "ValueError.__new__") && (!cd.hasDel && (cd.hasDict && PySem.HandSPX.refsVE bm))))
    | _, _ => false)
  | _ => false) && (decide (PySem.W.findIn K (.ref C) "__setattr__" = some (some (.builtin "object.__setattr__"))) && (decide (PySem.W.subIn K (.ref C) (.type "BaseException") = some true) && (decide (PySem.W.typeIn K (.ref C) = some (.type "type")) && PySem.W.keepIn K (.ref C))))
theorem oexB_ok {K : PySem.W.Frag} {C : Addr} (h : oexB K C = true) : OexC K C := by
  unfold oexB at h
  simp only [decide_eq_true_eq, Bool.and_eq_true] at h
  obtain ⟨h1, h2, h3, h4, h5⟩ := h
  refine ⟨?_, h2, h3, h4, h5⟩
  split at h1
  · rename_i t dd cd sl ho
    split at h1
    · next C2 rest a0 a1 a2 a3 maker a5 em es =>
      rcases cd with ⟨c1, c2, c3, c4, c5, c6, c7, c8, c9, c10, c11⟩
      rcases sl with ⟨vals⟩
      have z : t = "type" ∧ C2 = C ∧ maker = "ValueError.__new__" ∧ c11 = false ∧ c6 = true ∧ PySem.HandSPX.refsVE rest = true := by simpa only [decide_eq_true_eq, Bool.not_eq_true', Bool.and_eq_true] using h1
      obtain ⟨rfl, rfl, rfl, rfl, rfl, v⟩ := z
      cases (show c3 = _ from em)
      cases (show vals = _ from es)
      exact ⟨c1, c5, c4, c2, rest, c7, c8, c9, c10, dd, a0, a1, a2, a3, a5, ho, v⟩
    · cases h1
  · cases h1
def noAtB (K : PySem.W.Frag) (C : Addr) : Bool := decide (PySem.W.findIn K (.ref C) "place" = some none) && decide (PySem.W.findIn K (.ref C) "name" = some none)
theorem noAtB_ok {K : PySem.W.Frag} {C : Addr} (h : noAtB K C = true) : noAt K C := by
  unfold noAtB at h
  simp only [decide_eq_true_eq, Bool.and_eq_true] at h
  exact h
def supVB (K : PySem.W.Frag) (C D : Addr) : Bool := oexB K C && (decide (PySem.W.mroIn K C (.ref D) = some true) && (decide (PySem.W.nsIn K cStatics "thirdparty.any" = some none) && (decide (PySem.W.ks_superIn K C D "__init__" = some (some (.builtin "ValueError.__init__"))) && decide (PySem.W.subIn K (.ref C) (.type "ValueError") = some true))))
theorem supVB_ok {K : PySem.W.Frag} {C D : Addr} (h : supVB K C D = true) : SupV K C D := by
  unfold supVB at h
  simp only [decide_eq_true_eq, Bool.and_eq_true] at h
  obtain ⟨h1, h2, h3, h4, h5⟩ := h
  exact ⟨oexB_ok h1, h2, h3, h4, h5⟩
def supOB (K : PySem.W.Frag) (C D g : Addr) : Bool := oexB K C && (decide (PySem.W.mroIn K C (.ref D) = some true) && (decide (PySem.W.nsIn K cStatics "thirdparty.any" = some none) && (decide (PySem.W.ks_superIn K C D "__init__" = some (some (.ref g))) &&
  (decide (PySem.W.typeIn K (.ref g) = some (.type "function")) && PySem.W.fnIn K g))))
theorem supOB_ok {K : PySem.W.Frag} {C D g : Addr} (h : supOB K C D g = true) : SupO K C D g := by
  unfold supOB at h
  simp only [decide_eq_true_eq, Bool.and_eq_true] at h
  obtain ⟨h1, h2, h3, h4, h5, h6⟩ := h
  exact ⟨oexB_ok h1, h2, h3, h4, h5, h6⟩
/-- the text of an __init__: super().__init__(place) and so on -/
def headB : Stmt → Bool
  | .Expr (.Call (.Attribute (.Call (.Name s _) [] [] _) i p2) [.Name v _] [] p4) _ => decide (s = "super") && (decide (i = "__init__") && (decide (v = "place") && (p2.endLine == p4.line)))
  | _ => false
theorem headB_ok {st : Stmt} (h : headB st = true) : ∃ p0 p1 p2 p3 p4 p5, st = .Expr (.Call (.Attribute (.Call (.Name "super" p0) [] [] p1) "__init__" p2) [.Name "place" p3] [] p4) p5 ∧ (p2.endLine == p4.line) = true := by
  unfold headB at h
  split at h
  · simp only [decide_eq_true_eq, Bool.and_eq_true] at h
    obtain ⟨rfl, rfl, rfl, h⟩ := h
    exact ⟨_, _, _, _, _, _, rfl, h⟩
  · cases h
def plB : Stmt → Bool
  | .Assign [.Attribute (.Name s _) f _] (.Name v _) _ => decide (s = "self") && (decide (f = "place") && decide (v = "place"))
  | _ => false
theorem plB_ok {st : Stmt} (h : plB st = true) : ∃ q0 q1 q2 q3, st = setPl q0 q1 q2 q3 := by
  unfold plB at h
  split at h
  · simp only [decide_eq_true_eq, Bool.and_eq_true] at h
    obtain ⟨rfl, rfl, rfl⟩ := h
    exact ⟨_, _, _, _, rfl⟩
  · cases h
def nmB (nm : Str) : Stmt → Bool
  | .Assign [.Attribute (.Name s _) f _] (.Constant (.str z) _ _) _ => decide (s = "self") && (decide (f = "name") && decide (z = nm))
  | _ => false
theorem nmB_ok {nm : Str} {st : Stmt} (h : nmB nm st = true) : ∃ j q0 q1 q2 q3, st = setNm nm j q0 q1 q2 q3 := by
  unfold nmB at h
  split at h
  · simp only [decide_eq_true_eq, Bool.and_eq_true] at h
    obtain ⟨rfl, rfl, rfl⟩ := h
    exact ⟨_, _, _, _, _, rfl⟩
  · cases h
def bodyB (nm : Str) (bs : Bool) : List Stmt → Bool
  | [a, b, c] => bs && (headB a && (plB b && nmB nm c))
  | [a, c] => !bs && (headB a && nmB nm c)
  | _ => false
def fileB (K : PySem.W.Frag) (file : Str) (c : Addr) : Bool := match K.lookup c with
  | some ⟨_, _, .fields vs, _⟩ => (match (vs[2]? : Option Value) with
    | some (.str f _) => file == f
    | _ => false)
  | _ => false
def cellB (K : PySem.W.Frag) (cc D : Addr) : Bool := match K.lookup cc with
  | some ⟨_, _, .cell (some (.ref D')), _⟩ => decide (D' = D)
  | _ => false
def defIB (K : PySem.W.Frag) (file : Str) (f D : Addr) (nm : Str) (bs : Bool) : Bool := match K.lookup f with
  | some ⟨_, _, .func ⟨name, q, ⟨[], [⟨s, _, _⟩, ⟨p, _, _⟩], none, [], [], none, []⟩, .stmts body, sc, gl, [(cn, cc)], .none, _, _, _, _, .ref cda, _, bn⟩, _⟩ =>
    decide (name = "__init__") && (decide (s = "self") && (decide (p = "place") && (decide (gl = mainGlobals) && (decide (cn = "__class__") && (decide (bn = builtinsNs) && (PySem.W.codeIn K (.ref cda) q && (supSB ["self", "place"] sc &&
      (fileB K file cda && (cellB K cc D && ((PySem.W.clsIn K D).isSome && bodyB nm bs body))))))))))
  | _ => false
section
variable {P : Program} {w : World} {K : PySem.W.Frag} {mg : Str → Option Value} {base : Heap} {f D : Addr} {nm : Str}
theorem defIB_ok {bs : Bool} (h : defIB K P.main.file f D nm bs = true) (top : (P.main.scope.names.lookup ("super" : Str)).isSome = false) (hmg : mg "super" = none) :
    ∃ cda cc q params body sc fd, DefI P K mg f cda cc D q params body sc fd ∧ bodyB nm bs body = true ∧ Binds K fd ["self", "place"] [] := by
  unfold defIB at h
  split at h
  · rename_i oc od name q s sa sp p pa pp body sc gl cn cc kV doc pm an cda ct bn osl ho
    simp only [decide_eq_true_eq, Bool.and_eq_true] at h
    obtain ⟨rfl, rfl, rfl, rfl, rfl, rfl, h1, h2, h3, h4, h5, h6⟩ := h
    refine ⟨cda, cc, q, _, body, sc, _, ⟨⟨_, _, _, _, _, _, _, _, _, rfl, ho⟩, h1, supS_by h2, ⟨_, rfl, rfl⟩, ?_, ?_, Option.isSome_iff_exists.mp h5, top, hmg⟩, h6, .all fun us hl => ?_⟩
    · unfold fileB at h3
      split at h3
      · rename_i cl cdd vs ccs hc
        split at h3
        · rename_i fl tf hv
          exact ⟨cl, cdd, vs, ccs, fl, tf, hc, hv, h3⟩
        · cases h3
      · cases h3
    · unfold cellB at h4
      split at h4
      · rename_i cl cld D' csl hc
        cases of_decide_eq_true h4
        exact ⟨cl, cld, csl, hc⟩
      · cases h4
    · match us, hl with
      | [_, _], _ => rfl
  · cases h
end
end MX
set_option maxHeartbeats 8000000
/-! Xi: isinstance of a caught error that has fields. -/
namespace MX
open PySem PySem.Spec PyProof.Rows L2 ClX PySem.W
section
variable {prog : Program} {w : World} {A : Around} {E : Value → Shared → Prop} {s : Shared} {K : Frag} {x D : Addr} {ox : Obj} {od : Option Obj}
theorem find_any {C : Addr} {name : Str} {a g : Value} (hc : (clsIn K C).isSome = true) (ha : findIn K (.ref C) name = some (some a)) (hg : specialIn K a "__get__" = some (some g)) (ht : takesIn K a = some true) : findObj K C od name = some (.bind g a) := by
  cases q : clsIn K C with
  | none => rw [q] at hc; cases hc
  | some cd => simp [findObj, q, ha, hg, ht]
/-- what type.__call__ of the attribute's own look gives: the class -/
theorem asked_class {R : Value → Shared → Prop} {t : Tok} (T : ExcC K D) (X : K.In s.heap) (I : InstAt s.heap x ox D od) (h : R (.ref D) s) : wpAny (model prog w) A (call (.builtin "BaseException.__getattribute__") [.ref x, .str "__class__" t]) R E s := by
  obtain ⟨cd, hcd, _⟩ := any_some T.hd
  have look := looks_find (M := model prog w) X I (find_any (od := od) (by rw [hcd]; rfl) T.ha T.hn T.ht)
  have ty := I.type (M := model prog w)
  have sub : Looks (model prog w) s.heap (isInstance (.ref x) (.type "BaseException")) true := ty.andThen (looks_subIn X T.hs)
  have got : wpAny (model prog w) A.in1 (call (.builtin "getset_descriptor.__get__") [.builtin "object.__class__", .ref x, .ref D]) (fun v s' => ∃ u, Fin.done (.ret v) = .done (.ret u) ∧ R u s') E s := wpAny_call (class_get (ox := ox) (od := od) X I T.hm ⟨_, rfl, h⟩)
  have body : wpAny (model prog w) A.in1 (Builtin.«object.__getattribute__» ⟨[.ref x, .str "__class__" t], []⟩) (fun fin s' => ∃ u, fin = .done (.ret u) ∧ R u s') E s := by
    delta Builtin.«object.__getattribute__»
    refine wpAny_bind (wpAny_of_eq (a := (Value.ref x, [Value.str "__class__" t])) (by first | rfl | (simp only [slotArgs]; rfl)) ?_)
    refine wpAny_bind (wpAny_pure (wpAny_bind (ty.at (wpAny_bind (look.at ?_)))))
    exact wpAny_bind (m := holding _ _) (wpAny_holding (wpAny_mono got (fun v s' q => wpAny_pure q) fun _ _ q => q))
  exact wpAny_call (codeAny_call_builtin PySem.F.excAttr_ValueError.ga.plain PySem.F.entry_bexc_ga (@check_slot (model prog w) _ _ s "BaseException.__getattribute__" "BaseException" "__getattribute__" (.ref x) [.str "__class__" t] [] _ (by decide +kernel) (by decide +kernel) sub (PySem.F.args_bexc_ga (.ref x) (.str "__class__" t)) (wpAny_mono body (fun fin s' ⟨u, e, q⟩ => e ▸ q) fun _ _ q => q)))
theorem xi_class {Q : Option Value → Shared → Prop} (T : ExcC K D) (X : K.In s.heap) (I : InstAt s.heap x ox D od) (h : Q (some (.ref D)) { s with toks := s.toks + 1 }) : wpAny (model prog w) A (getAttr? (.ref x) "__class__") Q E s := by
  have c0 := I.type (M := model prog w)
  have c1 := looks_findIn (M := model prog w) X T.hg
  have c2 := looks_findIn (M := model prog w) X T.hk
  have ne : (Value.builtin "BaseException.__getattribute__" == Value.builtin "object.__getattribute__") = false := by decide +kernel
  have heap : onTheHeap (Value.ref D) = true := rfl
  simp only [getAttr?, getAttrBy?, getAttrBy]
  refine wpAny_bind (wpAny_mkText (wpAny_bind (wpAny_attempt (wpAny_holding (wpAny_bind (c0.at (wpAny_bind (c1.at ?_))))))))
  simp only [heap, ne, Bool.and_false, if_neg Bool.false_ne_true, getAttrByItsOwn, hookBefore, if_true]
  refine wpAny_bind (c2.at (wpAny_bind (wpAny_attempt (wpAny_holding ?_))))
  simp only [callGetattribute, boundAndCalled, Bool.false_and, if_neg Bool.false_ne_true]
  rw [PySem.F.excAttr_ValueError.ga.bind]
  refine wpAny_bind (wpAny_pure (asked_class T X I ?_))
  rw [handedOut_of (v := Value.ref D) rfl]
  exact (wpAny_pure (wpAny_pure h))
theorem xi_kit (T : ExcC K D) : KitX K (.ref x) (.ref D) (fun h => InstAt h x ox D od) := by
  obtain ⟨cdD, hcD, _⟩ := any_some T.hd
  have hD : ∃ oD, K.lookup D = some oD ∧ oD.data = .cls cdD := by
    unfold clsIn at hcD
    split at hcD
    · rename_i c' d' cd' sl' ho
      cases hcD
      exact ⟨_, ho, rfl⟩
    · cases hcD
  obtain ⟨oD, hD1, hD2⟩ := hD
  refine ⟨fun _ _ _ I => I.type, fun M h X I A' Q' E' s' k q => ?_, fun h tp dd its n sl X htp => ?_, fun X I k => xi_class T X I k⟩
  · obtain ⟨hh, g, d, t, os⟩ := s'
    exact ks_wpAny_isType_cls (k _ _ (X _ _ hD1)) hD2 q
  · refine Bool.eq_false_iff.mpr fun q => ?_
    have e : D = tp := Value.ref.inj (eq_of_beq q)
    subst e
    have z := (X _ _ hD1).symm.trans htp
    cases z
    cases hD2
end
end MX
set_option maxHeartbeats 1200000
/-! EvX: raise and try. -/
namespace MP
open PySem PySem.Spec L2 MX
/-- how an exception lies: its class among xa, its dict with name and place -/
def XRx (K : PySem.W.Frag) (xa : List (Str × Addr)) : XRel := fun c p cls d L H => ∃ nm C dd fs v, xa[c]? = some (nm, C) ∧ cls = .ref C ∧ d = some dd ∧ H dd = some (.xd fs) ∧ XdOk 3 v nm fs ∧ ¬ L dd ∧ Den K L H v p
theorem xaX {K : PySem.W.Frag} {xa : List (Str × Addr)} : XAnti (XRx K xa) := fun c p cls d L L' H h => fun ⟨nm, C, dd, fs, v, h1, h2, h3, h4, h5, h6, h7⟩ => ⟨nm, C, dd, fs, v, h1, h2, h3, h4, h5, fun l => h6 (h _ l), Den.less h h7⟩
section
variable {X : Cx} {P : Par} {C : CE} {xa : List (Str × Addr)}
theorem ps_weakN {st : Stmt} {t t' : TS} (h : PS X st t) (k : ∀ D σ H, σ.length = X.N.length → t' D σ H → t D σ H) : PS X st t' := ⟨fun pz s σ H D I q => h.run pz s σ H D I (k D σ H I.len q)⟩
/-- the reading of raise C(e) -/
theorem ds_rse {c : Nat} {e : E} {nm : Str} {A : Addr} {n : Nat} {ok : Addr → Prop} (hX : P.XR = XRx X.K xa) (hx : xa[c]? = some (nm, A)) (hn : n ≤ 3) (hok : ok A) {D : Ends} {σ : L2.St} {H : Hp} (h : tS X.K P C (.rse c e) D σ H) :
    tMkO A (spI n ok nm) [] (tCons (tE X.K P C e) tNil) σ H fun cls d H' => P.W cls d σ H' := by
  obtain ⟨F, φ, st, δ, s, d, h⟩ := h
  simp only [evS] at h
  refine ⟨F, φ, st, δ, s, d, (Post.bind h).imp fun v φ1 st1 H1 t1 h1 u ru => ?_⟩
  cases v with
  | fl _ => exact h1.elim
  | fd _ => exact h1.elim
  | w w =>
    cases w with
    | fz _ => exact h1.elim
    | ref _ => exact h1.elim
    | d p =>
      refine mk_read (H1 := H1) (v := u) (n := n) (nm := nm) (Q := fun cls d H' => P.W cls d σ H') hok fun dd fs hd xd => ?_
      have q := h1 φ1 _ (Step.laid (o := .xd fs) t1.sc hd)
      refine q _ _ ?_
      rw [hX]
      exact ⟨nm, A, dd, fs, u, hx, rfl, rfl, upd_same, ⟨xd.pl, xd.nm, Nat.le_trans xd.few hn⟩, t1.sc.no hd, Den.laid t1.sc hd ru⟩
end
/-! ### except suites -/
/-- the exception that a suite holds: its address, its class, its dict, its slot; the slots' number -/
structure Gx where
  a : Addr
  C : Addr
  d : Addr
  i : Option Nat
  n : Nat
  v : V
  nm : Str
  fs : List (Str × V)
def Gx.gh (g : Gx) : L2.St := [some g.v, some (.str g.nm)]
structure Gx.Ok (g : Gx) (σ : L2.St) (L : AP) (H : Hp) : Prop where
  len : σ.length = g.n
  at_ : ∀ i, g.i = some i → σ[i]? = some (some (.ref g.a))
  xd : H g.d = some (.xd g.fs)
  no : ¬ L g.d
def exF : EX := fun _ _ _ _ => False
def tEX (K : PySem.W.Frag) (C : CE) (g : Gx) (e : E) : TE := fun σ H Q => ∃ F φ st δ, SC K F φ st H ∧ Sl K F φ st H δ (σ ++ g.gh) ∧ g.Ok σ (Or2 F (Live φ st)) H ∧
  Post K F exF φ st H (evE C e δ st) fun v φ' st' H' => ∀ u, RU K F H φ' st' H' u v → Q u H'
def tEsX (K : PySem.W.Frag) (C : CE) (g : Gx) (es : List E) : TA := fun σ H Q => ∃ F φ st δ, SC K F φ st H ∧ Sl K F φ st H δ (σ ++ g.gh) ∧ g.Ok σ (Or2 F (Live φ st)) H ∧
  Post K F exF φ st H (evEs C es δ st) fun vs φ' st' H' => ∀ us, RVs K F φ' st' H' us vs → Q us H'
theorem Gx.Ok.step {g : Gx} {σ : L2.St} {K : PySem.W.Frag} {F : AP} {φ φ1 : List Addr} {st st1 : Sto} {H H1 : Hp} (o : g.Ok σ (Or2 F (Live φ st)) H) (t : Step K F φ st H φ1 st1 H1) : g.Ok σ (Or2 F (Live φ1 st1)) H1 :=
  ⟨o.len, o.at_, (t.way.keep _ _ o.xd o.no).1, (t.way.keep _ _ o.xd o.no).2⟩
section
variable {X : Cx} {C : CE} {g : Gx}
theorem xx_var {i : Nat} {x : Expr} (h : PE X x (tVar i)) (hi : i < g.n) : PE X x (tEX X.K C g (.var i)) := pe_weak h fun σ H Q ⟨F, φ, st, δ, s, d, o, h⟩ => by
  simp only [evE] at h
  split at h
  · rename_i w hw
    obtain ⟨v, e, r⟩ := d.slot _ _ hw
    rw [List.getElem?_append_left (by rw [o.len]; exact hi)] at e
    exact ⟨v, e, h φ H (Step.refl s) v r⟩
  · exact h.elim
theorem xx_cst {x : Expr} {v : V} {a : D} (h : PE X x (tC v)) (r : ∀ L H, Den X.K L H v a) : PE X x (tEX X.K C g (.cst a)) := pe_weak h fun σ H Q ⟨F, φ, st, δ, s, d, o, h⟩ => by
  simp only [evE] at h
  exact h φ H (Step.refl s) v (r _ _)
/-- e.place, e.name -/
theorem xx_at {cls : Value} {dd : Option Addr} {i : Nat} {f : Str} {e : Expr} {v : V} {j : Nat} {pos : Pos} (h : PE X (.Attribute e f pos) (tXf g.a cls dd g.C f (tVar i))) (hc : cls = .ref g.C) (hd : dd = some g.d) (hi : g.i = some i) (hf : g.fs.lookup f = some v)
    (hj : g.gh[j]? = some (some v)) : PE X (.Attribute e f pos) (tEX X.K C g (.var (g.n + j))) := pe_weak h fun σ H Q ⟨F, φ, st, δ, s, d, o, h⟩ => by
  simp only [evE] at h
  split at h
  · rename_i w hw
    obtain ⟨v', e', r⟩ := d.slot _ _ hw
    rw [List.getElem?_append_right (by rw [o.len]; omega), o.len, Nat.add_sub_cancel_left, hj] at e'
    cases e'
    exact ⟨_, o.at_ i hi, rfl, hc, g.d, g.fs, v, hd, o.xd, hf, h φ H (Step.refl s) v r⟩
  · exact h.elim
theorem xxs_nil : PA X [] (tEsX X.K C g []) := pa_weak pa_nil fun σ H Q ⟨F, φ, st, δ, s, d, o, h⟩ => by
  simp only [evEs] at h
  exact h φ H (Step.refl s) [] .nil
theorem xxs_cons {a : Expr} {as : List Expr} {e : E} {es : List E} (ha : PE X a (tEX X.K C g e)) (hr : PA X as (tEsX X.K C g es)) (hs : starEach (a :: as) X.env = (false, eval a X.env) :: starEach as X.env) : PA X (a :: as) (tEsX X.K C g (e :: es)) :=
  pa_weak (pa_cons ha hr hs) fun σ H Q ⟨F, φ, st, δ, s, d, o, h⟩ => by
    simp only [evEs] at h
    refine ⟨F, φ, st, δ, s, d, o, (Post.bind h).imp fun v φ1 st1 H1 t1 h1 u ru => ⟨F, φ1, st1, δ, t1.sc, d.step s t1, o.step t1, (Post.bind h1).imp fun vs φ2 st2 H2 t2 h2 us rus => ?_⟩⟩
    exact h2 φ2 H2 (Step.refl t2.sc) (u :: us) (.cons (Step.rv t1.sc t2 (ru.rv t1.sc fun a f => s.fo a f)) rus)
theorem xx_tup {as : List Expr} {es : List E} {k : Nat} {pos : Pos} (ha : PA X as (tEsX X.K C g es)) : PE X (.Tuple as k pos) (tEX X.K C g (.tup es)) :=
  pe_weak (pe_tupN ha) fun σ H Q ⟨F, φ, st, δ, s, d, o, h⟩ => by
    simp only [evE] at h
    refine ⟨F, φ, st, δ, s, d, o, (Post.bind h).imp fun vs φ1 st1 H1 t1 h1 us ru => ?_⟩
    obtain ⟨r, e, q⟩ := h1.lift
    unfold dsOf at e
    cases q1 : wsOf vs with
    | none => rw [q1] at e; cases e
    | some ws =>
      rw [q1] at e
      dsimp only [Option.bind_some] at e
      cases q2 : datas ws with
      | none => rw [q2] at e; cases e
      | some ds =>
        rw [q2] at e
        dsimp only [Option.bind_some] at e
        split at e
        · rename_i hz
          cases e
          have d1 := datas_rw (wsOf_den t1.sc ru q1) q2
          exact ⟨by rw [line_is, d1.length]; exact hz, fun p o hp ho => q φ1 _ (Step.laid t1.sc hp) _ (Den.tupNew t1.sc hp ho d1)⟩
        · cases e
theorem xx_ix {a b : Expr} {e f : E} {pos : Pos} (hu : X.A.units + 1 < cLine) (ha : PE X a (tEX X.K C g e)) (hb : PE X b (tEX X.K C g f)) (hs : PlainIx b) : PE X (.Subscript a b pos) (tEX X.K C g (.ix e f)) :=
  pe_weak (pe_ix (ixr_any hu) ha hb hs) fun σ H Q ⟨F, φ, st, δ, s, d, o, h⟩ => by
    simp only [evE] at h
    refine ⟨F, φ, st, δ, s, d, o, (Post.bind h).imp fun v φ1 st1 H1 t1 h1 u ru => ⟨F, φ1, st1, δ, t1.sc, d.step s t1, o.step t1, (Post.bind h1).imp fun w φ2 st2 H2 t2 h2 u2 ru2 => ?_⟩⟩
    obtain ⟨r, e, q⟩ := h2.lift
    exact ⟨F, φ2, st2, v, w, r, t2.sc, Step.rv t1.sc t2 (ru.rv t1.sc fun a f => s.fo a f), ru2.rv t2.sc (fun a f => t1.sc.fo a f), e, fun φ' H' u t3 r3 => q φ' H' t3 u (RU.weak (fun a n => t2.al a (t1.al a n)) r3)⟩
/-- a method of a built-in type, called in a suite -/
theorem dsx_mth {m : Mth} {o : E} {es : List E} {T : String} {σ : L2.St} {H : Hp} {Q : VK} (hT : tyOk X.K T m) (h : tEX X.K C g (.mth m o es) σ H Q) :
    tEX X.K C g o σ H fun x H1 => tyV X.K T x H1 ∧ tEsX X.K C g es σ H1 fun xs H2 => rMth X.K m x xs H2 Q := by
  obtain ⟨F, φ, st, δ, s, d, ok, h⟩ := h
  simp only [evE] at h
  refine ⟨F, φ, st, δ, s, d, ok, (Post.bind h).imp fun v φ1 st1 H1 t1 h1 u ru => ?_⟩
  have rv := ru.rv t1.sc fun a f => s.fo a f
  cases q : recvOk m st1 v with
  | false => rw [q] at h1; exact h1.elim
  | true =>
    rw [q] at h1
    refine ⟨hT t1.sc rv q, F, φ1, st1, δ, t1.sc, d.step s t1, ok.step t1, (Post.bind h1).imp fun vs φ2 st2 H2 t2 h2 us rus => ?_⟩
    cases qm : mthV m st2 v vs with
    | none => rw [qm] at h2; exact h2.elim
    | some r =>
      rw [qm] at h2
      exact ⟨F, φ2, st2, v, vs, r.1, r.2, t2.sc, Step.rv t1.sc t2 rv, rus, qm, fun φ' H' u t3 r3 => h2 φ' H' t3 u (RU.weak (fun a n => t2.al a (t1.al a n)) r3)⟩
end
def endX (K : PySem.W.Frag) (F : AP) (H0 : Hp) (g : Gx) (D : Ends) : Fl → List Addr → Sto → Hp → Prop
  | .nx δ, φ, st, H => ∀ σ, Sl K F φ st H δ (σ ++ g.gh) → σ.length = g.n → D.nx σ H
  | .bk δ, φ, st, H => ∀ σ, Sl K F φ st H δ (σ ++ g.gh) → σ.length = g.n → D.bk σ H
  | .ct δ, φ, st, H => ∀ σ, Sl K F φ st H δ (σ ++ g.gh) → σ.length = g.n → D.ct σ H
  | .rt v, φ, st, H => ∀ u, RU K F H0 φ st H u v → D.rt u H
def tSX (K : PySem.W.Frag) (C : CE) (g : Gx) (s : S) : TS := fun D σ H => ∃ F φ st δ, SC K F φ st H ∧ Sl K F φ st H δ (σ ++ g.gh) ∧ g.Ok σ (Or2 F (Live φ st)) H ∧
  Post K F exF φ st H (evS C s δ st) (endX K F H g D)
def tSsX (K : PySem.W.Frag) (C : CE) (g : Gx) (s : List S) : TS := fun D σ H => ∃ F φ st δ, SC K F φ st H ∧ Sl K F φ st H δ (σ ++ g.gh) ∧ g.Ok σ (Or2 F (Live φ st)) H ∧
  Post K F exF φ st H (evSs C s δ st) (endX K F H g D)
section
variable {X : Cx} {C : CE} {g : Gx}
theorem xsx_ret {a : Expr} {e : E} {pos : Pos} (h : PE X a (tEX X.K C g e)) : PS X (.Return (some a) pos) (tSX X.K C g (.ret (some e))) := ps_weak (ps_ret h) fun D σ H ⟨F, φ, st, δ, s, d, o, h⟩ => by
  simp only [evS] at h
  exact ⟨F, φ, st, δ, s, d, o, (Post.bind h).imp fun v φ1 st1 H1 t1 h1 u ru => h1 φ1 H1 (Step.refl t1.sc) u ru⟩
theorem xsx_retN {pos : Pos} : PS X (.Return none pos) (tSX X.K C g (.ret none)) := ps_weak ps_retN fun D σ H ⟨F, φ, st, δ, s, d, o, h⟩ => by
  simp only [evS] at h
  exact h φ H (Step.refl s) .non RU.non
theorem xsx_ex {a : Expr} {e : E} {pos : Pos} (h : PE X a (tEX X.K C g e)) (hs : swapsWith a none pos.line X.env = pure false) : PS X (.Expr a pos) (tSX X.K C g (.ex e)) := ps_weak (ps_expr h hs) fun D σ H ⟨F, φ, st, δ, s, d, o, h⟩ => by
  simp only [evS] at h
  exact ⟨F, φ, st, δ, s, d, o, (Post.bind h).imp fun v φ1 st1 H1 t1 h1 u ru => h1 φ1 H1 (Step.refl t1.sc) σ (d.step s t1) o.len⟩
theorem xsx_pss {pos : Pos} : PS X (.Pass pos) (tSX X.K C g .pss) := ps_weak ps_pass fun D σ H ⟨F, φ, st, δ, s, d, o, h⟩ => by
  simp only [evS] at h
  exact h φ H (Step.refl s) σ d o.len
theorem xsx_brk {pos : Pos} : PS X (.Break pos) (tSX X.K C g .brk) := ps_weak ps_break fun D σ H ⟨F, φ, st, δ, s, d, o, h⟩ => by
  simp only [evS] at h
  exact h φ H (Step.refl s) σ d o.len
theorem xsx_cnt {pos : Pos} : PS X (.Continue pos) (tSX X.K C g .cnt) := ps_weak ps_continue fun D σ H ⟨F, φ, st, δ, s, d, o, h⟩ => by
  simp only [evS] at h
  exact h φ H (Step.refl s) σ d o.len
/-- isinstance(e, c), e the suite's exception -/
def rIsX (K : PySem.W.Frag) (D a d : Addr) : List V → Hp → VK → Prop := fun xs H Q => ∃ (c : V) (cv : Value) (b : Bool) (fs : List (Str × V)), xs = [.ref a, c] ∧ (∀ u, RelV c u → u = cv) ∧ PySem.W.kitOne K (.ref D) cv = some b ∧ H d = some (.xd fs) ∧ Q (.bl b) H
theorem call_isX {a D d : Addr} {oe : Obj} {pn : List (Addr × Obj)} (T : ExcC X.K D) (hz : Zc (.ref D) (some d) oe) (hf : ∃ vs, oe.data = .fields vs) : CallR (X.suite a ((a, oe) :: pn)) (.builtin "isinstance") (rIsX X.K D a d) := by
  intro pz s σ H xs us Q I r h
  obtain ⟨c, cv, b, fs, rfl, hcv, e, hd, q⟩ := h
  cases r with
  | cons rx rr =>
    cases rr with
    | cons rt rr =>
      cases rr
      cases rx
      have ec := hcv _ rt
      subst ec
      have hget := (I.pin (a, oe) (List.mem_append_left _ List.mem_cons_self)).1
      obtain ⟨vs, hv⟩ := hf
      obtain ⟨od, hod⟩ : ∃ od, s.heap.get? d = some od := by
        obtain ⟨_, ⟨o, _, _, ho, _⟩, _⟩ := (show ObjOk X.prog X.w H s.heap d (.xd fs) from I.hok d _ hd)
        exact ⟨o, ho⟩
      have J : PySem.W.InstAt s.heap a oe D (some od) := by
        obtain ⟨oc, oD, oda, osl⟩ := oe
        obtain ⟨h1, h2⟩ := hz
        dsimp only at h1 h2 hv
        subst h1 h2 hv
        exact ⟨hget, rfl, rfl, hod⟩
      exact PySem.W.kia_one (xi_kit T) I.kIn J e (fun z => nomatch z) fun tk => ⟨.bl b, H, I.kept (t' := tk) fun _ _ z => z, rfl, q⟩
theorem xsx_one {st : Stmt} {x : S} (h : PS X st (tSX X.K C g x)) : PSs X [st] (tSsX X.K C g [x]) := pss_weak (pss_one h) fun D σ H ⟨F, φ, st, δ, s, d, o, h⟩ => by
  simp only [evSs] at h
  refine ⟨F, φ, st, δ, s, d, o, (Post.bind h).imp fun fl φ1 st1 H1 t1 h1 => ?_⟩
  cases fl <;> exact h1 φ1 H1 (Step.refl t1.sc)
/-- if isinstance(e, ValueError): one statement -/
theorem xsx_is {y : Str} {i : Nat} {cls : Value} {dd : Option Addr} {oe : Obj} {pn : List (Addr × Obj)} {p0 p1 p2 p3 p4 : Pos} {st : Stmt} {s : S} (T : ExcC X.K g.C) (hk : PySem.W.kitOne X.K (.ref g.C) (.type "ValueError") = some true) (hc : cls = .ref g.C) (hd : dd = some g.d) (hi : g.i = some i) (hz : Zc cls dd oe) (hf : ∃ vs, oe.data = .fields vs)
    (g1 : Gl X "isinstance") (g2 : Gl X "ValueError") (m1 : X.mg "isinstance" = none) (m2 : X.mg "ValueError" = none) (hN : X.N[i]? = some y) (hv : Vis X.env.scope y) (d1 : (y == ("__debug__" : Str)) = false) (d2 : (y == ("__classdict__" : Str)) = false)
    (h : PS (X.suite g.a ((g.a, oe) :: pn)) st (tSX X.K C g s)) :
    PS (X.suite g.a ((g.a, oe) :: pn)) (.If (.Call (.Name "isinstance" p0) [.Name y p1, .Name "ValueError" p2] [] p3) [st] [] p4) (tSX X.K C g (.iff (.cst (.bool true)) [s] [])) := by
  subst hc hd
  have pv : PE (X.suite g.a ((g.a, oe) :: pn)) (.Name y p1) (tVar i) := pe_var hN hv d1 d2
  have pt : PE (X.suite g.a ((g.a, oe) :: pn)) (.Name "ValueError" p2) (tC (.ty "ValueError")) := pe_bltn g2 m2 (by decide +kernel) rfl
  refine ps_weak (ps_if (pt_val (pe_callB (call_isX T hz hf) g1 m1 (by decide +kernel) (pa_cons pv (pa_cons pt pa_nil)))) (xsx_one h) pss_nil) fun D σ H ⟨F, φ, st, δ, s, d, o, h⟩ => ?_
  simp only [evS, evB, evE, bool?, liftO, Out.bind] at h
  exact ⟨_, o.at_ i hi, _, .type "ValueError", true, _, rfl, fun u hu => hu, hk, o.xd, true, rfl, iteT ⟨F, φ, st, δ, s, d, o, h⟩⟩
end
/-- a suite's reading, told of the exception's address, class and dict -/
def tsOf (K : PySem.W.Frag) (C : CE) (xa : List (Str × Addr)) (n : Nat) (i : Option Nat) (su : List S) : SuR := fun a cls d D σ H =>
  ∃ g : Gx, g.a = a ∧ cls = .ref g.C ∧ d = some g.d ∧ g.i = i ∧ g.n = n ∧ XdOk 3 g.v g.nm g.fs ∧ (∃ (c : Nat) (nm : Str), xa[c]? = some (nm, g.C)) ∧ tSsX K C g su D σ H
/-- the clauses of the text, and what the core language has for them -/
inductive HsOk (X : Cx) (C : CE) (xa : List (Str × Addr)) : List ExceptHandler → List (Nat × Option Nat × List S) → Prop
  | nil : HsOk X C xa [] []
  | cons {x nm : Str} {A : Addr} {n : Option Str} {i : Option Nat} {c' : Nat} {su : List S} {b₀ : Stmt} {suite : List Stmt} {np pp : Pos} {hds : List ExceptHandler} {l : List (Nat × Option Nat × List S)} (hx : xa[c']? = some (nm, A)) (hc : Names X x (.ref A)) (hn : NmOk X n i)
      (hi : ∀ j, i = some j → j < X.N.length)
      (hsu : ∀ (g : Gx) (oe : Obj) (cls : Value) (d : Option Addr) (pn : List (Addr × Obj)), cls = .ref g.C → d = some g.d → g.i = i → g.n = X.N.length → XdOk 3 g.v g.nm g.fs → (∃ (c : Nat) (nm : Str), xa[c]? = some (nm, g.C)) → Zc cls d oe → (∃ vs, oe.data = .fields vs) →
        PSs (X.suite g.a ((g.a, oe) :: pn)) (b₀ :: suite) (tSsX X.K C g su)) (r : HsOk X C xa hds l) :
      HsOk X C xa (.ExceptHandler (some (.Name x np)) n (b₀ :: suite) pp :: hds) ((c', i, su) :: l)
/-- the same as data of the hand layer -/
inductive Lk (K : PySem.W.Frag) (C : CE) (xa : List (Str × Addr)) (n : Nat) : List (Value × Option Nat × SuR) → List (Nat × Option Nat × List S) → Prop
  | nil : Lk K C xa n [] []
  | cons {nm : Str} {A : Addr} {i : Option Nat} {c' : Nat} {su : List S} {l : List (Value × Option Nat × SuR)} {l' : List (Nat × Option Nat × List S)} (hx : xa[c']? = some (nm, A)) (hi : ∀ j, i = some j → j < n) (r : Lk K C xa n l l') :
      Lk K C xa n ((.ref A, i, tsOf K C xa n i su) :: l) ((c', i, su) :: l')
theorem hs_lk {X : Cx} {C : CE} {xa : List (Str × Addr)} {hds : List ExceptHandler} {l' : List (Nat × Option Nat × List S)} (h : HsOk X C xa hds l') : ∃ l, HdN X hds l ∧ Lk X.K C xa X.N.length l l' := by
  induction h with
  | nil => exact ⟨_, .nil, .nil⟩
  | @cons x nm A n i c' su b₀ suite np pp hds l hx hc hn hi hsu r ih =>
    obtain ⟨l0, h1, h2⟩ := ih
    refine ⟨_, .cons hc hn (fun a oe cls d pn hz hf => ?_) h1, .cons hx hi h2⟩
    refine ⟨fun pz s σ H D I ⟨g, e1, e2, e3, e4, e5, e6, e7, q⟩ => ?_⟩
    subst e1
    exact (hsu g oe cls d pn e2 e3 e4 e5 e6 e7 hz hf).run pz s σ H D I q
section
variable {K : PySem.W.Frag} {F : AP} {φ : List Addr} {st : Sto} {H H0 : Hp} {C : CE} {xa : List (Str × Addr)} {δ : Env} {σ : L2.St}
/-- a slot is emptied on both sides -/
theorem sl_clr {δ' : Env} {σ' σ2 : L2.St} (i : Option Nat) (hl : δ'.length = σ'.length) (hl2 : σ2.length = σ'.length) (k : ∀ (j : Nat) (w : W), δ'[j]? = some (some w) → ∃ v, σ'[j]? = some (some v) ∧ RW K (Or2 F (Live φ st)) H φ v w)
    (h2 : ∀ j, i ≠ some j → σ2[j]? = σ'[j]?) : Sl K F φ st H (clr i δ') σ2 := by
  refine ⟨by rw [clr_len, hl, hl2], fun j w e => ?_⟩
  by_cases hij : i = some j
  · subst hij
    have e : (δ'.set j none)[j]? = some (some w) := e
    have hj : j < (δ'.set j none).length := (List.getElem?_eq_some_iff.mp e).1
    rw [List.length_set] at hj
    rw [List.getElem?_set_self hj] at e
    cases e
  · have e2 : δ'[j]? = some (some w) := by
      cases i with
      | none => exact e
      | some i =>
        have e : (δ'.set i none)[j]? = some (some w) := e
        rwa [List.getElem?_set_ne (fun z => hij (by rw [z]))] at e
    obtain ⟨v, h1, h3⟩ := k j w e2
    exact ⟨v, by rw [h2 j hij]; exact h1, h3⟩
theorem setN_len {a : Addr} {i : Option Nat} : (setN a σ i).length = σ.length := by
  cases i with
  | none => rfl
  | some i => exact List.length_set ..
/-- the suite's slots -/
theorem sl_ex {g : Gx} {i : Option Nat} {p : D} (d : Sl K F φ st H δ σ) (hp : Den K (Or2 F (Live φ st)) H g.v p) : Sl K F φ st H (exEnv i δ p g.nm) (setN g.a σ i ++ g.gh) := by
  have d0 : Sl K F φ st H (clr i δ) (setN g.a σ i) := sl_clr i d.len setN_len d.slot fun j hj => by
    cases i with
    | none => rfl
    | some i => exact List.getElem?_set_ne fun z => hj (by rw [z])
  refine ⟨by unfold exEnv; rw [List.length_append, List.length_append, d0.len]; rfl, fun j w e => ?_⟩
  unfold exEnv at e
  by_cases hj : j < (setN g.a σ i).length
  · rw [List.getElem?_append_left (by rw [d0.len]; exact hj)] at e
    rw [List.getElem?_append_left hj]
    exact d0.slot j w e
  · have hj : (setN g.a σ i).length ≤ j := by omega
    rw [List.getElem?_append_right (by rw [d0.len]; exact hj), d0.len] at e
    rw [List.getElem?_append_right hj]
    generalize j - (setN g.a σ i).length = k at e ⊢
    match k, e with
    | 0, e => cases e; exact ⟨_, rfl, hp⟩
    | 1, e => cases e; exact ⟨_, rfl, Den.str g.nm⟩
    | k + 2, e => simp at e
/-- behind the suite -/
theorem sl_off {g : Gx} {i : Option Nat} {δ' : Env} {n : Nat} {σ' : L2.St} (hn : n = g.n) (d : Sl K F φ st H δ' (σ' ++ g.gh)) (hl' : σ'.length = g.n) : Sl K F φ st H (offI n i δ') (clr i σ') := by
  have e2 : (δ'.take n).length = σ'.length := by rw [List.length_take, d.len, List.length_append, hn, hl']; omega
  refine sl_clr i e2 (clr_len ..) (fun j w e => ?_) fun j hj => ?_
  · have hj : j < (δ'.take n).length := (List.getElem?_eq_some_iff.mp e).1
    rw [e2] at hj
    rw [List.getElem?_take_of_lt (by rw [hn, ← hl']; exact hj)] at e
    obtain ⟨v, h1, h2⟩ := d.slot j w e
    rw [List.getElem?_append_left hj] at h1
    exact ⟨v, h1, h2⟩
  · cases i with
    | none => rfl
    | some i => exact List.getElem?_set_ne fun z => hj (by rw [z])
theorem endN_rt {D : Ends} {i : Option Nat} : (endN D i).rt = D.rt := by cases i <;> rfl
theorem endN_nx {D : Ends} {i : Option Nat} {σ : L2.St} : (endN D i).nx σ H = D.nx (clr i σ) H := by cases i <;> rfl
theorem endN_bk {D : Ends} {i : Option Nat} {σ : L2.St} : (endN D i).bk σ H = D.bk (clr i σ) H := by cases i <;> rfl
theorem endN_ct {D : Ends} {i : Option Nat} {σ : L2.St} : (endN D i).ct σ H = D.ct (clr i σ) H := by cases i <;> rfl
/-- an exception of the body: what the clauses do is what is wished -/
theorem wish_on {XR : XRel} {W : WX} {D : Ends} {xn : List Str} {n c : Nat} {p : PyData} {cls : Value} {d : Option Addr} (hn : xn = xa.map (·.1)) (hX : XR = XRx K xa)
    (exm : ∀ (c c' : Nat) (nm nm' : Str) (A A' : Addr), xa[c]? = some (nm, A) → xa[c']? = some (nm', A') → PySem.W.exmOne K (.ref A) (.ref A') = some (subX c c')) (hal : ∀ a, H0 a ≠ none → H a ≠ none)
    (s : SC K F φ st H) (sl : Sl K F φ st H δ σ) (hl : σ.length = n) (xr : XR c p cls d (Or2 F (Live φ st)) H) : ∀ {l : List (Value × Option Nat × SuR)} {l' : List (Nat × Option Nat × List S)}, Lk K C xa n l l' →
      Post K F (exOf XR W σ) φ st H (evHs C xn l' c p δ st) (endS K F H0 D) → wOn K W D l cls d σ H
  | _, _, .nil, h => by
    simp only [evHs] at h
    exact h φ H (Step.refl s) cls d xr
  | _, _, .cons (nm := nm') (A := A') (i := i) (c' := c') (su := su) hx hi r, h => by
    obtain ⟨nm, A, dd, fs, v, x1, x2, x3, x4, x5, x6, x7⟩ := (show XRx K xa c p cls d (Or2 F (Live φ st)) H by rw [← hX]; exact xr)
    subst x2 x3
    refine ⟨subX c c', exm _ _ _ _ _ _ x1 hx, fun hb a ha => ?_, fun hb => ?_⟩
    · simp only [evHs] at h
      rw [hb] at h
      have hnm : nameX xn c = nm := by
        unfold nameX
        rw [List.getD_eq_getElem?_getD, hn, List.getElem?_map, x1]
        rfl
      rw [hnm] at h
      refine ⟨⟨a, A, dd, i, n, v, nm, fs⟩, rfl, rfl, rfl, rfl, rfl, x5, ⟨c, nm, x1⟩, F, φ, st, exEnv i δ p nm, s, sl_ex (g := ⟨a, A, dd, i, n, v, nm, fs⟩) sl x7, ⟨by rw [setN_len, hl], fun j hj => ?_, x4, x6⟩, ?_⟩
      · have hj : i = some j := hj
        subst hj
        show (σ.set j _)[j]? = _
        rw [List.getElem?_set_self (by rw [hl]; exact hi j rfl)]
      · have hd : δ.length = n := by rw [sl.len, hl]
        cases q : evSs C su (exEnv i δ p nm) st with
        | bad => rw [q] at h; exact h
        | exc c2 p2 st2 => rw [q] at h; exact h.elim
        | ok fl st2 =>
          rw [q] at h
          intro φ2 H2 t2
          have h2 := h φ2 H2 t2
          cases fl with
          | rt v =>
            intro u ru
            rw [endN_rt]
            exact h2 u (RU.weak hal ru)
          | nx δ2 =>
            intro σ2 d2 l2
            rw [endN_nx]
            exact h2 _ (sl_off (i := i) hd d2 l2)
          | bk δ2 =>
            intro σ2 d2 l2
            rw [endN_bk]
            exact h2 _ (sl_off (i := i) hd d2 l2)
          | ct δ2 =>
            intro σ2 d2 l2
            rw [endN_ct]
            exact h2 _ (sl_off (i := i) hd d2 l2)
    · simp only [evHs] at h
      rw [hb] at h
      exact wish_on hn hX exm hal s sl hl xr r h
end
section
variable {X : Cx} {P : Par} {C : CE} {xa : List (Str × Addr)}
theorem xs_tr {b : Stmt} {s : S} {h₀ : ExceptHandler} {hds : List ExceptHandler} {l' : List (Nat × Option Nat × List S)} {xn : List Str} {pos : Pos} (hn : xn = xa.map (·.1)) (hX : P.XR = XRx X.K xa)
    (exm : ∀ (c c' : Nat) (nm nm' : Str) (A A' : Addr), xa[c]? = some (nm, A) → xa[c']? = some (nm', A') → PySem.W.exmOne X.K (.ref A) (.ref A') = some (subX c c'))
    (hs : X.stack = X.env :: X.outer) (hf : X.env.frame = some X.env.locals) (hN : X.N.Nodup) (tk : Takes X P.W)
    (hb : ∀ (W : WX) (pn : List (Addr × Obj)) (xe : Value → Shared → Prop), Takes (X.tr pn xe) W → PassesOwn (model X.prog X.w) X.A X.env xe → PS (X.tr pn xe) b (tS X.K ⟨P.XR, W⟩ C s)) (hh : HsOk X C xa (h₀ :: hds) l') :
    PS X (.Try [b] (h₀ :: hds) [] [] pos) (tS X.K P C (.tr xn s l')) := by
  obtain ⟨l, hl, lk⟩ := hs_lk hh
  refine ps_weakN (ps_try_named (Wout := P.W) (l := l) (tb := fun W => tS X.K ⟨P.XR, W⟩ C s) hs hf hN tk (fun W pn xe tkW po => pss_one (hb W pn xe tkW po)) hl) fun D σ H hlen h => ?_
  obtain ⟨F, φ, st, δ, sc, sl, h⟩ := h
  simp only [evS] at h
  refine ⟨F, φ, st, δ, sc, sl, ?_⟩
  cases q : evS C s δ st with
  | bad => rw [q] at h; exact h.elim
  | ok fl st1 => rw [q] at h; exact h
  | exc c p st1 =>
    rw [q] at h
    intro φ1 H1 t1 cls d xr
    exact wish_on (H0 := H) hn hX exm t1.al t1.sc (sl.step sc t1) hlen xr lk (Post.step t1 h)
end
/-- what is known of the exception classes -/
structure XaOk (P : Program) (w : World) (K : PySem.W.Frag) (mg : Str → Option Value) (base : Heap) (xa : List (Str × Addr)) : Prop where
  at_ : ∀ (c : Nat) (nm : Str) (A : Addr), xa[c]? = some (nm, A) → mg nm = some (.ref A)
  ok : ∀ (c : Nat) (nm : Str) (A : Addr), xa[c]? = some (nm, A) → ∃ n, n ≤ 3 ∧ XcOk P w K mg base 2 n A nm
  exm : ∀ (c c' : Nat) (nm nm' : Str) (A A' : Addr), xa[c]? = some (nm, A) → xa[c']? = some (nm', A') → PySem.W.exmOne K (.ref A) (.ref A') = some (subX c c')
  ic : ∀ (c : Nat) (nm : Str) (A : Addr), xa[c]? = some (nm, A) → ExcC K A ∧ PySem.W.kitOne K (.ref A) (.type "ValueError") = some true
  ve : mg "ValueError" = none
end MP
set_option maxHeartbeats 1200000
/-! Ev12: from the text to the language. -/
namespace MP
open PySem PySem.Spec L2
/-- what is known where a text is read -/
structure CC where
  N : List Str
  sc : Scope
  fnp : Str → Bool
  fns : List (Str × Nat × Nat × List D)
  gls : List (Str × D)
  own : List Str
  xs : List Str
def CC.blk (c : CC) (scope : Scope) : CC := { c with sc := relS scope c.sc, fnp := fun x => scope.names.lookup x == some .cell }
def mapO {α β : Type} (f : α → Option β) : List α → Option (List β)
  | [] => some []
  | a :: as => (f a).bind fun b => (mapO f as).map (b :: ·)
theorem mapO_paired {α β : Type} {f : α → Option β} : ∀ {as : List α} {bs : List β}, mapO f as = some bs → Paired (fun a b => f a = some b) as bs
  | [], bs, e => by simp [mapO] at e; subst e; exact .nil
  | a :: as, bs, e => by
    simp only [mapO] at e
    cases q : f a with
    | none => rw [q] at e; nomatch e
    | some b =>
      rw [q] at e
      dsimp only [Option.bind_some] at e
      cases q2 : mapO f as with
      | none => rw [q2] at e; cases e
      | some bs' => rw [q2] at e; cases e; exact .cons q (mapO_paired q2)
def slotOf (N : List Str) (x : Str) : Option Nat := match N.findIdx? (fun y => decide (y = x)) with
  | some i => if N[i]? = some x then some i else none
  | none => none
theorem slotOf_ok {N : List Str} {x : Str} {i : Nat} (h : slotOf N x = some i) : N[i]? = some x := by
  unfold slotOf at h
  split at h
  · split at h
    · cases h; assumption
    · cases h
  · cases h
def visB (sc : Scope) (x : Str) : Bool := match sc.names.lookup x with
  | some .local => true
  | some .cell => true
  | some .free => true
  | _ => false
theorem visB_ok {sc : Scope} {x : Str} (h : visB sc x = true) : Vis sc x := by
  unfold visB at h
  split at h
  · exact .inl (by assumption)
  · exact .inr (.inl (by assumption))
  · exact .inr (.inr (by assumption))
  · cases h
/-- a name that may be stored -/
def locB (c : CC) (x : Str) : Bool := match c.sc.names.lookup x with
  | some .local => true
  | some .cell => c.fnp x
  | _ => false
theorem locB_ok {c : CC} {x : Str} (h : locB c x = true) : c.sc.names.lookup x = some .local ∨ (c.sc.names.lookup x = some .cell ∧ c.fnp x = true) := by
  unfold locB at h
  split at h
  · exact .inl (by assumption)
  · exact .inr ⟨by assumption, h⟩
  · cases h
def glB (sc : Scope) (x : Str) : Bool := decide (sc.names.lookup x = some .globalImplicit)
def opB : Operator → Bool
  | .Add => true | .Sub => true | .Mult => true | .FloorDiv => true | .Mod => true | .Pow => true
  | _ => false
def cstOf : Const → Option D
  | .int i => some (.int i)
  | .str x => some (.str x)
  | .bool b => some (.bool b)
  | .none => some .none
  | _ => none
def tyB (x : Str) : Option Ty :=
  if x = "int" then some .int else if x = "str" then some .str else if x = "bool" then some .bool else if x = "tuple" then some .tuple else if x = "list" then some .list else if x = "dict" then some .dict else none
def bltB (x : Str) : Option Blt :=
  if x = "len" then some .len else if x = "abs" then some .abs else if x = "int" then some .int else if x = "str" then some .str else if x = "tuple" then some .tuple else if x = "list" then some .list else if x = "any" then some .any
  else if x = "all" then some .all else if x = "sum" then some .sum else if x = "max" then some .max else if x = "min" then some .min else if x = "dict" then some .dict else none
def mthB (x : Str) : Option Mth :=
  if x = "append" then some .append else if x = "join" then some .join else if x = "replace" then some .replace else if x = "split" then some .split else if x = "pop" then some .pop else none
def noStar : Expr → Bool
  | .Starred _ _ => false
  | _ => true
def noSlice : Expr → Bool
  | .Slice _ _ _ _ => false
  | _ => true
def noCall : Expr → Bool
  | .Call (.Name _ _) _ _ _ => false
  | _ => true
def noSet : Expr → Bool
  | .Set _ _ _ => false
  | _ => true
def noComp : Expr → Bool
  | .ListComp _ _ _ _ => false
  | .SetComp _ _ _ _ => false
  | .DictComp _ _ _ _ _ => false
  | _ => true
/-- as a test: no a if b else c within -/
def tstB : Nat → Expr → Bool
  | 0, _ => false
  | n + 1, e => match e with
    | .IfExp _ _ _ _ => false
    | .UnaryOp .Not a _ => tstB n a
    | .BoolOp _ vs _ => vs.all (tstB n)
    | .Compare _ [_] _ _ => true
    | .Compare _ _ _ _ => false
    | _ => true
def boolE (op : BoolOp) : List E → Option E
  | [] => none
  | [e] => some e
  | e :: es => (boolE op es).map fun f => match op with
    | .And => .an e f
    | .Or => .orr e f
def glob (c : CC) (x : Str) : Option E := if glB c.sc x then (c.gls.lookup x).map .cst else none
def fnAt (c : CC) (x : Str) (n : Nat) : Option (Nat × List D) := match c.fns.find? fun q => decide (q.1 = x ∧ q.2.2.1 = n) with
  | some q => if q.1 = x ∧ q.2.2.1 = n then some (q.2.1, q.2.2.2) else none
  | none => none
mutual
def compT (c : CC) : Expr → Option Tg
  | .Name x _ => if locB c x then (slotOf c.N x).map .nm else none
  | .Tuple es _ _ => (compTs c es).map .tp
  | _ => none
def compTs (c : CC) : List Expr → Option (List Tg)
  | [] => some []
  | e :: es => (compT c e).bind fun t => (compTs c es).map (t :: ·)
end
def isTup : Expr → Bool
  | .Tuple _ _ _ => true
  | _ => false
def ownL (N : List Str) : List (Str × NameKind) → List (Str × Nat)
  | [] => []
  | (x, k) :: r => match k, slotOf N x with
    | .local, some i => (x, i) :: ownL N r
    | .cell, some i => (x, i) :: ownL N r
    | _, _ => ownL N r
def tysOf (c : CC) : List Expr → Option (List Ty)
  | [] => some []
  | .Name y _ :: r => if glB c.sc y then (tyB y).bind fun t => (tysOf c r).map (t :: ·) else none
  | _ :: _ => none
def compSrc (f : Expr → Option E) (c : CC) (tg it : Expr) : Option Src :=
  match it with
  | .Call (.Name x _) args [] pos =>
    if glB c.sc x then
      if x = "range" then (match args with
        | [a] => (f a).bind fun e => if noStar a then some (.rng1 [e]) else none
        | [a, b] => (f a).bind fun e => (f b).bind fun e2 => if noStar a && noStar b then some (.rng2 [e, e2]) else none
        | _ => none)
      else if x = "enumerate" then (match args with
        | [a] => (f a).bind fun e => if noStar a && isTup tg then some (.enm [e]) else none
        | _ => none)
      else if x = "zip" then (match args with
        | [a, b] => (f a).bind fun e => (f b).bind fun e2 => if noStar a && noStar b && isTup tg then some (.zp [e, e2]) else none
        | _ => none)
      else if x = "reversed" then (match args with
        | [a] => (f a).bind fun e => if noStar a then some (.rv e) else none
        | _ => none)
      else (f it).map .it
    else (f it).map .it
  | it => (f it).map .it
/-- a fresh list or dict within a list: a cell, where the def asks for it -/
def celB : E → Bool
  | .lst _ _ => true
  | .lc _ _ _ _ _ => true
  | .dis _ => true
  | .blt .list _ => true
  | .blt .dict _ => true
  | _ => false
def celIf (c : CC) (e : E) : E := if (decide (("[]" : Str) ∈ c.own) && celB e) = true then .cel e else e
def celOwn (c : CC) (x : Str) (e : E) : E := if decide (x ∈ c.own) = true then .cel e else e
/-- list(zip(u, v)) -/
def zipArg (c : CC) (x : Str) : Expr → List Expr → Option (Expr × Expr)
  | .Call (.Name z _) [u, v] [] _, [] => if (decide (x = "list") && decide (z = "zip") && glB c.sc z && noStar u && noStar v) = true then some (u, v) else none
  | _, _ => none
def comp : Nat → CC → Expr → Option E
  | 0, _, _ => none
  | n + 1, c, e => match e with
    | .Name x _ => if x = "__debug__" ∨ x = "__classdict__" then none else match slotOf c.N x with
      | some i => if visB c.sc x then some (.var i) else glob c x
      | none => glob c x
    | .Constant k _ _ => (cstOf k).map .cst
    | .BinOp a op b _ => if opB op then (comp n c a).bind fun x => (comp n c b).map fun y => .bin op x y else none
    | .UnaryOp .Not a _ => (comp n c a).map .nt
    | .UnaryOp .USub a _ => (comp n c a).map .neg
    | .BoolOp op vs _ => (mapO (comp n c) vs).bind fun es => boolE op es
    | .IfExp t a b _ => if tstB n t then (comp n c t).bind fun g => (comp n c a).bind fun x => (comp n c b).map fun y => .ife g x y else none
    | .Compare a [op] [b] _ => if behindInMarks op b then none else (comp n c a).bind fun x => (comp n c b).map fun y => .cmp op x y
    | .Compare a [o1, o2] [b, d] _ => if lastMarks [o1, o2] [b, d] then none else (comp n c a).bind fun x => (comp n c b).bind fun y => (comp n c d).map fun z => .cmp2 o1 o2 x y z
    | .Tuple es _ _ => if es.all noStar then (mapO (comp n c) es).map .tup else none
    | .List es _ => if es.all noStar then (mapO (comp n c) es).map fun xs => .lst false (xs.map (celIf c)) else none
    | .Subscript a (.Slice lo hi none _) _ => (comp n c a).bind fun x => (match lo with
        | none => some none
        | some l => (comp n c l).map some).bind fun l => (match hi with
        | none => some none
        | some h => (comp n c h).map some).map fun h => .sl x l h
    | .Subscript a (.Slice none none (some (.UnaryOp .USub (.Constant (.int 1) _ _) _)) _) _ => (comp n c a).map fun x => .blt .rev [x]
    | .Subscript a b _ => if noSlice b then (comp n c a).bind fun x => (comp n c b).map fun y => .ix x y else none
    | .Call (.Name x _) (a :: as) [] _ =>
      if glB c.sc x && (a :: as).all noStar && !decide (x = "__debug__") then
        if x = "isinstance" then (match as with
          | [.Name y _] => if glB c.sc y then (tyB y).bind fun t => (comp n c a).map fun e => .isi e [t] else none
          | [.Tuple ys _ _] => (tysOf c ys).bind fun ts => (match ts with
            | [] => none
            | t :: ts => if (t :: ts).length ≤ 100 then (comp n c a).map fun e => .isi e (t :: ts) else none)
          | _ => none)
        else match zipArg c x a as with
          | some (u, v) => (comp n c u).bind fun e => (comp n c v).map fun f => .blt .lzip [e, f]
          | none => match bltB x with
          | some b => (mapO (comp n c) (a :: as)).map fun es => .blt b es
          | none => (fnAt c x (a :: as).length).bind fun q => (mapO (comp n c) (a :: as)).map fun es => .call q.1 es q.2
      else none
    | .Call (.Attribute o name apos) (a :: as) [] cpos => if noCall o && (a :: as).all noStar && (apos.endLine == cpos.line) && decide ((a :: as).length < 20) then
        if name = "get" then (match as with
          | [] => (comp n c o).bind fun x => (comp n c a).map fun k => .mth .get x [k]
          | [b] => (comp n c o).bind fun x => (comp n c a).bind fun k => (comp n c b).map fun z => .mth .get x [k, z]
          | _ => none)
        else if name = "setdefault" then (match as with
          | [b] => (comp n c o).bind fun x => (comp n c a).bind fun k => (comp n c b).map fun z => .mth .setdefault x [k, z]
          | _ => none)
        else (mthB name).bind fun m => (comp n c o).bind fun x => (mapO (comp n c) (a :: as)).map fun es => .mth m x (es.map (celIf c))
      else none
    | .Call (.Attribute o name apos) [] [] cpos => if noCall o && (apos.endLine == cpos.line) && decide (name = "pop") then (comp n c o).map fun x => .mth .pop x [] else none
    | .ListComp elt [⟨tg, it, ifs, 0⟩] scope _ => if noSet it then
        let own := ownL c.N scope.names
        let c' := c.blk scope
        if blkC c.N c.sc scope own then (compT c' tg).bind fun t => if t.slots.all (fun i => decide (i ∈ own.map Prod.snd)) then
          (compSrc (comp n c) c tg it).bind fun s => (match ifs with
            | [] => some []
            | [i] => if tstB n i then (comp n c' i).map fun x => [x] else none
            | _ => none).bind fun cs => (comp n c' elt).map fun e => .lc (own.map Prod.snd) t s cs e
          else none
        else none
      else none
    | .DictComp kx vx [⟨tg, it, ifs, 0⟩] scope _ => if noSet it then
        let own := ownL c.N scope.names
        let c' := c.blk scope
        if blkC c.N c.sc scope own then (compT c' tg).bind fun t => if t.slots.all (fun i => decide (i ∈ own.map Prod.snd)) then
          (compSrc (comp n c) c tg it).bind fun s => (match ifs with
            | [] => some []
            | [i] => if tstB n i then (comp n c' i).map fun x => [x] else none
            | _ => none).bind fun cs => (comp n c' kx).bind fun k => (comp n c' vx).map fun e => .blt .dict [.lc (own.map Prod.snd) t s cs (.blt .pair [k, e])]
          else none
        else none
      else none
    | .Dict [] [] _ => some (.dis [])
    | _ => none
/-! ### what a place is -/
structure Good (X : Cx) (P : Par) (C : CE) (c : CC) : Prop where
  calm : X.calm = true
  nd : X.N.Nodup
  hN : X.N = c.N
  sc : X.env.scope = c.sc
  fn : ∀ x, c.fnp x = true → X.fn x = true
  k : ∃ k, Room k X.A ∧ ∀ x i n dfl, (x, i, n, dfl) ∈ c.fns → ∃ f fd ps dvs ds np, X.mg x = some (.ref f) ∧ PySem.W.keepIn X.K (.ref f) = true ∧ FnOk X.prog X.w X.K X.mg X.base (L2.CX X.prog X.w) k f fd ps (spR X.K P.XR np (C.run i)) ∧
    Binds X.K fd ps ds ∧ Vals dvs ds ∧ (∀ L H, DenAll X.K L H dvs dfl) ∧ ∀ ws st, ws.length ≠ np → C.run i ws st = .bad
  px : ∀ σ, PassesAt (L2.CX X.prog X.w) X σ (WE P.W σ)
  bl : ∀ x : Str, x ∈ (["len", "abs", "int", "str", "bool", "tuple", "list", "any", "all", "sum", "max", "min", "dict", "isinstance", "range", "enumerate", "zip", "reversed"] : List Str) → X.mg x = none
  gl : ∀ x d, c.gls.lookup x = some d → ∃ v u, X.mg x = some u ∧ RelV v u ∧ ∀ L H, Den X.K L H v d
  xa : XAnti P.XR
  xc : ∃ xa : List (Str × Addr), XaOk X.prog X.w X.K X.mg X.base xa ∧ c.xs = xa.map (·.1) ∧ P.XR = XRx X.K xa
  r3 : Room 3 X.A
theorem star_cons {a : Expr} {as : List Expr} {en : PySem.Env} (h : noStar a = true) : starEach (a :: as) en = (false, eval a en) :: starEach as en := by
  cases a <;> first | rfl | (simp [noStar] at h)
theorem star_no {en : PySem.Env} {pos : Pos} : ∀ {as : List Expr}, as.all noStar = true → (backTo pos (starEach as en)).any (·.1) = false
  | [], _ => rfl
  | a :: as, h => by
    rw [List.all_cons, Bool.and_eq_true_iff] at h
    rw [star_cons h.1]
    show (false || (backTo pos (starEach as en)).any (·.1)) = false
    rw [star_no h.2]; rfl
theorem star_all {en : PySem.Env} {pos : Pos} : ∀ {as : List Expr}, as.all noStar = true → (backTo pos (starEach as en)).all (fun x => !x.1) = true
  | [], _ => rfl
  | a :: as, h => by
    rw [List.all_cons, Bool.and_eq_true_iff] at h
    rw [star_cons h.1]
    show (true && (backTo pos (starEach as en)).all (fun x => !x.1)) = true
    rw [star_all h.2]; rfl
theorem plain_ix {b : Expr} (h : noSlice b = true) : PlainIx b := fun o i => by
  cases b <;> first | rfl | (simp [noSlice] at h)
theorem att_base {o : Expr} {x : Str} {en : PySem.Env} (h : noCall o = true) : attributeBase o x en (eval o en) = eval o en := by
  cases o with
  | Call f as ks p => cases f <;> first | rfl | (simp [noCall] at h)
  | _ => rfl
theorem fold_set {it : Expr} {en : PySem.Env} (h : noSet it = true) : ∀ x, foldedSetIterable it en x = pure x := fun x => by
  cases it <;> first | rfl | (simp [noSet] at h)
theorem swaps_no {a : Expr} {t : Option Expr} {l : Nat} {en : PySem.Env} (h : noComp a = true) : swapsWith a t l en = pure false := by
  cases a <;> first | rfl | (simp [noComp] at h)
theorem paired_mono {α β : Type} {P Q : α → β → Prop} {as : List α} {bs : List β} (h : Paired P as bs) (k : ∀ a b, a ∈ as → P a b → Q a b) : Paired Q as bs := by
  induction h with
  | nil => exact .nil
  | cons a r ih => exact .cons (k _ _ (List.mem_cons_self ..) a) (ih fun a b m => k a b (List.mem_cons_of_mem _ m))
section
variable {X : Cx} {P : Par} {C : CE} {c : CC}
theorem Good.gl' (g : Good X P C c) {x : Str} (h : glB c.sc x = true) : Gl X x := by
  unfold Gl
  show X.env.scope.names.lookup x = _
  rw [g.sc]
  simpa [glB] using h
theorem xa_list {as : List Expr} {es : List E} (hs : as.all noStar = true) (h : Paired (fun a e => PE X a (tE X.K P C e)) as es) : PA X as (tEs X.K P C es) := by
  induction h with
  | nil => exact xa_nil
  | cons a r ih =>
    rw [List.all_cons, Bool.and_eq_true] at hs
    exact xa_cons a (ih hs.2) (star_cons hs.1)
theorem Good.units (g : Good X P C c) : X.A.units + 65 < cLine := by
  obtain ⟨k, r, _⟩ := g.k
  have := r.un
  omega
theorem xe_glob (g : Good X P C c) {x : Str} {e : E} {pos : Pos} (hd : (x == ("__debug__" : Str)) = false) (h : glob c x = some e) : PE X (.Name x pos) (tE X.K P C e) := by
  unfold glob at h
  split at h
  · rename_i hg
    cases q : c.gls.lookup x with
    | none => rw [q] at h; cases h
    | some d =>
      rw [q] at h; cases h
      obtain ⟨v, u, hm, r, hd'⟩ := g.gl x d q
      exact xe_cst (pe_glob (g.gl' hg) hm r hd) hd'
  · cases h
theorem ty_name (g : Good X P C c) {y : Str} {t : Ty} {pos : Pos} (hg : glB c.sc y = true) (h : tyB y = some t) : PE X (.Name y pos) (tC (tyV' t)) := by
  unfold tyB at h
  split at h
  · cases h; subst y; exact pe_bltn (g.gl' hg) (g.bl _ (by decide)) (by decide +kernel) rfl
  · split at h
    · cases h; subst y; exact pe_bltn (g.gl' hg) (g.bl _ (by decide)) (by decide +kernel) rfl
    · split at h
      · cases h; subst y; exact pe_bltn (g.gl' hg) (g.bl _ (by decide)) (by decide +kernel) rfl
      · split at h
        · cases h; subst y; exact pe_bltn (g.gl' hg) (g.bl _ (by decide)) (by decide +kernel) rfl
        · split at h
          · cases h; subst y; exact pe_bltn (g.gl' hg) (g.bl _ (by decide)) (by decide +kernel) rfl
          · split at h
            · cases h; subst y; exact pe_bltn (g.gl' hg) (g.bl _ (by decide)) (by decide +kernel) rfl
            · cases h
theorem tys_names (g : Good X P C c) : ∀ {ys : List Expr} {ts : List Ty}, tysOf c ys = some ts → PA X ys (tTys ts)
  | [], ts, h => by simp [tysOf] at h; subst h; exact pa_weak pa_nil fun _ _ _ h => h
  | y :: r, ts, h => by
    cases y with
    | Name y p =>
      simp only [tysOf] at h
      split at h
      · rename_i hg
        cases q : tyB y with
        | none => rw [q] at h; cases h
        | some t =>
          rw [q] at h
          dsimp only [Option.bind_some] at h
          cases q2 : tysOf c r with
          | none => rw [q2] at h; cases h
          | some ts' =>
            rw [q2] at h; cases h
            exact pa_weak (pa_cons (ty_name g hg q) (tys_names g q2) rfl) fun _ _ _ h => h
      · cases h
    | _ => simp [tysOf] at h
theorem op_ok (g : Good X P C c) {op : Operator} (h : opB op = true) : OpR X (binaryOp op) (rTwo X.K (binV op)) := by
  cases op <;> first | exact ob_add | exact ob_sub | exact ob_mul | exact ob_fdiv | exact ob_mod | exact ob_pow | (simp [opB] at h)
theorem cmp_ok (g : Good X P C c) (op : CmpOp) : OpR X (compareOp op) (rTwoB X.K (cmpV op)) := by
  have hu := g.units
  have hu' : X.A.units + 64 < cLine := by omega
  cases op
  · exact oc_eq hu
  · exact oc_ne hu
  · exact oc_lt
  · exact oc_le
  · exact oc_gt
  · exact oc_ge
  · exact oc_is
  · exact oc_isnot
  · exact oc_in hu
  · exact oc_notin hu
theorem blt_call (g : Good X P C c) {x : Str} {b : Blt} {a : Expr} {as : List Expr} {es : List E} {p pos : Pos} (hb : bltB x = some b) (hg : glB c.sc x = true) (hs : (a :: as).all noStar = true) (ha : PA X (a :: as) (tEs X.K P C es)) :
    PE X (.Call (.Name x p) (a :: as) [] pos) (tE X.K P C (.blt b es)) := by
  have hs' := hs
  rw [List.all_cons, Bool.and_eq_true] at hs'
  have he := star_cons (as := as) (en := X.env) hs'.1
  have hpl := star_no (pos := pos) (en := X.env) hs'.2
  have hgl := g.gl' hg
  unfold bltB at hb
  repeat' split at hb
  all_goals first
    | (cases hb; done)
    | (cases hb
       subst x
       first
        | exact xe_bltB cb_len hgl (g.bl _ (by decide)) (by decide +kernel) ha (by decide) (by decide) he hpl
        | exact xe_bltB cb_abs hgl (g.bl _ (by decide)) (by decide +kernel) ha (by decide) (by decide) he hpl
        | exact xe_bltT cb_int hgl (g.bl _ (by decide)) (by decide +kernel) ha (by decide) (by decide) he hpl
        | exact xe_bltT cb_str hgl (g.bl _ (by decide)) (by decide +kernel) ha (by decide) (by decide) he hpl
        | exact xe_bltT (cb_tuple g.calm) hgl (g.bl _ (by decide)) (by decide +kernel) ha (by decide) (by decide) he hpl
        | exact xe_bltT cb_list hgl (g.bl _ (by decide)) (by decide +kernel) ha (by decide) (by decide) he hpl
        | exact xe_bltB (cb_any g.calm) hgl (g.bl _ (by decide)) (by decide +kernel) ha (by decide) (by decide) he hpl
        | exact xe_bltB (cb_all g.calm) hgl (g.bl _ (by decide)) (by decide +kernel) ha (by decide) (by decide) he hpl
        | exact xe_bltB (cb_sum g.calm) hgl (g.bl _ (by decide)) (by decide +kernel) ha (by decide) (by decide) he hpl
        | exact xe_bltB (cb_max g.calm) hgl (g.bl _ (by decide)) (by decide +kernel) ha (by decide) (by decide) he hpl
        | exact xe_bltB (cb_min g.calm) hgl (g.bl _ (by decide)) (by decide +kernel) ha (by decide) (by decide) he hpl
        | exact xe_bltT (cb_dict g.calm) hgl (g.bl _ (by decide)) (by decide +kernel) ha (by decide) (by decide) he hpl)
end
end MP
set_option maxHeartbeats 1200000
/-! Ev13: an expression of the text does what its term tells. -/
namespace MP
open PySem PySem.Spec L2
theorem not_debug {x : Str} (h : ¬ x = "__debug__") : (x == ("__debug__" : Str)) = false := by simpa using h
theorem isTrue_any {a : Expr} {en : PySem.Env} (h : ∀ x p, a ≠ .UnaryOp .Not x p) (h2 : ∀ o v p, a ≠ .BoolOp o v p) (h3 : ∀ x y z p, a ≠ .IfExp x y z p) (h4 : ∀ x y z p, a ≠ .Compare x y z p) (whole : Sem Value) :
    isTrue a en whole = (do let v ← whole; standAt a.pos; holding [v] (truthy v)) := by
  cases a with
  | UnaryOp op x p => cases op <;> first | rfl | exact absurd rfl (h _ _)
  | BoolOp _ _ _ => exact absurd rfl (h2 _ _ _)
  | IfExp _ _ _ _ => exact absurd rfl (h3 _ _ _ _)
  | Compare _ _ _ _ => exact absurd rfl (h4 _ _ _ _)
  | _ => rfl
theorem each_cons {e : Expr} {es : List Expr} {en : PySem.Env} (h : noStar e = true) : assignEach (e :: es) en = (false, assign e en) :: assignEach es en := by
  cases e <;> first | rfl | (simp [noStar] at h)
section
variable {X : Cx} {P : Par} {C : CE} {c : CC}
theorem compT_star {e : Expr} {t : Tg} (h : compT c e = some t) : noStar e = true := by
  cases e <;> first | rfl | (simp [compT] at h)
theorem each_len : ∀ {es : List Expr} {ts : List Tg}, compTs c es = some ts → (assignEach es X.env).length = ts.length ∧ (assignEach es X.env).findIdx? (·.1) = none
  | [], ts, h => by simp [compTs] at h; subst h; exact ⟨rfl, rfl⟩
  | e :: es, ts, h => by
    simp only [compTs] at h
    cases q : compT c e with
    | none => rw [q] at h; cases h
    | some t =>
      rw [q] at h
      dsimp only [Option.bind_some] at h
      cases q2 : compTs c es with
      | none => rw [q2] at h; cases h
      | some ts' =>
        rw [q2] at h; cases h
        obtain ⟨h1, h2⟩ := each_len q2
        rw [each_cons (compT_star q)]
        refine ⟨congrArg Nat.succ h1, ?_⟩
        rw [List.findIdx?_cons, h2]; rfl
mutual
theorem compT_ok (g : Good X P C c) : ∀ {e : Expr} {t : Tg}, compT c e = some t → PG X e (gT X.K t)
  | .Name x p, t, h => by
    simp only [compT] at h
    split at h
    · rename_i hl
      cases q : slotOf c.N x with
      | none => rw [q] at h; cases h
      | some i =>
        rw [q] at h; cases h
        have q := slotOf_ok q
        rw [← g.hN] at q
        have hl := locB_ok hl
        rw [← g.sc] at hl
        simp only [gT]
        exact pg_name g.nd q (hl.imp id (·.1)) (hl.symm.imp (fun z => g.fn _ z.2) id)
    · cases h
  | .Tuple es k p, t, h => by
    simp only [compT] at h
    cases q : compTs c es with
    | none => rw [q] at h; cases h
    | some ts =>
      rw [q] at h; cases h
      simp only [gT]
      exact pg_tup g.calm (compTs_ok g q) (each_len q).1 (each_len q).2
  | .BoolOp .., t, h => by simp [compT] at h
  | .NamedExpr .., t, h => by simp [compT] at h
  | .BinOp .., t, h => by simp [compT] at h
  | .UnaryOp .., t, h => by simp [compT] at h
  | .Lambda .., t, h => by simp [compT] at h
  | .IfExp .., t, h => by simp [compT] at h
  | .Dict .., t, h => by simp [compT] at h
  | .Set .., t, h => by simp [compT] at h
  | .ListComp .., t, h => by simp [compT] at h
  | .SetComp .., t, h => by simp [compT] at h
  | .DictComp .., t, h => by simp [compT] at h
  | .GeneratorExp .., t, h => by simp [compT] at h
  | .Await .., t, h => by simp [compT] at h
  | .Yield .., t, h => by simp [compT] at h
  | .YieldFrom .., t, h => by simp [compT] at h
  | .Compare .., t, h => by simp [compT] at h
  | .Call .., t, h => by simp [compT] at h
  | .FormattedValue .., t, h => by simp [compT] at h
  | .JoinedStr .., t, h => by simp [compT] at h
  | .Constant .., t, h => by simp [compT] at h
  | .Attribute .., t, h => by simp [compT] at h
  | .Subscript .., t, h => by simp [compT] at h
  | .Starred .., t, h => by simp [compT] at h
  | .List .., t, h => by simp [compT] at h
  | .Slice .., t, h => by simp [compT] at h
theorem compTs_ok (g : Good X P C c) : ∀ {es : List Expr} {ts : List Tg}, compTs c es = some ts → PGs X es (gTs X.K ts)
  | [], ts, h => by simp [compTs] at h; subst h; simp only [gTs]; exact pgs_nil
  | e :: es, ts, h => by
    simp only [compTs] at h
    cases q : compT c e with
    | none => rw [q] at h; cases h
    | some t =>
      rw [q] at h
      dsimp only [Option.bind_some] at h
      cases q2 : compTs c es with
      | none => rw [q2] at h; cases h
      | some ts' =>
        rw [q2] at h; cases h
        simp only [gTs]
        exact pgs_cons (compT_ok g q) (compTs_ok g q2) (by rw [each_cons (compT_star q)]; rfl)
end
theorem bool_pe {op : BoolOp} {pos : Pos} : ∀ {vs : List Expr} {es : List E} {f : E}, Paired (fun a e => PE X a (tE X.K P C e)) vs es → boolE op es = some f → PE X (.BoolOp op vs pos) (tE X.K P C f)
  | [], _, f, .nil, h => by simp [boolE] at h
  | [v], _, f, .cons a .nil, h => by simp [boolE] at h; subst h; exact pe_one a
  | v :: w :: vs, _, f, .cons (b := e) a (.cons (b := e2) (l₂ := es) b r), h => by
    simp only [boolE] at h
    cases q : boolE op (e2 :: es) with
    | none => rw [q] at h; cases h
    | some g =>
      rw [q] at h
      have rr := bool_pe (pos := pos) (.cons b r) q
      cases op with
      | And => cases h; exact xe_an a rr
      | Or => cases h; exact xe_or a rr
theorem bool_pw {op : BoolOp} {pos : Pos} : ∀ {vs : List Expr} {es : List E} {f : E}, Paired (fun a e => PT X a (tT X.K P C e)) vs es → boolE op es = some f → PW X (.BoolOp op vs pos) (tT X.K P C f)
  | [], _, f, .nil, h => by simp [boolE] at h
  | [v], _, f, .cons a .nil, h => by
    simp [boolE] at h; subst h
    cases op with
    | And => exact pw_and1 a
    | Or => exact pw_or1 a
  | v :: w :: vs, _, f, .cons (b := e) a (.cons (b := e2) (l₂ := es) b r), h => by
    simp only [boolE] at h
    cases q : boolE op (e2 :: es) with
    | none => rw [q] at h; cases h
    | some g =>
      rw [q] at h
      have rr := bool_pw (pos := pos) (.cons b r) q
      cases op with
      | And => cases h; exact xt_an a rr
      | Or => cases h; exact xt_or a rr
/-- within a comprehension's block -/
theorem Good.blk (g : Good X P C c) (scope : Scope) (s : Shared) (H : Hp) (D : Addr) (cl : List (Str × Addr)) (fp : List Addr) : Good (X.blk s H scope (compEnvC scope cl D X.env) fp) ⟨P.XR, fun _ _ _ _ => False⟩ C (c.blk scope) where
  calm := g.calm
  nd := g.nd
  hN := g.hN
  sc := by show relS scope X.env.scope = relS scope c.sc; rw [g.sc]
  fn := fun x h => h
  k := g.k
  px := fun σ _ _ _ _ _ _ h => by
    obtain ⟨_, _, _, _, _, _, _, _, _, _, _, _, no⟩ := h
    exact no.elim
  bl := g.bl
  gl := g.gl
  xa := g.xa
  xc := g.xc
  r3 := g.r3
/-- within a try's body -/
theorem Good.tr (g : Good X P C c) {pn : List (Addr × Obj)} {xe : Value → Shared → Prop} {W : WX} (tk : Takes (X.tr pn xe) W) : Good (X.tr pn xe) ⟨P.XR, W⟩ C c where
  calm := g.calm
  nd := g.nd
  hN := g.hN
  sc := g.sc
  fn := g.fn
  k := g.k
  px := fun σ => passAt tk σ
  bl := g.bl
  gl := g.gl
  xa := g.xa
  xc := g.xc
  r3 := g.r3
theorem fnAt_ok {x : Str} {n : Nat} {q : Nat × List D} (h : fnAt c x n = some q) : ∃ m, (x, q.1, m, q.2) ∈ c.fns := by
  unfold fnAt at h
  split at h
  · rename_i p hp
    split at h
    · rename_i e
      cases h
      obtain ⟨e1, e2⟩ := e
      exact ⟨p.2.2.1, by
        have := List.mem_of_find?_eq_some hp
        rw [← e1]; exact this⟩
    · cases h
  · cases h
theorem paired_comp {f : Expr → Option E} {Q : Expr → E → Prop} {as : List Expr} {es : List E} (h : mapO f as = some es) (k : ∀ a e, a ∈ as → f a = some e → Q a e) : Paired Q as es := paired_mono (mapO_paired h) k
theorem src_ok (g : Good X P C c) {f : Expr → Option E} (ih : ∀ a e, f a = some e → PE X a (tE X.K P C e)) {tg it : Expr} {s : Src} (h : compSrc f c tg it = some s) : PI X tg it (tSrc X.K P C s) := by
  have other : ∀ {s}, (f it).map Src.it = some s → PI X tg it (tSrc X.K P C s) := fun {s} h => by
    cases q : f it with
    | none => rw [q] at h; cases h
    | some e => rw [q] at h; cases h; exact src_it (ih _ _ q)
  have tup : ∀ {a : Expr}, isTup a = true → ∃ es k p, a = .Tuple es k p := fun {a} h => by
    cases a <;> first | exact ⟨_, _, _, rfl⟩ | (simp [isTup] at h)
  unfold compSrc at h
  split at h
  · rename_i x p args pos
    split at h
    · rename_i hg
      split at h
      · subst x
        split at h
        · rename_i a
          cases q : f a with
          | none => rw [q] at h; cases h
          | some e =>
            rw [q] at h
            dsimp only [Option.bind_some] at h
            split at h
            · rename_i hs
              cases h
              exact src_rng1 (g.gl' hg) (g.bl _ (by decide)) (xa_cons (ih _ _ q) xa_nil (star_cons hs)) (star_cons hs)
            · cases h
        · rename_i a b
          cases q : f a with
          | none => rw [q] at h; cases h
          | some e =>
            rw [q] at h
            dsimp only [Option.bind_some] at h
            cases q2 : f b with
            | none => rw [q2] at h; cases h
            | some e2 =>
              rw [q2] at h
              dsimp only [Option.bind_some] at h
              split at h
              · rename_i hs
                cases h
                rw [Bool.and_eq_true] at hs
                exact src_rng2 (g.gl' hg) (g.bl _ (by decide)) (xa_cons (ih _ _ q) (xa_cons (ih _ _ q2) xa_nil (star_cons hs.2)) (star_cons hs.1)) (by rw [star_cons hs.1, star_cons hs.2]; rfl) (star_cons hs.2)
              · cases h
        · cases h
      · split at h
        · subst x
          split at h
          · rename_i a
            cases q : f a with
            | none => rw [q] at h; cases h
            | some e =>
              rw [q] at h
              dsimp only [Option.bind_some] at h
              split at h
              · rename_i hs
                cases h
                rw [Bool.and_eq_true] at hs
                obtain ⟨es, k, p, rfl⟩ := tup hs.2
                exact src_enm (g.gl' hg) (g.bl _ (by decide)) (xa_cons (ih _ _ q) xa_nil (star_cons hs.1)) (star_cons hs.1)
              · cases h
          · cases h
        · split at h
          · subst x
            split at h
            · rename_i a b
              cases q : f a with
              | none => rw [q] at h; cases h
              | some e =>
                rw [q] at h
                dsimp only [Option.bind_some] at h
                cases q2 : f b with
                | none => rw [q2] at h; cases h
                | some e2 =>
                  rw [q2] at h
                  dsimp only [Option.bind_some] at h
                  split at h
                  · rename_i hs
                    cases h
                    rw [Bool.and_eq_true, Bool.and_eq_true] at hs
                    obtain ⟨es, k, p, rfl⟩ := tup hs.2
                    exact src_zp (g.gl' hg) (g.bl _ (by decide)) (xa_cons (ih _ _ q) (xa_cons (ih _ _ q2) xa_nil (star_cons hs.1.2)) (star_cons hs.1.1)) (star_cons hs.1.1) (star_no (by rw [List.all_cons, hs.1.2]; rfl))
                  · cases h
            · cases h
          · split at h
            · subst x
              split at h
              · rename_i a
                cases q : f a with
                | none => rw [q] at h; cases h
                | some e =>
                  rw [q] at h
                  dsimp only [Option.bind_some] at h
                  split at h
                  · rename_i hs
                    cases h
                    exact src_rv (g.gl' hg) (g.bl _ (by decide)) (ih _ _ q) (star_cons hs)
                  · cases h
              · cases h
            · exact other h
    · exact other h
  · exact other h
end
end MP
set_option maxHeartbeats 2400000
/-! Ev14: an expression of the text does what its term tells: the whole. -/
namespace MP
open PySem PySem.Spec L2
theorem opt_bind {α β : Type} {o : Option α} {f : α → Option β} {b : β} (h : o.bind f = some b) : ∃ a, o = some a ∧ f a = some b := by
  cases o with
  | none => cases h
  | some a => exact ⟨a, rfl, h⟩
theorem opt_map {α β : Type} {o : Option α} {f : α → β} {b : β} (h : o.map f = some b) : ∃ a, o = some a ∧ f a = b := by
  cases o with
  | none => cases h
  | some a => exact ⟨a, rfl, Option.some.inj h⟩
theorem ite_some {α : Type} {p : Prop} [Decidable p] {o : Option α} {b : α} (h : (if p then o else none) = some b) : p ∧ o = some b := by
  split at h
  · exact ⟨by assumption, h⟩
  · cases h
section
variable {X : Cx} {P : Par} {C : CE} {c : CC}
theorem xe_dis {pos : Pos} : PE X (.Dict [] [] pos) (tE X.K P C (.dis [])) := pe_weak pe_dnewK fun σ H Q ⟨F, φ, st, δ, s, d, h⟩ => by
  simp only [evE, evKvs] at h
  exact fun p hp => h φ _ (Step.laid s hp) _ (RU.dict s hp .nil)
theorem cel_map {as : List Expr} {es : List E} (h : Paired (fun a e => PE X a (tE X.K P C e)) as es) : Paired (fun a e => PE X a (tE X.K P C e)) as (es.map (celIf c)) := by
  induction h with
  | nil => exact .nil
  | cons a r ih =>
    refine .cons ?_ ih
    unfold celIf
    split
    · exact xe_cel a
    · exact a
def StE (n : Nat) : Prop := ∀ (X : Cx) (P : Par) (C : CE) (c : CC), Good X P C c → ∀ e e', comp n c e = some e' → PE X e (tE X.K P C e') ∧ ∀ m, tstB m e = true → PT X e (tT X.K P C e')
theorem zip_call (g : Good X P C c) {x : Str} {a : Expr} {as : List Expr} {u v : Expr} {e f : E} {px p : Pos} (hz : zipArg c x a as = some (u, v)) (hg : glB c.sc x = true) (hu : PE X u (tE X.K P C e)) (hv : PE X v (tE X.K P C f)) :
    PE X (.Call (.Name x px) (a :: as) [] p) (tE X.K P C (.blt .lzip [e, f])) := by
  unfold zipArg at hz
  split at hz
  · rename_i z pz u' v' pz2
    split at hz
    · rename_i hh
      cases hz
      simp only [Bool.and_eq_true, decide_eq_true_eq] at hh
      obtain ⟨⟨⟨⟨h1, h2⟩, h3⟩, h4⟩, h5⟩ := hh
      subst h1 h2
      exact pe_weak (ZL.pe_listzip g.calm (g.gl' hg) (g.bl _ (by decide)) (g.gl' h3) (g.bl _ (by decide)) (xa_cons hu (xa_cons hv xa_nil (star_cons h5)) (star_cons h4)) (star_cons h4) (by rw [star_cons h5]; rfl)) fun _ _ _ h => ZL.ds_lzip h
    · cases hz
  · cases hz
theorem few_of {cpos : Pos} {es : List Expr} {en : PySem.Env} (hs : es.all noStar = true) (hn : es.length < 20) : ((backTo cpos (starEach es en)).all (fun x => !x.1) && (backToKw cpos (keywordEach [] en)).all (fun x => x.1.isSome)
      && decide (es.length + ([] : List Keyword).length + (if ([] : List Keyword).isEmpty then 0 else 1) < 30)) = true := by
  rw [star_all hs]
  have : es.length + 0 < 30 := by omega
  simpa [backToKw, keywordEach] using this
theorem comp_pe (n : Nat) (ih : StE n) (g : Good X P C c) (e : Expr) (e' : E) (h : comp (n + 1) c e = some e') : PE X e (tE X.K P C e') := by
  have ihe : ∀ a x, comp n c a = some x → PE X a (tE X.K P C x) := fun a x q => (ih X P C c g a x q).1
  have iht : ∀ m a x, tstB m a = true → comp n c a = some x → PT X a (tT X.K P C x) := fun m a x t q => (ih X P C c g a x q).2 m t
  unfold comp at h
  split at h
  case h_1 x p =>
    split at h
    · cases h
    · rename_i hd
      have hd1 : ¬ x = "__debug__" := fun z => hd (.inl z)
      have hd2 : ¬ x = "__classdict__" := fun z => hd (.inr z)
      split at h
      · rename_i i hi
        split at h
        · rename_i hv
          cases h
          have hi := slotOf_ok hi
          rw [← g.hN] at hi
          have hv := visB_ok hv
          rw [← g.sc] at hv
          exact xe_var (pe_var hi hv (not_debug hd1) (by simpa using hd2))
        · exact xe_glob g (not_debug hd1) h
      · exact xe_glob g (not_debug hd1) h
  case h_2 k k2 p =>
    cases k with
    | int i => cases h; exact xe_cst pe_int fun _ _ => Den.int i
    | str x => cases h; exact xe_cst pe_str fun _ _ => Den.str x
    | bool b => cases h; exact xe_cst pe_bl fun _ _ => Den.bl b
    | none => cases h; exact xe_cst pe_non fun _ _ => Den.non
    | _ => cases h
  case h_3 a op b p =>
    replace h := ite_some h; obtain ⟨ho, h⟩ := h
    obtain ⟨x, hx, h⟩ := opt_bind h
    obtain ⟨y, hy, h⟩ := opt_map h
    subst h
    exact xe_bin (op_ok g ho) (ihe _ _ hx) (ihe _ _ hy)
  case h_4 a p =>
    obtain ⟨x, hx, h⟩ := opt_map h
    subst h
    exact xe_nt (ihe _ _ hx)
  case h_5 a p =>
    obtain ⟨x, hx, h⟩ := opt_map h
    subst h
    exact xe_neg (ihe _ _ hx)
  case h_6 op vs p =>
    obtain ⟨es, hx, h⟩ := opt_bind h
    exact bool_pe (paired_comp hx fun a e _ q => ihe a e q) h
  case h_7 t a b p =>
    replace h := ite_some h; obtain ⟨ht, h⟩ := h
    obtain ⟨w, hw, h⟩ := opt_bind h
    obtain ⟨x, hx, h⟩ := opt_bind h
    obtain ⟨y, hy, h⟩ := opt_map h
    subst h
    exact xe_ife (iht _ _ _ ht hw) (ihe _ _ hx) (ihe _ _ hy)
  case h_8 a op b p =>
    split at h
    · cases h
    · rename_i hm
      obtain ⟨x, hx, h⟩ := opt_bind h
      obtain ⟨y, hy, h⟩ := opt_map h
      subst h
      exact xe_cmp (cmp_ok g op) (ihe _ _ hx) (ihe _ _ hy) (by simpa using hm)
  case h_9 a o1 o2 b d p =>
    split at h
    · cases h
    · rename_i hm
      obtain ⟨x, hx, h⟩ := opt_bind h
      obtain ⟨y, hy, h⟩ := opt_bind h
      obtain ⟨z, hz, h⟩ := opt_map h
      subst h
      exact xe_cmp2 (cmp_ok g o1) (cmp_ok g o2) (ihe _ _ hx) (ihe _ _ hy) (ihe _ _ hz) (by simpa using hm)
  case h_10 es k p =>
    replace h := ite_some h; obtain ⟨hs, h⟩ := h
    obtain ⟨x, hx, h⟩ := opt_map h
    subst h
    exact xe_tup (xa_list hs (paired_comp hx fun a e _ q => ihe a e q))
  case h_11 es p =>
    replace h := ite_some h; obtain ⟨hs, h⟩ := h
    obtain ⟨x, hx, h⟩ := opt_map h
    subst h
    exact xe_lst (xa_list hs (cel_map (paired_comp hx fun a e _ q => ihe a e q)))
  case h_12 a lo hi p2 p =>
    obtain ⟨x, hx, h⟩ := opt_bind h
    obtain ⟨l, hl, h⟩ := opt_bind h
    obtain ⟨r, hr, h⟩ := opt_map h
    subst h
    refine xe_sl (ihe _ _ hx) ?_ ?_
    · cases lo with
      | none => cases hl; exact xo_none
      | some l => obtain ⟨y, hy, h⟩ := opt_map hl; subst h; exact xo_some (ihe _ _ hy)
    · cases hi with
      | none => cases hr; exact xo_none
      | some l => obtain ⟨y, hy, h⟩ := opt_map hr; subst h; exact xo_some (ihe _ _ hy)
  case h_13 a k p1 p2 p3 p =>
    obtain ⟨x, hx, h⟩ := opt_map h
    subst h
    exact pe_weak (pe_revL (ihe _ _ hx)) fun _ _ _ h => ds_rev h
  case h_14 a b p _ =>
    replace h := ite_some h; obtain ⟨hs, h⟩ := h
    obtain ⟨x, hx, h⟩ := opt_bind h
    obtain ⟨y, hy, h⟩ := opt_map h
    subst h
    have hu := g.units
    exact xe_ix (by omega) (ihe _ _ hx) (ihe _ _ hy) (plain_ix hs)
  case h_15 x px a as p =>
    replace h := ite_some h; obtain ⟨hh, h⟩ := h
    rw [Bool.and_eq_true, Bool.and_eq_true] at hh
    obtain ⟨⟨hg, hs⟩, hd⟩ := hh
    have hd : ¬ x = "__debug__" := by simpa using hd
    have hs' := hs
    rw [List.all_cons, Bool.and_eq_true] at hs'
    split at h
    · subst x
      split at h
      · rename_i y py
        replace h := ite_some h; obtain ⟨hgy, h⟩ := h
        obtain ⟨t, ht, h⟩ := opt_bind h
        obtain ⟨e, he, h⟩ := opt_map h
        subst h
        exact xe_isi (g.gl' hg) (g.bl _ (by decide)) (by decide +kernel) (ihe _ _ he) (ty_name g hgy ht) (star_cons hs'.1) rfl (star_no hs'.2)
      · rename_i ys k p2
        obtain ⟨ts, hts, h⟩ := opt_bind h
        split at h
        · cases h
        · rename_i t ts
          replace h := ite_some h; obtain ⟨hl, h⟩ := h
          obtain ⟨e, he, h⟩ := opt_map h
          subst h
          exact xe_isiT (g.gl' hg) (g.bl _ (by decide)) (by decide +kernel) (ihe _ _ he) (tys_names g hts) (Nat.le_trans hl (by decide)) (star_cons hs'.1) (star_no hs'.2)
      · cases h
    split at h
    · rename_i u v hz
      obtain ⟨e1, h1, h⟩ := opt_bind h
      obtain ⟨e2, h2, h⟩ := opt_map h
      subst h
      exact zip_call g hz hg (ihe _ _ h1) (ihe _ _ h2)
    · split at h
      · rename_i b hb
        obtain ⟨es, hes, h⟩ := opt_map h
        subst h
        exact blt_call g hb hg hs (xa_list hs (paired_comp hes fun a e _ q => ihe a e q))
      · obtain ⟨q, hq, h⟩ := opt_bind h
        obtain ⟨es, hes, h⟩ := opt_map h
        subst h
        obtain ⟨m, hm⟩ := fnAt_ok hq
        obtain ⟨k, hr, hk⟩ := g.k
        obtain ⟨f, fd, ps, dvs, ds, np, e1, e2, e3, e4, e5, e6, e7⟩ := hk _ _ _ _ hm
        exact xe_call g.xa e3 hr (g.gl' hg) e1 e2 e4 e5 g.px e6 e7 (xa_list hs (paired_comp hes fun a e _ q => ihe a e q)) (not_debug hd) (star_cons hs'.1) (star_no hs'.2)
  case h_16 o name apos a as cpos =>
    replace h := ite_some h; obtain ⟨hh, h⟩ := h
    simp only [Bool.and_eq_true, decide_eq_true_eq] at hh
    obtain ⟨⟨⟨hc, hs⟩, hl⟩, hn⟩ := hh
    have hs' := hs
    rw [List.all_cons, Bool.and_eq_true] at hs'
    split at h
    · subst name
      split at h
      · obtain ⟨x, hx, h⟩ := opt_bind h
        obtain ⟨k, hk, h⟩ := opt_map h
        subst h
        exact pe_weak (pe_dget1 (by have := g.units; omega) (ihe _ _ hx) (ihe _ _ hk) ⟨att_base hc, few_of hs (by simp), hl, by rw [star_cons hs'.1]; rfl⟩) fun _ _ _ h => ds_get1 h
      · rename_i b
        have hb := hs'.2
        rw [List.all_cons, Bool.and_eq_true] at hb
        obtain ⟨x, hx, h⟩ := opt_bind h
        obtain ⟨k, hk, h⟩ := opt_bind h
        obtain ⟨z, hz, h⟩ := opt_map h
        subst h
        exact pe_weak (pe_dget2 (by have := g.units; omega) (ihe _ _ hx) (ihe _ _ hk) (ihe _ _ hz) ⟨att_base hc, few_of hs (by simp), hl, by rw [star_cons hs'.1, star_cons hb.1]; rfl⟩) fun _ _ _ h => ds_get2 h
      · cases h
    split at h
    · subst name
      split at h
      · rename_i b
        have hb := hs'.2
        rw [List.all_cons, Bool.and_eq_true] at hb
        obtain ⟨x, hx, h⟩ := opt_bind h
        obtain ⟨k, hk, h⟩ := opt_bind h
        obtain ⟨z, hz, h⟩ := opt_map h
        subst h
        exact pe_weak (pe_dsetd (ihe _ _ hx) (ihe _ _ hk) (ihe _ _ hz) ⟨att_base hc, few_of hs (by simp), hl, by rw [star_cons hs'.1, star_cons hb.1]; rfl⟩) fun _ _ _ h => ds_setd h
      · cases h
    obtain ⟨m, hm, h⟩ := opt_bind h
    obtain ⟨x, hx, h⟩ := opt_bind h
    obtain ⟨es, hes, h⟩ := opt_map h
    subst h
    have ha := xa_list hs (cel_map (c := c) (paired_comp hes fun a e _ q => ihe a e q))
    have hfew : ((backTo cpos (starEach (a :: as) X.env)).all (fun x => !x.1) && (backToKw cpos (keywordEach [] X.env)).all (fun x => x.1.isSome)
      && decide ((a :: as).length + ([] : List Keyword).length + (if ([] : List Keyword).isEmpty then 0 else 1) < 30)) = true := by
      rw [star_all hs]
      have : (a :: as).length + 0 < 30 := by omega
      simpa [backToKw, keywordEach] using this
    unfold mthB at hm
    split at hm
    · subst name; cases hm
      exact pe_weak (pe_bm PySem.F.plainAttrs_list PySem.F.slot_list_append PySem.F.type_list_append mm_append (ihe _ _ hx) ha (att_base hc) hfew hl (star_cons hs'.1) (star_no hs'.2)) fun _ _ _ h => ds_mth ty_list_app h
    · split at hm
      · subst name; cases hm
        exact pe_weak (pe_bm PySem.F.plainAttrs_str PySem.F.slot_str_join PySem.F.type_str_join mm_join (ihe _ _ hx) ha (att_base hc) hfew hl (star_cons hs'.1) (star_no hs'.2)) fun _ _ _ h => ds_mth ty_str_join h
      · split at hm
        · subst name; cases hm
          exact pe_weak (pe_bm PySem.F.plainAttrs_str PySem.F.slot_str_replace PySem.F.type_str_replace mm_replace (ihe _ _ hx) ha (att_base hc) hfew hl (star_cons hs'.1) (star_no hs'.2)) fun _ _ _ h => ds_mth ty_str_replace h
        · split at hm
          · subst name; cases hm
            exact pe_weak (pe_bm PySem.F.plainAttrs_str PySem.F.slot_str_split PySem.F.type_str_split mm_split (ihe _ _ hx) ha (att_base hc) hfew hl (star_cons hs'.1) (star_no hs'.2)) fun _ _ _ h => ds_mth ty_str_split h
          · split at hm
            · subst name; cases hm
              exact pe_weak (pe_bm PySem.F.plainAttrs_list PySem.F.slot_list_pop PySem.F.type_list_pop mm_pop (ihe _ _ hx) ha (att_base hc) hfew hl (star_cons hs'.1) (star_no hs'.2)) fun _ _ _ h => ds_mth ty_list_pop h
            · cases hm
  case h_17 o name apos cpos =>
    replace h := ite_some h; obtain ⟨hh, h⟩ := h
    simp only [Bool.and_eq_true, decide_eq_true_eq] at hh
    obtain ⟨⟨hc, hl⟩, hn⟩ := hh
    subst hn
    obtain ⟨x, hx, h⟩ := opt_map h
    subst h
    exact pe_weak (pe_bm0 PySem.F.plainAttrs_list PySem.F.slot_list_pop PySem.F.type_list_pop mm_pop (ihe _ _ hx) (att_base hc) hl) fun _ _ _ h => ds_mth0 ty_list_pop h
  case h_18 elt tg it ifs scope p =>
    replace h := ite_some h; obtain ⟨hit, h⟩ := h
    replace h := ite_some h; obtain ⟨hb, h⟩ := h
    obtain ⟨t, ht, h⟩ := opt_bind h
    replace h := ite_some h; obtain ⟨hsl, h⟩ := h
    obtain ⟨s, hs, h⟩ := opt_bind h
    obtain ⟨cs, hcs, h⟩ := opt_bind h
    obtain ⟨x, hx, h⟩ := opt_map h
    subst h
    have ok : BlkOk X.N X.env.scope scope (ownL c.N scope.names) := by rw [g.hN, g.sc]; exact blkOk_by hb
    refine pe_weak (pe_lc g.calm g.nd (src_ok g ihe hs) ok (fun s H D cl fp => compT_ok (g.blk scope s H D cl fp) ht) (fun s H D cl fp => ?_) (fun s H D cl fp => (ih _ _ C _ (g.blk scope s H D cl fp) elt x hx).1) (fold_set hit)) fun σ H Q h => ds_lc (P0 := ⟨P.XR, fun _ _ _ _ => False⟩) (fun i hi => by simpa using List.all_eq_true.mp hsl i hi) h
    split at hcs
    · cases hcs; exact xc_nil
    · replace hcs := ite_some hcs; obtain ⟨hti, hcs⟩ := hcs
      obtain ⟨y, hy, hcs⟩ := opt_map hcs
      subst hcs
      exact xc_one ((ih _ _ C _ (g.blk scope s H D cl fp) _ y hy).2 _ hti)
    · cases hcs
  case h_19 kx vx tg it ifs scope p =>
    replace h := ite_some h; obtain ⟨hit, h⟩ := h
    replace h := ite_some h; obtain ⟨hb, h⟩ := h
    obtain ⟨t, ht, h⟩ := opt_bind h
    replace h := ite_some h; obtain ⟨hsl, h⟩ := h
    obtain ⟨s, hs, h⟩ := opt_bind h
    obtain ⟨cs, hcs, h⟩ := opt_bind h
    obtain ⟨k, hk, h⟩ := opt_bind h
    obtain ⟨x, hx, h⟩ := opt_map h
    subst h
    have ok : BlkOk X.N X.env.scope scope (ownL c.N scope.names) := by rw [g.hN, g.sc]; exact blkOk_by hb
    refine pe_weak (pe_dc g.calm g.nd (src_ok g ihe hs) ok (fun s H D cl fp => compT_ok (g.blk scope s H D cl fp) ht) (fun s H D cl fp => ?_) (fun s H D cl fp => (ih _ _ C _ (g.blk scope s H D cl fp) kx k hk).1) (fun s H D cl fp => (ih _ _ C _ (g.blk scope s H D cl fp) vx x hx).1) (fold_set hit)) fun σ H Q h => ds_dc (P0 := ⟨P.XR, fun _ _ _ _ => False⟩) (fun i hi => by simpa using List.all_eq_true.mp hsl i hi) h
    split at hcs
    · cases hcs; exact xc_nil
    · replace hcs := ite_some hcs; obtain ⟨hti, hcs⟩ := hcs
      obtain ⟨y, hy, hcs⟩ := opt_map hcs
      subst hcs
      exact xc_one ((ih _ _ C _ (g.blk scope s H D cl fp) _ y hy).2 _ hti)
    · cases hcs
  case h_20 p => cases h; exact xe_dis
  case h_21 => cases h
theorem comp_pt (n : Nat) (ih : StE n) (g : Good X P C c) (m : Nat) (e : Expr) (e' : E) (ht : tstB m e = true) (h : comp (n + 1) c e = some e') : PT X e (tT X.K P C e') := by
  have iht : ∀ m a x, tstB m a = true → comp n c a = some x → PT X a (tT X.K P C x) := fun m a x t q => (ih X P C c g a x q).2 m t
  have ihe : ∀ a x, comp n c a = some x → PE X a (tE X.K P C x) := fun a x q => (ih X P C c g a x q).1
  have pe := comp_pe n ih g e e' h
  cases m with
  | zero => simp [tstB] at ht
  | succ m =>
    cases e with
    | UnaryOp op a p =>
      cases op with
      | Not =>
        simp only [tstB] at ht
        simp only [comp] at h
        replace h := opt_map h; obtain ⟨x, hx, h⟩ := h
        subst h
        exact xt_not (iht m a x ht hx)
      | _ => exact xt_val pe fun w => isTrue_any (fun _ _ z => by cases z) (fun _ _ _ z => by cases z) (fun _ _ _ _ z => by cases z) (fun _ _ _ _ z => by cases z) w
    | BoolOp op vs p =>
      simp only [tstB] at ht
      simp only [comp] at h
      replace h := opt_bind h; obtain ⟨es, hx, h⟩ := h
      exact (bool_pw (paired_comp hx fun a x ha q => iht m a x (List.all_eq_true.mp ht a ha) q) h).pt
    | IfExp _ _ _ _ => simp [tstB] at ht
    | Compare a ops cs p =>
      match ops, cs, ht, h with
      | [op], [b], ht, h =>
        simp only [comp] at h
        split at h
        · cases h
        · rename_i hm
          replace h := opt_bind h; obtain ⟨x, hx, h⟩ := h
          replace h := opt_map h; obtain ⟨y, hy, h⟩ := h
          subst h
          exact xt_cmp (cmp_ok g op) (ihe _ _ hx) (ihe _ _ hy) (by simpa using hm)
      | [op], [], ht, h => simp [comp] at h
      | [op], _ :: _ :: _, ht, h => simp [comp] at h
      | [], _, ht, h => simp [tstB] at ht
      | _ :: _ :: _, _, ht, h => simp [tstB] at ht
    | _ => exact xt_val pe fun w => isTrue_any (fun _ _ z => by cases z) (fun _ _ _ z => by cases z) (fun _ _ _ _ z => by cases z) (fun _ _ _ _ z => by cases z) w
end
theorem comp_st : ∀ n, StE n
  | 0 => fun X P C c g e e' h => by simp [comp] at h
  | n + 1 => fun X P C c g e e' h => ⟨comp_pe n (comp_st n) g e e' h, fun m ht => comp_pt n (comp_st n) g m e e' ht h⟩
end MP
set_option maxHeartbeats 2400000
/-! EvY: except suites of the text. -/
namespace MP
open PySem PySem.Spec L2 MX
/-- an expression in a suite, where y names the exception -/
def compX : Nat → CC → Option Str → Expr → Option E
  | 0, _, _, _ => none
  | n + 1, c, y, e => match e with
    | .Attribute (.Name z _) f _ => if some z = y ∧ ¬ z = "__debug__" ∧ ¬ z = "__classdict__" then (if f = "place" then some (.var (c.N.length + 0)) else if f = "name" then some (.var (c.N.length + 1)) else none) else none
    | .Name x _ => if x = "__debug__" ∨ x = "__classdict__" ∨ some x = y then none else match slotOf c.N x with
      | some i => if visB c.sc x then some (.var i) else none
      | none => none
    | .Constant k _ _ => (cstOf k).map .cst
    | .Tuple es _ _ => if es.all noStar then (mapO (compX n c y) es).map .tup else none
    | .Subscript a b _ => if noSlice b then (compX n c y a).bind fun x => (compX n c y b).map fun z => .ix x z else none
    | _ => none
/-- a suite of one statement -/
def compSX (c : CC) (y : Option Str) : Stmt → Option S
  | .Return none _ => some (.ret none)
  | .Return (some a) _ => (compX 20 c y a).map fun e => .ret (some e)
  | .Break _ => some .brk
  | .Continue _ => some .cnt
  | .Pass _ => some .pss
  | .Expr (.Call (.Attribute o name apos) [a] [] cpos) _ => if name = "append" ∧ noCall o = true ∧ noStar a = true ∧ (apos.endLine == cpos.line) = true then (compX 20 c y o).bind fun x => (compX 20 c y a).map fun e => .ex (.mth .append x [e]) else none
  | .If (.Call (.Name f _) [.Name z _, .Name t _] [] _) [st] [] _ => if f = "isinstance" ∧ t = "ValueError" ∧ some z = y ∧ glB c.sc "isinstance" = true ∧ glB c.sc "ValueError" = true ∧ ¬ z = "__debug__" ∧ ¬ z = "__classdict__" then (compSX c y st).map fun s => .iff (.cst (.bool true)) [s] [] else none
  | _ => none
def compNm (c : CC) : Option Str → Option (Option Nat)
  | none => some none
  | some y => if c.sc.names.lookup y = some .local then (slotOf c.N y).map some else none
def compH (c : CC) : ExceptHandler → Option (Nat × Option Nat × List S)
  | .ExceptHandler (some (.Name x _)) n [st] _ => if glB c.sc x && !decide (x = "__debug__") then (slotOf c.xs x).bind fun k => (compNm c n).bind fun i => (compSX c n st).map fun s => (k, i, [s]) else none
  | _ => none
/-- a try's body of one statement -/
def compTB (c : CC) : Stmt → Option S
  | .Return (some a) _ => (comp 60 c a).map fun e => .ret (some e)
  | .Expr (.Constant _ _ _) _ => none
  | .Expr a _ => if noComp a then (comp 60 c a).map .ex else none
  | .Assign [.Name y _] a _ => if locB c y && noComp a then (slotOf c.N y).bind fun i => (comp 60 c a).map fun e => .asg (decide (y ∈ c.own)) i e else none
  | _ => none
section
variable {X : Cx} {P : Par} {C : CE} {c : CC}
theorem compTB_ok (g : Good X P C c) {b : Stmt} {s : S} (h : compTB c b = some s) (W : WX) (pn : List (Addr × Obj)) (xe : Value → Shared → Prop) (tk : Takes (X.tr pn xe) W) : PS (X.tr pn xe) b (tS X.K ⟨P.XR, W⟩ C s) := by
  have gt := g.tr tk
  have ihe : ∀ a x, comp 60 c a = some x → PE (X.tr pn xe) a (tE X.K ⟨P.XR, W⟩ C x) := fun a x q => (comp_st 60 _ _ C c gt a x q).1
  unfold compTB at h
  split at h
  · obtain ⟨e, he, rfl⟩ := opt_map h
    exact ps_weak (ps_ret (ihe _ _ he)) fun D σ H h => ds_ret (X := X.tr pn xe) h
  · cases h
  · replace h := ite_some h; obtain ⟨hc, h⟩ := h
    obtain ⟨e, he, rfl⟩ := opt_map h
    exact ps_weak (ps_expr (ihe _ _ he) (swaps_no hc)) fun D σ H h => ds_ex (X := X.tr pn xe) h
  · rename_i y py a pos
    replace h := ite_some h; obtain ⟨hc, h⟩ := h
    rw [Bool.and_eq_true] at hc
    obtain ⟨i, hi, h⟩ := opt_bind h
    obtain ⟨e, he, rfl⟩ := opt_map h
    have l : X.env.scope.names.lookup y = some .local ∨ (X.env.scope.names.lookup y = some .cell ∧ X.fn y = true) := by rw [g.sc]; exact (locB_ok hc.1).imp id fun z => ⟨z.1, g.fn _ z.2⟩
    exact xs_asg (X := X.tr pn xe) g.nd (by show X.N[i]? = _; rw [g.hN]; exact slotOf_ok hi) l (ihe _ _ he) (swaps_no hc.2)
  · cases h
/-- what a suite's context is -/
structure InX (X : Cx) (c : CC) (y : Option Str) (g : Gx) (cls : Value) (d : Option Addr) (oe : Obj) : Prop where
  hN : X.N = c.N
  sc : X.env.scope = c.sc
  un : X.A.units + 1 < cLine
  hc : cls = .ref g.C
  hd : d = some g.d
  hn : g.n = X.N.length
  xd : XdOk 3 g.v g.nm g.fs
  xf : XfC X.K g.C
  na : noAt X.K g.C
  hz : Zc cls d oe
  hf : ∃ vs, oe.data = .fields vs
  ic : ExcC X.K g.C
  ik : PySem.W.kitOne X.K (.ref g.C) (.type "ValueError") = some true
  m1 : X.mg "isinstance" = none
  m2 : X.mg "ValueError" = none
  nm : ∀ z, y = some z → ∃ i, g.i = some i ∧ X.N[i]? = some z ∧ X.env.scope.names.lookup z = some .local
theorem compX_ok {y : Option Str} {g : Gx} {cls : Value} {d : Option Addr} {oe : Obj} (T : InX X c y g cls d oe) (pn : List (Addr × Obj)) : ∀ (n : Nat) (e : Expr) (x : E), compX n c y e = some x → PE (X.suite g.a ((g.a, oe) :: pn)) e (tEX X.K C g x)
  | 0, e, x, h => by simp [compX] at h
  | n + 1, e, x, h => by
    unfold compX at h
    split at h
    · rename_i z pz f pf
      replace h := ite_some h; obtain ⟨⟨hz, h1, h2⟩, h⟩ := h
      obtain ⟨i, e1, e2, e3⟩ := T.nm z hz.symm
      have hgn : g.n = c.N.length := by rw [T.hn, T.hN]
      rw [← hgn] at h
      have hv : PE (X.suite g.a ((g.a, oe) :: pn)) (.Name z pz) (tVar i) := pe_var e2 (.inl e3) (not_debug h1) (by simpa using h2)
      split at h
      · cases h; subst f
        exact xx_at (X := X.suite g.a ((g.a, oe) :: pn)) (j := 0) (pe_xf T.xf T.na.1 T.hz T.hf hv rfl) T.hc T.hd e1 T.xd.pl rfl
      · split at h
        · cases h; subst f
          exact xx_at (X := X.suite g.a ((g.a, oe) :: pn)) (j := 1) (pe_xf T.xf T.na.2 T.hz T.hf hv rfl) T.hc T.hd e1 T.xd.nm rfl
        · cases h
    · rename_i z pz
      split at h
      · cases h
      · rename_i hd
        have hd1 : ¬ z = "__debug__" := fun q => hd (.inl q)
        have hd2 : ¬ z = "__classdict__" := fun q => hd (.inr (.inl q))
        split at h
        · rename_i i hi
          replace h := ite_some h; obtain ⟨hv, h⟩ := h
          cases h
          have hi := slotOf_ok hi
          rw [← T.hN] at hi
          have hv := visB_ok hv
          rw [← T.sc] at hv
          exact xx_var (X := X.suite g.a ((g.a, oe) :: pn)) (pe_var hi hv (not_debug hd1) (by simpa using hd2)) (by rw [T.hn]; exact (List.getElem?_eq_some_iff.mp hi).1)
        · cases h
    · rename_i k k2 p
      cases k with
      | int i => cases h; exact xx_cst (X := X.suite g.a ((g.a, oe) :: pn)) pe_int fun _ _ => Den.int i
      | str x => cases h; exact xx_cst (X := X.suite g.a ((g.a, oe) :: pn)) pe_str fun _ _ => Den.str x
      | bool b => cases h; exact xx_cst (X := X.suite g.a ((g.a, oe) :: pn)) pe_bl fun _ _ => Den.bl b
      | none => cases h; exact xx_cst (X := X.suite g.a ((g.a, oe) :: pn)) pe_non fun _ _ => Den.non
      | _ => cases h
    · rename_i es k p
      replace h := ite_some h; obtain ⟨hs, h⟩ := h
      obtain ⟨xs, hx, rfl⟩ := opt_map h
      have hp := mapO_paired hx
      refine xx_tup (X := X.suite g.a ((g.a, oe) :: pn)) ?_
      clear hx h
      induction hp with
      | nil => exact xxs_nil
      | cons a r ih =>
        rw [List.all_cons, Bool.and_eq_true] at hs
        exact xxs_cons (compX_ok T pn n _ _ a) (ih hs.2) (star_cons hs.1)
    · rename_i a b p
      replace h := ite_some h; obtain ⟨hs, h⟩ := h
      obtain ⟨x, hx, h⟩ := opt_bind h
      obtain ⟨z, hz, rfl⟩ := opt_map h
      exact xx_ix (X := X.suite g.a ((g.a, oe) :: pn)) T.un (compX_ok T pn n _ _ hx) (compX_ok T pn n _ _ hz) (plain_ix hs)
    · cases h
theorem compSX_ok {y : Option Str} {g : Gx} {cls : Value} {d : Option Addr} {oe : Obj} (T : InX X c y g cls d oe) (pn : List (Addr × Obj)) (st : Stmt) (s : S) (h : compSX c y st = some s) : PS (X.suite g.a ((g.a, oe) :: pn)) st (tSX X.K C g s) := by
  unfold compSX at h
  split at h
  · cases h; exact xsx_retN (X := X.suite g.a ((g.a, oe) :: pn))
  · obtain ⟨e, he, rfl⟩ := opt_map h
    exact xsx_ret (X := X.suite g.a ((g.a, oe) :: pn)) (compX_ok T pn _ _ _ he)
  · cases h; exact xsx_brk (X := X.suite g.a ((g.a, oe) :: pn))
  · cases h; exact xsx_cnt (X := X.suite g.a ((g.a, oe) :: pn))
  · cases h; exact xsx_pss (X := X.suite g.a ((g.a, oe) :: pn))
  · rename_i o name apos a cpos p
    replace h := ite_some h; obtain ⟨⟨h1, h2, h3, h4⟩, h⟩ := h
    subst name
    obtain ⟨x, hx, h⟩ := opt_bind h
    obtain ⟨e, he, rfl⟩ := opt_map h
    refine xsx_ex (X := X.suite g.a ((g.a, oe) :: pn)) ?_ rfl
    refine pe_weak (pe_bm PySem.F.plainAttrs_list PySem.F.slot_list_append PySem.F.type_list_append mm_append (compX_ok T pn _ _ _ hx) (xxs_cons (compX_ok T pn _ _ _ he) xxs_nil (star_cons h3)) (att_base h2) ?_ h4 (star_cons h3) (star_no (as := []) rfl)) fun _ _ _ h => dsx_mth (X := X.suite g.a ((g.a, oe) :: pn)) ty_list_app h
    have hall := star_all (as := [a]) (en := (X.suite g.a ((g.a, oe) :: pn)).env) (pos := cpos) (by simp [h3])
    rw [hall]
    rfl
  · rename_i f p0 z p1 t p2 p3 st p4
    replace h := ite_some h; obtain ⟨⟨h1, h2, h3, h4, h5, h6, h7⟩, h⟩ := h
    subst f t
    obtain ⟨s, hs, rfl⟩ := opt_map h
    obtain ⟨i, e1, e2, e3⟩ := T.nm z h3.symm
    have gl : ∀ {x : Str}, glB c.sc x = true → Gl X x := fun {x} q => by
      unfold Gl
      show X.env.scope.names.lookup x = _
      rw [T.sc]
      simpa [glB] using q
    exact xsx_is T.ic T.ik T.hc T.hd e1 T.hz T.hf (gl h4) (gl h5) T.m1 T.m2 e2 (.inl e3) (not_debug h6) (by simpa using h7) (compSX_ok T pn st s hs)
  · cases h
theorem compH_ok (g : Good X P C c) {xa : List (Str × Addr)} (xo : XaOk X.prog X.w X.K X.mg X.base xa) (hxs : c.xs = xa.map (·.1)) : ∀ {hds : List ExceptHandler} {l : List (Nat × Option Nat × List S)}, Paired (fun a b => compH c a = some b) hds l → HsOk X C xa hds l
  | [], _, .nil => .nil
  | h :: hds, _, .cons (b := b) q r => by
    have ih := compH_ok g xo hxs r
    unfold compH at q
    split at q
    · rename_i x np n st pp
      replace q := ite_some q; obtain ⟨hg, q⟩ := q
      rw [Bool.and_eq_true] at hg
      obtain ⟨k, hk, q⟩ := opt_bind q
      obtain ⟨i, hi, q⟩ := opt_bind q
      obtain ⟨s, hs, rfl⟩ := opt_map q
      have hk := slotOf_ok hk
      rw [hxs, List.getElem?_map] at hk
      cases q2 : xa[k]? with
      | none => rw [q2] at hk; cases hk
      | some pA =>
        obtain ⟨nm, A⟩ := pA
        rw [q2] at hk
        cases hk
        have hnm : NmOk X n i ∧ (∀ j, i = some j → j < X.N.length) ∧ ∀ z, n = some z → ∃ j, i = some j ∧ X.N[j]? = some z ∧ X.env.scope.names.lookup z = some .local := by
          unfold compNm at hi
          cases n with
          | none => cases hi; exact ⟨trivial, ⟨(fun j e => nomatch e), (fun z e => nomatch e)⟩⟩
          | some y =>
            replace hi := ite_some hi; obtain ⟨hl, hi⟩ := hi
            obtain ⟨j, hj, rfl⟩ := opt_map hi
            have hj := slotOf_ok hj
            rw [← g.hN] at hj
            rw [← g.sc] at hl
            exact ⟨⟨hj, hl⟩, ⟨fun j' e => by cases e; exact (List.getElem?_eq_some_iff.mp hj).1, fun z e => by cases e; exact ⟨j, rfl, hj, hl⟩⟩⟩
        refine .cons q2 ⟨g.gl' hg.1, not_debug (by simpa using hg.2), .inl (xo.at_ _ _ _ q2)⟩ hnm.1 hnm.2.1 (fun gx oe cls d pn e1 e2 e3 e4 xd hA hz hf => ?_) ih
        obtain ⟨c0, nm0, hA⟩ := hA
        obtain ⟨n0, _, xk⟩ := xo.ok _ _ _ hA
        have hu := g.units
        refine xsx_one (X := X.suite gx.a ((gx.a, oe) :: pn)) (compSX_ok (y := n) ⟨g.hN, g.sc, by omega, e1, e2, e4, xd, xk.xf, xk.na, hz, hf, (xo.ic _ _ _ hA).1, (xo.ic _ _ _ hA).2, g.bl _ (by decide), xo.ve, fun z hz => ?_⟩ pn _ _ hs)
        obtain ⟨j, f1, f2, f3⟩ := hnm.2.2 z hz
        exact ⟨j, by rw [e3, f1], f2, f3⟩
    · cases q
end
end MP
set_option maxHeartbeats 2400000
/-! Ev15: statements of the text. -/
namespace MP
open PySem PySem.Spec L2
def fuelE : Nat := 60
def swapB (c : CC) (x y : Str) (px py : Pos) (a b : Expr) : Bool :=
  decide (c.sc.names.lookup x = some .local) && decide (c.sc.names.lookup y = some .local) && !decide (x = y) && (py.line == px.line) && noStar a && noStar b && !([a, b].all (foldedForSure 8)) && !([a, b].all (constantsAlone 8))
def lcSwap (c : CC) (y : Str) (py : Pos) : Expr → Bool
  | .ListComp _ [⟨_, _, _, 0⟩] scope p => decide (c.sc.names.lookup y = some .local) && (py.line == p.line) && !(scope.names.any fun (n, k) => n == y && (k == .local || k == .cell))
  | .DictComp _ _ [⟨_, _, _, 0⟩] scope p => decide (c.sc.names.lookup y = some .local) && (py.line == p.line) && !(scope.names.any fun (n, k) => n == y && (k == .local || k == .cell))
  | _ => false
def kfun (sc : Scope) : Bool := match sc.kind with
  | .function => true
  | _ => false
def compS : Nat → CC → Stmt → Option S
  | 0, _, _ => none
  | n + 1, c, s => match s with
    | .Assign [.Name y py] a pos => if locB c y then (slotOf c.N y).bind fun i => (comp fuelE c a).bind fun e =>
        if noComp a then some (.asg (decide (y ∈ c.own)) i e) else if lcSwap c y py a then some (.asg (decide (y ∈ c.own)) i e) else if decide (c.sc.names.lookup y = some .cell) = true then some (.asg (decide (y ∈ c.own)) i e) else none
      else none
    | .Assign [.Tuple [.Name x px, .Name y py] _ _] (.Tuple [a, b] _ _) _ => if swapB c x y px py a b then (slotOf c.N x).bind fun i => (slotOf c.N y).bind fun j => if i = j then none else (comp fuelE c a).bind fun e => (comp fuelE c b).map fun f => .par i j (celOwn c x e) (celOwn c y f)
      else if [a, b].all (foldedForSure 8) && noStar a && noStar b && decide (c.sc.names.lookup x = some .local) && decide (c.sc.names.lookup y = some .local) && !decide (x = y) && (py.line == px.line) then
        (slotOf c.N x).bind fun i => (slotOf c.N y).bind fun j => (comp fuelE c a).bind fun e => (comp fuelE c b).map fun f => .unp [.nm i, .nm j] (.tup [e, f])
      else none
    | .Assign [.Tuple ts _ _] a _ => if !isTup a && noComp a then (compTs c ts).bind fun ts => (comp fuelE c a).map fun e => .unp ts e else none
    | .Assign [.Subscript o i _] a _ => if noComp a then (comp fuelE c o).bind fun x => (comp fuelE c i).bind fun y => (comp fuelE c a).map fun e => .setI x y e else none
    | .AugAssign (.Name x _) .Add a _ => if locB c x then (slotOf c.N x).bind fun i => (comp fuelE c a).map fun e => .aug i .Add e else none
    | .AugAssign (.Name x _) .Sub a _ => if locB c x then (slotOf c.N x).bind fun i => (comp fuelE c a).map fun e => .aug i .Sub e else none
    | .Expr (.Constant (.str _) _ _) _ => some .pss
    | .Expr a _ => if noComp a then (comp fuelE c a).map .ex else none
    | .If t a b _ => if tstB fuelE t then (comp fuelE c t).bind fun e => (mapO (compS n c) a).bind fun x => (mapO (compS n c) b).map fun y => .iff e x y else none
    | .For tg it b [] _ => if noSet it then (compT c tg).bind fun t => (compSrc (comp fuelE c) c tg it).bind fun s => (mapO (compS n c) b).map fun x => .fr t s x else none
    | .While t b [] _ => if tstB fuelE t then (comp fuelE c t).bind fun e => (mapO (compS n c) b).map fun x => .wh e x else none
    | .Return none _ => some (.ret none)
    | .Return (some a) _ => (comp fuelE c a).map fun e => .ret (some e)
    | .Break _ => some .brk
    | .Continue _ => some .cnt
    | .Pass _ => some .pss
    | .Raise (some (.Call (.Name x _) [a] [] _)) none _ => if glB c.sc x && noStar a && !decide (x = "__debug__") then (slotOf c.xs x).bind fun i => (comp fuelE c a).map fun e => .rse i e else none
    | .Try [b] (h :: hs) [] [] _ => (compTB c b).bind fun s => (mapO (compH c) (h :: hs)).map fun l => .tr c.xs s l
    | _ => none
structure GoodS (X : Cx) (P : Par) (C : CE) (c : CC) : Prop extends Good X P C c where
  po : PassesOwn (model X.prog X.w) X.A X.env X.xe
  wf : WFree P.W
  kd : X.env.scope.kind = .function
  tk : Takes X P.W
  hs : X.stack = X.env :: X.outer
  hf : X.env.frame = some X.env.locals
section
variable {X : Cx} {P : Par} {C : CE} {c : CC}
theorem cel_own {x : Str} {a : Expr} {e : E} (h : PE X a (tE X.K P C e)) : PE X a (tE X.K P C (celOwn c x e)) := by
  unfold celOwn
  split
  · exact xe_cel h
  · exact h
theorem blockKind_fn {en : PySem.Env} (h : en.scope.kind = .function) : en.blockKind = .function := by unfold Env.blockKind; rw [h]; rfl
theorem swap_two {x y : Str} {px py pt pt2 : Pos} {kt k2 : Nat} {a b : Expr} {en : PySem.Env} (hk : en.scope.kind = .function) (hx : en.scope.names.lookup x = some .local) (hy : en.scope.names.lookup y = some .local) (hne : ¬ x = y) (hl : (py.line == px.line) = true)
    (na : noStar a = true) (nb : noStar b = true) (h1 : ([a, b].all (foldedForSure 8)) = false) (h2 : ([a, b].all (constantsAlone 8)) = false) :
    swappedStores [.Tuple [.Name x px, .Name y py] kt pt] (.Tuple [a, b] k2 pt2) en = pure (some [x, y]) := by
  have kx : en.kindOf x = some .local := hx
  have ky : en.kindOf y = some .local := hy
  have ha : ∀ {a : Expr}, noStar a = true → (match a with | .Starred .. => true | _ => false) = false := fun {a} h => by
    cases a <;> first | rfl | (simp [noStar] at h)
  unfold swappedStores
  simp only [blockKind_fn hk, h1, h2, List.length_cons, List.length_nil, List.filterMap_cons, List.filterMap_nil, kx, ky, List.head?_cons, Option.map_some, Option.getD_some, Expr.pos, hl, beq_self_eq_true, Bool.and_self, if_true]
  have e : ([x, y].eraseDups).length = 2 := by
    have : ¬ y = x := fun z => hne z.symm
    simp [List.eraseDups_cons, this]
  simp [e]
  intro h
  exfalso
  rcases h with h | h
  · cases a <;> first | (cases h; done) | (simp [noStar] at na)
  · cases b <;> first | (cases h; done) | (simp [noStar] at nb)
theorem swap_folded {x y : Str} {px py pt pt2 : Pos} {kt k2 : Nat} {a b : Expr} {en : PySem.Env} (hk : en.scope.kind = .function) (hx : en.scope.names.lookup x = some .local) (hy : en.scope.names.lookup y = some .local) (hne : ¬ x = y) (hl : (py.line == px.line) = true)
    (na : noStar a = true) (nb : noStar b = true) (h1 : ([a, b].all (foldedForSure 8)) = true) :
    swappedStores [.Tuple [.Name x px, .Name y py] kt pt] (.Tuple [a, b] k2 pt2) en = pure none := by
  have kx : en.kindOf x = some .local := hx
  have ky : en.kindOf y = some .local := hy
  have ha : ∀ {a : Expr}, noStar a = true → (match a with | .Starred .. => true | _ => false) = false := fun {a} h => by
    cases a <;> first | rfl | (simp [noStar] at h)
  unfold swappedStores
  simp only [blockKind_fn hk, h1, List.length_cons, List.length_nil, List.filterMap_cons, List.filterMap_nil, kx, ky, List.head?_cons, Option.map_some, Option.getD_some, Expr.pos, hl, beq_self_eq_true, Bool.and_self, if_true]
  have e : ([x, y].eraseDups).length = 2 := by
    have : ¬ y = x := fun z => hne z.symm
    simp [List.eraseDups_cons, this]
  simp [e, ha na, ha nb]
theorem sole_no {a t : Expr} {l : Nat} {en : PySem.Env} (h : noComp a = true) : swapsWithSole [t] a l en = pure false := by
  unfold swapsWithSole
  exact swaps_no h
theorem swap_other {ts : List Expr} {kt : Nat} {pt : Pos} {a : Expr} {en : PySem.Env} (h : isTup a = false) : swappedStores [.Tuple ts kt pt] a en = pure none := by
  cases a <;> first | rfl | (simp [isTup] at h)
theorem pss_list (hW : WFree P.W) : ∀ {ss : List Stmt} {xs : List S}, Paired (fun s x => PS X s (tS X.K P C x)) ss xs → PSs X ss (tSs X.K P C xs)
  | [], _, .nil => pss_weak pss_nil fun D σ H h => ds_nil h
  | _ :: _, _, .cons a r => pss_weak (pss_cons a (pss_list hW r)) fun D σ H h => ds_seq hW h
theorem ds_pss {D : Ends} {σ : L2.St} {H : Hp} (h : tS X.K P C .pss D σ H) : D.nx σ H := by
  obtain ⟨F, φ, st, δ, s, d, h⟩ := h
  simp only [evS] at h
  exact h φ H (Step.refl s) σ d
theorem ds_brk {D : Ends} {σ : L2.St} {H : Hp} (h : tS X.K P C .brk D σ H) : D.bk σ H := by
  obtain ⟨F, φ, st, δ, s, d, h⟩ := h
  simp only [evS] at h
  exact h φ H (Step.refl s) σ d
theorem ds_cnt {D : Ends} {σ : L2.St} {H : Hp} (h : tS X.K P C .cnt D σ H) : D.ct σ H := by
  obtain ⟨F, φ, st, δ, s, d, h⟩ := h
  simp only [evS] at h
  exact h φ H (Step.refl s) σ d
theorem compOk {n : Nat} {i : Expr} {y : E} (h : comp n c i = some y) : noSlice i = true := by
  cases n with
  | zero => simp [comp] at h
  | succ n => cases i <;> first | rfl | (simp [comp] at h)
theorem asg_sub {o i : Expr} {sp : Pos} {en : PySem.Env} (h : noSlice i = true) (v : Value) : assign (.Subscript o i sp) en v = (do
      let ov ← holding [v] (eval o en)
      let iv ← holding [v, ov] (eval i en)
      standAt sp
      holding [v, ov, iv] <| setItem ov iv v
      release [v, ov, iv] []) := by
  cases i <;> first | rfl | (simp [noSlice] at h)
theorem setLc (n : Nat) (g : GoodS X P C c) {own : Bool} {i : Nat} {y : Str} {py : Pos} {a : Expr} {e : E} {pos : Pos} (hi : X.N[i]? = some y) (hc : lcSwap c y py a = true) (h : comp (n + 1) c a = some e) : PS X (.Assign [.Name y py] a pos) (tS X.K P C (.asg own i e)) := by
  unfold lcSwap at hc
  split at hc
  · rename_i elt tg it ifs scope p
    simp only [comp] at h
    replace h := ite_some h; obtain ⟨hit, h⟩ := h
    replace h := ite_some h; obtain ⟨hb, h⟩ := h
    replace h := opt_bind h; obtain ⟨t, ht, h⟩ := h
    replace h := ite_some h; obtain ⟨hsl, h⟩ := h
    replace h := opt_bind h; obtain ⟨s, hs, h⟩ := h
    replace h := opt_bind h; obtain ⟨cs, hcs, h⟩ := h
    replace h := opt_map h; obtain ⟨x, hx, h⟩ := h
    subst h
    have gg := g.toGood
    have ihe : ∀ a x, comp n c a = some x → PE X a (tE X.K P C x) := fun a x q => (comp_st n X P C c gg a x q).1
    have ok : BlkOk X.N X.env.scope scope (ownL c.N scope.names) := by rw [g.hN, g.sc]; exact blkOk_by hb
    simp only [Bool.and_eq_true, Bool.not_eq_true'] at hc
    obtain ⟨⟨c1, c2⟩, c3⟩ := hc
    have hyl : X.env.scope.names.lookup y = some .local := by rw [g.sc]; simpa using c1
    refine ps_weak (ps_setLc g.calm g.nd hi hyl (sw_true g.kd hyl c2 c3) (src_ok gg ihe hs) ok (fun s H D cl fp => compT_ok (gg.blk scope s H D cl fp) ht) (fun s H D cl fp => ?_) (fun s H D cl fp => (comp_st n _ _ C _ (gg.blk scope s H D cl fp) elt x hx).1) (fold_set hit))
      fun D σ H h => ds_lc (P0 := ⟨P.XR, fun _ _ _ _ => False⟩) (fun i hi => by simpa using List.all_eq_true.mp hsl i hi) (ds_asg h)
    split at hcs
    · cases hcs; exact xc_nil
    · replace hcs := ite_some hcs; obtain ⟨hti, hcs⟩ := hcs
      replace hcs := opt_map hcs; obtain ⟨y, hy, hcs⟩ := hcs
      subst hcs
      exact xc_one ((comp_st n _ _ C _ (gg.blk scope s H D cl fp) _ y hy).2 _ hti)
    · cases hcs
  · rename_i kx vx tg it ifs scope p
    simp only [comp] at h
    replace h := ite_some h; obtain ⟨hit, h⟩ := h
    replace h := ite_some h; obtain ⟨hb, h⟩ := h
    replace h := opt_bind h; obtain ⟨t, ht, h⟩ := h
    replace h := ite_some h; obtain ⟨hsl, h⟩ := h
    replace h := opt_bind h; obtain ⟨s, hs, h⟩ := h
    replace h := opt_bind h; obtain ⟨cs, hcs, h⟩ := h
    replace h := opt_bind h; obtain ⟨k, hk, h⟩ := h
    replace h := opt_map h; obtain ⟨x, hx, h⟩ := h
    subst h
    have gg := g.toGood
    have ihe : ∀ a x, comp n c a = some x → PE X a (tE X.K P C x) := fun a x q => (comp_st n X P C c gg a x q).1
    have ok : BlkOk X.N X.env.scope scope (ownL c.N scope.names) := by rw [g.hN, g.sc]; exact blkOk_by hb
    simp only [Bool.and_eq_true, Bool.not_eq_true'] at hc
    obtain ⟨⟨c1, c2⟩, c3⟩ := hc
    have hyl : X.env.scope.names.lookup y = some .local := by rw [g.sc]; simpa using c1
    refine ps_weak (ps_setDc g.calm g.nd hi hyl (dsw_true g.kd hyl c2 c3) (src_ok gg ihe hs) ok (fun s H D cl fp => compT_ok (gg.blk scope s H D cl fp) ht) (fun s H D cl fp => ?_) (fun s H D cl fp => (comp_st n _ _ C _ (gg.blk scope s H D cl fp) kx k hk).1) (fun s H D cl fp => (comp_st n _ _ C _ (gg.blk scope s H D cl fp) vx x hx).1) (fold_set hit))
      fun D σ H h => ds_dc (P0 := ⟨P.XR, fun _ _ _ _ => False⟩) (fun i hi => by simpa using List.all_eq_true.mp hsl i hi) (ds_asg h)
    split at hcs
    · cases hcs; exact xc_nil
    · replace hcs := ite_some hcs; obtain ⟨hti, hcs⟩ := hcs
      replace hcs := opt_map hcs; obtain ⟨y, hy, hcs⟩ := hcs
      subst hcs
      exact xc_one ((comp_st n _ _ C _ (gg.blk scope s H D cl fp) _ y hy).2 _ hti)
    · cases hcs
  · cases hc
theorem swaps_cell {a : Expr} {y : Str} {py : Pos} {l : Nat} {en : PySem.Env} (h : en.scope.names.lookup y = some .cell) : swapsWith a (some (.Name y py)) l en = pure false := by
  have ky : en.kindOf y = some .cell := h
  have kn : (some NameKind.cell == some NameKind.local) = false := rfl
  cases a <;> first | rfl | (unfold swapsWith; simp only [ky, kn, Bool.and_false, Bool.false_and])
theorem compS_ok : ∀ (n : Nat) (g : GoodS X P C c) (s : Stmt) (x : S), compS n c s = some x → PS X s (tS X.K P C x)
  | 0, g, s, x, h => by simp [compS] at h
  | n + 1, g, s, x, h => by
    have ihe : ∀ a x, comp fuelE c a = some x → PE X a (tE X.K P C x) := fun a x q => (comp_st fuelE X P C c g.toGood a x q).1
    have iht : ∀ a x, tstB fuelE a = true → comp fuelE c a = some x → PT X a (tT X.K P C x) := fun a x t q => (comp_st fuelE X P C c g.toGood a x q).2 _ t
    have ihs : ∀ {ss xs}, mapO (compS n c) ss = some xs → PSs X ss (tSs X.K P C xs) := fun {ss xs} q => pss_list g.wf (paired_mono (mapO_paired q) fun s x _ q => compS_ok n g s x q)
    have slot : ∀ {y i}, slotOf c.N y = some i → X.N[i]? = some y := fun {y i} q => by rw [g.hN]; exact slotOf_ok q
    have loc : ∀ {y : Str}, locB c y = true → X.env.scope.names.lookup y = some .local ∨ (X.env.scope.names.lookup y = some .cell ∧ X.fn y = true) := fun {y} q => by
      rw [g.sc]; exact (locB_ok q).imp id fun z => ⟨z.1, g.fn _ z.2⟩
    have lcl : ∀ {y : Str}, decide (c.sc.names.lookup y = some .local) = true → X.env.scope.names.lookup y = some .local := fun {y} q => by rw [g.sc]; simpa using q
    unfold compS at h
    split at h
    case h_1 y py a pos =>
      replace h := ite_some h; obtain ⟨hl, h⟩ := h
      replace h := opt_bind h; obtain ⟨i, hi, h⟩ := h
      replace h := opt_bind h; obtain ⟨e, he, h⟩ := h
      split at h
      · rename_i hc
        cases h
        exact xs_asg g.nd (slot hi) (loc hl) (ihe _ _ he) (swaps_no hc)
      · split at h
        · rename_i hc
          cases h
          exact setLc 59 g (slot hi) hc he
        · replace h := ite_some h; obtain ⟨hc, h⟩ := h
          cases h
          exact xs_asg g.nd (slot hi) (loc hl) (ihe _ _ he) (swaps_cell (by rw [g.sc]; simpa using hc))
    case h_2 x px y py kt pt a b k2 pt2 pos =>
      split at h
      · rename_i hb
        replace h := opt_bind h; obtain ⟨i, hi, h⟩ := h
        replace h := opt_bind h; obtain ⟨j, hj, h⟩ := h
        split at h
        · cases h
        · rename_i hij
          replace h := opt_bind h; obtain ⟨e, he, h⟩ := h
          replace h := opt_map h; obtain ⟨f, hf, h⟩ := h
          subst h
          unfold swapB at hb
          simp only [Bool.and_eq_true, Bool.not_eq_true'] at hb
          obtain ⟨⟨⟨⟨⟨⟨⟨b1, b2⟩, b3⟩, b4⟩, b5⟩, b6⟩, b7⟩, b8⟩ := hb
          exact ps_weak (ps_par g.calm g.nd (slot hi) (slot hj) hij (lcl b1) (lcl b2) (xa_cons (cel_own (ihe _ _ he)) (xa_cons (cel_own (ihe _ _ hf)) xa_nil (star_cons b6)) (star_cons b5)) (swap_two g.kd (lcl b1) (lcl b2) (by simpa using b3) b4 b5 b6 b7 b8) rfl) fun D σ H h => ds_par h
      · replace h := ite_some h; obtain ⟨hb, h⟩ := h
        replace h := opt_bind h; obtain ⟨i, hi, h⟩ := h
        replace h := opt_bind h; obtain ⟨j, hj, h⟩ := h
        replace h := opt_bind h; obtain ⟨e, he, h⟩ := h
        replace h := opt_map h; obtain ⟨f, hf, h⟩ := h
        subst h
        simp only [Bool.and_eq_true, Bool.not_eq_true'] at hb
        obtain ⟨⟨⟨⟨⟨⟨b1, b2⟩, b3⟩, b4⟩, b5⟩, b6⟩, b7⟩ := hb
        have pg : PG X (.Tuple [.Name x px, .Name y py] kt pt) (gT X.K (.tp [.nm i, .nm j])) := by
          simp only [gT, gTs]
          exact pg_tup g.calm (pgs_cons (pg_name g.nd (slot hi) (.inl (lcl b4)) (.inr (lcl b4))) (pgs_cons (pg_name g.nd (slot hj) (.inl (lcl b5)) (.inr (lcl b5))) pgs_nil rfl) rfl) rfl rfl
        exact ps_weak (ps_asg (xe_tup (xa_cons (ihe _ _ he) (xa_cons (ihe _ _ hf) xa_nil (star_cons b3)) (star_cons b2))) pg rfl (swap_folded g.kd (lcl b4) (lcl b5) (by simpa using b6) b7 b2 b3 b1) rfl) fun D σ H h => ds_unp h
    case h_3 ts kt pt a pos _ =>
      replace h := ite_some h; obtain ⟨hb, h⟩ := h
      replace h := opt_bind h; obtain ⟨tg, ht, h⟩ := h
      replace h := opt_map h; obtain ⟨e, he, h⟩ := h
      subst h
      simp only [Bool.and_eq_true, Bool.not_eq_true'] at hb
      have pg : PG X (.Tuple ts kt pt) (gT X.K (.tp tg)) := by
        simp only [gT]
        exact pg_tup g.calm (compTs_ok g.toGood ht) (each_len ht).1 (each_len ht).2
      exact ps_weak (ps_asg (ihe _ _ he) pg (sole_no hb.2) (swap_other hb.1) rfl) fun D σ H h => ds_unp h
    case h_4 o i sp a pos =>
      replace h := ite_some h; obtain ⟨hb, h⟩ := h
      replace h := opt_bind h; obtain ⟨x, hx, h⟩ := h
      replace h := opt_bind h; obtain ⟨y, hy, h⟩ := h
      replace h := opt_map h; obtain ⟨e, he, h⟩ := h
      subst h
      have hu := g.units
      have hw : swappedStores [.Subscript o i sp] a X.env = pure none := by cases a <;> rfl
      exact ps_weak (ps_asg (ihe _ _ he) (pg_sub (ihe _ _ hx) (ihe _ _ hy) (set_any (by omega)) (asg_sub (compOk hy))) (sole_no hb) hw rfl) fun D σ H h => ds_set h
    case h_5 x p a pos =>
      replace h := ite_some h; obtain ⟨hl, h⟩ := h
      replace h := opt_bind h; obtain ⟨i, hi, h⟩ := h
      replace h := opt_map h; obtain ⟨e, he, h⟩ := h
      subst h
      have l := loc hl
      exact ps_weak (ps_aug g.nd (slot hi) (l.imp id (·.1)) (ihe _ _ he) ip_addA (l.symm.imp (·.2) id)) fun D σ H h => ds_augA aug_add h
    case h_6 x p a pos =>
      replace h := ite_some h; obtain ⟨hl, h⟩ := h
      replace h := opt_bind h; obtain ⟨i, hi, h⟩ := h
      replace h := opt_map h; obtain ⟨e, he, h⟩ := h
      subst h
      have l := loc hl
      exact ps_weak (ps_aug g.nd (slot hi) (l.imp id (·.1)) (ihe _ _ he) ip_sub (l.symm.imp (·.2) id)) fun D σ H h => ds_augI aug_noSub aug_sub h
    case h_7 z k p pos => cases h; exact ps_weak ps_doc fun D σ H h => ds_pss h
    case h_8 a pos _ =>
      replace h := ite_some h; obtain ⟨hc, h⟩ := h
      replace h := opt_map h; obtain ⟨e, he, h⟩ := h
      subst h
      exact ps_weak (ps_expr (ihe _ _ he) (swaps_no hc)) fun D σ H h => ds_ex h
    case h_9 t a b pos =>
      replace h := ite_some h; obtain ⟨hc, h⟩ := h
      replace h := opt_bind h; obtain ⟨e, he, h⟩ := h
      replace h := opt_bind h; obtain ⟨u, hu, h⟩ := h
      replace h := opt_map h; obtain ⟨v, hv, h⟩ := h
      subst h
      exact ps_weak (ps_if (iht _ _ hc he) (ihs hu) (ihs hv)) fun D σ H h => ds_if h
    case h_10 tg it b pos =>
      replace h := ite_some h; obtain ⟨hc, h⟩ := h
      replace h := opt_bind h; obtain ⟨t, ht, h⟩ := h
      replace h := opt_bind h; obtain ⟨s, hs, h⟩ := h
      replace h := opt_map h; obtain ⟨v, hv, h⟩ := h
      subst h
      exact ps_weak (ps_for g.po g.calm (src_ok g.toGood ihe hs) (compT_ok g.toGood ht) (ihs hv) (fold_set hc)) fun D σ H h => ds_for g.wf h
    case h_11 t b pos =>
      replace h := ite_some h; obtain ⟨hc, h⟩ := h
      replace h := opt_bind h; obtain ⟨e, he, h⟩ := h
      replace h := opt_map h; obtain ⟨v, hv, h⟩ := h
      subst h
      exact ps_weak (ps_while g.po (iht _ _ hc he) (ihs hv)) fun D σ H h => ds_while g.wf h
    case h_12 pos => cases h; exact ps_weak ps_retN fun D σ H h => ds_retN h
    case h_13 a pos =>
      replace h := opt_map h; obtain ⟨e, he, h⟩ := h
      subst h
      exact ps_weak (ps_ret (ihe _ _ he)) fun D σ H h => ds_ret h
    case h_14 pos => cases h; exact ps_weak ps_break fun D σ H h => ds_brk h
    case h_15 pos => cases h; exact ps_weak ps_continue fun D σ H h => ds_cnt h
    case h_16 pos => cases h; exact ps_weak ps_pass fun D σ H h => ds_pss h
    case h_17 x px a p2 pos =>
      replace h := ite_some h; obtain ⟨hb, h⟩ := h
      simp only [Bool.and_eq_true] at hb
      obtain ⟨⟨b1, b2⟩, b3⟩ := hb
      obtain ⟨i, hi, h⟩ := opt_bind h
      obtain ⟨e, he, h⟩ := opt_map h
      subst h
      obtain ⟨xa, xo, hxs, hX⟩ := g.xc
      have hk := slotOf_ok hi
      rw [hxs, List.getElem?_map] at hk
      cases q2 : xa[i]? with
      | none => rw [q2] at hk; cases hk
      | some pA =>
        obtain ⟨nm, A⟩ := pA
        rw [q2] at hk
        cases hk
        obtain ⟨n0, hn0, xk⟩ := xo.ok _ _ _ q2
        obtain ⟨ok, hok, pmk⟩ := MX.pmk_xn (pos := p2) (p := px) xk g.r3 (g.gl' b1) (xo.at_ _ _ _ q2) (ihe _ _ he) (not_debug (by simpa using b3)) (star_cons b2)
        exact ps_weak (ps_raise g.calm g.tk pmk) fun D σ H h => ds_rse hX q2 hn0 hok h
    case h_18 b h0 hs pos =>
      obtain ⟨s, hs1, h⟩ := opt_bind h
      obtain ⟨l, hl, h⟩ := opt_map h
      subst h
      obtain ⟨xa, xo, hxs, hX⟩ := g.xc
      exact xs_tr hxs hX xo.exm g.hs g.hf g.nd g.tk (fun W pn xe tk _ => compTB_ok g.toGood hs1 W pn xe tk) (compH_ok g.toGood xo hxs (mapO_paired hl))
    case h_19 => cases h
end
end MP
set_option maxHeartbeats 2400000
/-! Ev16: the table of defs; the end. -/
namespace MP
open PySem PySem.Spec L2
/-- a def of the text: its datum, its names, which of them hold lists and dicts of their own -/
structure DDef where
  d : He.DefD
  N : List Str
  own : List Str
  pr : Option ((Nat → List W → Sto → Out Val) → List W → Sto → Out Val)
def DDef.ps (e : DDef) : List Str := e.d.params.args.map (·.arg)
def DDef.cc (fns : List (Str × Nat × Nat × List D)) (gls : List (Str × D)) (xs : List Str) (e : DDef) : CC := ⟨e.N, e.d.scope, fun _ => true, fns, gls, e.own, xs⟩
def DDef.fn (fns : List (Str × Nat × Nat × List D)) (gls : List (Str × D)) (xs : List Str) (e : DDef) : Option Fn :=
  match e.pr with
  | some g => some ⟨e.ps.length, 0, [], some g⟩
  | none => if C8.scC e.N e.ps e.d.scope then (mapO (compS 40 (e.cc fns gls xs)) e.d.body).map fun b => ⟨e.ps.length, e.N.length, b, none⟩ else none
/-- a def told by hand, at wrong arguments too -/
def prG (e : DDef) (g : List W → Sto → Out Val) : List W → Sto → Out Val := fun ws st => if ws.length = e.ps.length then g ws st else .bad
theorem DDef.fn_np {fns : List (Str × Nat × Nat × List D)} {gls : List (Str × D)} {xs : List Str} {e : DDef} {fn : Fn} (h : e.fn fns gls xs = some fn) : fn.np = e.ps.length ∧ fn.pr = e.pr := by
  unfold DDef.fn at h
  split at h
  · rename_i g hg
    cases h
    exact ⟨rfl, hg.symm⟩
  · rename_i hg
    replace h := ite_some h; obtain ⟨hs, h⟩ := h
    replace h := opt_map h; obtain ⟨body, hb, h⟩ := h
    rw [← h]
    exact ⟨rfl, hg.symm⟩
abbrev DDef.Is (K : PySem.W.Frag) (e : DDef) (fd : FuncData) : Prop := FunD K e.d.name e.d.qual e.d.params e.d.body e.d.scope (e.d.dvs K) (e.d.kws K) (He.fAd K e.d.at_) fd
theorem entry_sl {K : PySem.W.Frag} {F : AP} {φ : List Addr} {st : Sto} {H : Hp} {fn : Fn} {N : List Str} {vs : List V} {ws : List W} (hn : fn.ns = N.length) (hp : fn.np = vs.length) (r : RWs K (Or2 F (Live φ st)) H φ vs ws) : Sl K F φ st H (entry fn ws) (start N vs) := by
  have hl := paired_len r
  refine ⟨by simp [entry, L2.start, hl, hn, hp], fun i w e => ?_⟩
  unfold entry at e
  by_cases hi : i < (ws.map some).length
  · rw [List.getElem?_append_left hi, List.getElem?_map] at e
    cases q : ws[i]? with
    | none => rw [q] at e; nomatch e
    | some w' =>
      rw [q] at e; cases e
      obtain ⟨v, hv, rv⟩ := paired_get r q
      refine ⟨v, ?_, rv⟩
      unfold L2.start
      rw [List.getElem?_append_left (by rw [List.length_map] at hi ⊢; omega), List.getElem?_map, hv]; rfl
  · rw [List.getElem?_append_right (by omega)] at e
    have := List.mem_of_getElem? e
    rw [List.mem_replicate] at this
    cases this.2
section
variable {P : Program} {w : World} {K : PySem.W.Frag} {mg : Str → Option Value} {base : Heap} {XR : XRel}
theorem def_ok {xa : List (Str × Addr)} {xs : List Str} (xo : XaOk P w K mg base xa) (hxs : xs = xa.map (·.1)) {T : Nat → Option Fn} {lf n i : Nat} {fns : List (Str × Nat × Nat × List D)} {gls : List (Str × D)} {e : DDef} {fd : FuncData} {fn : Fn} (hpr : e.pr = none) (hf : e.fn fns gls xs = some fn) (hT : T i = some fn) (F : e.Is K fd)
    (bl : ∀ x : Str, x ∈ (["len", "abs", "int", "str", "bool", "tuple", "list", "any", "all", "sum", "max", "min", "dict", "isinstance", "range", "enumerate", "zip", "reversed"] : List Str) → mg x = none)
    (gl : ∀ x d, gls.lookup x = some d → ∃ v u, mg x = some u ∧ RelV v u ∧ ∀ L H, Den K L H v d)
    (cl : ∀ x i m dfl, (x, i, m, dfl) ∈ fns → ∃ f fd ps dvs ds np, mg x = some (.ref f) ∧ PySem.W.keepIn K (.ref f) = true ∧ FnOk P w K mg base (L2.CX P w) (n + 3) f fd ps (spR K (XRx K xa) np (runAt T lf n i)) ∧
      Binds K fd ps ds ∧ Vals dvs ds ∧ (∀ L H, DenAll K L H dvs dfl) ∧ ∀ ws st, ws.length ≠ np → runAt T lf n i ws st = .bad) :
    FnOk P w K mg base (L2.CX P w) (n + 1 + 3) (He.fAd K e.d.at_) fd e.ps (spR K (XRx K xa) e.ps.length (runAt T lf (n + 1) i)) := by
  unfold DDef.fn at hf
  rw [hpr] at hf
  replace hf := ite_some hf; obtain ⟨hs, hf⟩ := hf
  replace hf := opt_map hf; obtain ⟨body, hb, hf⟩ := hf
  have S := C8.fnScope_by hs
  refine FunD.ok F S (fun vs H Q E h => h.1) fun cdv A outer s H vs Q E hr hsp => ?_
  obtain ⟨hl, F0, φ, st, ws, sc, rws, post⟩ := hsp
  have hr' : Room (n + 3) _ := hr.mono (by omega)
  refine ⟨tSs K ⟨XRx K xa, fun cls d _ H => E cls d H⟩ ⟨runAt T lf n, lf⟩ body, ?_, ?_⟩
  · have tk : Takes (cxOf (L2.CX P w) P w K mg base e.N e.d.qual e.d.scope (He.fAd K e.d.at_) cdv A outer s H E) (fun cls d _ H => E cls d H) := takes_of rfl rfl rfl rfl
    have g : GoodS (cxOf (L2.CX P w) P w K mg base e.N e.d.qual e.d.scope (He.fAd K e.d.at_) cdv A outer s H E) ⟨XRx K xa, fun cls d _ H => E cls d H⟩ ⟨runAt T lf n, lf⟩ (e.cc fns gls xs) :=
      { calm := rfl, nd := S.nd, hN := rfl, sc := rfl, fn := fun _ _ => rfl, k := ⟨n + 3, hr', cl⟩, px := fun σ => passAt tk σ, bl := bl, gl := gl, xa := xaX, po := passes_of rfl, wf := fun _ _ _ _ _ h => h, kd := S.kind, xc := ⟨xa, xo, hxs, rfl⟩, r3 := hr'.mono (by omega), tk := tk, hs := rfl, hf := rfl }
    exact pss_list g.wf (paired_mono (mapO_paired hb) fun s x _ q => compS_ok 40 g s x q)
  · have hnp : fn.np = vs.length := by rw [← hf]; exact hl.symm
    have hns : fn.ns = e.N.length := by rw [← hf]
    refine ⟨F0, φ, st, entry fn ws, sc, entry_sl hns hnp rws, ?_⟩
    have hrun : runAt T lf (n + 1) i ws st = retOf (evSs ⟨runAt T lf n, lf⟩ body (entry fn ws) st) := by
      have hq : fn.pr = none := by rw [← hf]
      simp only [runAt, hT, runFn, hq]
      rw [if_pos (by rw [← paired_len rws, hnp]), ← hf]
    rw [hrun] at post
    cases q : evSs ⟨runAt T lf n, lf⟩ body (entry fn ws) st with
    | bad => rw [q] at post; exact post
    | exc c p st1 => rw [q] at post; exact post
    | ok fl st1 =>
      rw [q] at post
      cases fl with
      | rt v => exact post
      | nx δ => exact fun φ1 H1 t1 σ _ => post φ1 H1 t1 .non RU.non
      | bk δ => exact post.elim
      | ct δ => exact post.elim
theorem bad_len {T : Nat → Option Fn} {lf n i : Nat} {fn : Fn} (hT : T i = some fn) : ∀ ws st, ws.length ≠ fn.np → runAt T lf n i ws st = .bad := fun ws st h => by
  cases n with
  | zero => rfl
  | succ n =>
    simp only [runAt, hT]
    split
    · exact if_neg h
    · simp only [runFn, if_neg h]
/-- what the top says of the defs -/
structure Top (P : Program) (w : World) (K : PySem.W.Frag) (mg : Str → Option Value) (es : List DDef) (Fs : List Fn) (fns : List (Str × Nat × Nat × List D)) (gls : List (Str × D)) (xs : List Str) : Prop where
  comp : mapO (DDef.fn fns gls xs) es = some Fs
  is : ∀ e ∈ es, ∃ fd, e.Is K fd
  pr : ∀ base, K.In base → ∀ (XR : XRel) (i : Nat) (e : DDef) (g : (Nat → List W → Sto → Out Val) → List W → Sto → Out Val), es[i]? = some e → e.pr = some g → ∀ (fd : FuncData) (n : Nat) (run : Nat → List W → Sto → Out Val), e.Is K fd → XAnti XR →
    (∀ (j : Nat) (e' : DDef) (fd' : FuncData), es[j]? = some e' → e'.Is K fd' → FnOk P w K mg base (L2.CX P w) (n + 3) (He.fAd K e'.d.at_) fd' e'.ps (spR K XR e'.ps.length (run j)) ∧ ∀ ws st, ws.length ≠ e'.ps.length → run j ws st = .bad) →
    FnOk P w K mg base (L2.CX P w) (n + 4) (He.fAd K e.d.at_) fd e.ps (spR K XR e.ps.length (prG e (g run)))
  xc : ∃ xa : List (Str × Addr), xs = xa.map (·.1) ∧ ∀ base, K.In base → XaOk P w K mg base xa
  bl : ∀ x : Str, x ∈ (["len", "abs", "int", "str", "bool", "tuple", "list", "any", "all", "sum", "max", "min", "dict", "isinstance", "range", "enumerate", "zip", "reversed"] : List Str) → mg x = none
  gl : ∀ x d, gls.lookup x = some d → ∃ v u, mg x = some u ∧ RelV v u ∧ ∀ L H, Den K L H v d
  cl : ∀ x i m dfl, (x, i, m, dfl) ∈ fns → ∃ e, es[i]? = some e ∧ mg x = some (.ref (He.fAd K e.d.at_)) ∧ ∀ fd, e.Is K fd → ∃ dvs ds, Binds K fd e.ps ds ∧ Vals dvs ds ∧ ∀ L H, DenAll K L H dvs dfl
theorem paired_at {α β : Type} {R : α → β → Prop} : ∀ {as : List α} {bs : List β} {i : Nat} {a : α}, Paired R as bs → as[i]? = some a → ∃ b, bs[i]? = some b ∧ R a b
  | _, _, i, _, .nil, e => by rw [List.getElem?_nil] at e; cases e
  | _, _, 0, _, .cons r _, e => ⟨_, rfl, by cases e; exact r⟩
  | _, _, i + 1, _, .cons _ r, e => by
    obtain ⟨u, h1, h2⟩ := paired_at (i := i) r (by simpa using e)
    exact ⟨u, h1, h2⟩
theorem table_ok (KB : K.In base) {xs : List Str} {xa : List (Str × Addr)} (xo : XaOk P w K mg base xa) (hxs : xs = xa.map (·.1)) {es : List DDef} {Fs : List Fn} {fns : List (Str × Nat × Nat × List D)} {gls : List (Str × D)} (t : Top P w K mg es Fs fns gls xs) (lf : Nat) :
    ∀ (n i : Nat) (e : DDef) (fd : FuncData), es[i]? = some e → e.Is K fd → FnOk P w K mg base (L2.CX P w) (n + 3) (He.fAd K e.d.at_) fd e.ps (spR K (XRx K xa) e.ps.length (runAt (fun i => Fs[i]?) lf n i))
  | 0, i, e, fd, hi, F => ⟨fun vs H Q E h => h.1, fun A outer s H args us vs Q E _ _ _ _ h => by
      obtain ⟨_, _, _, _, _, _, _, z⟩ := h
      exact z.elim⟩
  | n + 1, i, e, fd, hi, F => by
    obtain ⟨fn, hT, hf⟩ := paired_at (mapO_paired t.comp) hi
    cases hpr : e.pr with
    | some g =>
      have e1 : runAt (fun i => Fs[i]?) lf (n + 1) i = prG e (g (runAt (fun i => Fs[i]?) lf n)) := by
        funext ws st
        have ⟨h1, h2⟩ := DDef.fn_np hf
        simp only [runAt, hT, h2, hpr, h1, prG]
      rw [e1]
      refine t.pr base KB (XRx K xa) i e g hi hpr fd n (runAt (fun i => Fs[i]?) lf n) F xaX fun j e' fd' he' F' => ⟨table_ok KB xo hxs t lf n j e' fd' he' F', ?_⟩
      obtain ⟨fn', hT', hf'⟩ := paired_at (mapO_paired t.comp) he'
      exact fun ws st h => bad_len (fn := fn') hT' ws st (by rw [(DDef.fn_np hf').1]; exact h)
    | none =>
    refine def_ok xo hxs hpr hf hT F t.bl t.gl fun x j m dfl hm => ?_
    obtain ⟨e', he', hmg, hb⟩ := t.cl x j m dfl hm
    obtain ⟨fd', F'⟩ := t.is e' (List.mem_of_getElem? he')
    obtain ⟨dvs, ds, b1, b2, b3⟩ := hb fd' F'
    obtain ⟨fn', hT', hf'⟩ := paired_at (mapO_paired t.comp) he'
    have hnp : fn'.np = e'.ps.length := (DDef.fn_np hf').1
    exact ⟨_, fd', e'.ps, dvs, ds, e'.ps.length, hmg, F'.kp, table_ok KB xo hxs t lf n j e' fd' he' F', b1, b2, b3, fun ws st h => bad_len (fn := fn') hT' ws st (by rw [hnp]; exact h)⟩
end
/-! ### the end -/
theorem end_sp {K : PySem.W.Frag} {XR : XRel} {H : Hp} {a : Addr} {ns : List Int} {run : List W → Sto → Out Val} (hO : Only H) (hS : SqL K H a (ns.map V.int)) (h : ∃ st, run [.fz (ns.map PyData.int)] [] = .ok (vBool true) st) :
    spR K XR 1 run [.ref a] H (fun v _ => v = .bl true) fun _ _ _ => False := by
  obtain ⟨st1, h⟩ := h
  have hF : SqF K H a (ns.map V.int) := by
    rcases hS with (hS | hS) | hS
    · rcases hO a with e | ⟨o, xs, e⟩
      · rw [e] at hS; cases hS
      · rw [e] at hS; cases hS
    · exact .inl hS
    · exact .inr hS
  have hd : ∀ (L : AP) (ns : List Int), DenAll K L H (ns.map V.int) (ns.map PyData.int) := fun L ns => by
    induction ns with
    | nil => exact .nil
    | cons n r ih => exact .cons (.int n) ih
  refine ⟨rfl, fun _ => False, [], [], [.fz (ns.map PyData.int)], ?_, .cons ⟨a, _, rfl, hF, hd _ _⟩ .nil, ?_⟩
  · refine ⟨rfl, List.nodup_nil, ?_, ?_, ?_, ?_, ?_⟩
    · intro a h; cases h
    · intro a h; exact h.elim
    · intro a h; exact h.elim
    · intro a h; exact h.elim
    · intro i a c e _; simp at e
  · rw [h]
    exact fun φ1 H1 t1 u r => Den.bl_inv r
theorem CX_no {P : Program} {w : World} {H : Hp} {s : Shared} {e : Value} {s' : Shared} : L2.CX P w [] H s (fun _ _ _ => False) e s' → False := fun h => by
  obtain ⟨_, _, _, _, _, _, _, _, _, _, _, _, no⟩ := h
  exact no
/-- the law's end: what the top says, and that the run of the law's def (the last) gives True -/
theorem law_end {l : PySem.W.OpenLaw} {q : Program} {loose : List Str} {XP : (Str → Option Value) → Heap → Prop} {YP : World → Heap → Prop} {d : DefRec} {k lf iL : Nat} {es : List DDef} {Fs : List Fn} {fns : List (Str × Nat × Nat × List D)} {gls : List (Str × D)} {xs : List Str} {eL : DDef}
    (hn : l.most = some 63) (hdf : d.params.defaults = []) (hr : Room (k + 3) callerA) (hL : es[iL]? = some eL) (hps : eL.ps = [("script" : Str)])
    (hY : ∀ (w : World) (mg : Str → Option Value) (fa : Addr) (h : Heap), YP w h → h.Ns mainGlobals mg → mg d.name = some (.ref fa) → ∃ K : PySem.W.Frag, K.In h ∧ Top l.prog w K mg es Fs fns gls xs ∧ fa = He.fAd K eL.d.at_ ∧
      ∀ fd, eL.Is K fd → ∀ (s : Shared) (u : Value), BindsTo s fd ⟨[u], []⟩ [("script", u)])
    (hrun : ∀ ns : List Int, ns.length ≤ 63 → (∀ z ∈ ns, Builtin.Int.intBits z ≤ 1048576) → ∃ st, runAt (fun i => Fs[i]?) lf k iL [.fz (ns.map PyData.int)] [] = .ok (vBool true) st) :
    PySem.W.WalkO q loose XP YP l.row.toRowW d [] (fun g ws => PySem.call g ws) := by
  refine Att.attach_callB hn hdf fun w _ s₁ mg _ fa _ _ _ _ _ _ _ G Y _ _ _ named at_ nums len bits glob => ?_
  obtain ⟨K, KX, t, hfa, hb⟩ := hY w mg fa _ Y G.T.g named
  obtain ⟨fd, F⟩ := t.is eL (List.mem_of_getElem? hL)
  obtain ⟨xa, hxs, xo⟩ := t.xc
  subst hfa
  refine law_call (sp := spR K (XRx K xa) 1 (runAt (fun i => Fs[i]?) lf k iL)) (CX := L2.CX l.prog w) KX G.T.g G.T.b G.T.builtins G.T.nolimit glob at_ nums (Nat.le_trans len (by decide)) hr (fun base KB _ => ?_) (hb fd F) (fun H only sq => end_sp only sq (hrun _ len bits)) fun H e s' => CX_no
  have := table_ok (P := l.prog) (w := w) (base := base) KB (xo base KB) hxs t lf k iL eL fd hL F
  rw [hps] at this
  exact this
end MP
set_option maxHeartbeats 4800000
/-! EvH: the exception classes of a text, from the head's Bool. -/
namespace MP
open PySem PySem.Spec L2 MX
def excCB (K : PySem.W.Frag) (D : Addr) : Bool := decide (PySem.W.findIn K (.ref D) "__getattribute__" = some (some (.builtin "BaseException.__getattribute__"))) && (decide (PySem.W.findIn K (.ref D) "__getattr__" = some none) && (decide (PySem.W.subIn K (.ref D) (.type "BaseException") = some true) && (PySem.W.hasDictIn K D &&
  (decide (PySem.W.findIn K (.ref D) "__class__" = some (some (.builtin "object.__class__"))) && (decide (PySem.W.specialIn K (.builtin "object.__class__") "__get__" = some (some (.builtin "getset_descriptor.__get__"))) && (decide (PySem.W.takesIn K (.builtin "object.__class__") = some true) &&
  (decide (PySem.W.mroIn K D (.type "object") = some true) && decide (PySem.W.kitOne K (.ref D) (.type "ValueError") = some true))))))))
theorem excCB_ok {K : PySem.W.Frag} {D : Addr} (h : excCB K D = true) : ExcC K D ∧ PySem.W.kitOne K (.ref D) (.type "ValueError") = some true := by
  unfold excCB at h
  simp only [decide_eq_true_eq, Bool.and_eq_true] at h
  obtain ⟨h1, h2, h3, h4, h5, h6, h7, h8, h9⟩ := h
  exact ⟨⟨h1, h2, h3, h4, h5, h6, h7, h8⟩, h9⟩
def clsB (K : PySem.W.Frag) (file : Str) (b : Addr) (bs : Bool) (nm : Str) : Bool :=
  excCB K (He.ga K nm) && (oexB K (He.ga K nm) && (xfB K (He.ga K nm) && (noAtB K (He.ga K nm) && (decide (PySem.W.findIn K (.ref (He.ga K nm)) "__init__" = some (some (.ref (He.ma K (He.ga K nm) "__init__")))) && (decide (PySem.W.typeIn K (.ref (He.ma K (He.ga K nm) "__init__")) = some (.type "function")) &&
    (defIB K file (He.ma K (He.ga K nm) "__init__") (He.ga K nm) nm bs && (supVB K (He.ga K nm) b && (decide (PySem.W.nsIn K mainGlobals nm = some (some (.ref (He.ga K nm)))) && (bs || supOB K (He.ga K nm) (He.ga K nm) (He.ma K b "__init__"))))))))))
def exB (file : Str) (xs : List Str) (K : PySem.W.Frag) : Bool := match xs with
  | [] => true
  | b :: r => clsB K file (He.ga K b) true b && (r.all (clsB K file (He.ga K b) false) && (List.range xs.length).all fun c => (List.range xs.length).all fun c' => decide (PySem.W.exmOne K (.ref (He.ga K (xs.getD c ⟨#[]⟩))) (.ref (He.ga K (xs.getD c' ⟨#[]⟩))) = some (subX c c')))
section
variable {P : Program} {w : World} {K : PySem.W.Frag} {mg : Str → Option Value} {base h : Heap}
theorem body_base {nm : Str} {body : List Stmt} (h : bodyB nm true body = true) : ∃ p0 p1 p2 p3 p4 p5 q0 q1 q2 q3 j r0 r1 r2 r3, body = bodyI p0 p1 p2 p3 p4 p5 [setPl q0 q1 q2 q3, setNm nm j r0 r1 r2 r3] ∧ (p2.endLine == p4.line) = true := by
  unfold bodyB at h
  split at h
  · simp only [Bool.true_and, Bool.and_eq_true] at h
    obtain ⟨h1, h2, h3⟩ := h
    obtain ⟨p0, p1, p2, p3, p4, p5, rfl, hl⟩ := headB_ok h1
    obtain ⟨q0, q1, q2, q3, rfl⟩ := plB_ok h2
    obtain ⟨j, r0, r1, r2, r3, rfl⟩ := nmB_ok h3
    exact ⟨p0, p1, p2, p3, p4, p5, q0, q1, q2, q3, j, r0, r1, r2, r3, rfl, hl⟩
  · simp at h
  · cases h
theorem body_more {nm : Str} {body : List Stmt} (h : bodyB nm false body = true) : ∃ p0 p1 p2 p3 p4 p5 j r0 r1 r2 r3, body = bodyI p0 p1 p2 p3 p4 p5 [setNm nm j r0 r1 r2 r3] ∧ (p2.endLine == p4.line) = true := by
  unfold bodyB at h
  split at h
  · simp at h
  · simp only [Bool.not_false, Bool.true_and, Bool.and_eq_true] at h
    obtain ⟨h1, h3⟩ := h
    obtain ⟨p0, p1, p2, p3, p4, p5, rfl, hl⟩ := headB_ok h1
    obtain ⟨j, r0, r1, r2, r3, rfl⟩ := nmB_ok h3
    exact ⟨p0, p1, p2, p3, p4, p5, j, r0, r1, r2, r3, rfl, hl⟩
  · cases h
theorem xa_ok {xs : List Str} (e : exB P.main.file xs K = true) (X : K.In h) (G : h.Ns mainGlobals mg) (top : xs ≠ [] → (P.main.scope.names.lookup ("super" : Str)).isSome = false) (hmg : mg "super" = none) (hve : mg "ValueError" = none) :
    XaOk P w K mg base (xs.map fun nm => (nm, He.ga K nm)) := by
  cases xs with
  | nil => exact ⟨fun c nm A h => by simp at h, fun c nm A h => by simp at h, fun c c' nm nm' A A' h => by simp at h, fun c nm A h => by simp at h, hve⟩
  | cons b r =>
    have top := top (by simp)
    simp only [exB, Bool.and_eq_true, List.all_eq_true, decide_eq_true_eq, List.mem_range] at e
    obtain ⟨e1, e2, e3⟩ := e
    have parts : ∀ {nm : Str} {bs : Bool}, clsB K P.main.file (He.ga K b) bs nm = true → OexC K (He.ga K nm) ∧ XfC K (He.ga K nm) ∧ noAt K (He.ga K nm) ∧ PySem.W.findIn K (.ref (He.ga K nm)) "__init__" = some (some (.ref (He.ma K (He.ga K nm) "__init__"))) ∧
        PySem.W.typeIn K (.ref (He.ma K (He.ga K nm) "__init__")) = some (.type "function") ∧ defIB K P.main.file (He.ma K (He.ga K nm) "__init__") (He.ga K nm) nm bs = true ∧ SupV K (He.ga K nm) (He.ga K b) ∧ PySem.W.nsIn K mainGlobals nm = some (some (.ref (He.ga K nm))) ∧
        (bs = false → SupO K (He.ga K nm) (He.ga K nm) (He.ma K (He.ga K b) "__init__")) ∧ ExcC K (He.ga K nm) ∧ PySem.W.kitOne K (.ref (He.ga K nm)) (.type "ValueError") = some true := fun {nm bs} q => by
      unfold clsB at q
      simp only [Bool.and_eq_true, Bool.or_eq_true, decide_eq_true_eq] at q
      obtain ⟨q0, q1, q2, q3, q4, q5, q6, q7, q8, q9⟩ := q
      exact ⟨oexB_ok q1, xfB_ok q2, noAtB_ok q3, q4, q5, q6, supVB_ok q7, q8, fun z => q9.elim (fun y => by rw [z] at y; cases y) supOB_ok, excCB_ok q0⟩
    have pb := parts e1
    obtain ⟨cda, cc, q, params, body, sc, fdB, T, hb, bnd⟩ := defIB_ok (P := P) (mg := mg) pb.2.2.2.2.2.1 top hmg
    obtain ⟨p0, p1, p2, p3, p4, p5, q0, q1, q2, q3, j, r0, r1, r2, r3, rfl, hl⟩ := body_base hb
    have G1 : ∀ k, FnOk P w K mg base (L2.CX P w) (k + 1) (He.ma K (He.ga K b) "__init__") fdB ["self", "place"] (spI 2 (okV K (He.ga K b)) b) := fun k => base_ok hl T
    have at_ : ∀ (c : Nat) (nm : Str) (A : Addr), ((b :: r).map fun nm => (nm, He.ga K nm))[c]? = some (nm, A) → (b :: r)[c]? = some nm ∧ A = He.ga K nm := fun c nm A h => by
      rw [List.getElem?_map] at h
      cases z : (b :: r)[c]? with
      | none => rw [z] at h; cases h
      | some n => rw [z] at h; cases h; exact ⟨rfl, rfl⟩
    have cl : ∀ (c : Nat) (nm : Str), (b :: r)[c]? = some nm → ∃ bs, clsB K P.main.file (He.ga K b) bs nm = true ∧ (bs = true → nm = b) := fun c nm h => by
      cases c with
      | zero => cases h; exact ⟨true, e1, fun _ => rfl⟩
      | succ c => exact ⟨false, e2 nm (List.mem_of_getElem? (i := c) (by simpa using h)), fun z => by cases z⟩
    refine ⟨fun c nm A h => ?_, fun c nm A h => ?_, fun c c' nm nm' A A' h h' => ?_, fun c nm A h => ?_, hve⟩
    · obtain ⟨h1, rfl⟩ := at_ c nm A h
      obtain ⟨bs, hc, _⟩ := cl c nm h1
      exact PySem.W.mg_of X G (parts hc).2.2.2.2.2.2.2.1
    · obtain ⟨h1, rfl⟩ := at_ c nm A h
      obtain ⟨bs, hc, hbs⟩ := cl c nm h1
      have pc := parts hc
      cases bs with
      | true =>
        have := hbs rfl
        subst this
        exact ⟨2, by decide, pc.1, pc.2.1, pc.2.2.1, _, fdB, _, pc.2.2.2.1, pc.2.2.2.2.1, ⟨pc.2.2.2.2.2.2.1, pc.2.2.1⟩, G1 1, bnd⟩
      | false =>
        obtain ⟨cda', cc', q', params', body', sc', fd', T', hb', bnd'⟩ := defIB_ok (P := P) (mg := mg) pc.2.2.2.2.2.1 top hmg
        obtain ⟨a0, a1, a2, a3, a4, a5, j', b0, b1, b2, b3, rfl, hl'⟩ := body_more hb'
        exact ⟨3, by decide, pc.1, pc.2.1, pc.2.2.1, _, fd', _, pc.2.2.2.1, pc.2.2.2.2.1, ⟨pc.2.2.2.2.2.2.2.2.1 rfl, ⟨pc.2.2.2.2.2.2.1, pc.2.2.1⟩, pc.2.2.1⟩, more_ok hl' (by decide) T' (G1 0) bnd, bnd'⟩
    · obtain ⟨h1, rfl⟩ := at_ c nm A h
      obtain ⟨h2, rfl⟩ := at_ c' nm' A' h'
      have := e3 c (List.getElem?_eq_some_iff.mp h1).1 c' (List.getElem?_eq_some_iff.mp h2).1
      rw [List.getD_eq_getElem?_getD, List.getD_eq_getElem?_getD, h1, h2] at this
      exact this
    · obtain ⟨h1, rfl⟩ := at_ c nm A h
      obtain ⟨bs, hc, _⟩ := cl c nm h1
      exact (parts hc).2.2.2.2.2.2.2.2.2
end
end MP
set_option maxHeartbeats 2400000
/-! Ev17: what the head tells, as Top asks it. -/
namespace MP
open PySem PySem.Spec L2 MX
def blNames : List Str := ["len", "abs", "int", "str", "bool", "tuple", "list", "any", "all", "sum", "max", "min", "dict", "isinstance", "range", "enumerate", "zip", "reversed"]
def suNames : List Str := ["super", "ValueError"]
def faGl : Str × D → He.Fa
  | (x, .int i) => .int x i
  | (x, .str z) => .str x z
  | (x, _) => .free x
def glB1 : Str × D → Bool
  | (_, .int _) => true
  | (_, .str _) => true
  | _ => false
def faOf (es : List DDef) (gls : List (Str × D)) : List He.Fa := (es.map fun e => He.Fa.glo e.d.at_.1) ++ (blNames.map He.Fa.free ++ (gls.map faGl ++ suNames.map He.Fa.free))
theorem lookup_in {α β : Type} [BEq α] [LawfulBEq α] : ∀ {l : List (α × β)} {x : α} {d : β}, l.lookup x = some d → (x, d) ∈ l
  | [], x, d, h => by cases h
  | (y, e) :: r, x, d, h => by
    rw [List.lookup_cons] at h
    split at h
    · rename_i hy
      cases h
      have : x = y := by simpa using hy
      subst this
      exact List.mem_cons_self ..
    · exact List.mem_cons_of_mem _ (lookup_in h)
section
variable {K : PySem.W.Frag} {h : Heap} {mg : Str → Option Value} {es : List DDef} {gls : List (Str × D)} {fns : List (Str × Nat × Nat × List D)} {Fs : List Fn} {xs : List Str} {P : Program} {w : World}
theorem fa_glo (c : He.SaysD (faOf es gls) (es.map (·.d)) K) (X : K.In h) (G : h.Ns mainGlobals mg) {e : DDef} (he : e ∈ es) {x : Str} (hx : e.d.at_ = (x, none)) : mg x = some (.ref (He.fAd K e.d.at_)) := by
  have := He.glo_ok X G (c.facts (f := .glo e.d.at_.1) (List.mem_append_left _ (List.mem_map.mpr ⟨e, he, rfl⟩)))
  rw [hx] at this ⊢
  exact this
/-- what a def told by hand may lean on -/
def PrOk (P : Program) (w : World) (es : List DDef) (fns : List (Str × Nat × Nat × List D)) : Prop := ∀ (K : PySem.W.Frag) (mg : Str → Option Value), (∀ x ∈ blNames, mg x = none) → (∀ e ∈ es, ∀ x, e.d.at_ = (x, none) → mg x = some (.ref (He.fAd K e.d.at_))) → (∀ e ∈ es, ∃ fd, e.Is K fd) →
  (∀ x i m dfl, (x, i, m, dfl) ∈ fns → ∃ e, es[i]? = some e ∧ mg x = some (.ref (He.fAd K e.d.at_)) ∧ ∀ fd, e.Is K fd → ∃ dvs ds, Binds K fd e.ps ds ∧ Vals dvs ds ∧ ∀ L H, DenAll K L H dvs dfl) →
  ∀ base, K.In base → ∀ (XR : XRel) (i : Nat) (e : DDef) (g : (Nat → List W → Sto → Out Val) → List W → Sto → Out Val), es[i]? = some e → e.pr = some g → ∀ (fd : FuncData) (n : Nat) (run : Nat → List W → Sto → Out Val), e.Is K fd → XAnti XR →
    (∀ (j : Nat) (e' : DDef) (fd' : FuncData), es[j]? = some e' → e'.Is K fd' → FnOk P w K mg base (L2.CX P w) (n + 3) (He.fAd K e'.d.at_) fd' e'.ps (spR K XR e'.ps.length (run j)) ∧ ∀ ws st, ws.length ≠ e'.ps.length → run j ws st = .bad) →
    FnOk P w K mg base (L2.CX P w) (n + 4) (He.fAd K e.d.at_) fd e.ps (spR K XR e.ps.length (prG e (g run)))
theorem prOk_none {es : List DDef} (h : es.all (fun e => e.pr.isNone) = true) : PrOk P w es fns := fun K mg _ _ _ _ base _ XR i e g hi hg => by
  have := List.all_eq_true.mp h e (List.mem_of_getElem? hi)
  rw [hg] at this
  cases this
theorem top_mk (pk : PrOk P w es fns) (c : He.SaysD (faOf es gls) (es.map (·.d)) K) (ex : exB P.main.file xs K = true) (htop : xs ≠ [] → (P.main.scope.names.lookup ("super" : Str)).isSome = false) (X : K.In h) (G : h.Ns mainGlobals mg) (hc : mapO (DDef.fn fns gls xs) es = some Fs) (hg : gls.all glB1 = true)
    (cl : ∀ x i m dfl, (x, i, m, dfl) ∈ fns → ∃ e, es[i]? = some e ∧ e.d.at_ = (x, none) ∧ ∀ fd, e.Is K fd → ∃ dvs ds, Binds K fd e.ps ds ∧ Vals dvs ds ∧ ∀ L H, DenAll K L H dvs dfl) : Top P w K mg es Fs fns gls xs where
  comp := hc
  xc := ⟨_, by rw [List.map_map]; exact (List.map_id _).symm, fun base _ => xa_ok ex X G htop (He.free_ok X G (c.facts (f := .free "super") (List.mem_append_right _ (List.mem_append_right _ (List.mem_append_right _ (by simp [suNames])))))) (He.free_ok X G (c.facts (f := .free "ValueError") (List.mem_append_right _ (List.mem_append_right _ (List.mem_append_right _ (by simp [suNames]))))))⟩
  is := fun e he => c.defs (d := e.d) (List.mem_map.mpr ⟨e, he, rfl⟩)
  pr := pk K mg (fun x hx => He.free_ok X G (c.facts (f := .free x) (List.mem_append_right _ (List.mem_append_left _ (List.mem_map.mpr ⟨x, hx, rfl⟩)))))
    (fun e he x hx => fa_glo c X G he hx) (fun e he => c.defs (d := e.d) (List.mem_map.mpr ⟨e, he, rfl⟩))
    (fun x i m dfl hm => by
      obtain ⟨e, he, hx, hb⟩ := cl x i m dfl hm
      exact ⟨e, he, fa_glo c X G (List.mem_of_getElem? he) hx, hb⟩)
  bl := fun x hx => He.free_ok X G (c.facts (f := .free x) (List.mem_append_right _ (List.mem_append_left _ (List.mem_map.mpr ⟨x, hx, rfl⟩))))
  gl := fun x d hd => by
    have hm := lookup_in hd
    have hf := c.facts (f := faGl (x, d)) (List.mem_append_right _ (List.mem_append_right _ (List.mem_append_left _ (List.mem_map.mpr ⟨_, hm, rfl⟩))))
    have hb := List.all_eq_true.mp hg _ hm
    cases d with
    | int i => obtain ⟨t, e⟩ := He.int_ok X G hf; exact ⟨.int i, _, e, ⟨_, rfl⟩, fun _ _ => .int i⟩
    | str z => obtain ⟨t, e⟩ := He.str_ok X G hf; exact ⟨.str z, _, e, ⟨_, rfl⟩, fun _ _ => .str z⟩
    | _ => cases hb
  cl := fun x i m dfl hm => by
    obtain ⟨e, he, hx, hb⟩ := cl x i m dfl hm
    exact ⟨e, he, fa_glo c X G (List.mem_of_getElem? he) hx, hb⟩
end
end MP
set_option maxHeartbeats 2400000
/-! Ev18: the evaluator, step by step, as rules. -/
namespace MP
open PySem
section
variable {C : CE} {σ σ' : Env} {st s1 s2 s3 : Sto} {a b c e : E} {x y z : Val} {w : W}
def pick {α : Type} (b : Bool) (t f : α) : α := match b with
  | true => t
  | false => f
theorem pick_t {α : Type} {t f : α} {o : α} (h : t = o) : pick true t f = o := h
theorem pick_f {α : Type} {t f : α} {o : α} (h : f = o) : pick false t f = o := h
theorem pick_tE {α : Type} {b : Bool} {t f : α} {o : α} (hb : b = true) (h : t = o) : pick b t f = o := by rw [hb]; exact h
theorem pick_fE {α : Type} {b : Bool} {t f : α} {o : α} (hb : b = false) (h : f = o) : pick b t f = o := by rw [hb]; exact h
theorem rngOk_nat (n : Nat) (h : n ≤ 1000000) : rngOk (n : Int) = true := by
  unfold rngOk
  apply decide_eq_true
  constructor
  · have : (0 : Int) ≤ (n : Int) := Int.natCast_nonneg _
    have h2 : (-(2 ^ 62) : Int) ≤ 0 := by simp
    exact Int.le_trans h2 this
  · have : (n : Int) < 1000001 := by omega
    have h2 : (1000001 : Int) ≤ 2 ^ 62 := by simp
    exact Int.lt_of_lt_of_le this h2
theorem rng1_of (i : Int) (hk : rngOk i = true) : rng1V [vInt i] = some (rngW 0 i) := by
  unfold rng1V
  show (if rngOk i = true then some (rngW 0 i) else none) = _
  exact if_pos hk
theorem rng_ok (n : Nat) (h : n ≤ 1000000) : rng1V [vInt n] = some (rngW 0 n) := rng1_of n (rngOk_nat n h)
theorem ev_var {i : Nat} (h : σ[i]? = some (some w)) : evE C (.var i) σ st = .ok (.w w) st := by simp only [evE, h]
theorem ev_cst {d : D} : evE C (.cst d) σ st = .ok (.w (.d d)) st := by simp only [evE]
theorem ev_bin {op : Operator} (h1 : evE C a σ st = .ok x s1) (h2 : evE C b σ s1 = .ok y s2) (h3 : binV op s2 x y = some z) : evE C (.bin op a b) σ st = .ok z s2 := by simp only [evE, h1, h2, h3, Out.bind, liftO]
theorem ev_neg (h1 : evE C a σ st = .ok x s1) (h3 : negV x = some z) : evE C (.neg a) σ st = .ok z s1 := by simp only [evE, h1, h3, Out.bind, liftO]
theorem ev_nt {r : Bool} (h1 : evE C a σ st = .ok x s1) (h3 : bool? x = some r) : evE C (.nt a) σ st = .ok (vBool (!r)) s1 := by simp only [evE, h1, h3, Out.bind, liftO, Option.map]
theorem ev_an {r : Bool} (h1 : evE C a σ st = .ok x s1) (h3 : bool? x = some r) (h4 : pick r (evE C b σ s1) (.ok (vBool false) s1) = .ok z s2) : evE C (.an a b) σ st = .ok z s2 := by
  simp only [evE, h1, h3, Out.bind]; cases r <;> exact h4
theorem ev_orr {r : Bool} (h1 : evE C a σ st = .ok x s1) (h3 : bool? x = some r) (h4 : pick r (.ok (vBool true) s1) (evE C b σ s1) = .ok z s2) : evE C (.orr a b) σ st = .ok z s2 := by
  simp only [evE, h1, h3, Out.bind]; cases r <;> exact h4
theorem ev_ife {r : Bool} (h1 : evE C c σ st = .ok x s1) (h3 : bool? x = some r) (h4 : pick r (evE C a σ s1) (evE C b σ s1) = .ok z s2) : evE C (.ife c a b) σ st = .ok z s2 := by
  simp only [evE, h1, h3, Out.bind]; cases r <;> exact h4
theorem ev_cmp {op : CmpOp} {r : Bool} (h1 : evE C a σ st = .ok x s1) (h2 : evE C b σ s1 = .ok y s2) (h3 : cmpV op s2 x y = some r) : evE C (.cmp op a b) σ st = .ok (vBool r) s2 := by simp only [evE, h1, h2, h3, Out.bind, liftO, cmpB]
theorem ev_cmp2 {o1 o2 : CmpOp} {r : Bool} (h1 : evE C a σ st = .ok x s1) (h2 : evE C b σ s1 = .ok y s2) (h3 : cmpV o1 s2 x y = some r) (h4 : pick r ((evE C c σ s2).bind fun z st => (cmpB o2 st y z).bind fun r st => .ok (vBool r) st) (.ok (vBool false) s2) = .ok z s3) : evE C (.cmp2 o1 o2 a b c) σ st = .ok z s3 := by
  simp only [evE, h1, h2, h3, Out.bind, liftO, cmpB] at h4 ⊢; cases r <;> exact h4
theorem ev_cmp2b {o2 : CmpOp} {r : Bool} (h1 : evE C c σ s2 = .ok z s3) (h2 : cmpV o2 s3 y z = some r) : ((evE C c σ s2).bind fun z st => (cmpB o2 st y z).bind fun r st => Out.ok (vBool r) st) = .ok (vBool r) s3 := by
  simp only [h1, h2, Out.bind, liftO, cmpB]
theorem ev_tup {es : List E} {vs : List Val} {ds : List D} (h1 : evEs C es σ st = .ok vs s1) (h2 : dsOf vs = some ds) (h3 : decide (ds.length ≤ line) = true) : evE C (.tup es) σ st = .ok (vTup ds) s1 := by
  simp only [evE, h1, h2, Out.bind, liftO, Option.bind, if_pos (of_decide_eq_true h3)]
theorem ev_lst {es : List E} {vs : List Val} {ws : List W} (h1 : evEs C es σ st = .ok vs s1) (h2 : wsOf vs = some ws) (h3 : decide (ws.length ≤ line) = true) : evE C (.lst false es) σ st = .ok (.fl ws) s1 := by
  simp only [evE, h1, h2, Out.bind, liftO, Option.bind, if_pos (of_decide_eq_true h3)]
theorem ev_dis : evE C (.dis []) σ st = .ok (.fd []) st := by simp only [evE, evKvs, Out.bind]
theorem ev_ix (h1 : evE C a σ st = .ok x s1) (h2 : evE C b σ s1 = .ok y s2) (h3 : ixV s2 x y = some z) : evE C (.ix a b) σ st = .ok z s2 := by simp only [evE, h1, h2, h3, Out.bind, liftO]
theorem ev_sl {lo hi : Option E} {l h : Option Int} (h1 : evE C a σ st = .ok x s1) (h2 : evO C lo σ s1 = .ok l s2) (h3 : evO C hi σ s2 = .ok h s3) (h4 : slV s3 x l h = some z) : evE C (.sl a lo hi) σ st = .ok z s3 := by simp only [evE, h1, h2, h3, h4, Out.bind, liftO]
theorem eo_none : evO C none σ st = .ok none st := by simp only [evO]
theorem eo_some {i : Int} (h1 : evE C a σ st = .ok x s1) (h2 : int? x = some i) : evO C (some a) σ st = .ok (some i) s1 := by simp only [evO, h1, h2, Out.bind, liftO, Option.map]
theorem ev_call {f : Nat} {es : List E} {dfl : List D} {vs : List Val} {ws : List W} (h1 : evEs C es σ st = .ok vs s1) (h2 : wsOf vs = some ws) (h3 : callV C f (ws ++ dfl.map .d) s1 = .ok z s2) : evE C (.call f es dfl) σ st = .ok z s2 := by simp only [evE, h1, h2, h3, Out.bind, liftO]
theorem ev_blt {bl : Blt} {es : List E} {vs : List Val} (h1 : evEs C es σ st = .ok vs s1) (h2 : bltV bl s1 vs = some z) : evE C (.blt bl es) σ st = .ok z s1 := by simp only [evE, h1, h2, Out.bind, liftO]
theorem ev_mth {m : Mth} {es : List E} {vs : List Val} {r : Val × Sto} (h1 : evE C a σ st = .ok x s1) (h0 : recvOk m s1 x = true) (h2 : evEs C es σ s1 = .ok vs s2) (h3 : mthV m s2 x vs = some r) : evE C (.mth m a es) σ st = .ok r.1 r.2 := by simp only [evE, h1, h0, h2, h3, Out.bind]
theorem ev_isi {ts : List Ty} {r : Bool} (h1 : evE C a σ st = .ok x s1) (h2 : isTys s1 x ts = some r) : evE C (.isi a ts) σ st = .ok (vBool r) s1 := by simp only [evE, h1, h2, Out.bind, liftO, Option.map]
/-- a comprehension's turn -/
def lcF (C : CE) (own : List Nat) (t : Tg) (cs : List E) (e : E) (σ : Env) : W → Sto → Out (Option W) := fun x st => match bindT t x (wipeE σ own) with
  | none => .bad
  | some σ' => (evCs C cs σ' st).noX.bind fun b st => match b with
    | true => (evE C e σ' st).noX.bind fun v st => liftO ((wOf v).map some) st
    | false => .ok none st
theorem ev_lc {own : List Nat} {t : Tg} {s : Src} {cs : List E} {it : Itx} {ys : List W} (h0 : (s.isW && !t.isTp) = false) (h1 : evSrc C s σ st = .ok it s1) (h2 : gathOf C.lf (lcF C own t cs e σ) it s1 = .ok ys s2) : evE C (.lc own t s cs e) σ st = .ok (.fl ys) s2 := by
  simp only [evE, h0, h1, Out.bind_ok, Bool.false_eq_true, if_false]
  show Out.bind (gathOf C.lf (lcF C own t cs e σ) it s1) _ = _
  rw [h2]
  rfl
theorem lcF_ok {own : List Nat} {t : Tg} {cs : List E} {r : Bool} {oy : Option W} (h1 : bindT t w (wipeE σ own) = some σ') (h2 : evCs C cs σ' st = .ok r s1) (h3 : pick r ((evE C e σ' s1).bind fun v st => liftO ((wOf v).map some) st) (.ok none s1) = .ok oy s2) : lcF C own t cs e σ w st = .ok oy s2 := by
  cases r with
  | false => simp only [lcF, h1, h2, Out.bind, Out.noX]; exact h3
  | true =>
    simp only [lcF, h1, h2, Out.bind, Out.noX]
    cases q : evE C e σ' s1 with
    | ok v st' => rw [q] at h3; exact h3
    | exc c p st' => rw [q] at h3; cases h3
    | bad => rw [q] at h3; cases h3
theorem lcE {w' : W} (h3 : evE C e σ st = .ok x s1) (h4 : wOf x = some w') : ((evE C e σ st).bind fun v st => liftO ((wOf v).map some) st) = .ok (some w') s1 := by simp only [h3, h4, Out.bind, liftO, Option.map]
theorem ec_nil : evCs C [] σ st = .ok true st := by simp only [evCs]
theorem ec_one {r : Bool} (h1 : evE C a σ st = .ok x s1) (h2 : bool? x = some r) : evCs C [a] σ st = .ok r s1 := by
  simp only [evCs, h1, h2, Out.bind]; cases r <;> rfl
theorem ga_items {f : W → Sto → Out (Option W)} {xs ys : List W} {lf : Nat} (h : gath f xs [] st = .ok ys s1) : gathOf lf f (.items xs) st = .ok ys s1 := h
theorem ga_nil {f : W → Sto → Out (Option W)} {acc : List W} : gath f [] acc st = .ok acc st := rfl
def nextG (oy : Option W) (acc : List W) (k : List W → Out (List W)) : Out (List W) := match oy with
  | some y => if acc.length < line then k (acc ++ [y]) else .bad
  | none => k acc
theorem ng_none {acc : List W} {k : List W → Out (List W)} {o : Out (List W)} (h : k acc = o) : nextG none acc k = o := h
theorem ng_some {acc : List W} {y : W} {k : List W → Out (List W)} {o : Out (List W)} (h0 : decide (acc.length < line) = true) (h : k (acc ++ [y]) = o) : nextG (some y) acc k = o := by
  simp only [nextG, if_pos (of_decide_eq_true h0), h]
theorem ga_cons {f : W → Sto → Out (Option W)} {x : W} {oy : Option W} {xs acc ys : List W} (h1 : f x st = .ok oy s1) (h2 : nextG oy acc (fun acc' => gath f xs acc' s1) = .ok ys s2) : gath f (x :: xs) acc st = .ok ys s2 := by
  simp only [gath, h1, Out.bind]; cases oy <;> exact h2
theorem es_nil : evEs C [] σ st = .ok [] st := by simp only [evEs]
theorem es_cons {es : List E} {vs : List Val} (h1 : evE C a σ st = .ok x s1) (h2 : evEs C es σ s1 = .ok vs s2) : evEs C (a :: es) σ st = .ok (x :: vs) s2 := by simp only [evEs, h1, h2, Out.bind]
theorem sr_it {it : Itx} (h1 : evE C a σ st = .ok x s1) (h2 : itOf s1 x = some it) : evSrc C (.it a) σ st = .ok it s1 := by simp only [evSrc, h1, h2, Out.bind, liftO]
theorem sr_rng1 {es : List E} {vs : List Val} {xs : List W} (h1 : evEs C es σ st = .ok vs s1) (h2 : rng1V vs = some xs) : evSrc C (.rng1 es) σ st = .ok (.items xs) s1 := by simp only [evSrc, h1, h2, Out.bind, liftO, Option.map]
theorem sr_rng2 {es : List E} {vs : List Val} {xs : List W} (h1 : evEs C es σ st = .ok vs s1) (h2 : rng2V vs = some xs) : evSrc C (.rng2 es) σ st = .ok (.items xs) s1 := by simp only [evSrc, h1, h2, Out.bind, liftO, Option.map]
theorem sr_enm {es : List E} {vs : List Val} {xs : List W} (h1 : evEs C es σ st = .ok vs s1) (h2 : enmV vs = some xs) : evSrc C (.enm es) σ st = .ok (.items xs) s1 := by simp only [evSrc, h1, h2, Out.bind, liftO, Option.map]
theorem sr_zp {es : List E} {vs : List Val} {xs : List W} (h1 : evEs C es σ st = .ok vs s1) (h2 : zpV vs = some xs) : evSrc C (.zp es) σ st = .ok (.items xs) s1 := by simp only [evSrc, h1, h2, Out.bind, liftO, Option.map]
/-! statements -/
def nextS (fl : Fl) (st : Sto) (k : Env → Out Fl) : Out Fl := match fl with
  | .nx σ => k σ
  | fl => .ok fl st
theorem nx_nx {k : Env → Out Fl} {o : Out Fl} (h : k σ = o) : nextS (.nx σ) st k = o := h
theorem nx_rt {k : Env → Out Fl} : nextS (.rt x) st k = .ok (.rt x) st := rfl
theorem nx_bk {k : Env → Out Fl} : nextS (.bk σ) st k = .ok (.bk σ) st := rfl
theorem nx_ct {k : Env → Out Fl} : nextS (.ct σ) st k = .ok (.ct σ) st := rfl
theorem ss_nil : evSs C [] σ st = .ok (.nx σ) st := by simp only [evSs]
theorem ss_cons {s : S} {r : List S} {fl fl' : Fl} (h1 : evS C s σ st = .ok fl s1) (h2 : nextS fl s1 (fun σ' => evSs C r σ' s1) = .ok fl' s2) : evSs C (s :: r) σ st = .ok fl' s2 := by
  simp only [evSs, h1, Out.bind]; cases fl <;> exact h2
theorem s_asg {i : Nat} (h1 : evE C e σ st = .ok x s1) (h2 : wOf x = some w) : evS C (.asg false i e) σ st = .ok (.nx (σ.set i (some w))) s1 := by
  simp only [evS, h1, Out.bind, h2]
def ownV : Val → Option Cell
  | .fl xs => some (.lst xs)
  | .fd xs => some (.dct xs)
  | _ => none
theorem s_own {i : Nat} {c : Cell} (h1 : evE C e σ st = .ok x s1) (h2 : ownV x = some c) : evS C (.asg true i e) σ st = .ok (.nx (σ.set i (some (.ref s1.length)))) (s1 ++ [c]) := by
  cases x with
  | w w => cases h2
  | fl xs => cases h2; simp only [evS, h1, Out.bind]
  | fd xs => cases h2; simp only [evS, h1, Out.bind]
theorem s_unp {ts : List Tg} (h1 : evE C e σ st = .ok (.w w) s1) (h2 : bindT (.tp ts) w σ = some σ') : evS C (.unp ts e) σ st = .ok (.nx σ') s1 := by simp only [evS, h1, Out.bind, h2, liftO, Option.map]
theorem s_par {i j : Nat} {w' : W} (h1 : evE C a σ st = .ok x s1) (h2 : evE C b σ s1 = .ok y s2) (h3 : wOf x = some w) (h4 : wOf y = some w') : evS C (.par i j a b) σ st = .ok (.nx ((σ.set i (some w)).set j (some w'))) s2 := by simp only [evS, h1, h2, h3, h4, Out.bind]
theorem s_set {o i : E} {ov iv : Val} {s' : Sto} (h1 : evE C e σ st = .ok x s1) (h2 : evE C o σ s1 = .ok ov s2) (h3 : evE C i σ s2 = .ok iv s3) (h4 : wOf x = some w) (h5 : setCell s3 ov iv w = some s') : evS C (.setI o i e) σ st = .ok (.nx σ) s' := by
  simp only [evS, h1, h2, h3, Out.bind, h4, Option.bind, h5]
theorem s_ex (h1 : evE C e σ st = .ok x s1) : evS C (.ex e) σ st = .ok (.nx σ) s1 := by simp only [evS, h1, Out.bind]
theorem s_iff {p q : List S} {r : Bool} {fl : Fl} (h1 : evE C c σ st = .ok x s1) (h2 : bool? x = some r) (h3 : pick r (evSs C p σ s1) (evSs C q σ s1) = .ok fl s2) : evS C (.iff c p q) σ st = .ok fl s2 := by
  simp only [evS, evB, h1, h2, Out.bind, liftO]; cases r <;> exact h3
theorem s_ret (h1 : evE C e σ st = .ok x s1) : evS C (.ret (some e)) σ st = .ok (.rt x) s1 := by simp only [evS, h1, Out.bind]
theorem s_retN : evS C (.ret none) σ st = .ok (.rt vNone) st := by simp only [evS]
theorem s_pss : evS C .pss σ st = .ok (.nx σ) st := by simp only [evS]
theorem s_brk : evS C .brk σ st = .ok (.bk σ) st := by simp only [evS]
theorem s_cnt : evS C .cnt σ st = .ok (.ct σ) st := by simp only [evS]
/-- a loop's turn -/
def frF (C : CE) (t : Tg) (b : List S) : W → Env → Sto → Out Fl := fun x σ st => match bindT t x σ with
  | none => .bad
  | some σ' => evSs C b σ' st
theorem s_fr {t : Tg} {s : Src} {p : List S} {it : Itx} {fl : Fl} (h0 : (s.isW && !t.isTp) = false) (h1 : evSrc C s σ st = .ok it s1) (h2 : forOf C.lf (frF C t p) it σ s1 = .ok fl s2) : evS C (.fr t s p) σ st = .ok fl s2 := by
  simp only [evS, h0, h1, Out.bind_ok, Bool.false_eq_true, if_false]
  show forOf C.lf (frF C t p) it σ s1 = _
  exact h2
theorem fo_items {f : W → Env → Sto → Out Fl} {xs : List W} {lf : Nat} {fl : Fl} (h : forItems f xs σ st = .ok fl s1) : forOf lf f (.items xs) σ st = .ok fl s1 := h
theorem fo_nil {f : W → Env → Sto → Out Fl} : forItems f [] σ st = .ok (.nx σ) st := rfl
def nextF (fl : Fl) (st : Sto) (k : Env → Out Fl) : Out Fl := match fl with
  | .nx σ => k σ
  | .ct σ => k σ
  | .bk σ => .ok (.nx σ) st
  | .rt v => .ok (.rt v) st
theorem nf_nx {k : Env → Out Fl} {o : Out Fl} (h : k σ = o) : nextF (.nx σ) st k = o := h
theorem nf_ct {k : Env → Out Fl} {o : Out Fl} (h : k σ = o) : nextF (.ct σ) st k = o := h
theorem nf_rt {k : Env → Out Fl} : nextF (.rt x) st k = .ok (.rt x) st := rfl
theorem nf_bk {k : Env → Out Fl} : nextF (.bk σ) st k = .ok (.nx σ) st := rfl
theorem fo_cons {f : W → Env → Sto → Out Fl} {x : W} {xs : List W} {fl fl' : Fl} (h1 : f x σ st = .ok fl s1) (h2 : nextF fl s1 (fun σ' => forItems f xs σ' s1) = .ok fl' s2) : forItems f (x :: xs) σ st = .ok fl' s2 := by
  simp only [forItems, h1, Out.bind]; cases fl <;> exact h2
theorem frF_ok {t : Tg} {p : List S} {fl : Fl} (h1 : bindT t w σ = some σ') (h2 : evSs C p σ' st = .ok fl s1) : frF C t p w σ st = .ok fl s1 := by simp only [frF, h1, h2]
/-! calls -/
theorem cl_pure {f : Nat} {ws : List W} {v v' : Val} (h0 : ws.all W.pur = true) (h1 : C.run f ws [] = .ok v s1) (h2 : valBelow 0 s1 v = some v') : callV C f ws st = .ok v' st := by
  cases st with
  | nil => simp only [callV, h0, h1, gcAt, List.take_zero, List.all_nil, if_true, h2]
  | cons c r => simp only [callV, h0, h1, gcS, h2, onto]
theorem cl_heap {f : Nat} {ws : List W} {v v' : Val} (h0 : ws.all W.pur = false) (h1 : C.run f ws st = .ok v s1) (h2 : (s1.take st.length).all (Cell.below st.length) = true) (h3 : valBelow st.length s1 v = some v') : callV C f ws st = .ok v' (s1.take st.length) := by
  simp only [callV, h0, h1, gcAt, h2, if_true, h3]
/-- the first call of all: new cells stay -/
theorem cl_keep {f : Nat} {ws : List W} {v : Val} (h0 : ws.all W.pur = true) (h1 : C.run f ws [] = .ok v s1) (h2 : valBelow 0 s1 v = none) : callV C f ws [] = .ok v s1 := by
  simp only [callV, h0, h1, gcAt, List.take_zero, List.all_nil, if_true, h2]
theorem cl_keepH {f : Nat} {ws : List W} {v : Val} (h0 : ws.all W.pur = false) (h1 : C.run f ws st = .ok v s1) (h2 : (s1.take st.length).all (Cell.below st.length) = true) (h3 : valBelow st.length s1 v = none) : callV C f ws st = .ok v s1 := by
  simp only [callV, h0, h1, gcAt, h2, if_true, h3]
theorem run_fn {T : Nat → Option Fn} {lf n i : Nat} {fn : Fn} {ws : List W} {v : Val} (h : T i = some fn) (h0 : fn.pr = none) (h1 : ws.length = fn.np) (h2 : evSs ⟨runAt T lf n, lf⟩ fn.body (entry fn ws) st = .ok (.rt v) s1) : runAt T lf (n + 1) i ws st = .ok v s1 := by
  simp only [runAt, h, h0, runFn, if_pos h1, h2, retOf]
theorem run_pr {T : Nat → Option Fn} {lf n i : Nat} {fn : Fn} {g : (Nat → List W → Sto → Out Val) → List W → Sto → Out Val} {ws : List W} {v : Val} (h : T i = some fn) (h0 : fn.pr = some g) (h1 : ws.length = fn.np) (h2 : g (runAt T lf n) ws st = .ok v s1) : runAt T lf (n + 1) i ws st = .ok v s1 := by
  simp only [runAt, h, h0, if_pos h1, h2]
def celV : Val → Option Cell
  | .fl xs => some (.lst xs)
  | .fd xs => some (.dct xs)
  | _ => none
theorem ev_cel {c : Cell} (h1 : evE C e σ st = .ok x s1) (h2 : celV x = some c) : evE C (.cel e) σ st = .ok (.w (.ref s1.length)) (s1 ++ [c]) := by
  cases x with
  | w w => cases h2
  | fl xs => cases h2; simp only [evE, h1, Out.bind]
  | fd xs => cases h2; simp only [evE, h1, Out.bind]
theorem ev_celW (h1 : evE C e σ st = .ok (.w w) s1) : evE C (.cel e) σ st = .ok (.w w) s1 := by simp only [evE, h1, Out.bind]
end
end MP
set_option maxHeartbeats 0
namespace KI
open PySem PySem.Spec L2 MP
def top (i : Nat) : Stmt := PySem.Challenge.pw_onetongue_k31_whole_instances_of_kinds.main.body.getD i (.Pass ⟨0, 0, 0, 0⟩)
def xs : List Str := []
def d0 : He.DefD := ⟨("letters_of", none), "letters_of", "letters_of", defArgs (top 1), defBody (top 1), defScope (top 1), [], []⟩
def e0 : DDef := ⟨d0, ["kind", "found", "one", "letter"], ["found"], none⟩
def b0 : List S := [(.iff (.cmp .Eq (.ix (.var 0) (.cst (.int 0))) (.cst (.str ⟨#[63]⟩))) [(.ret (some (.tup [(.ix (.var 0) (.cst (.int 1)))])))] []), (.asg true 1 (.dis [])), (.fr (.nm 2) (.it (.ix (.var 0) (.cst (.int 1)))) [(.fr (.nm 3) (.it (.call 0 [(.var 2)] [])) [(.setI (.var 1) (.var 3) (.cst (.bool true)))])]), (.ret (some (.blt .tuple [(.var 1)])))]
def f0 : Fn := ⟨1, 4, b0, none⟩
def d1 : He.DefD := ⟨("kind_size", none), "kind_size", "kind_size", defArgs (top 5), defBody (top 5), defScope (top 5), [], []⟩
def e1 : DDef := ⟨d1, ["kind", "rows", "count", "one"], ["rows"], none⟩
def b1 : List S := [(.par 1 2 (.cel (.lst false [(.var 0)])) (.cst (.int 0))), (.wh (.an (.cmp .NotEq (.var 1) (.lst false [])) (.cmp .LtE (.var 2) (.cst (.int 300)))) [(.asg false 3 (.mth .pop (.var 1) [])), (.aug 2 .Add (.cst (.int 1))), (.iff (.cmp .NotEq (.ix (.var 3) (.cst (.int 0))) (.cst (.str ⟨#[63]⟩))) [(.aug 1 .Add (.blt .list [(.ix (.var 3) (.cst (.int 1)))]))] [])]), (.ret (some (.var 2)))]
def f1 : Fn := ⟨1, 4, b1, none⟩
def d2 : He.DefD := ⟨("kind_told", none), "kind_told", "kind_told", defArgs (top 6), defBody (top 6), defScope (top 6), [], []⟩
def e2 : DDef := ⟨d2, ["told", "kind", "one"], [], none⟩
def b2 : List S := [(.iff (.cmp .Eq (.ix (.var 1) (.cst (.int 0))) (.cst (.str ⟨#[63]⟩))) [(.ret (some (.mth .get (.var 0) [(.ix (.var 1) (.cst (.int 1))), (.var 1)])))] []), (.ret (some (.tup [(.ix (.var 1) (.cst (.int 0))), (.blt .tuple [(.lc [2] (.nm 2) (.it (.ix (.var 1) (.cst (.int 1)))) [] (.call 2 [(.var 0), (.var 2)] []))])])))]
def f2 : Fn := ⟨2, 3, b2, none⟩
def d3 : He.DefD := ⟨("kinding_fresh", none), "kinding_fresh", "kinding_fresh", defArgs (top 7), defBody (top 7), defScope (top 7), [], []⟩
def e3 : DDef := ⟨d3, ["kinding", "begin", "parts", "names", "whole", "letters", "told", "k", "rows", "one", "row"], [], none⟩
def b3 : List S := [(.unp [(.nm 2), (.nm 3), (.nm 4)] (.var 0)), (.asg false 5 (.call 0 [(.tup [(.cst (.str ⟨#[97, 108, 108]⟩)), (.bin .Add (.bin .Add (.var 2) (.var 3)) (.tup [(.var 4)]))])] [])), (.asg false 6 (.blt .dict [(.lc [7] (.nm 7) (.rng1 [(.blt .len [(.var 5)])]) [] (.blt .pair [(.ix (.var 5) (.var 7)), (.tup [(.cst (.str ⟨#[63]⟩)), (.bin .Add (.var 1) (.var 7))])]))])), (.asg false 8 (.lc [10] (.nm 10) (.it (.tup [(.var 2), (.var 3)])) [] (.blt .tuple [(.lc [9] (.nm 9) (.it (.var 10)) [] (.call 2 [(.var 6), (.var 9)] []))]))), (.ret (some (.tup [(.tup [(.ix (.var 8) (.cst (.int 0))), (.ix (.var 8) (.cst (.int 1))), (.call 2 [(.var 6), (.var 4)] [])]), (.bin .Add (.var 1) (.blt .len [(.var 5)]))])))]
def f3 : Fn := ⟨2, 11, b3, none⟩
def d4 : He.DefD := ⟨("letter_name", none), "letter_name", "letter_name", defArgs (top 8), defBody (top 8), defScope (top 8), [], []⟩
def e4 : DDef := ⟨d4, ["k", "turn"], [], none⟩
def b4 : List S := [(.asg false 1 (.bin .FloorDiv (.var 0) (.blt .len [(.cst (.str ⟨#[97, 98, 99, 100, 101, 102, 103, 104, 105, 106, 107, 108, 109, 110, 111, 112, 113, 114, 115, 116, 117, 118, 119, 120, 121, 122]⟩))]))), (.ret (some (.bin .Add (.ix (.cst (.str ⟨#[97, 98, 99, 100, 101, 102, 103, 104, 105, 106, 107, 108, 109, 110, 111, 112, 113, 114, 115, 116, 117, 118, 119, 120, 121, 122]⟩)) (.bin .Mod (.var 0) (.blt .len [(.cst (.str ⟨#[97, 98, 99, 100, 101, 102, 103, 104, 105, 106, 107, 108, 109, 110, 111, 112, 113, 114, 115, 116, 117, 118, 119, 120, 121, 122]⟩))]))) (.ife (.cmp .Gt (.var 1) (.cst (.int 0))) (.blt .str [(.var 1)]) (.cst (.str ⟨#[]⟩))))))]
def f4 : Fn := ⟨1, 2, b4, none⟩
def d5 : He.DefD := ⟨("kinds_plain", none), "kinds_plain", "kinds_plain", defArgs (top 9), defBody (top 9), defScope (top 9), [], []⟩
def e5 : DDef := ⟨d5, ["kinds", "letters", "told", "k", "one"], [], none⟩
def b5 : List S := [(.asg false 1 (.call 0 [(.tup [(.cst (.str ⟨#[97, 108, 108]⟩)), (.blt .tuple [(.var 0)])])] [])), (.asg false 2 (.blt .dict [(.lc [3] (.nm 3) (.rng1 [(.blt .len [(.var 1)])]) [] (.blt .pair [(.ix (.var 1) (.var 3)), (.tup [(.cst (.str ⟨#[63]⟩)), (.call 4 [(.var 3)] [])])]))])), (.ret (some (.blt .tuple [(.lc [4] (.nm 4) (.it (.var 0)) [] (.call 2 [(.var 2), (.var 4)] []))])))]
def f5 : Fn := ⟨1, 5, b5, none⟩
def d6 : He.DefD := ⟨("kind_instance", none), "kind_instance", "kind_instance", defArgs (top 10), defBody (top 10), defScope (top 10), [], []⟩
def e6 : DDef := ⟨d6, ["general", "special", "told", "rows", "one", "other"], ["rows", "told"], none⟩
def b6 : List S := [(.par 2 3 (.cel (.dis [])) (.cel (.lst false [(.tup [(.var 0), (.var 1)])]))), (.wh (.cmp .NotEq (.var 3) (.lst false [])) [(.unp [(.nm 4), (.nm 5)] (.mth .pop (.var 3) [])), (.iff (.cmp .Eq (.ix (.var 4) (.cst (.int 0))) (.cst (.str ⟨#[63]⟩))) [(.iff (.cmp .NotEq (.mth .setdefault (.var 2) [(.ix (.var 4) (.cst (.int 1))), (.var 5)]) (.var 5)) [(.ret (some (.cst PyData.none)))] [])] [(.iff (.orr (.cmp .Eq (.ix (.var 5) (.cst (.int 0))) (.cst (.str ⟨#[63]⟩))) (.orr (.cmp .NotEq (.ix (.var 4) (.cst (.int 0))) (.ix (.var 5) (.cst (.int 0)))) (.cmp .NotEq (.blt .len [(.ix (.var 4) (.cst (.int 1)))]) (.blt .len [(.ix (.var 5) (.cst (.int 1)))])))) [(.ret (some (.cst PyData.none)))] [(.aug 3 .Add (.blt .lzip [(.ix (.var 4) (.cst (.int 1))), (.ix (.var 5) (.cst (.int 1)))]))])])]), (.ret (some (.var 2)))]
def f6 : Fn := ⟨2, 6, b6, none⟩
def d7 : He.DefD := ⟨("is_as_general", none), "is_as_general", "is_as_general", defArgs (top 11), defBody (top 11), defScope (top 11), [], []⟩
def e7 : DDef := ⟨d7, ["one", "other"], [], none⟩
def b7 : List S := [(.ret (some (.cmp .IsNot (.call 6 [(.var 0), (.var 1)] []) (.cst PyData.none))))]
def f7 : Fn := ⟨2, 2, b7, none⟩
def d8 : He.DefD := ⟨("kinds_alike", none), "kinds_alike", "kinds_alike", defArgs (top 12), defBody (top 12), defScope (top 12), [], []⟩
def e8 : DDef := ⟨d8, ["one", "other"], [], none⟩
def b8 : List S := [(.ret (some (.cmp .Eq (.call 5 [(.tup [(.var 0)])] []) (.call 5 [(.tup [(.var 1)])] []))))]
def f8 : Fn := ⟨2, 2, b8, none⟩
def d9 : He.DefD := ⟨("_law_state", none), "_law_state", "_law_state", defArgs (top 14), defBody (top 14), defScope (top 14), [], []⟩
def e9 : DDef := ⟨d9, ["script", "seed", "cell"], ["[]"], none⟩
def b9 : List S := [(.asg false 1 (.cst (.int 7))), (.fr (.nm 2) (.it (.var 0)) [(.asg false 1 (.bin .Mod (.blt .int [(.bin .Add (.bin .Mult (.var 1) (.cst (.int 31))) (.var 2))]) (.cst (.int 1000003))))]), (.ret (some (.lst false [(.cel (.lc [2] (.nm 2) (.it (.var 0)) [] (.blt .abs [(.var 2)]))), (.bin .Add (.var 1) (.cst (.int 1)))])))]
def f9 : Fn := ⟨1, 3, b9, none⟩
def d10 : He.DefD := ⟨("_law_draw", none), "_law_draw", "_law_draw", defArgs (top 15), defBody (top 15), defScope (top 15), [], []⟩
def e10 : DDef := ⟨d10, ["state", "many", "cells", "value", "mixed"], ["cells"], none⟩
def b10 : List S := [(.asg true 2 (.ix (.var 0) (.cst (.int 0)))), (.wh (.an (.cmp .Gt (.blt .len [(.var 2)]) (.cst (.int 0))) (.cmp .Eq (.ix (.var 2) (.cst (.int 0))) (.cst (.int 0)))) [(.ex (.mth .pop (.var 2) [(.cst (.int 0))]))]), (.iff (.cmp .Gt (.blt .len [(.var 2)]) (.cst (.int 0))) [(.asg false 3 (.ix (.var 2) (.cst (.int 0)))), (.setI (.var 2) (.cst (.int 0)) (.bin .FloorDiv (.var 3) (.var 1))), (.ret (some (.bin .Mod (.blt .int [(.var 3)]) (.var 1))))] []), (.asg false 4 (.bin .Mod (.blt .int [(.bin .Add (.bin .Mult (.ix (.var 0) (.cst (.int 1))) (.cst (.int 48271))) (.cst (.int 12345)))]) (.cst (.int 2147483647)))), (.setI (.var 0) (.cst (.int 1)) (.var 4)), (.ret (some (.bin .Mod (.blt .int [(.bin .FloorDiv (.var 4) (.cst (.int 64)))]) (.var 1))))]
def f10 : Fn := ⟨2, 5, b10, none⟩
def d11 : He.DefD := ⟨("_law_same", none), "_law_same", "_law_same", defArgs (top 16), defBody (top 16), defScope (top 16), [], []⟩
def e11 : DDef := ⟨d11, ["told", "due", "kinds", "k"], [], none⟩
def b11 : List S := [(.iff (.isi (.var 1) [.list, .tuple]) [(.asg false 2 (.ife (.isi (.var 1) [.list]) (.isi (.var 0) [.list]) (.isi (.var 0) [.tuple]))), (.ret (some (.an (.var 2) (.an (.cmp .Eq (.blt .len [(.var 0)]) (.blt .len [(.var 1)])) (.blt .all [(.lc [3] (.nm 3) (.rng1 [(.blt .len [(.var 1)])]) [] (.call 11 [(.ix (.var 0) (.var 3)), (.ix (.var 1) (.var 3))] []))])))))] []), (.iff (.orr (.isi (.var 1) [.bool]) (.isi (.var 0) [.bool])) [(.ret (some (.an (.isi (.var 1) [.bool]) (.an (.isi (.var 0) [.bool]) (.cmp .Eq (.var 0) (.var 1))))))] []), (.ret (some (.ife (.cmp .Is (.var 1) (.cst PyData.none)) (.cmp .Is (.var 0) (.cst PyData.none)) (.an (.isi (.var 0) [.int, .str]) (.cmp .Eq (.var 0) (.var 1))))))]
def f11 : Fn := ⟨2, 4, b11, none⟩
def d12 : He.DefD := ⟨("_law_put", none), "_law_put", "_law_put", defArgs (top 17), defBody (top 17), defScope (top 17), [], []⟩
def e12 : DDef := ⟨d12, ["told", "kind", "one"], [], none⟩
def b12 : List S := [(.iff (.cmp .Eq (.ix (.var 1) (.cst (.int 0))) (.cst (.str ⟨#[63]⟩))) [(.ret (some (.ife (.cmp .In (.ix (.var 1) (.cst (.int 1))) (.var 0)) (.call 12 [(.var 0), (.ix (.var 0) (.ix (.var 1) (.cst (.int 1))))] []) (.var 1))))] []), (.ret (some (.tup [(.ix (.var 1) (.cst (.int 0))), (.blt .tuple [(.lc [2] (.nm 2) (.it (.ix (.var 1) (.cst (.int 1)))) [] (.call 12 [(.var 0), (.var 2)] []))])])))]
def f12 : Fn := ⟨2, 3, b12, none⟩
def d13 : He.DefD := ⟨("_law_holds", none), "_law_holds", "_law_holds", defArgs (top 18), defBody (top 18), defScope (top 18), [], []⟩
def e13 : DDef := ⟨d13, ["letter", "kind", "one"], [], none⟩
def b13 : List S := [(.iff (.cmp .Eq (.ix (.var 1) (.cst (.int 0))) (.cst (.str ⟨#[63]⟩))) [(.ret (some (.cmp .Eq (.ix (.var 1) (.cst (.int 1))) (.var 0))))] []), (.ret (some (.blt .any [(.lc [2] (.nm 2) (.it (.ix (.var 1) (.cst (.int 1)))) [] (.call 13 [(.var 0), (.var 2)] []))])))]
def f13 : Fn := ⟨2, 3, b13, none⟩
def d14 : He.DefD := ⟨("_law_meet", none), "_law_meet", "_law_meet", defArgs (top 19), defBody (top 19), defScope (top 19), [], []⟩
def e14 : DDef := ⟨d14, ["told", "one", "other", "letter", "kind", "k", "fault"], [], none⟩
def b14 : List S := [(.par 1 2 (.call 12 [(.var 0), (.var 1)] []) (.call 12 [(.var 0), (.var 2)] [])), (.iff (.cmp .Eq (.var 1) (.var 2)) [(.ret (some (.cst PyData.none)))] []), (.iff (.orr (.cmp .Eq (.ix (.var 1) (.cst (.int 0))) (.cst (.str ⟨#[63]⟩))) (.cmp .Eq (.ix (.var 2) (.cst (.int 0))) (.cst (.str ⟨#[63]⟩)))) [(.unp [(.nm 3), (.nm 4)] (.ife (.cmp .Eq (.ix (.var 1) (.cst (.int 0))) (.cst (.str ⟨#[63]⟩))) (.tup [(.var 1), (.var 2)]) (.tup [(.var 2), (.var 1)]))), (.iff (.call 13 [(.ix (.var 3) (.cst (.int 1))), (.var 4)] []) [(.ret (some (.tup [(.cst (.str ⟨#[114, 111, 117, 110, 100]⟩)), (.var 3), (.var 4)])))] []), (.setI (.var 0) (.ix (.var 3) (.cst (.int 1))) (.var 4)), (.ret (some (.cst PyData.none)))] []), (.iff (.orr (.cmp .NotEq (.ix (.var 1) (.cst (.int 0))) (.ix (.var 2) (.cst (.int 0)))) (.cmp .NotEq (.blt .len [(.ix (.var 1) (.cst (.int 1)))]) (.blt .len [(.ix (.var 2) (.cst (.int 1)))]))) [(.ret (some (.tup [(.cst (.str ⟨#[117, 110, 108, 105, 107, 101]⟩)), (.var 1), (.var 2)])))] []), (.fr (.nm 5) (.rng1 [(.blt .len [(.ix (.var 1) (.cst (.int 1)))])]) [(.asg false 6 (.call 14 [(.var 0), (.ix (.ix (.var 1) (.cst (.int 1))) (.var 5)), (.ix (.ix (.var 2) (.cst (.int 1))) (.var 5))] [])), (.iff (.cmp .IsNot (.var 6) (.cst PyData.none)) [(.ret (some (.var 6)))] [])]), (.ret (some (.cst PyData.none)))]
def f14 : Fn := ⟨3, 7, b14, none⟩
def d15 : He.DefD := ⟨("_law_letters", none), "_law_letters", "_law_letters", defArgs (top 20), defBody (top 20), defScope (top 20), [], []⟩
def e15 : DDef := ⟨d15, ["kinds", "found", "rows", "one"], ["rows"], none⟩
def b15 : List S := [(.par 1 2 (.lst false []) (.cel (.blt .rev [(.blt .list [(.var 0)])]))), (.wh (.cmp .NotEq (.var 2) (.lst false [])) [(.asg false 3 (.mth .pop (.var 2) [])), (.iff (.cmp .Eq (.ix (.var 3) (.cst (.int 0))) (.cst (.str ⟨#[63]⟩))) [(.asg false 1 (.bin .Add (.var 1) (.ife (.cmp .NotIn (.ix (.var 3) (.cst (.int 1))) (.var 1)) (.lst false [(.ix (.var 3) (.cst (.int 1)))]) (.lst false []))))] [(.asg true 2 (.bin .Add (.var 2) (.blt .rev [(.blt .list [(.ix (.var 3) (.cst (.int 1)))])])))])]), (.ret (some (.var 1)))]
def f15 : Fn := ⟨1, 4, b15, none⟩
def d16 : He.DefD := ⟨("_law_plain", none), "_law_plain", "_law_plain", defArgs (top 21), defBody (top 21), defScope (top 21), [], []⟩
def e16 : DDef := ⟨d16, ["kinds", "row", "names", "told", "k", "one"], [], none⟩
def b16 : List S := [(.asg false 1 (.call 15 [(.var 0)] [])), (.asg false 2 (.cst (.str ⟨#[97, 98, 99, 100, 101, 102, 103, 104, 105, 106, 107, 108, 109, 110, 111, 112, 113, 114, 115, 116, 117, 118, 119, 120, 121, 122]⟩))), (.asg false 3 (.blt .dict [(.lc [4] (.nm 4) (.rng1 [(.blt .len [(.var 1)])]) [] (.tup [(.ix (.var 1) (.var 4)), (.tup [(.cst (.str ⟨#[63]⟩)), (.bin .Add (.ix (.var 2) (.bin .Sub (.var 4) (.bin .Mult (.bin .FloorDiv (.var 4) (.cst (.int 26))) (.cst (.int 26))))) (.ife (.cmp .Lt (.var 4) (.cst (.int 26))) (.cst (.str ⟨#[]⟩)) (.blt .str [(.bin .FloorDiv (.var 4) (.cst (.int 26)))])))])]))])), (.ret (some (.lc [5] (.nm 5) (.it (.var 0)) [] (.call 17 [(.var 3), (.var 5)] []))))]
def f16 : Fn := ⟨1, 6, b16, none⟩
def d17 : He.DefD := ⟨("_law_swap", none), "_law_swap", "_law_swap", defArgs (top 22), defBody (top 22), defScope (top 22), [], []⟩
def e17 : DDef := ⟨d17, ["told", "kind", "one"], [], none⟩
def b17 : List S := [(.iff (.cmp .Eq (.ix (.var 1) (.cst (.int 0))) (.cst (.str ⟨#[63]⟩))) [(.ret (some (.mth .get (.var 0) [(.ix (.var 1) (.cst (.int 1))), (.var 1)])))] []), (.ret (some (.tup [(.ix (.var 1) (.cst (.int 0))), (.blt .tuple [(.lc [2] (.nm 2) (.it (.ix (.var 1) (.cst (.int 1)))) [] (.call 17 [(.var 0), (.var 2)] []))])])))]
def f17 : Fn := ⟨2, 3, b17, none⟩
def d18 : He.DefD := ⟨("_law_kind", none), "_law_kind", "_law_kind", defArgs (top 23), defBody (top 23), defScope (top 23), [], []⟩
def e18 : DDef := ⟨d18, ["state", "letters", "deep", "pick"], [], none⟩
def b18 : List S := [(.asg false 3 (.call 10 [(.var 0), (.ife (.cmp .Gt (.var 2) (.cst (.int 0))) (.cst (.int 7)) (.cst (.int 3)))] [])), (.iff (.an (.cmp .Lt (.var 3) (.cst (.int 2))) (.cmp .NotEq (.var 1) (.tup []))) [(.ret (some (.tup [(.cst (.str ⟨#[63]⟩)), (.ix (.var 1) (.call 10 [(.var 0), (.blt .len [(.var 1)])] []))])))] []), (.iff (.cmp .Lt (.var 3) (.cst (.int 3))) [(.ret (some (.tup [(.cst (.str ⟨#[110, 117, 109]⟩)), (.tup [])])))] []), (.iff (.cmp .Eq (.var 3) (.cst (.int 3))) [(.ret (some (.tup [(.cst (.str ⟨#[108, 105, 115, 116]⟩)), (.tup [(.call 18 [(.var 0), (.var 1), (.bin .Sub (.var 2) (.cst (.int 1)))] [])])])))] []), (.ret (some (.tup [(.ix (.tup [(.cst (.str ⟨#[102, 117, 110]⟩)), (.cst (.str ⟨#[112, 97, 105, 114]⟩)), (.cst (.str ⟨#[102, 117, 110]⟩))]) (.bin .Sub (.var 3) (.cst (.int 4)))), (.tup [(.call 18 [(.var 0), (.var 1), (.bin .Sub (.var 2) (.cst (.int 1)))] []), (.call 18 [(.var 0), (.var 1), (.bin .Sub (.var 2) (.cst (.int 1)))] [])])])))]
def f18 : Fn := ⟨3, 4, b18, none⟩
def d19 : He.DefD := ⟨("_law_becomes", none), "_law_becomes", "_law_becomes", defArgs (top 24), defBody (top 24), defScope (top 24), [], []⟩
def e19 : DDef := ⟨d19, ["told", "one", "other", "k"], [], none⟩
def b19 : List S := [(.iff (.cmp .Eq (.ix (.var 1) (.cst (.int 0))) (.cst (.str ⟨#[63]⟩))) [(.ex (.mth .setdefault (.var 0) [(.ix (.var 1) (.cst (.int 1))), (.var 2)])), (.ret (some (.cmp .Eq (.ix (.var 0) (.ix (.var 1) (.cst (.int 1)))) (.var 2))))] []), (.iff (.orr (.cmp .Eq (.ix (.var 2) (.cst (.int 0))) (.cst (.str ⟨#[63]⟩))) (.orr (.cmp .NotEq (.ix (.var 1) (.cst (.int 0))) (.ix (.var 2) (.cst (.int 0)))) (.cmp .NotEq (.blt .len [(.ix (.var 1) (.cst (.int 1)))]) (.blt .len [(.ix (.var 2) (.cst (.int 1)))])))) [(.ret (some (.cst (.bool false))))] []), (.ret (some (.blt .all [(.lc [3] (.nm 3) (.rng1 [(.blt .len [(.ix (.var 1) (.cst (.int 1)))])]) [] (.call 19 [(.var 0), (.ix (.ix (.var 1) (.cst (.int 1))) (.var 3)), (.ix (.ix (.var 2) (.cst (.int 1))) (.var 3))] []))])))]
def f19 : Fn := ⟨3, 4, b19, none⟩
def d20 : He.DefD := ⟨("_law_nodes", none), "_law_nodes", "_law_nodes", defArgs (top 25), defBody (top 25), defScope (top 25), [], []⟩
def e20 : DDef := ⟨d20, ["kind", "one"], [], none⟩
def b20 : List S := [(.ret (some (.ife (.cmp .Eq (.ix (.var 0) (.cst (.int 0))) (.cst (.str ⟨#[63]⟩))) (.cst (.int 1)) (.bin .Add (.cst (.int 1)) (.blt .sum [(.lc [1] (.nm 1) (.it (.ix (.var 0) (.cst (.int 1)))) [] (.call 20 [(.var 1)] []))])))))]
def f20 : Fn := ⟨1, 2, b20, none⟩
def d21 : He.DefD := ⟨("law", none), "law", "law", defArgs (top 26), defBody (top 26), defScope (top 26), [], []⟩
def e21 : DDef := ⟨d21, ["script", "state", "turn", "letters", "one", "told", "letter", "other", "left", "right", "due", "good", "found", "kinding", "begin", "row", "names", "k", "part", "great", "many"], ["due", "state"], none⟩
def b21 : List S := [(.asg true 1 (.call 9 [(.var 0)] [])), (.fr (.nm 2) (.rng1 [(.cst (.int 6))]) [(.asg false 3 (.tup [(.cst (.str ⟨#[97]⟩)), (.cst (.str ⟨#[98]⟩)), (.cst (.str ⟨#[99]⟩)), (.cst (.str ⟨#[113]⟩))])), (.asg false 4 (.call 18 [(.var 1), (.var 3), (.cst (.int 3))] [])), (.asg false 5 (.blt .dict [(.lc [6] (.nm 6) (.it (.var 3)) [] (.tup [(.var 6), (.call 18 [(.var 1), (.var 3), (.cst (.int 1))] [])]))])), (.asg false 7 (.ix (.tup [(.call 17 [(.var 5), (.var 4)] []), (.call 18 [(.var 1), (.var 3), (.cst (.int 2))] []), (.call 17 [(.blt .dict [(.lst false [(.tup [(.cst (.str ⟨#[97]⟩)), (.tup [(.cst (.str ⟨#[63]⟩)), (.cst (.str ⟨#[122]⟩))])]), (.tup [(.cst (.str ⟨#[122]⟩)), (.tup [(.cst (.str ⟨#[63]⟩)), (.cst (.str ⟨#[97]⟩))])])])]), (.var 4)] [])]) (.call 10 [(.var 1), (.cst (.int 3))] []))), (.fr (.tp [(.nm 8), (.nm 9)]) (.it (.tup [(.tup [(.var 4), (.var 7)]), (.tup [(.var 7), (.var 4)]), (.tup [(.var 4), (.var 4)])])) [(.asg true 10 (.dis [])), (.asg false 11 (.call 19 [(.var 10), (.var 8), (.var 9)] [])), (.asg false 12 (.call 6 [(.var 8), (.var 9)] [])), (.iff (.orr (.cmp .NotEq (.cmp .IsNot (.var 12) (.cst PyData.none)) (.var 11)) (.orr (.an (.var 11) (.cmp .NotEq (.var 12) (.var 10))) (.cmp .NotEq (.call 7 [(.var 8), (.var 9)] []) (.var 11)))) [(.ret (some (.cst (.bool false))))] [])]), (.iff (.orr (.nt (.call 11 [(.blt .list [(.call 5 [(.tup [(.var 4), (.var 7)])] [])]), (.call 16 [(.lst false [(.var 4), (.var 7)])] [])] [])) (.nt (.call 11 [(.blt .list [(.call 5 [(.tup [(.var 7)])] [])]), (.call 16 [(.lst false [(.var 7)])] [])] []))) [(.ret (some (.cst (.bool false))))] []), (.iff (.cmp .NotEq (.call 8 [(.var 4), (.var 7)] []) (.cmp .Eq (.call 16 [(.lst false [(.var 4)])] []) (.call 16 [(.lst false [(.var 7)])] []))) [(.ret (some (.cst (.bool false))))] []), (.iff (.cmp .NotEq (.call 1 [(.var 4)] []) (.call 20 [(.var 4)] [])) [(.ret (some (.cst (.bool false))))] []), (.asg false 13 (.tup [(.tup [(.var 4), (.call 18 [(.var 1), (.var 3), (.cst (.int 1))] [])]), (.tup [(.call 18 [(.var 1), (.var 3), (.cst (.int 0))] [])]), (.var 7)])), (.asg false 14 (.call 10 [(.var 1), (.cst (.int 9))] [])), (.asg false 15 (.call 15 [(.lst false [(.var 4), (.ix (.ix (.var 13) (.cst (.int 0))) (.cst (.int 1))), (.ix (.ix (.var 13) (.cst (.int 1))) (.cst (.int 0))), (.var 7)])] [])), (.asg false 16 (.blt .dict [(.lc [17] (.nm 17) (.rng1 [(.blt .len [(.var 15)])]) [] (.tup [(.ix (.var 15) (.var 17)), (.tup [(.cst (.str ⟨#[63]⟩)), (.bin .Add (.var 14) (.var 17))])]))])), (.asg true 10 (.tup [(.blt .tuple [(.lc [18] (.nm 18) (.it (.ix (.var 13) (.cst (.int 0)))) [] (.call 17 [(.var 16), (.var 18)] []))]), (.blt .tuple [(.lc [18] (.nm 18) (.it (.ix (.var 13) (.cst (.int 1)))) [] (.call 17 [(.var 16), (.var 18)] []))]), (.call 17 [(.var 16), (.var 7)] [])])), (.iff (.nt (.call 11 [(.call 3 [(.var 13), (.var 14)] []), (.tup [(.var 10), (.bin .Add (.var 14) (.blt .len [(.var 15)]))])] [])) [(.ret (some (.cst (.bool false))))] [])]), (.asg false 19 (.tup [(.cst (.str ⟨#[110, 117, 109]⟩)), (.tup [])])), (.fr (.nm 2) (.rng1 [(.bin .Add (.cst (.int 5)) (.call 10 [(.var 1), (.cst (.int 6))] []))]) [(.asg false 19 (.tup [(.cst (.str ⟨#[112, 97, 105, 114]⟩)), (.tup [(.var 19), (.var 19)])]))]), (.asg false 20 (.ife (.cmp .Lt (.call 1 [(.var 19)] []) (.cst (.int 301))) (.call 20 [(.var 19)] []) (.cst (.int 301)))), (.iff (.orr (.cmp .NotEq (.call 1 [(.var 19)] []) (.var 20)) (.cmp .NotEq (.var 20) (.blt .min [(.cst (.int 301)), (.call 20 [(.var 19)] [])]))) [(.ret (some (.cst (.bool false))))] []), (.ret (some (.an (.cmp .Eq (.lc [17] (.nm 17) (.it (.tup [(.cst (.int 0)), (.cst (.int 25)), (.cst (.int 26)), (.cst (.int 53))])) [] (.call 4 [(.var 17)] [])) (.lst false [(.cst (.str ⟨#[97]⟩)), (.cst (.str ⟨#[122]⟩)), (.cst (.str ⟨#[97, 49]⟩)), (.cst (.str ⟨#[98, 50]⟩))])) (.an (.cmp .Eq (.call 5 [(.tup [])] []) (.tup [])) (.cmp .Eq (.call 3 [(.tup [(.tup []), (.tup []), (.var 19)]), (.cst (.int 4))] []) (.tup [(.tup [(.tup []), (.tup []), (.var 19)]), (.cst (.int 4))]))))))]
def f21 : Fn := ⟨1, 21, b21, none⟩
def es : List DDef := [e0, e1, e2, e3, e4, e5, e6, e7, e8, e9, e10, e11, e12, e13, e14, e15, e16, e17, e18, e19, e20, e21]
def Fs : List Fn := [f0, f1, f2, f3, f4, f5, f6, f7, f8, f9, f10, f11, f12, f13, f14, f15, f16, f17, f18, f19, f20, f21]
def fns : List (Str × Nat × Nat × List D) := [("letters_of", 0, 1, []), ("kind_size", 1, 1, []), ("kind_told", 2, 2, []), ("kinding_fresh", 3, 2, []), ("letter_name", 4, 1, []), ("kinds_plain", 5, 1, []), ("kind_instance", 6, 2, []), ("is_as_general", 7, 2, []), ("kinds_alike", 8, 2, []), ("_law_state", 9, 1, []), ("_law_draw", 10, 2, []), ("_law_same", 11, 2, []), ("_law_put", 12, 2, []), ("_law_holds", 13, 2, []), ("_law_meet", 14, 3, []), ("_law_letters", 15, 1, []), ("_law_plain", 16, 1, []), ("_law_swap", 17, 2, []), ("_law_kind", 18, 3, []), ("_law_becomes", 19, 3, []), ("_law_nodes", 20, 1, [])]
def gls : List (Str × D) := [("MOST_KIND_NODES", (.int 300)), ("LETTER_ROW", (.str ⟨#[97, 98, 99, 100, 101, 102, 103, 104, 105, 106, 107, 108, 109, 110, 111, 112, 113, 114, 115, 116, 117, 118, 119, 120, 121, 122]⟩))]
theorem comp_ok : mapO (DDef.fn fns gls xs) es = some Fs := by kernel_rfl
def fileP : Str := PySem.Challenge.pw_onetongue_k31_whole_instances_of_kinds.main.file
abbrev hk : PySem.W.Hook := MX.hookE 4 (faOf es gls) (es.map (·.d)) (exB fileP xs)
def ob (s : PySem.W.SharedT) : MX.AlE := MX.obsE 4 (faOf es gls) (es.map (·.d)) (exB fileP xs) (HandSHeadRun.getT s)
theorem ob_eq (s : PySem.W.SharedT) : ob s = hk.obs s.abs := MX.obsE_eq (HandSHeadRun.getT_eq s)
abbrev R : PySem.W.OpenRow := PySem.W.OpenLaw.row PySem.Challenge.rw_onetongue_k31_whole_instances_of_kinds
theorem run (w : World) : HandSHeadRun.RunEq R (PySem.W.view R.prog [26]) hk ob 20000 ["letters_of", "MOST_KIND_NODES", "LETTER_ROW", "kind_size", "kind_told", "kinding_fresh", "letter_name", "kinds_plain", "kind_instance", "is_as_general", "kinds_alike", "_law_state", "_law_draw", "_law_same", "_law_put", "_law_holds", "_law_meet", "_law_letters", "_law_plain", "_law_swap", "_law_kind", "_law_becomes", "_law_nodes"] w := by
  intro os
  kernel_rfl
section
variable {K : PySem.W.Frag} {fd : FuncData}
theorem c0_1 (F : e0.Is K fd) : ∃ dvs ds, Binds K fd e0.ps ds ∧ Vals dvs ds ∧ ∀ L H, DenAll K L H dvs ([] : List D) :=
  ⟨[], [], FunD.bindsN (ps := ["kind"]) F fun _ _ _ _ _ _ us hl => match us, hl with | [_], _ => rfl, .nil, fun _ _ => .nil⟩
theorem c1_1 (F : e1.Is K fd) : ∃ dvs ds, Binds K fd e1.ps ds ∧ Vals dvs ds ∧ ∀ L H, DenAll K L H dvs ([] : List D) :=
  ⟨[], [], FunD.bindsN (ps := ["kind"]) F fun _ _ _ _ _ _ us hl => match us, hl with | [_], _ => rfl, .nil, fun _ _ => .nil⟩
theorem c2_2 (F : e2.Is K fd) : ∃ dvs ds, Binds K fd e2.ps ds ∧ Vals dvs ds ∧ ∀ L H, DenAll K L H dvs ([] : List D) :=
  ⟨[], [], FunD.bindsN (ps := ["told", "kind"]) F fun _ _ _ _ _ _ us hl => match us, hl with | [_, _], _ => rfl, .nil, fun _ _ => .nil⟩
theorem c3_2 (F : e3.Is K fd) : ∃ dvs ds, Binds K fd e3.ps ds ∧ Vals dvs ds ∧ ∀ L H, DenAll K L H dvs ([] : List D) :=
  ⟨[], [], FunD.bindsN (ps := ["kinding", "begin"]) F fun _ _ _ _ _ _ us hl => match us, hl with | [_, _], _ => rfl, .nil, fun _ _ => .nil⟩
theorem c4_1 (F : e4.Is K fd) : ∃ dvs ds, Binds K fd e4.ps ds ∧ Vals dvs ds ∧ ∀ L H, DenAll K L H dvs ([] : List D) :=
  ⟨[], [], FunD.bindsN (ps := ["k"]) F fun _ _ _ _ _ _ us hl => match us, hl with | [_], _ => rfl, .nil, fun _ _ => .nil⟩
theorem c5_1 (F : e5.Is K fd) : ∃ dvs ds, Binds K fd e5.ps ds ∧ Vals dvs ds ∧ ∀ L H, DenAll K L H dvs ([] : List D) :=
  ⟨[], [], FunD.bindsN (ps := ["kinds"]) F fun _ _ _ _ _ _ us hl => match us, hl with | [_], _ => rfl, .nil, fun _ _ => .nil⟩
theorem c6_2 (F : e6.Is K fd) : ∃ dvs ds, Binds K fd e6.ps ds ∧ Vals dvs ds ∧ ∀ L H, DenAll K L H dvs ([] : List D) :=
  ⟨[], [], FunD.bindsN (ps := ["general", "special"]) F fun _ _ _ _ _ _ us hl => match us, hl with | [_, _], _ => rfl, .nil, fun _ _ => .nil⟩
theorem c7_2 (F : e7.Is K fd) : ∃ dvs ds, Binds K fd e7.ps ds ∧ Vals dvs ds ∧ ∀ L H, DenAll K L H dvs ([] : List D) :=
  ⟨[], [], FunD.bindsN (ps := ["one", "other"]) F fun _ _ _ _ _ _ us hl => match us, hl with | [_, _], _ => rfl, .nil, fun _ _ => .nil⟩
theorem c8_2 (F : e8.Is K fd) : ∃ dvs ds, Binds K fd e8.ps ds ∧ Vals dvs ds ∧ ∀ L H, DenAll K L H dvs ([] : List D) :=
  ⟨[], [], FunD.bindsN (ps := ["one", "other"]) F fun _ _ _ _ _ _ us hl => match us, hl with | [_, _], _ => rfl, .nil, fun _ _ => .nil⟩
theorem c9_1 (F : e9.Is K fd) : ∃ dvs ds, Binds K fd e9.ps ds ∧ Vals dvs ds ∧ ∀ L H, DenAll K L H dvs ([] : List D) :=
  ⟨[], [], FunD.bindsN (ps := ["script"]) F fun _ _ _ _ _ _ us hl => match us, hl with | [_], _ => rfl, .nil, fun _ _ => .nil⟩
theorem c10_2 (F : e10.Is K fd) : ∃ dvs ds, Binds K fd e10.ps ds ∧ Vals dvs ds ∧ ∀ L H, DenAll K L H dvs ([] : List D) :=
  ⟨[], [], FunD.bindsN (ps := ["state", "many"]) F fun _ _ _ _ _ _ us hl => match us, hl with | [_, _], _ => rfl, .nil, fun _ _ => .nil⟩
theorem c11_2 (F : e11.Is K fd) : ∃ dvs ds, Binds K fd e11.ps ds ∧ Vals dvs ds ∧ ∀ L H, DenAll K L H dvs ([] : List D) :=
  ⟨[], [], FunD.bindsN (ps := ["told", "due"]) F fun _ _ _ _ _ _ us hl => match us, hl with | [_, _], _ => rfl, .nil, fun _ _ => .nil⟩
theorem c12_2 (F : e12.Is K fd) : ∃ dvs ds, Binds K fd e12.ps ds ∧ Vals dvs ds ∧ ∀ L H, DenAll K L H dvs ([] : List D) :=
  ⟨[], [], FunD.bindsN (ps := ["told", "kind"]) F fun _ _ _ _ _ _ us hl => match us, hl with | [_, _], _ => rfl, .nil, fun _ _ => .nil⟩
theorem c13_2 (F : e13.Is K fd) : ∃ dvs ds, Binds K fd e13.ps ds ∧ Vals dvs ds ∧ ∀ L H, DenAll K L H dvs ([] : List D) :=
  ⟨[], [], FunD.bindsN (ps := ["letter", "kind"]) F fun _ _ _ _ _ _ us hl => match us, hl with | [_, _], _ => rfl, .nil, fun _ _ => .nil⟩
theorem c14_3 (F : e14.Is K fd) : ∃ dvs ds, Binds K fd e14.ps ds ∧ Vals dvs ds ∧ ∀ L H, DenAll K L H dvs ([] : List D) :=
  ⟨[], [], FunD.bindsN (ps := ["told", "one", "other"]) F fun _ _ _ _ _ _ us hl => match us, hl with | [_, _, _], _ => rfl, .nil, fun _ _ => .nil⟩
theorem c15_1 (F : e15.Is K fd) : ∃ dvs ds, Binds K fd e15.ps ds ∧ Vals dvs ds ∧ ∀ L H, DenAll K L H dvs ([] : List D) :=
  ⟨[], [], FunD.bindsN (ps := ["kinds"]) F fun _ _ _ _ _ _ us hl => match us, hl with | [_], _ => rfl, .nil, fun _ _ => .nil⟩
theorem c16_1 (F : e16.Is K fd) : ∃ dvs ds, Binds K fd e16.ps ds ∧ Vals dvs ds ∧ ∀ L H, DenAll K L H dvs ([] : List D) :=
  ⟨[], [], FunD.bindsN (ps := ["kinds"]) F fun _ _ _ _ _ _ us hl => match us, hl with | [_], _ => rfl, .nil, fun _ _ => .nil⟩
theorem c17_2 (F : e17.Is K fd) : ∃ dvs ds, Binds K fd e17.ps ds ∧ Vals dvs ds ∧ ∀ L H, DenAll K L H dvs ([] : List D) :=
  ⟨[], [], FunD.bindsN (ps := ["told", "kind"]) F fun _ _ _ _ _ _ us hl => match us, hl with | [_, _], _ => rfl, .nil, fun _ _ => .nil⟩
theorem c18_3 (F : e18.Is K fd) : ∃ dvs ds, Binds K fd e18.ps ds ∧ Vals dvs ds ∧ ∀ L H, DenAll K L H dvs ([] : List D) :=
  ⟨[], [], FunD.bindsN (ps := ["state", "letters", "deep"]) F fun _ _ _ _ _ _ us hl => match us, hl with | [_, _, _], _ => rfl, .nil, fun _ _ => .nil⟩
theorem c19_3 (F : e19.Is K fd) : ∃ dvs ds, Binds K fd e19.ps ds ∧ Vals dvs ds ∧ ∀ L H, DenAll K L H dvs ([] : List D) :=
  ⟨[], [], FunD.bindsN (ps := ["told", "one", "other"]) F fun _ _ _ _ _ _ us hl => match us, hl with | [_, _, _], _ => rfl, .nil, fun _ _ => .nil⟩
theorem c20_1 (F : e20.Is K fd) : ∃ dvs ds, Binds K fd e20.ps ds ∧ Vals dvs ds ∧ ∀ L H, DenAll K L H dvs ([] : List D) :=
  ⟨[], [], FunD.bindsN (ps := ["kind"]) F fun _ _ _ _ _ _ us hl => match us, hl with | [_], _ => rfl, .nil, fun _ _ => .nil⟩
theorem law_b (F : e21.Is K fd) (s : Shared) (u : Value) : BindsTo s fd ⟨[u], []⟩ [("script", u)] :=
  FunD.bindsA (ps := ["script"]) F (fun _ _ _ _ _ _ us hl => match us, hl with | [_], _ => rfl) s [u] rfl
theorem cl : ∀ x i m dfl, (x, i, m, dfl) ∈ fns → ∃ e, es[i]? = some e ∧ e.d.at_ = (x, none) ∧ ∀ fd, e.Is K fd → ∃ dvs ds, Binds K fd e.ps ds ∧ Vals dvs ds ∧ ∀ L H, DenAll K L H dvs dfl := by
  intro x i m dfl h
  simp only [fns, List.mem_cons, List.not_mem_nil, or_false, Prod.mk.injEq] at h
  rcases h with ⟨rfl, rfl, rfl, rfl⟩ | ⟨rfl, rfl, rfl, rfl⟩ | ⟨rfl, rfl, rfl, rfl⟩ | ⟨rfl, rfl, rfl, rfl⟩ | ⟨rfl, rfl, rfl, rfl⟩ | ⟨rfl, rfl, rfl, rfl⟩ | ⟨rfl, rfl, rfl, rfl⟩ | ⟨rfl, rfl, rfl, rfl⟩ | ⟨rfl, rfl, rfl, rfl⟩ | ⟨rfl, rfl, rfl, rfl⟩ | ⟨rfl, rfl, rfl, rfl⟩ | ⟨rfl, rfl, rfl, rfl⟩ | ⟨rfl, rfl, rfl, rfl⟩ | ⟨rfl, rfl, rfl, rfl⟩ | ⟨rfl, rfl, rfl, rfl⟩ | ⟨rfl, rfl, rfl, rfl⟩ | ⟨rfl, rfl, rfl, rfl⟩ | ⟨rfl, rfl, rfl, rfl⟩ | ⟨rfl, rfl, rfl, rfl⟩ | ⟨rfl, rfl, rfl, rfl⟩ | ⟨rfl, rfl, rfl, rfl⟩
  · exact ⟨e0, rfl, rfl, fun fd F => c0_1 F⟩
  · exact ⟨e1, rfl, rfl, fun fd F => c1_1 F⟩
  · exact ⟨e2, rfl, rfl, fun fd F => c2_2 F⟩
  · exact ⟨e3, rfl, rfl, fun fd F => c3_2 F⟩
  · exact ⟨e4, rfl, rfl, fun fd F => c4_1 F⟩
  · exact ⟨e5, rfl, rfl, fun fd F => c5_1 F⟩
  · exact ⟨e6, rfl, rfl, fun fd F => c6_2 F⟩
  · exact ⟨e7, rfl, rfl, fun fd F => c7_2 F⟩
  · exact ⟨e8, rfl, rfl, fun fd F => c8_2 F⟩
  · exact ⟨e9, rfl, rfl, fun fd F => c9_1 F⟩
  · exact ⟨e10, rfl, rfl, fun fd F => c10_2 F⟩
  · exact ⟨e11, rfl, rfl, fun fd F => c11_2 F⟩
  · exact ⟨e12, rfl, rfl, fun fd F => c12_2 F⟩
  · exact ⟨e13, rfl, rfl, fun fd F => c13_2 F⟩
  · exact ⟨e14, rfl, rfl, fun fd F => c14_3 F⟩
  · exact ⟨e15, rfl, rfl, fun fd F => c15_1 F⟩
  · exact ⟨e16, rfl, rfl, fun fd F => c16_1 F⟩
  · exact ⟨e17, rfl, rfl, fun fd F => c17_2 F⟩
  · exact ⟨e18, rfl, rfl, fun fd F => c18_3 F⟩
  · exact ⟨e19, rfl, rfl, fun fd F => c19_3 F⟩
  · exact ⟨e20, rfl, rfl, fun fd F => c20_1 F⟩
end
theorem PK {P : Program} {w : World} : PrOk P w es fns := prOk_none rfl
/-- the law, from its run -/
theorem whole (hrun : ∀ ns : List Int, ns.length ≤ 63 → (∀ z ∈ ns, Builtin.Int.intBits z ≤ 1048576) → ∃ st, runAt (fun i => Fs[i]?) 10000 100 21 [.fz (ns.map PyData.int)] [] = .ok (vBool true) st) : PySem.Challenge.rw_onetongue_k31_whole_instances_of_kinds.Holds := by
  w_on; o_law
  refine HandSHeadRun.head_any (r := PySem.W.OpenLaw.row PySem.Challenge.rw_onetongue_k31_whole_instances_of_kinds) (q := PySem.W.view (PySem.W.OpenLaw.row PySem.Challenge.rw_onetongue_k31_whole_instances_of_kinds).prog [26]) (H := hk) (ob := ob) (M := 20000) (loose := ["letters_of", "MOST_KIND_NODES", "LETTER_ROW", "kind_size", "kind_told", "kinding_fresh", "letter_name", "kinds_plain", "kind_instance", "is_as_general", "kinds_alike", "_law_state", "_law_draw", "_law_same", "_law_put", "_law_holds", "_law_meet", "_law_letters", "_law_plain", "_law_swap", "_law_kind", "_law_becomes", "_law_nodes"]) (d := HandSHeadRun.topDef (PySem.W.OpenLaw.row PySem.Challenge.rw_onetongue_k31_whole_instances_of_kinds).prog 26) (kwd := []) ob_eq
    (by kernel_rfl) (fun s => by kernel_rfl) run (by kernel_rfl) (by kernel_rfl) (by kernel_rfl) (by rfl) (by first | assumption | decide +kernel) (by decide +kernel) ⟨rfl, rfl, rfl, rfl, rfl, by decide +kernel⟩ ?hw ?hc
  case hw => w_witness2
  case hc =>
    refine law_end (l := PySem.Challenge.rw_onetongue_k31_whole_instances_of_kinds) (k := 100) (lf := 10000) (iL := 21) (es := es) (Fs := Fs) (fns := fns) (gls := gls) (xs := xs) (eL := e21) rfl (by kernel_rfl) ⟨rfl, by decide, by decide⟩ rfl (by kernel_rfl) ?Y hrun
    intro w mg fa h Y G hmg0
    obtain ⟨K, KX, c, cx⟩ := Y
    have hmg : mg ("law" : Str) = some (.ref fa) := by
      have e : (HandSHeadRun.topDef (PySem.W.OpenLaw.row PySem.Challenge.rw_onetongue_k31_whole_instances_of_kinds).prog 26).name = ("law" : Str) := by kernel_rfl
      rw [← e]; exact hmg0
    have h2 := fa_glo (x := "law") c KX G (e := e21) (List.mem_of_getElem? (i := 21) rfl) rfl
    exact ⟨K, KX, top_mk PK c cx (fun _ => by kernel_rfl) KX G comp_ok rfl cl, Value.ref.inj (Option.some.inj (hmg.symm.trans h2)), fun fd F => law_b F⟩
end KI
set_option maxHeartbeats 4100000
namespace KI
open PySem MP
local macro_rules | `(tactic| decreasing_trivial_pre_omega) => `(tactic| first
  | simp only [List.map_nil, List.append_nil, List.nil_append, List.cons_append, List.map_cons, List.set_cons_zero, List.set_cons_succ, List.length_nil]
  | with_reducible exact ev_cst | with_reducible apply ev_cel | with_reducible apply ev_var | with_reducible apply ev_bin | with_reducible apply ev_cmp | with_reducible apply ev_ix | with_reducible apply ev_nt | with_reducible apply ev_an | with_reducible apply ev_orr
  | with_reducible apply ev_ife | with_reducible apply ev_cmp2 | with_reducible apply ev_cmp2b | with_reducible apply ev_tup | with_reducible apply ev_lst | with_reducible exact ev_dis | with_reducible apply ev_neg | with_reducible apply ev_sl
  | with_reducible exact eo_none | with_reducible apply eo_some | with_reducible apply ev_call | with_reducible apply ev_blt | with_reducible apply ev_mth | with_reducible apply ev_isi | with_reducible apply ev_lc
  | with_reducible exact ec_nil | with_reducible apply ec_one | with_reducible exact es_nil | with_reducible apply es_cons | with_reducible apply sr_it | with_reducible apply sr_rng1 | with_reducible apply sr_rng2 | with_reducible apply sr_enm | with_reducible apply sr_zp
  | with_reducible apply pick_t | with_reducible apply pick_f | refine pick_tE (by rfl) ?_ | refine pick_fE (by rfl) ?_ | with_reducible apply nx_nx | with_reducible exact nx_rt | with_reducible exact nx_bk | with_reducible exact nx_ct | with_reducible exact ss_nil | with_reducible apply ss_cons | with_reducible apply s_asg | with_reducible apply s_own
  | with_reducible apply s_unp | with_reducible apply s_par | with_reducible apply s_set | with_reducible apply s_ex | with_reducible apply s_iff | with_reducible apply s_ret | with_reducible exact s_retN | with_reducible exact s_pss | with_reducible exact s_brk | with_reducible exact s_cnt
  | with_reducible apply s_fr | with_reducible apply fo_items | with_reducible exact fo_nil | with_reducible apply fo_cons | with_reducible apply frF_ok | with_reducible apply nf_nx | with_reducible apply nf_ct | with_reducible exact nf_rt | with_reducible exact nf_bk
  | with_reducible apply ga_items | with_reducible exact ga_nil | with_reducible apply ng_none | with_reducible apply ng_some | with_reducible apply lcF_ok | with_reducible apply lcE | with_reducible apply ga_cons)
abbrev T : Nat → Option Fn := fun i => Fs[i]?
abbrev lfN : Nat := 10000
abbrev Rn (n : Nat) := runAt T lfN n
abbrev CN (n : Nat) : CE := ⟨Rn n, lfN⟩
theorem s_ownW {C : CE} {i : Nat} {e : E} {σ : MP.Env} {st s1 : Sto} {w : W} (h1 : evE C e σ st = .ok (.w w) s1) : evS C (.asg true i e) σ st = .ok (.nx (σ.set i (some w))) s1 := by simp only [evS, h1, Out.bind, wOf]
theorem s_wh {C : CE} {c : E} {b : List MP.S} {σ : MP.Env} {st s1 : Sto} {fl : Fl} (h : whileL (evB C c) (evSs C b) C.lf σ st = .ok fl s1) : evS C (.wh c b) σ st = .ok fl s1 := by simp only [evS]; exact h
theorem s_augI {C : CE} {i : Nat} {op : Operator} {e : E} {σ : MP.Env} {st s1 : Sto} {w x : W} {v : Val} (h0 : σ[i]? = some (some w)) (h1 : evE C e σ st = .ok v s1) (h2 : augV op w v = some x) : evS C (.aug i op e) σ st = .ok (.nx (σ.set i (some x))) s1 := by
  simp only [evS, h0, h1, Out.bind, h2]
theorem s_augL {C : CE} {i : Nat} {op : Operator} {e : E} {σ : MP.Env} {st s1 s2 : Sto} {w : W} {v : Val} (h0 : σ[i]? = some (some w)) (h1 : evE C e σ st = .ok v s1) (h2 : augV op w v = none) (h3 : augS op s1 w v = some s2) : evS C (.aug i op e) σ st = .ok (.nx (σ.set i (some w))) s2 := by
  simp only [evS, h0, h1, Out.bind, h2, h3]
theorem wl_f {C : CE} {c : E} {b : List MP.S} {n : Nat} {σ : MP.Env} {st s1 : Sto} {x : Val} (h1 : evE C c σ st = .ok x s1) (h2 : bool? x = some false) : whileL (evB C c) (evSs C b) (n + 1) σ st = .ok (.nx σ) s1 := by
  simp only [whileL, evB, h1, h2, Out.bind, liftO]
theorem wl_t {C : CE} {c : E} {b : List MP.S} {n : Nat} {σ σ' : MP.Env} {st s1 s2 s3 : Sto} {x : Val} {fl : Fl} (h1 : evE C c σ st = .ok x s1) (h2 : bool? x = some true) (h3 : evSs C b σ s1 = .ok (.nx σ') s2) (h4 : whileL (evB C c) (evSs C b) n σ' s2 = .ok fl s3) : whileL (evB C c) (evSs C b) (n + 1) σ st = .ok fl s3 := by
  simp only [whileL, evB, h1, h2, Out.bind, liftO, h3, h4]
theorem wl_r {C : CE} {c : E} {b : List MP.S} {n : Nat} {σ : MP.Env} {st s1 s2 : Sto} {x v : Val} (h1 : evE C c σ st = .ok x s1) (h2 : bool? x = some true) (h3 : evSs C b σ s1 = .ok (.rt v) s2) : whileL (evB C c) (evSs C b) (n + 1) σ st = .ok (.rt v) s2 := by
  simp only [whileL, evB, h1, h2, Out.bind, liftO, h3]
/-! the state of draws, other cells behind it -/
abbrev wI (cs : List Int) : List W := cs.map fun c => W.d (.int c)
abbrev ST (cs : List Int) (s : Int) (X : Sto) : Sto := Cell.lst (wI cs) :: Cell.lst [.ref 0, .d (.int s)] :: X
/-- cells without cells in them -/
def Flat (X : Sto) : Prop := ∀ n, X.all (Cell.below n) = true
theorem st_below (cs : List Int) (s : Int) {X : Sto} (hX : Flat X) : (ST cs s X).all (Cell.below (X.length + 2)) = true := by
  have h1 : Cell.below (X.length + 2) (Cell.lst (wI cs)) = true := by
    show (wI cs).all (W.below (X.length + 2)) = true
    rw [List.all_eq_true]
    intro w hw
    rw [List.mem_map] at hw
    obtain ⟨c, _, rfl⟩ := hw
    rfl
  have h2 : Cell.below (X.length + 2) (Cell.lst [.ref 0, .d (.int s)]) = true := by
    show (decide (0 < X.length + 2) && (true && true)) = true
    rw [decide_eq_true (by omega)]; rfl
  rw [List.all_cons, List.all_cons, h1, h2, hX]; rfl
theorem hc {k f : Nat} {ws : List W} {v : Val} {cs cs' : List Int} {s s' : Int} {X : Sto} (h : Rn k f ws (ST cs s X) = .ok v (ST cs' s' X)) (hp : ws.all W.pur = false) (hX : Flat X) (hv : valBelow (X.length + 2) (ST cs' s' X) v = some v) : callV ⟨Rn k, lfN⟩ f ws (ST cs s X) = .ok v (ST cs' s' X) := by
  have hl : (ST cs s X).length = X.length + 2 := rfl
  have ht : (ST cs' s' X).take (ST cs s X).length = ST cs' s' X := List.take_of_length_le (by rw [hl]; exact Nat.le_refl _)
  have e := cl_heap (C := ⟨Rn k, lfN⟩) (f := f) (st := ST cs s X) (s1 := ST cs' s' X) (v := v) (v' := v) hp h (by rw [ht, hl]; exact st_below cs' s' hX) (by rw [hl]; exact hv)
  rw [ht] at e
  exact e
theorem eq0 (st : Sto) (q : Int) : cmpV .Eq st (vInt q) (vInt 0) = some (decide (q = 0)) := by
  show some (PyData.eqv (.int q) (.int 0)) = _
  simp only [PyData.eqv]
  by_cases h : q = 0
  · subst h; rfl
  · simp [h]
theorem mul_c (st : Sto) (i c : Int) (h : -(2 ^ 64) < c ∧ c < 2 ^ 64) : binV .Mult st (vInt i) (vInt c) = some (vInt (i * c)) := by
  show (if mulOk i c then some (vInt (i * c)) else none) = _
  rw [if_pos (by unfold mulOk; exact decide_eq_true (.inr h))]
theorem mod_c (st : Sto) (i c : Int) (h : 0 < c) : binV .Mod st (vInt i) (vInt c) = some (vInt (i % c)) := by
  show (if 0 < c then some (vInt (i % c)) else none) = _
  rw [if_pos h]
theorem div_c (st : Sto) (i c : Int) (h : 0 < c ∧ c < 1073741824) : binV .FloorDiv st (vInt i) (vInt c) = some (vInt (i / c)) := by
  show (if 0 < c ∧ c < 1073741824 then some (vInt (i / c)) else none) = _
  rw [if_pos h]
theorem ixn0 (n : Nat) (h : 0 < n) : L2.ixN n 0 = some 0 := by
  unfold L2.ixN
  simp [h]
/-! _law_draw -/
section
variable (C : CE) (m s : Int) (X : Sto) (o3 o4 : Option W)
abbrev sgD (m : Int) (o3 o4 : Option W) : MP.Env := [some (.ref 1), some (.d (.int m)), some (.ref 0), o3, o4]
abbrev cD : E := .an (.cmp .Gt (.blt .len [(.var 2)]) (.cst (.int 0))) (.cmp .Eq (.ix (.var 2) (.cst (.int 0))) (.cst (.int 0)))
abbrev bD : List MP.S := [(.ex (.mth .pop (.var 2) [(.cst (.int 0))]))]
theorem len_st (cs : List Int) : bltV .len (ST cs s X) [.w (.ref 0)] = some (vInt cs.length) := by
  have e : lenOf (ST cs s X) (.w (.ref 0)) = some cs.length := by
    show some (wI cs).length = _
    rw [List.length_map]
  simp only [bltV, e]; rfl
theorem ix_st (c : Int) (cs : List Int) : ixV (ST (c :: cs) s X) (.w (.ref 0)) (vInt 0) = some (vInt c) := by
  have e : L2.atI (wI (c :: cs)) 0 = some (.d (.int c)) := L2.atI_nat (j := 0) rfl
  show (L2.atI (wI (c :: cs)) 0).map Val.w = _
  rw [e]; rfl
theorem cond_nil : evE C cD (sgD m o3 o4) (ST [] s X) = .ok (vBool false) (ST [] s X) := by
  have h1 := len_st s X []
  have h2 : cmpV .Gt (ST [] s X) (vInt (([] : List Int).length : Int)) (vInt 0) = some false := rfl
  repeat' (first | with_reducible exact h1 | with_reducible exact h2 | decreasing_trivial_pre_omega | rfl)
theorem cond_cons (c : Int) (cs : List Int) : evE C cD (sgD m o3 o4) (ST (c :: cs) s X) = .ok (vBool (decide (c = 0))) (ST (c :: cs) s X) := by
  have h1 := len_st s X (c :: cs)
  have h2 : cmpV .Gt (ST (c :: cs) s X) (vInt ((c :: cs).length : Int)) (vInt 0) = some true := by
    show some (decide ((0 : Int) < ((c :: cs).length : Int))) = _
    rw [decide_eq_true (by simp only [List.length_cons]; omega)]
  have h3 := ix_st s X c cs
  have h4 := eq0 (ST (c :: cs) s X) c
  repeat' (first | with_reducible exact h1 | with_reducible exact h2 | with_reducible exact h3 | with_reducible exact h4 | decreasing_trivial_pre_omega | rfl)
theorem pop_body (c : Int) (cs : List Int) : evSs C bD (sgD m o3 o4) (ST (c :: cs) s X) = .ok (.nx (sgD m o3 o4)) (ST cs s X) := by
  have hr : recvOk .pop (ST (c :: cs) s X) (.w (.ref 0)) = true := rfl
  have hm : mthV .pop (ST (c :: cs) s X) (.w (.ref 0)) [vInt 0] = some (vInt c, ST cs s X) := rfl
  have hx : evE C (.mth .pop (.var 2) [(.cst (.int 0))]) (sgD m o3 o4) (ST (c :: cs) s X) = .ok (vInt c) (ST cs s X) := ev_mth (r := (vInt c, ST cs s X)) (ev_var rfl) hr (es_cons ev_cst es_nil) hm
  exact ss_cons (s_ex hx) (nx_nx ss_nil)
def dz : List Int → List Int
  | [] => []
  | c :: r => if c = 0 then dz r else c :: r
theorem dz_len : ∀ cs : List Int, (dz cs).length ≤ cs.length
  | [] => Nat.le_refl _
  | c :: r => by
    unfold dz
    split
    · have := dz_len r; simp only [List.length_cons]; omega
    · exact Nat.le_refl _
theorem dz_mem : ∀ (cs : List Int), ∀ c ∈ dz cs, c ∈ cs
  | [], _, h => h
  | d :: r, c, h => by
    unfold dz at h
    split at h
    · exact List.mem_cons_of_mem _ (dz_mem r c h)
    · exact h
theorem loop_D : ∀ (cs : List Int) (n : Nat), cs.length < n → whileL (evB C cD) (evSs C bD) n (sgD m o3 o4) (ST cs s X) = .ok (.nx (sgD m o3 o4)) (ST (dz cs) s X)
  | [], n + 1, _ => wl_f (cond_nil C m s X o3 o4) rfl
  | c :: r, n + 1, h => by
    simp only [List.length_cons] at h
    have hcnd := cond_cons C m s X o3 o4 c r
    unfold dz
    by_cases h0 : c = 0
    · rw [if_pos h0]
      rw [decide_eq_true h0] at hcnd
      exact wl_t hcnd rfl (pop_body C m s X o3 o4 c r) (loop_D r n (by omega))
    · rw [if_neg h0]
      rw [decide_eq_false h0] at hcnd
      exact wl_f hcnd rfl
  | _, 0, h => by omega
end
theorem draw_run (n : Nat) (cs : List Int) (s : Int) (X : Sto) (m : Int) (hl : cs.length ≤ 1000) (hm : 0 < m ∧ m < 1073741824) :
    Rn (n + 1) 10 [.ref 1, .d (.int m)] (ST cs s X) = (match dz cs with
      | [] => .ok (vInt ((s * 48271 + 12345) % 2147483647 / 64 % m)) (ST [] ((s * 48271 + 12345) % 2147483647) X)
      | c :: r => .ok (vInt (c % m)) (ST ((c / m) :: r) s X)) := by
  have hw := loop_D (CN n) m s X none none cs lfN (by show cs.length < 10000; omega)
  have h0 : evS (CN n) (.asg true 2 (.ix (.var 0) (.cst (.int 0)))) [some (.ref 1), some (.d (.int m)), none, none, none] (ST cs s X) = .ok (.nx (sgD m none none)) (ST cs s X) :=
    s_ownW (ev_ix (ev_var rfl) ev_cst rfl)
  have h1 := s_wh hw
  cases q : dz cs with
  | nil =>
    rw [q] at h1
    have l1 := len_st s X []
    have l2 : cmpV .Gt (ST [] s X) (vInt (([] : List Int).length : Int)) (vInt 0) = some false := rfl
    have i1 : ixV (ST [] s X) (.w (.ref 1)) (vInt 1) = some (vInt s) := rfl
    have m1 := mul_c (ST [] s X) s 48271 (by decide)
    have m2 : binV .Add (ST [] s X) (vInt (s * 48271)) (vInt 12345) = some (vInt (s * 48271 + 12345)) := rfl
    have m3 := mod_c (ST [] s X) (s * 48271 + 12345) 2147483647 (by decide)
    have st1 : setCell (ST [] s X) (.w (.ref 1)) (vInt 1) (.d (.int ((s * 48271 + 12345) % 2147483647))) = some (ST [] ((s * 48271 + 12345) % 2147483647) X) := rfl
    have d1 := div_c (ST [] ((s * 48271 + 12345) % 2147483647) X) ((s * 48271 + 12345) % 2147483647) 64 (by decide)
    have d2 := mod_c (ST [] ((s * 48271 + 12345) % 2147483647) X) ((s * 48271 + 12345) % 2147483647 / 64) m hm.1
    dsimp only
    apply run_fn (fn := f10) rfl rfl rfl
    simp only [f10, b10, entry, List.map_cons, List.map_nil, List.replicate, List.cons_append, List.nil_append, Nat.reduceSub]
    refine ss_cons h0 (nx_nx (ss_cons h1 (nx_nx ?_)))
    repeat' (first | with_reducible exact l1 | with_reducible exact l2 | with_reducible exact i1 | with_reducible exact m1 | with_reducible exact m2 | with_reducible exact m3 | with_reducible exact st1 | with_reducible exact d1 | with_reducible exact d2 | decreasing_trivial_pre_omega | rfl)
  | cons c r =>
    rw [q] at h1
    have l1 := len_st s X (c :: r)
    have l2 : cmpV .Gt (ST (c :: r) s X) (vInt ((c :: r).length : Int)) (vInt 0) = some true := by
      show some (decide ((0 : Int) < ((c :: r).length : Int))) = _
      rw [decide_eq_true (by simp only [List.length_cons]; omega)]
    have i1 := ix_st s X c r
    have d1 := div_c (ST (c :: r) s X) c m hm
    have st1 : setCell (ST (c :: r) s X) (.w (.ref 0)) (vInt 0) (.d (.int (c / m))) = some (ST ((c / m) :: r) s X) := by
      have e : L2.ixN (wI (c :: r)).length 0 = some 0 := ixn0 _ (by simp)
      show (L2.ixN (wI (c :: r)).length 0).map (fun j => (ST (c :: r) s X).set 0 (.lst ((wI (c :: r)).set j (.d (.int (c / m)))))) = _
      rw [e]; rfl
    have d2 := mod_c (ST ((c / m) :: r) s X) c m hm.1
    dsimp only
    apply run_fn (fn := f10) rfl rfl rfl
    simp only [f10, b10, entry, List.map_cons, List.map_nil, List.replicate, List.cons_append, List.nil_append, Nat.reduceSub]
    refine ss_cons h0 (nx_nx (ss_cons h1 (nx_nx ?_)))
    repeat' (first | with_reducible exact l1 | with_reducible exact l2 | with_reducible exact i1 | with_reducible exact st1 | with_reducible exact d1 | with_reducible exact d2 | decreasing_trivial_pre_omega | rfl)
/-- cells that may be drawn from -/
def Ok (cs : List Int) : Prop := cs.length ≤ 1000 ∧ ∀ c ∈ cs, 0 ≤ c
theorem draw_ok (n : Nat) (cs : List Int) (s : Int) (X : Sto) (m : Int) (ho : Ok cs) (hX : Flat X) (hm : 0 < m ∧ m < 1073741824) :
    ∃ v cs' s', 0 ≤ v ∧ v < m ∧ Ok cs' ∧ callV (CN (n + 1)) 10 [.ref 1, .d (.int m)] (ST cs s X) = .ok (vInt v) (ST cs' s' X) := by
  have em : ∀ x : Int, 0 ≤ x % m ∧ x % m < m := fun x => ⟨Int.emod_nonneg x (by omega), Int.emod_lt_of_pos x hm.1⟩
  have hr := draw_run n cs s X m ho.1 hm
  cases q : dz cs with
  | nil =>
    rw [q] at hr
    exact ⟨_, [], _, (em _).1, (em _).2, ⟨Nat.zero_le _, fun c h => by cases h⟩, hc hr rfl hX rfl⟩
  | cons c r =>
    rw [q] at hr
    have hl := dz_len cs
    rw [q] at hl
    have h1 := ho.1
    simp only [List.length_cons] at hl
    refine ⟨_, (c / m) :: r, s, (em _).1, (em _).2, ⟨by simp only [List.length_cons]; omega, fun d hd => ?_⟩, hc hr rfl hX rfl⟩
    have hm' : ∀ d ∈ c :: r, 0 ≤ d := fun d hd => ho.2 d (dz_mem cs d (by rw [q]; exact hd))
    obtain rfl | hd := List.mem_cons.mp hd
    · exact Int.ediv_nonneg (hm' c (List.mem_cons_self ..)) (by omega)
    · exact hm' d (List.mem_cons_of_mem _ hd)
end KI
set_option maxHeartbeats 4100000
namespace KI
open PySem MP
local macro_rules | `(tactic| decreasing_trivial_pre_omega) => `(tactic| first
  | simp only [List.map_nil, List.append_nil, List.nil_append, List.cons_append, List.map_cons, List.set_cons_zero, List.set_cons_succ, List.length_nil]
  | with_reducible exact ev_cst | with_reducible apply ev_cel | with_reducible apply ev_var | with_reducible apply ev_bin | with_reducible apply ev_cmp | with_reducible apply ev_ix | with_reducible apply ev_nt | with_reducible apply ev_an | with_reducible apply ev_orr
  | with_reducible apply ev_ife | with_reducible apply ev_cmp2 | with_reducible apply ev_cmp2b | with_reducible apply ev_tup | with_reducible apply ev_lst | with_reducible exact ev_dis | with_reducible apply ev_neg | with_reducible apply ev_sl
  | with_reducible exact eo_none | with_reducible apply eo_some | with_reducible apply ev_call | with_reducible apply ev_blt | with_reducible apply ev_mth | with_reducible apply ev_isi | with_reducible apply ev_lc
  | with_reducible exact ec_nil | with_reducible apply ec_one | with_reducible exact es_nil | with_reducible apply es_cons | with_reducible apply sr_it | with_reducible apply sr_rng1 | with_reducible apply sr_rng2 | with_reducible apply sr_enm | with_reducible apply sr_zp
  | with_reducible apply pick_t | with_reducible apply pick_f | refine pick_tE (by rfl) ?_ | refine pick_fE (by rfl) ?_ | with_reducible apply nx_nx | with_reducible exact nx_rt | with_reducible exact nx_bk | with_reducible exact nx_ct | with_reducible exact ss_nil | with_reducible apply ss_cons | with_reducible apply s_asg | with_reducible apply s_own
  | with_reducible apply s_unp | with_reducible apply s_par | with_reducible apply s_set | with_reducible apply s_ex | with_reducible apply s_iff | with_reducible apply s_ret | with_reducible exact s_retN | with_reducible exact s_pss | with_reducible exact s_brk | with_reducible exact s_cnt
  | with_reducible apply s_fr | with_reducible apply fo_items | with_reducible exact fo_nil | with_reducible apply fo_cons | with_reducible apply frF_ok | with_reducible apply nf_nx | with_reducible apply nf_ct | with_reducible exact nf_rt | with_reducible exact nf_bk
  | with_reducible apply ga_items | with_reducible exact ga_nil | with_reducible apply ng_none | with_reducible apply ng_some | with_reducible apply lcF_ok | with_reducible apply lcE | with_reducible apply ga_cons)
/-! kinds -/
abbrev Ky := Sum Int Str
mutual
inductive Kd where
  | v (x : Ky)
  | n (f : Str) (ks : Kds)
inductive Kds where
  | nil
  | cons (k : Kd) (r : Kds)
end
abbrev sQ : Str := ⟨#[63]⟩
mutual
def Kd.d : Kd → D
  | .v x => .tuple [.str sQ, keyD x]
  | .n f ks => .tuple [.str f, .tuple ks.ds]
def Kds.ds : Kds → List D
  | .nil => []
  | .cons k r => k.d :: r.ds
end
mutual
def Kd.dep : Kd → Nat
  | .v _ => 0
  | .n _ ks => ks.deps + 1
def Kds.deps : Kds → Nat
  | .nil => 0
  | .cons k r => max k.dep r.deps
end
mutual
def Kd.sz : Kd → Nat
  | .v _ => 1
  | .n _ ks => ks.szs + 1
def Kds.szs : Kds → Nat
  | .nil => 0
  | .cons k r => k.sz + r.szs
end
def kyOk : Ky → Prop
  | .inl _ => True
  | .inr x => PyData.strOk x = true
mutual
/-- no node is called as letters are -/
def Kd.ok : Kd → Prop
  | .v x => kyOk x
  | .n f ks => (f ≠ sQ ∧ PyData.strOk f = true) ∧ ks.oks
def Kds.oks : Kds → Prop
  | .nil => True
  | .cons k r => k.ok ∧ r.oks
end
def Kds.l : Kds → List Kd
  | .nil => []
  | .cons k r => k :: r.l
theorem ds_l : ∀ ks : Kds, ks.ds = ks.l.map Kd.d
  | .nil => rfl
  | .cons k r => by simp only [Kds.ds, Kds.l, List.map_cons, ds_l r]
theorem deps_l : ∀ (ks : Kds) (k : Kd), k ∈ ks.l → k.dep ≤ ks.deps
  | .nil, k, h => by simp [Kds.l] at h
  | .cons x r, k, h => by
    simp only [Kds.l, List.mem_cons] at h
    simp only [Kds.deps]
    rcases h with rfl | h
    · omega
    · have := deps_l r k h; omega
theorem szs_l : ∀ (ks : Kds) (k : Kd), k ∈ ks.l → k.sz ≤ ks.szs
  | .nil, k, h => by simp [Kds.l] at h
  | .cons x r, k, h => by
    simp only [Kds.l, List.mem_cons] at h
    simp only [Kds.szs]
    rcases h with rfl | h
    · omega
    · have := szs_l r k h; omega
theorem oks_l : ∀ (ks : Kds), ks.oks → ∀ k ∈ ks.l, k.ok
  | .nil, _, k, h => by simp [Kds.l] at h
  | .cons x r, o, k, h => by
    simp only [Kds.l, List.mem_cons] at h
    rcases h with rfl | h
    · exact o.1
    · exact oks_l r o.2 k h
theorem sz_pos : ∀ k : Kd, 1 ≤ k.sz
  | .v _ => Nat.le_refl _
  | .n _ ks => by simp only [Kd.sz]; omega
theorem l_szs : ∀ ks : Kds, ks.l.length ≤ ks.szs
  | .nil => Nat.le_refl _
  | .cons k r => by
    have h1 := sz_pos k
    have h2 := l_szs r
    simp only [Kds.l, Kds.szs, List.length_cons]; omega
/-! drawn kinds -/
abbrev lets : D := .tuple [.str ⟨#[97]⟩, .str ⟨#[98]⟩, .str ⟨#[99]⟩, .str ⟨#[113]⟩]
abbrev sNum : Str := ⟨#[110, 117, 109]⟩
abbrev sList : Str := ⟨#[108, 105, 115, 116]⟩
abbrev sFun : Str := ⟨#[102, 117, 110]⟩
abbrev sPair : Str := ⟨#[112, 97, 105, 114]⟩
abbrev one (k : Kd) : Kds := .cons k .nil
abbrev two (k l : Kd) : Kds := .cons k (.cons l .nil)
abbrev pkE : E := .ife (.cmp .Gt (.var 2) (.cst (.int 0))) (.cst (.int 7)) (.cst (.int 3))
abbrev sgK (d : Int) (o : Option W) : MP.Env := [some (.ref 1), some (.d lets), some (.d (.int d)), o]
theorem lt_c (st : Sto) (a b : Int) : cmpV .Lt st (vInt a) (vInt b) = some (decide (a < b)) := rfl
theorem kind_A (N : Nat) (S0 S1 S2 : Sto) (d mm p v : Int) (x : Str) (hM : evE (CN N) pkE (sgK d none) S0 = .ok (vInt mm) S0) (h1 : callV (CN N) 10 [.ref 1, .d (.int mm)] S0 = .ok (vInt p) S1) (hp : p < 2) (h2 : callV (CN N) 10 [.ref 1, .d (.int 4)] S1 = .ok (vInt v) S2) (hx : ixV S2 (.w (.d lets)) (vInt v) = some (vStr x)) :
    Rn (N + 1) 18 [.ref 1, .d lets, .d (.int d)] S0 = .ok (vTup [.str sQ, .str x]) S2 := by
  have e1 := lt_c S1 p 2
  rw [decide_eq_true hp] at e1
  have e2 : cmpV .NotEq S1 (.w (.d lets)) (vTup []) = some true := by
    show (eqD lets (.tuple [])).map (!·) = some true
    kernel_rfl
  have e3 : bltV .len S1 [.w (.d lets)] = some (vInt 4) := rfl
  apply run_fn (fn := f18) rfl rfl rfl
  simp only [f18, b18, entry, List.map_cons, List.map_nil, List.replicate, List.cons_append, List.nil_append, Nat.reduceSub]
  repeat' (first | with_reducible exact hM | with_reducible exact h1 | with_reducible exact h2 | with_reducible exact hx | with_reducible exact e1 | with_reducible exact e2 | with_reducible exact e3 | decreasing_trivial_pre_omega | rfl)
theorem kind_B (N : Nat) (S0 S1 : Sto) (d mm : Int) (hM : evE (CN N) pkE (sgK d none) S0 = .ok (vInt mm) S0) (h1 : callV (CN N) 10 [.ref 1, .d (.int mm)] S0 = .ok (vInt 2) S1) :
    Rn (N + 1) 18 [.ref 1, .d lets, .d (.int d)] S0 = .ok (.w (.d (Kd.n sNum .nil).d)) S1 := by
  have e1 : cmpV .Lt S1 (vInt 2) (vInt 2) = some false := rfl
  have e2 : cmpV .Lt S1 (vInt 2) (vInt 3) = some true := rfl
  apply run_fn (fn := f18) rfl rfl rfl
  simp only [f18, b18, entry, List.map_cons, List.map_nil, List.replicate, List.cons_append, List.nil_append, Nat.reduceSub]
  repeat' (first | with_reducible exact hM | with_reducible exact h1 | with_reducible exact e1 | with_reducible exact e2 | decreasing_trivial_pre_omega | rfl)
theorem kind_C (N : Nat) (S0 S1 S2 : Sto) (d mm : Int) (k : Kd) (hM : evE (CN N) pkE (sgK d none) S0 = .ok (vInt mm) S0) (h1 : callV (CN N) 10 [.ref 1, .d (.int mm)] S0 = .ok (vInt 3) S1) (h2 : callV (CN N) 18 [.ref 1, .d lets, .d (.int (d - 1))] S1 = .ok (.w (.d k.d)) S2) :
    Rn (N + 1) 18 [.ref 1, .d lets, .d (.int d)] S0 = .ok (.w (.d (Kd.n sList (one k)).d)) S2 := by
  have e1 : cmpV .Lt S1 (vInt 3) (vInt 2) = some false := rfl
  have e2 : cmpV .Lt S1 (vInt 3) (vInt 3) = some false := rfl
  have e3 : cmpV .Eq S1 (vInt 3) (vInt 3) = some true := rfl
  apply run_fn (fn := f18) rfl rfl rfl
  simp only [f18, b18, entry, List.map_cons, List.map_nil, List.replicate, List.cons_append, List.nil_append, Nat.reduceSub]
  repeat' (first | with_reducible exact hM | with_reducible exact h1 | with_reducible exact h2 | with_reducible exact e1 | with_reducible exact e2 | with_reducible exact e3 | decreasing_trivial_pre_omega | rfl)
theorem kind_D (N : Nat) (S0 S1 S2 S3 : Sto) (d mm p : Int) (f : Str) (k l : Kd) (hM : evE (CN N) pkE (sgK d none) S0 = .ok (vInt mm) S0) (h1 : callV (CN N) 10 [.ref 1, .d (.int mm)] S0 = .ok (vInt p) S1) (hp : 4 ≤ p) (hx : ixV S1 (vTup [.str sFun, .str sPair, .str sFun]) (vInt (p - 4)) = some (vStr f))
    (h2 : callV (CN N) 18 [.ref 1, .d lets, .d (.int (d - 1))] S1 = .ok (.w (.d k.d)) S2) (h3 : callV (CN N) 18 [.ref 1, .d lets, .d (.int (d - 1))] S2 = .ok (.w (.d l.d)) S3) :
    Rn (N + 1) 18 [.ref 1, .d lets, .d (.int d)] S0 = .ok (.w (.d (Kd.n f (two k l)).d)) S3 := by
  have e1 := lt_c S1 p 2
  rw [decide_eq_false (by omega)] at e1
  have e2 := lt_c S1 p 3
  rw [decide_eq_false (by omega)] at e2
  have e3 : cmpV .Eq S1 (vInt p) (vInt 3) = some false := by
    show some (PyData.eqv (.int p) (.int 3)) = _
    have : ¬ p = 3 := by omega
    simp [PyData.eqv, this]
  apply run_fn (fn := f18) rfl rfl rfl
  simp only [f18, b18, entry, List.map_cons, List.map_nil, List.replicate, List.cons_append, List.nil_append, Nat.reduceSub]
  repeat' (first | with_reducible exact hM | with_reducible exact h1 | with_reducible exact h2 | with_reducible exact h3 | with_reducible exact hx | with_reducible exact e1 | with_reducible exact e2 | with_reducible exact e3 | decreasing_trivial_pre_omega | rfl)
theorem pk_0 (C : CE) (st : Sto) : evE C pkE (sgK 0 none) st = .ok (vInt 3) st := by
  have e : cmpV .Gt st (vInt 0) (vInt 0) = some false := rfl
  repeat' (first | with_reducible exact e | decreasing_trivial_pre_omega | rfl)
theorem pk_s (C : CE) (st : Sto) (d : Nat) : evE C pkE (sgK ((d + 1 : Nat) : Int) none) st = .ok (vInt 7) st := by
  have e : cmpV .Gt st (vInt ((d + 1 : Nat) : Int)) (vInt 0) = some true := by
    show some (decide ((0 : Int) < ((d + 1 : Nat) : Int))) = _
    rw [decide_eq_true_eq.mpr (by omega)]
  repeat' (first | with_reducible exact e | decreasing_trivial_pre_omega | rfl)
theorem let_ix (st : Sto) (v : Int) (h : 0 ≤ v ∧ v < 4) : ∃ x, PyData.strOk x = true ∧ ixV st (.w (.d lets)) (vInt v) = some (vStr x) := by
  obtain rfl | rfl | rfl | rfl : v = 0 ∨ v = 1 ∨ v = 2 ∨ v = 3 := by omega
  all_goals exact ⟨_, by decide +kernel, rfl⟩
/-- what a draw of a kind gives -/
def Kn (k : Kd) (d : Nat) : Prop := k.ok ∧ k.dep ≤ d + 1 ∧ k.sz < 2 ^ (d + 1)
def Gk (C : CE) (d : Nat) : Prop := ∀ (cs : List Int) (s : Int) (X : Sto), Ok cs → Flat X → ∃ (k : Kd) (cs' : List Int) (s' : Int), Kn k d ∧ Ok cs' ∧ callV C 18 [.ref 1, .d lets, .d (.int d)] (ST cs s X) = .ok (.w (.d k.d)) (ST cs' s' X)
theorem gk_of (N d : Nat) (h : ∀ (cs : List Int) (s : Int) (X : Sto), Ok cs → Flat X → ∃ (k : Kd) (cs' : List Int) (s' : Int), Kn k d ∧ Ok cs' ∧ Rn N 18 [.ref 1, .d lets, .d (.int d)] (ST cs s X) = .ok (.w (.d k.d)) (ST cs' s' X)) : Gk (CN N) d := fun cs s X ho hX => by
  obtain ⟨k, cs', s', h1, h2, h3⟩ := h cs s X ho hX
  exact ⟨k, cs', s', h1, h2, hc h3 rfl hX rfl⟩
theorem kn_v (x : Ky) (hx : kyOk x) (d : Nat) : Kn (.v x) d := ⟨hx, Nat.zero_le _, by
  have : 2 ≤ 2 ^ (d + 1) := by rw [Nat.pow_succ]; have := Nat.two_pow_pos d; omega
  show 1 < 2 ^ (d + 1)
  omega⟩
theorem gk_ok : ∀ (d n : Nat), Gk (CN (n + d + 2)) d
  | 0, n => gk_of (n + 2) 0 fun cs s X ho0 hX => by
    obtain ⟨p, cs1, s1, a1, a2, a3, h1⟩ := draw_ok n cs s X 3 ho0 hX (by decide)
    by_cases hp : p < 2
    · obtain ⟨v, cs2, s2, b1, b2, b3, h2⟩ := draw_ok n cs1 s1 X 4 a3 hX (by decide)
      obtain ⟨x, ho, hx⟩ := let_ix (ST cs2 s2 X) v ⟨b1, b2⟩
      exact ⟨.v (.inr x), cs2, s2, kn_v (.inr x) ho 0, b3, kind_A (n + 1) _ _ _ 0 3 p v x (pk_0 _ _) h1 hp h2 hx⟩
    · obtain rfl : p = 2 := by omega
      exact ⟨.n sNum .nil, cs1, s1, ⟨⟨by decide +kernel, trivial⟩, Nat.le_refl _, by decide⟩, a3, kind_B (n + 1) _ _ 0 3 (pk_0 _ _) h1⟩
  | d + 1, n => gk_of (n + (d + 1) + 2) (d + 1) fun cs s X ho0 hX => by
    have ih := gk_ok d n
    have e : ((d + 1 : Nat) : Int) - 1 = (d : Int) := by omega
    have hpw : 2 ^ (d + 1 + 1) = 2 ^ (d + 1) + 2 ^ (d + 1) := by rw [Nat.pow_succ]; omega
    have hp1 : 2 ≤ 2 ^ (d + 1) := by rw [Nat.pow_succ]; have := Nat.two_pow_pos d; omega
    obtain ⟨p, cs1, s1, a1, a2, a3, h1⟩ := draw_ok (n + d + 1) cs s X 7 ho0 hX (by decide)
    by_cases hp : p < 2
    · obtain ⟨v, cs2, s2, b1, b2, b3, h2⟩ := draw_ok (n + d + 1) cs1 s1 X 4 a3 hX (by decide)
      obtain ⟨x, ho, hx⟩ := let_ix (ST cs2 s2 X) v ⟨b1, b2⟩
      exact ⟨.v (.inr x), cs2, s2, kn_v (.inr x) ho (d + 1), b3, kind_A (n + d + 2) _ _ _ _ 7 p v x (pk_s _ _ d) h1 hp h2 hx⟩
    · obtain ⟨k, cs2, s2, ⟨k1, k2, k3⟩, b3, h2⟩ := ih cs1 s1 X a3 hX
      by_cases hp2 : p = 2
      · subst hp2
        exact ⟨.n sNum .nil, cs1, s1, ⟨⟨by decide +kernel, trivial⟩, by show 1 ≤ d + 1 + 1; omega, by show 1 < 2 ^ (d + 1 + 1); omega⟩, a3, kind_B (n + d + 2) _ _ _ 7 (pk_s _ _ d) h1⟩
      · by_cases hp3 : p = 3
        · subst hp3
          exact ⟨.n sList (one k), cs2, s2, ⟨⟨by decide +kernel, k1, trivial⟩, by show max k.dep 0 + 1 ≤ d + 1 + 1; omega, by show k.sz + 0 + 1 < 2 ^ (d + 1 + 1); omega⟩, b3, kind_C (n + d + 2) _ _ _ _ 7 k (pk_s _ _ d) h1 (by rw [e]; exact h2)⟩
        · obtain ⟨l, cs3, s3, ⟨l1, l2, l3⟩, c3, h3⟩ := ih cs2 s2 X b3 hX
          have hx : ∃ f, (f ≠ sQ ∧ PyData.strOk f = true) ∧ ixV (ST cs1 s1 X) (vTup [.str sFun, .str sPair, .str sFun]) (vInt (p - 4)) = some (vStr f) := by
            obtain rfl | rfl | rfl : p = 4 ∨ p = 5 ∨ p = 6 := by omega
            · exact ⟨sFun, by decide +kernel, rfl⟩
            · exact ⟨sPair, by decide +kernel, rfl⟩
            · exact ⟨sFun, by decide +kernel, rfl⟩
          obtain ⟨f, hf, hx⟩ := hx
          exact ⟨.n f (two k l), cs3, s3, ⟨⟨hf, k1, l1, trivial⟩, by show max k.dep (max l.dep 0) + 1 ≤ d + 1 + 1; omega, by show k.sz + (l.sz + 0) + 1 < 2 ^ (d + 1 + 1); omega⟩, c3,
            kind_D (n + d + 2) _ _ _ _ _ 7 p f k l (pk_s _ _ d) h1 (by omega) hx (by rw [e]; exact h2) (by rw [e]; exact h3)⟩
end KI
set_option maxHeartbeats 4100000
namespace KI
open PySem MP
local macro_rules | `(tactic| decreasing_trivial_pre_omega) => `(tactic| first
  | simp only [List.map_nil, List.append_nil, List.nil_append, List.cons_append, List.map_cons, List.set_cons_zero, List.set_cons_succ, List.length_nil]
  | with_reducible exact ev_cst | with_reducible apply ev_cel | with_reducible apply ev_var | with_reducible apply ev_bin | with_reducible apply ev_cmp | with_reducible apply ev_ix | with_reducible apply ev_nt | with_reducible apply ev_an | with_reducible apply ev_orr
  | with_reducible apply ev_ife | with_reducible apply ev_cmp2 | with_reducible apply ev_cmp2b | with_reducible apply ev_tup | with_reducible apply ev_lst | with_reducible exact ev_dis | with_reducible apply ev_neg | with_reducible apply ev_sl
  | with_reducible exact eo_none | with_reducible apply eo_some | with_reducible apply ev_call | with_reducible apply ev_blt | with_reducible apply ev_mth | with_reducible apply ev_isi | with_reducible apply ev_lc
  | with_reducible exact ec_nil | with_reducible apply ec_one | with_reducible exact es_nil | with_reducible apply es_cons | with_reducible apply sr_it | with_reducible apply sr_rng1 | with_reducible apply sr_rng2 | with_reducible apply sr_enm | with_reducible apply sr_zp
  | with_reducible apply pick_t | with_reducible apply pick_f | refine pick_tE (by rfl) ?_ | refine pick_fE (by rfl) ?_ | with_reducible apply nx_nx | with_reducible exact nx_rt | with_reducible exact nx_bk | with_reducible exact nx_ct | with_reducible exact ss_nil | with_reducible apply ss_cons | with_reducible apply s_asg | with_reducible apply s_own
  | with_reducible apply s_unp | with_reducible apply s_par | with_reducible apply s_set | with_reducible apply s_ex | with_reducible apply s_iff | with_reducible apply s_ret | with_reducible exact s_retN | with_reducible exact s_pss | with_reducible exact s_brk | with_reducible exact s_cnt
  | with_reducible apply s_fr | with_reducible apply fo_items | with_reducible exact fo_nil | with_reducible apply fo_cons | with_reducible apply frF_ok | with_reducible apply nf_nx | with_reducible apply nf_ct | with_reducible exact nf_rt | with_reducible exact nf_bk
  | with_reducible apply ga_items | with_reducible exact ga_nil | with_reducible apply ng_none | with_reducible apply ng_some | with_reducible apply lcF_ok | with_reducible apply lcE | with_reducible apply ga_cons)
/-! kinds as data: when they are equal -/
mutual
def pl : D → Bool
  | .int _ => true
  | .str _ => true
  | .tuple xs => pls xs
  | .list xs => pls xs
  | _ => false
def pls : List D → Bool
  | [] => true
  | x :: r => pl x && pls r
end
mutual
theorem eqv_pl : ∀ (x y : D), pl x = true → pl y = true → (PyData.eqv x y = true ↔ x = y)
  | .int i, y, _, hy => by
    cases y with
    | int j => simp [PyData.eqv]
    | str _ => simp [PyData.eqv]
    | tuple _ => simp [PyData.eqv]
    | list _ => simp [PyData.eqv]
    | none => simp [pl] at hy
    | bool _ => simp [pl] at hy
    | dict _ => simp [pl] at hy
  | .str i, y, _, hy => by
    cases y with
    | int j => simp [PyData.eqv]
    | str _ => simp [PyData.eqv]
    | tuple _ => simp [PyData.eqv]
    | list _ => simp [PyData.eqv]
    | none => simp [pl] at hy
    | bool _ => simp [pl] at hy
    | dict _ => simp [pl] at hy
  | .tuple xs, y, hx, hy => by
    cases y with
    | int j => simp [PyData.eqv]
    | str _ => simp [PyData.eqv]
    | tuple ys =>
      simp only [pl] at hx hy
      have h := eqvs_pl xs ys hx hy
      simp only [PyData.eqv, h, PyData.tuple.injEq]
    | list _ => simp [PyData.eqv]
    | none => simp [pl] at hy
    | bool _ => simp [pl] at hy
    | dict _ => simp [pl] at hy
  | .list xs, y, hx, hy => by
    cases y with
    | int j => simp [PyData.eqv]
    | str _ => simp [PyData.eqv]
    | list ys =>
      simp only [pl] at hx hy
      have h := eqvs_pl xs ys hx hy
      simp only [PyData.eqv, h, PyData.list.injEq]
    | tuple _ => simp [PyData.eqv]
    | none => simp [pl] at hy
    | bool _ => simp [pl] at hy
    | dict _ => simp [pl] at hy
  | .none, _, hx, _ => by simp [pl] at hx
  | .bool _, _, hx, _ => by simp [pl] at hx
  | .dict _, _, hx, _ => by simp [pl] at hx
theorem eqvs_pl : ∀ (xs ys : List D), pls xs = true → pls ys = true → (PyData.eqvAll xs ys = true ↔ xs = ys)
  | [], [], _, _ => by simp [PyData.eqvAll]
  | [], _ :: _, _, _ => by simp [PyData.eqvAll]
  | _ :: _, [], _, _ => by simp [PyData.eqvAll]
  | x :: xs, y :: ys, hx, hy => by
    simp only [pls, Bool.and_eq_true] at hx hy
    have h1 := eqv_pl x y hx.1 hy.1
    have h2 := eqvs_pl xs ys hx.2 hy.2
    simp only [PyData.eqvAll, Bool.and_eq_true, h1, h2, List.cons.injEq]
end
theorem key_pl (x : Ky) : pl (keyD x) = true := by cases x <;> rfl
mutual
theorem kd_pl : ∀ k : Kd, pl k.d = true
  | .v x => by simp only [Kd.d, pl, pls, key_pl, Bool.and_self, Bool.and_true]
  | .n f ks => by simp only [Kd.d, pl, pls, kds_pl ks, Bool.and_self, Bool.and_true]
theorem kds_pl : ∀ ks : Kds, pls ks.ds = true
  | .nil => rfl
  | .cons k r => by simp only [Kds.ds, pls, kd_pl k, kds_pl r, Bool.and_self]
end
theorem keyD_inj {x y : Ky} (h : keyD x = keyD y) : x = y := by
  cases x <;> cases y <;> (simp [keyD] at h; try rw [h])
mutual
theorem d_inj : ∀ (k l : Kd), k.ok → l.ok → k.d = l.d → k = l
  | .v x, .v y, _, _, h => by
    simp only [Kd.d, PyData.tuple.injEq, List.cons.injEq, and_true, true_and] at h
    rw [keyD_inj h]
  | .v x, .n f ks, _, o, h => by
    simp only [Kd.d, PyData.tuple.injEq, List.cons.injEq, PyData.str.injEq] at h
    exact absurd h.1.symm o.1.1
  | .n f ks, .v x, o, _, h => by
    simp only [Kd.d, PyData.tuple.injEq, List.cons.injEq, PyData.str.injEq] at h
    exact absurd h.1 o.1.1
  | .n f ks, .n g ls, o, p, h => by
    simp only [Kd.d, PyData.tuple.injEq, List.cons.injEq, PyData.str.injEq, and_true] at h
    rw [h.1, ds_inj ks ls o.2 p.2 h.2]
theorem ds_inj : ∀ (ks ls : Kds), ks.oks → ls.oks → ks.ds = ls.ds → ks = ls
  | .nil, .nil, _, _, _ => rfl
  | .nil, .cons _ _, _, _, h => by simp [Kds.ds] at h
  | .cons _ _, .nil, _, _, h => by simp [Kds.ds] at h
  | .cons k r, .cons l q, o, p, h => by
    simp only [Kds.ds, List.cons.injEq] at h
    rw [d_inj k l o.1 p.1 h.1, ds_inj r q o.2 p.2 h.2]
end
/-- kinds compared -/
theorem eqv_kd (k l : Kd) (hk : k.ok) (hl : l.ok) : PyData.eqv k.d l.d = true ↔ k = l :=
  (eqv_pl k.d l.d (kd_pl k) (kd_pl l)).trans ⟨d_inj k l hk hl, fun e => by rw [e]⟩
mutual
theorem kd_lay : ∀ k : Kd, k.ok → PyData.canLay0 k.d = true
  | .v (.inl i), _ => by
    have hq : PyData.strOk sQ = true := by decide +kernel
    simp only [Kd.d, keyD, PyData.canLay0, PyData.canLayAll0, hq, Bool.and_self]
  | .v (.inr x), h => by
    have h : PyData.strOk x = true := h
    have hq : PyData.strOk sQ = true := by decide +kernel
    simp only [Kd.d, keyD, PyData.canLay0, PyData.canLayAll0, h, hq, Bool.and_self]
  | .n f ks, h => by
    have h2 := kds_lay ks h.2
    simp only [Kd.d, PyData.canLay0, PyData.canLayAll0, h.1.2, h2, Bool.and_self]
theorem kds_lay : ∀ ks : Kds, ks.oks → PyData.canLayAll0 ks.ds = true
  | .nil, _ => rfl
  | .cons k r, h => by
    have h1 := kd_lay k h.1
    have h2 := kds_lay r h.2
    simp only [Kds.ds, PyData.canLayAll0, h1, h2, Bool.and_self]
end
mutual
theorem kd_depth : ∀ k : Kd, k.d.depth ≤ 2 * k.dep + 1
  | .v (.inl i) => Nat.le_refl _
  | .v (.inr x) => Nat.le_refl _
  | .n f ks => by
    have h := kds_depth ks
    simp only [Kd.d, PyData.depth, PyData.depthAll, Kd.dep]
    omega
theorem kds_depth : ∀ ks : Kds, PyData.depthAll ks.ds ≤ 2 * ks.deps + 1
  | .nil => Nat.zero_le _
  | .cons k r => by
    have h1 := kd_depth k
    have h2 := kds_depth r
    simp only [Kds.ds, PyData.depthAll, Kds.deps]
    omega
end
theorem kd_shaped (k : Kd) (ho : k.ok) (hd : k.dep ≤ 30) : SeqAt.shaped k.d = true := by
  unfold SeqAt.shaped
  have h := kd_depth k
  rw [kd_lay k ho, decide_eq_true (by omega)]; rfl
def ek (k l : Kd) : Bool := PyData.eqv k.d l.d
theorem eq_kd (st : Sto) (k l : Kd) (hk : k.ok ∧ k.dep ≤ 30) (hl : l.ok ∧ l.dep ≤ 30) : cmpV .Eq st (.w (.d k.d)) (.w (.d l.d)) = some (ek k l) := by
  show eqD k.d l.d = _
  unfold eqD
  rw [kd_shaped k hk.1 hk.2, kd_shaped l hl.1 hl.2]
  simp [ek]
theorem ne_kd (st : Sto) (k l : Kd) (hk : k.ok ∧ k.dep ≤ 30) (hl : l.ok ∧ l.dep ≤ 30) : cmpV .NotEq st (.w (.d k.d)) (.w (.d l.d)) = some (!ek k l) := by
  show (eqD k.d l.d).map (!·) = _
  unfold eqD
  rw [kd_shaped k hk.1 hk.2, kd_shaped l hl.1 hl.2]
  simp [ek]
/-- the head of a kind -/
def Kd.hd : Kd → Str
  | .v _ => sQ
  | .n f _ => f
theorem hd_ix (st : Sto) (k : Kd) : ixV st (.w (.d k.d)) (vInt 0) = some (vStr k.hd) := by cases k <;> rfl
theorem eq_str (st : Sto) (x y : Str) : cmpV .Eq st (vStr x) (vStr y) = some (decide (x = y)) := by
  have e : PyData.eqv (.str x) (.str y) = decide (x = y) := by
    simp only [PyData.eqv]
    first | rfl | exact Bool.beq_eq_decide_eq x y
  show some (PyData.eqv (.str x) (.str y)) = _
  rw [e]
theorem ne_str (st : Sto) (x y : Str) : cmpV .NotEq st (vStr x) (vStr y) = some (!decide (x = y)) := by
  have h := eq_str st x y
  show (eqD (.str x) (.str y)).map (!·) = _
  have h : eqD (.str x) (.str y) = some (decide (x = y)) := h
  rw [h]; rfl
theorem hd_v (st : Sto) (x : Ky) : cmpV .Eq st (vStr (Kd.v x).hd) (vStr ⟨#[63]⟩) = some true := by
  have := eq_str st sQ sQ
  rw [decide_eq_true rfl] at this
  exact this
theorem hd_n (st : Sto) (f : Str) (ks : Kds) (h : f ≠ sQ) : cmpV .Eq st (vStr (Kd.n f ks).hd) (vStr ⟨#[63]⟩) = some false := by
  have := eq_str st f sQ
  rw [decide_eq_false h] at this
  exact this
end KI
set_option maxHeartbeats 4100000
namespace KI
open PySem MP
local macro_rules | `(tactic| decreasing_trivial_pre_omega) => `(tactic| first
  | simp only [List.map_nil, List.append_nil, List.nil_append, List.cons_append, List.map_cons, List.set_cons_zero, List.set_cons_succ, List.length_nil]
  | with_reducible exact ev_cst | with_reducible apply ev_cel | with_reducible apply ev_var | with_reducible apply ev_bin | with_reducible apply ev_cmp | with_reducible apply ev_ix | with_reducible apply ev_nt | with_reducible apply ev_an | with_reducible apply ev_orr
  | with_reducible apply ev_ife | with_reducible apply ev_cmp2 | with_reducible apply ev_cmp2b | with_reducible apply ev_tup | with_reducible apply ev_lst | with_reducible exact ev_dis | with_reducible apply ev_neg | with_reducible apply ev_sl
  | with_reducible exact eo_none | with_reducible apply eo_some | with_reducible apply ev_call | with_reducible apply ev_blt | with_reducible apply ev_mth | with_reducible apply ev_isi | with_reducible apply ev_lc
  | with_reducible exact ec_nil | with_reducible apply ec_one | with_reducible exact es_nil | with_reducible apply es_cons | with_reducible apply sr_it | with_reducible apply sr_rng1 | with_reducible apply sr_rng2 | with_reducible apply sr_enm | with_reducible apply sr_zp
  | with_reducible apply pick_t | with_reducible apply pick_f | refine pick_tE (by rfl) ?_ | refine pick_fE (by rfl) ?_ | with_reducible apply nx_nx | with_reducible exact nx_rt | with_reducible exact nx_bk | with_reducible exact nx_ct | with_reducible exact ss_nil | with_reducible apply ss_cons | with_reducible apply s_asg | with_reducible apply s_own
  | with_reducible apply s_unp | with_reducible apply s_par | with_reducible apply s_set | with_reducible apply s_ex | with_reducible apply s_iff | with_reducible apply s_ret | with_reducible exact s_retN | with_reducible exact s_pss | with_reducible exact s_brk | with_reducible exact s_cnt
  | with_reducible apply s_fr | with_reducible apply fo_items | with_reducible exact fo_nil | with_reducible apply fo_cons | with_reducible apply frF_ok | with_reducible apply nf_nx | with_reducible apply nf_ct | with_reducible exact nf_rt | with_reducible exact nf_bk
  | with_reducible apply ga_items | with_reducible exact ga_nil | with_reducible apply ng_none | with_reducible apply ng_some | with_reducible apply lcF_ok | with_reducible apply lcE | with_reducible apply ga_cons)
/-! kinds put for letters -/
def look {α : Type} : List (Ky × α) → Ky → Option α
  | [], _ => none
  | (k, v) :: r, x => if k = x then some v else look r x
mutual
def Kd.sw (σ : List (Ky × Kd)) : Kd → Kd
  | .v x => (look σ x).getD (.v x)
  | .n f ks => .n f (ks.sws σ)
def Kds.sws (σ : List (Ky × Kd)) : Kds → Kds
  | .nil => .nil
  | .cons k r => .cons (k.sw σ) (r.sws σ)
end
theorem sws_l (σ : List (Ky × Kd)) : ∀ ks : Kds, (ks.sws σ).ds = ks.l.map fun k => (k.sw σ).d
  | .nil => rfl
  | .cons k r => by simp only [Kds.sws, Kds.ds, Kds.l, List.map_cons, sws_l σ r]
theorem eqv_key (a b : Ky) : PyData.eqv (keyD a) (keyD b) = decide (a = b) := by
  have h := eqv_pl (keyD a) (keyD b) (key_pl a) (key_pl b)
  by_cases e : a = b
  · rw [decide_eq_true e]; exact h.mpr (by rw [e])
  · rw [decide_eq_false e]
    exact Bool.eq_false_iff.mpr fun z => e (keyD_inj (h.mp z))
theorem keyOf_D (x : Ky) : keyOf (keyD x) = some x := by cases x <;> rfl
/-- a dict from letters to kinds -/
abbrev dD (σ : List (Ky × Kd)) : D := .dict (σ.map fun p => (keyD p.1, p.2.d))
theorem look_D (x : Ky) : ∀ σ : List (Ky × Kd), dLookW ((σ.map fun p => (keyD p.1, p.2.d)).map fun p => (p.1, W.d p.2)) (keyD x) = (look σ x).map fun k => W.d k.d
  | [] => rfl
  | (k, v) :: r => by
    simp only [List.map_cons, dLookW, look, eqv_key]
    by_cases h : k = x
    · simp [h]
    · simp only [h, decide_false, Bool.false_eq_true, if_false]
      exact look_D x r
theorem get_D (st : Sto) (σ : List (Ky × Kd)) (x : Ky) (z : Val) (w : W) (hz : z = .w w) : mthV .get st (.w (.d (dD σ))) [.w (.d (keyD x)), z] = some (.w (((look σ x).map fun k => W.d k.d).getD w), st) := by
  subst hz
  show (some ((σ.map fun p => (keyD p.1, p.2.d)).map fun p => (p.1, W.d p.2))).bind (fun kvs => (dataOf st (.w (.d (keyD x)))).bind fun d => (keyOf d).bind fun _ => some (Val.w ((dLookW kvs d).getD w), st)) = _
  have e : dataOf st (.w (.d (keyD x))) = some (keyD x) := rfl
  rw [Option.bind_some, e, Option.bind_some, keyOf_D, Option.bind_some, look_D]
theorem gath_map {α : Type} {f : W → Sto → Out (Option W)} {g h : α → W} {st : Sto} : ∀ (L : List α) (acc : List W), (∀ y ∈ L, f (g y) st = .ok (some (h y)) st) → acc.length + L.length ≤ 100000 → gath f (L.map g) acc st = .ok (acc ++ L.map h) st
  | [], acc, _, _ => by simp [gath]
  | y :: r, acc, hf, hl => by
    simp only [List.length_cons] at hl
    have e := gath_map (f := f) (g := g) (h := h) (st := st) r (acc ++ [h y]) (fun z hz => hf z (List.mem_cons_of_mem _ hz)) (by simp only [List.length_append, List.length_cons, List.length_nil]; omega)
    simp only [List.map_cons]
    refine ga_cons (hf y (List.mem_cons_self ..)) (ng_some (decide_eq_true (by show acc.length < 16777216; omega)) ?_)
    rw [e]; simp
theorem getD_d (o : Option Kd) (k : Kd) : (o.map fun k => W.d k.d).getD (.d k.d) = .d (o.getD k).d := by cases o <;> rfl
abbrev kid17 : E := .call 17 [(.var 0), (.var 2)] []
theorem turn17 (C : CE) (dd v d r : D) (st : Sto) (h : callV C 17 [.d dd, .d d] st = .ok (.w (.d r)) st) : lcF C [2] (.nm 2) [] kid17 [some (.d dd), some (.d v), none] (.d d) st = .ok (some (.d r)) st := by
  repeat' (first | with_reducible exact h | decreasing_trivial_pre_omega | rfl)
theorem sw_run17 (σ : List (Ky × Kd)) : ∀ (m : Nat) (k : Kd), k.ok → k.dep < m → k.sz ≤ 10000 → ∀ n, Rn (n + m) 17 [.d (dD σ), .d k.d] [] = .ok (.w (.d (k.sw σ).d)) []
  | 0, k, _, h, _, n => by omega
  | m + 1, .v x, ho, h, hz, n => by
    have e1 := hd_ix [] (.v x)
    have e2 := hd_v [] x
    have e3 : ixV [] (.w (.d (Kd.v x).d)) (vInt 1) = some (.w (.d (keyD x))) := rfl
    have hr : recvOk .get [] (.w (.d (dD σ))) = true := rfl
    have hm : mthV .get [] (.w (.d (dD σ))) [.w (.d (keyD x)), .w (.d (Kd.v x).d)] = some (.w (.d ((Kd.v x).sw σ).d), []) := by
      rw [get_D [] σ x _ _ rfl, getD_d]; rfl
    have hx : evE (CN (n + m)) (.mth .get (.var 0) [(.ix (.var 1) (.cst (.int 1))), (.var 1)]) [some (.d (dD σ)), some (.d (Kd.v x).d), none] [] = .ok (.w (.d ((Kd.v x).sw σ).d)) [] :=
      ev_mth (r := (.w (.d ((Kd.v x).sw σ).d), [])) (ev_var rfl) hr (es_cons (ev_ix (ev_var rfl) ev_cst e3) (es_cons (ev_var rfl) es_nil)) hm
    show Rn ((n + m) + 1) 17 [.d (dD σ), .d (Kd.v x).d] [] = _
    apply run_fn (fn := f17) rfl rfl rfl
    simp only [f17, b17, entry, List.map_cons, List.map_nil, List.replicate, List.cons_append, List.nil_append, Nat.reduceSub]
    repeat' (first | with_reducible exact e1 | with_reducible exact e2 | with_reducible exact hx | decreasing_trivial_pre_omega | rfl)
  | m + 1, .n f ks, ho, h, hz, n => by
    simp only [Kd.dep] at h
    simp only [Kd.sz] at hz
    have hl := l_szs ks
    have e1 := hd_ix [] (.n f ks)
    have e2 := hd_n [] f ks ho.1.1
    have e3 : ixV [] (.w (.d (Kd.n f ks).d)) (vInt 1) = some (vTup ks.ds) := rfl
    have hg : gath (lcF (CN (n + m)) [2] (.nm 2) [] kid17 [some (.d (dD σ)), some (.d (Kd.n f ks).d), none]) (ks.ds.map W.d) [] [] = .ok ((ks.sws σ).ds.map W.d) [] := by
      have e := gath_map (f := lcF (CN (n + m)) [2] (.nm 2) [] kid17 [some (.d (dD σ)), some (.d (Kd.n f ks).d), none]) (g := fun y : Kd => W.d y.d) (h := fun y : Kd => W.d (y.sw σ).d) (st := []) ks.l [] (fun y hy =>
        turn17 _ _ _ _ _ _ (cl_pure (C := CN (n + m)) rfl (sw_run17 σ m y (oks_l ks ho.2 y hy) (by have := deps_l ks y hy; omega) (by have := szs_l ks y hy; omega) n) rfl)) (by simp only [List.length_nil]; omega)
      rw [ds_l, List.map_map, sws_l, List.map_map]
      rw [List.nil_append] at e
      exact e
    have hT : bltV .tuple [] [.fl ((ks.sws σ).ds.map W.d)] = some (vTup (ks.sws σ).ds) := by
      show (some ((ks.sws σ).ds.map W.d)).bind (fun xs => (datas xs).map vTup) = _
      rw [Option.bind_some, datas_map]; rfl
    show Rn ((n + m) + 1) 17 [.d (dD σ), .d (Kd.n f ks).d] [] = .ok (vTup [.str f, .tuple (ks.sws σ).ds]) []
    apply run_fn (fn := f17) rfl rfl rfl
    simp only [f17, b17, entry, List.map_cons, List.map_nil, List.replicate, List.cons_append, List.nil_append, Nat.reduceSub]
    repeat' (first | with_reducible exact e1 | with_reducible exact e2 | with_reducible exact e3 | with_reducible exact hg | with_reducible exact hT | decreasing_trivial_pre_omega | rfl)
abbrev kid2 : E := .call 2 [(.var 0), (.var 2)] []
theorem turn2 (C : CE) (dd v d r : D) (st : Sto) (h : callV C 2 [.d dd, .d d] st = .ok (.w (.d r)) st) : lcF C [2] (.nm 2) [] kid2 [some (.d dd), some (.d v), none] (.d d) st = .ok (some (.d r)) st := by
  repeat' (first | with_reducible exact h | decreasing_trivial_pre_omega | rfl)
theorem sw_run2 (σ : List (Ky × Kd)) : ∀ (m : Nat) (k : Kd), k.ok → k.dep < m → k.sz ≤ 10000 → ∀ n, Rn (n + m) 2 [.d (dD σ), .d k.d] [] = .ok (.w (.d (k.sw σ).d)) []
  | 0, k, _, h, _, n => by omega
  | m + 1, .v x, ho, h, hz, n => by
    have e1 := hd_ix [] (.v x)
    have e2 := hd_v [] x
    have e3 : ixV [] (.w (.d (Kd.v x).d)) (vInt 1) = some (.w (.d (keyD x))) := rfl
    have hr : recvOk .get [] (.w (.d (dD σ))) = true := rfl
    have hm : mthV .get [] (.w (.d (dD σ))) [.w (.d (keyD x)), .w (.d (Kd.v x).d)] = some (.w (.d ((Kd.v x).sw σ).d), []) := by
      rw [get_D [] σ x _ _ rfl, getD_d]; rfl
    have hx : evE (CN (n + m)) (.mth .get (.var 0) [(.ix (.var 1) (.cst (.int 1))), (.var 1)]) [some (.d (dD σ)), some (.d (Kd.v x).d), none] [] = .ok (.w (.d ((Kd.v x).sw σ).d)) [] :=
      ev_mth (r := (.w (.d ((Kd.v x).sw σ).d), [])) (ev_var rfl) hr (es_cons (ev_ix (ev_var rfl) ev_cst e3) (es_cons (ev_var rfl) es_nil)) hm
    show Rn ((n + m) + 1) 2 [.d (dD σ), .d (Kd.v x).d] [] = _
    apply run_fn (fn := f2) rfl rfl rfl
    simp only [f2, b2, entry, List.map_cons, List.map_nil, List.replicate, List.cons_append, List.nil_append, Nat.reduceSub]
    repeat' (first | with_reducible exact e1 | with_reducible exact e2 | with_reducible exact hx | decreasing_trivial_pre_omega | rfl)
  | m + 1, .n f ks, ho, h, hz, n => by
    simp only [Kd.dep] at h
    simp only [Kd.sz] at hz
    have hl := l_szs ks
    have e1 := hd_ix [] (.n f ks)
    have e2 := hd_n [] f ks ho.1.1
    have e3 : ixV [] (.w (.d (Kd.n f ks).d)) (vInt 1) = some (vTup ks.ds) := rfl
    have hg : gath (lcF (CN (n + m)) [2] (.nm 2) [] kid2 [some (.d (dD σ)), some (.d (Kd.n f ks).d), none]) (ks.ds.map W.d) [] [] = .ok ((ks.sws σ).ds.map W.d) [] := by
      have e := gath_map (f := lcF (CN (n + m)) [2] (.nm 2) [] kid2 [some (.d (dD σ)), some (.d (Kd.n f ks).d), none]) (g := fun y : Kd => W.d y.d) (h := fun y : Kd => W.d (y.sw σ).d) (st := []) ks.l [] (fun y hy =>
        turn2 _ _ _ _ _ _ (cl_pure (C := CN (n + m)) rfl (sw_run2 σ m y (oks_l ks ho.2 y hy) (by have := deps_l ks y hy; omega) (by have := szs_l ks y hy; omega) n) rfl)) (by simp only [List.length_nil]; omega)
      rw [ds_l, List.map_map, sws_l, List.map_map]
      rw [List.nil_append] at e
      exact e
    have hT : bltV .tuple [] [.fl ((ks.sws σ).ds.map W.d)] = some (vTup (ks.sws σ).ds) := by
      show (some ((ks.sws σ).ds.map W.d)).bind (fun xs => (datas xs).map vTup) = _
      rw [Option.bind_some, datas_map]; rfl
    show Rn ((n + m) + 1) 2 [.d (dD σ), .d (Kd.n f ks).d] [] = .ok (vTup [.str f, .tuple (ks.sws σ).ds]) []
    apply run_fn (fn := f2) rfl rfl rfl
    simp only [f2, b2, entry, List.map_cons, List.map_nil, List.replicate, List.cons_append, List.nil_append, Nat.reduceSub]
    repeat' (first | with_reducible exact e1 | with_reducible exact e2 | with_reducible exact e3 | with_reducible exact hg | with_reducible exact hT | decreasing_trivial_pre_omega | rfl)
end KI
set_option maxHeartbeats 4100000
namespace KI
open PySem MP
local macro_rules | `(tactic| decreasing_trivial_pre_omega) => `(tactic| first
  | simp only [List.map_nil, List.append_nil, List.nil_append, List.cons_append, List.map_cons, List.set_cons_zero, List.set_cons_succ, List.length_nil]
  | with_reducible exact ev_cst | with_reducible apply ev_cel | with_reducible apply ev_var | with_reducible apply ev_bin | with_reducible apply ev_cmp | with_reducible apply ev_ix | with_reducible apply ev_nt | with_reducible apply ev_an | with_reducible apply ev_orr
  | with_reducible apply ev_ife | with_reducible apply ev_cmp2 | with_reducible apply ev_cmp2b | with_reducible apply ev_tup | with_reducible apply ev_lst | with_reducible exact ev_dis | with_reducible apply ev_neg | with_reducible apply ev_sl
  | with_reducible exact eo_none | with_reducible apply eo_some | with_reducible apply ev_call | with_reducible apply ev_blt | with_reducible apply ev_mth | with_reducible apply ev_isi | with_reducible apply ev_lc
  | with_reducible exact ec_nil | with_reducible apply ec_one | with_reducible exact es_nil | with_reducible apply es_cons | with_reducible apply sr_it | with_reducible apply sr_rng1 | with_reducible apply sr_rng2 | with_reducible apply sr_enm | with_reducible apply sr_zp
  | with_reducible apply pick_t | with_reducible apply pick_f | refine pick_tE (by rfl) ?_ | refine pick_fE (by rfl) ?_ | with_reducible apply nx_nx | with_reducible exact nx_rt | with_reducible exact nx_bk | with_reducible exact nx_ct | with_reducible exact ss_nil | with_reducible apply ss_cons | with_reducible apply s_asg | with_reducible apply s_own
  | with_reducible apply s_unp | with_reducible apply s_par | with_reducible apply s_set | with_reducible apply s_ex | with_reducible apply s_iff | with_reducible apply s_ret | with_reducible exact s_retN | with_reducible exact s_pss | with_reducible exact s_brk | with_reducible exact s_cnt
  | with_reducible apply s_fr | with_reducible apply fo_items | with_reducible exact fo_nil | with_reducible apply fo_cons | with_reducible apply frF_ok | with_reducible apply nf_nx | with_reducible apply nf_ct | with_reducible exact nf_rt | with_reducible exact nf_bk
  | with_reducible apply ga_items | with_reducible exact ga_nil | with_reducible apply ng_none | with_reducible apply ng_some | with_reducible apply lcF_ok | with_reducible apply lcE | with_reducible apply ga_cons)
/-! how many nodes -/
abbrev kid20 : E := .call 20 [(.var 1)] []
theorem turn20 (C : CE) (v d : D) (i : Int) (st : Sto) (h : callV C 20 [.d d] st = .ok (vInt i) st) : lcF C [1] (.nm 1) [] kid20 [some (.d v), none] (.d d) st = .ok (some (.d (.int i))) st := by
  repeat' (first | with_reducible exact h | decreasing_trivial_pre_omega | rfl)
theorem ints_of {α : Type} (f : α → Nat) : ∀ L : List α, intsOf (L.map fun y => W.d (.int (f y))) = some (L.map fun y => ((f y : Nat) : Int))
  | [] => rfl
  | x :: r => by
    show (intsOf (r.map fun y => W.d (.int (f y)))).map (((f x : Nat) : Int) :: ·) = _
    rw [ints_of f r]; rfl
theorem sum_szs : ∀ ks : Kds, (ks.l.map fun y => ((y.sz : Nat) : Int)).sum = ((ks.szs : Nat) : Int)
  | .nil => rfl
  | .cons k r => by
    simp only [Kds.l, Kds.szs, List.map_cons, List.sum_cons, sum_szs r]
    omega
theorem nodes_run : ∀ (m : Nat) (k : Kd), k.ok → k.dep < m → k.sz ≤ 10000 → ∀ n, Rn (n + m) 20 [.d k.d] [] = .ok (vInt (k.sz : Nat)) []
  | 0, k, _, h, _, n => by omega
  | m + 1, .v x, ho, h, hz, n => by
    have e1 := hd_ix [] (.v x)
    have e2 := hd_v [] x
    show Rn ((n + m) + 1) 20 [.d (Kd.v x).d] [] = .ok (vInt 1) []
    apply run_fn (fn := f20) rfl rfl rfl
    simp only [f20, b20, entry, List.map_cons, List.map_nil, List.replicate, List.cons_append, List.nil_append, Nat.reduceSub]
    repeat' (first | with_reducible exact e1 | with_reducible exact e2 | decreasing_trivial_pre_omega | rfl)
  | m + 1, .n f ks, ho, h, hz, n => by
    simp only [Kd.dep] at h
    simp only [Kd.sz] at hz
    have hl := l_szs ks
    have e1 := hd_ix [] (.n f ks)
    have e2 := hd_n [] f ks ho.1.1
    have e3 : ixV [] (.w (.d (Kd.n f ks).d)) (vInt 1) = some (vTup ks.ds) := rfl
    have hg : gath (lcF (CN (n + m)) [1] (.nm 1) [] kid20 [some (.d (Kd.n f ks).d), none]) (ks.ds.map W.d) [] [] = .ok (ks.l.map fun y => W.d (.int (y.sz : Nat))) [] := by
      have e := gath_map (f := lcF (CN (n + m)) [1] (.nm 1) [] kid20 [some (.d (Kd.n f ks).d), none]) (g := fun y : Kd => W.d y.d) (h := fun y : Kd => W.d (.int (y.sz : Nat))) (st := []) ks.l [] (fun y hy =>
        turn20 _ _ _ _ _ (cl_pure (C := CN (n + m)) rfl (nodes_run m y (oks_l ks ho.2 y hy) (by have := deps_l ks y hy; omega) (by have := szs_l ks y hy; omega) n) rfl)) (by simp only [List.length_nil]; omega)
      rw [ds_l, List.map_map]
      rw [List.nil_append] at e
      exact e
    have hs : bltV .sum [] [.fl (ks.l.map fun y => W.d (.int (y.sz : Nat)))] = some (vInt (ks.szs : Nat)) := by
      show (some (ks.l.map fun y => W.d (.int (y.sz : Nat)))).bind (fun xs => (intsOf xs).map fun is => vInt is.sum) = _
      rw [Option.bind_some, ints_of]
      show some (vInt (ks.l.map fun y => ((y.sz : Nat) : Int)).sum) = _
      rw [sum_szs]
    have ha : binV .Add [] (vInt 1) (vInt (ks.szs : Nat)) = some (vInt ((Kd.n f ks).sz : Nat)) := by
      show some (vInt (1 + ((ks.szs : Nat) : Int))) = _
      have : (1 + ((ks.szs : Nat) : Int)) = (((Kd.n f ks).sz : Nat) : Int) := by simp only [Kd.sz]; omega
      rw [this]
    show Rn ((n + m) + 1) 20 [.d (Kd.n f ks).d] [] = _
    apply run_fn (fn := f20) rfl rfl rfl
    simp only [f20, b20, entry, List.map_cons, List.map_nil, List.replicate, List.cons_append, List.nil_append, Nat.reduceSub]
    repeat' (first | with_reducible exact e1 | with_reducible exact e2 | with_reducible exact e3 | with_reducible exact hg | with_reducible exact hs | with_reducible exact ha | decreasing_trivial_pre_omega | rfl)
/-! a list in the store, as a stack: the top first -/
def Gd (k : Kd) : Prop := k.ok ∧ k.dep ≤ 30
abbrev wK (L : List Kd) : List W := L.map fun k => W.d k.d
abbrev stk (S : List Kd) : Cell := .lst (wK S.reverse)
theorem lay_all : ∀ L : List Kd, (∀ k ∈ L, Gd k) → PyData.canLayAll0 (L.map Kd.d) = true ∧ PyData.depthAll (L.map Kd.d) ≤ 61
  | [], _ => ⟨rfl, Nat.zero_le _⟩
  | k :: r, h => by
    have h1 := h k (.head _)
    have h2 := lay_all r fun x hx => h x (List.mem_cons_of_mem _ hx)
    have h3 := kd_lay k h1.1
    have h4 := kd_depth k
    have h5 := h1.2
    simp only [List.map_cons, PyData.canLayAll0, PyData.depthAll, h3, h2.1, Bool.and_self, true_and]
    have := h2.2
    omega
theorem datas_K : ∀ L : List Kd, datas (wK L) = some (L.map Kd.d)
  | [] => rfl
  | k :: r => by
    show (datas (wK r)).map (k.d :: ·) = _
    rw [datas_K r]; rfl
theorem stk_ne {st : Sto} {i : Nat} (S : List Kd) (h : st[i]? = some (stk S)) (hS : ∀ k ∈ S, Gd k) : cmpV .NotEq st (.w (.ref i)) (.fl []) = some (!S.isEmpty) := by
  have hd : dataOf st (.w (.ref i)) = some (.list (S.reverse.map Kd.d)) := by
    simp only [dataOf, h, datas_K, Option.map_some]
  have hL := lay_all S.reverse fun k hk => hS k (List.mem_reverse.mp hk)
  have hs : SeqAt.shaped (.list (S.reverse.map Kd.d)) = true := by
    unfold SeqAt.shaped
    simp only [PyData.canLay0, PyData.depth, hL.1, Bool.true_and]
    exact decide_eq_true (by have := hL.2; omega)
  have hn : SeqAt.shaped (.list []) = true := by decide +kernel
  show ((dataOf st (.w (.ref i))).bind fun d => (dataOf st (.fl [])).bind fun e => (eqD d e).map (!·)) = _
  have hd2 : dataOf st (.fl []) = some (.list []) := rfl
  rw [hd, Option.bind_some, hd2, Option.bind_some]
  unfold eqD
  rw [hs, hn]
  simp only [Bool.and_self, Bool.or_true, if_true, Option.map_some]
  congr 1
  cases S with
  | nil => rfl
  | cons k r =>
    have : ∃ a b, ((k :: r).reverse.map Kd.d) = a :: b := by
      cases q : (k :: r).reverse.map Kd.d with
      | nil => simp at q
      | cons a b => exact ⟨a, b, rfl⟩
    obtain ⟨a, b, e⟩ := this
    rw [e]
    rfl
theorem stk_pop {st : Sto} {i : Nat} (k : Kd) (S : List Kd) (h : st[i]? = some (stk (k :: S))) : mthV .pop st (.w (.ref i)) [] = some (.w (.d k.d), st.set i (stk S)) := by
  show (match st[i]? with
    | some (.lst xs) => xs.getLast?.map fun x => (Val.w x, st.set i (.lst xs.dropLast))
    | _ => none) = _
  rw [h]
  have e : wK (k :: S).reverse = wK S.reverse ++ [W.d k.d] := by simp
  dsimp only [stk]
  rw [e]
  simp
theorem stk_recv {st : Sto} {i : Nat} (S : List Kd) (h : st[i]? = some (stk S)) : recvOk .pop st (.w (.ref i)) = true := by
  show (match st[i]? with
    | some (.lst _) => true
    | _ => false) = true
  rw [h]
theorem stk_aug {st : Sto} {i : Nat} (ks : Kds) (S : List Kd) (h : st[i]? = some (stk S)) (hl : S.length + ks.l.length ≤ 100000) : augS .Add st (.ref i) (.fl (ks.ds.map W.d)) = some (st.set i (stk (ks.l.reverse ++ S))) := by
  have e : augS .Add st (.ref i) (.fl (ks.ds.map W.d)) = (match st[i]? with
    | some (.lst xs) => if xs.length + (ks.ds.map W.d).length ≤ line then some (st.set i (.lst (xs ++ ks.ds.map W.d))) else none
    | _ => none) := rfl
  rw [e, h]
  dsimp only [stk]
  rw [if_pos (by simp only [List.length_map, List.length_reverse, ds_l, line]; omega)]
  congr 3
  rw [ds_l]
  simp [wK]
/-! kind_size -/
def tot : List Kd → Nat
  | [] => 0
  | k :: r => k.sz + tot r
theorem tot_app : ∀ a b : List Kd, tot (a ++ b) = tot a + tot b
  | [], b => by simp [tot]
  | k :: r, b => by simp only [List.cons_append, tot, tot_app r b]; omega
theorem tot_rev : ∀ a : List Kd, tot a.reverse = tot a
  | [] => rfl
  | k :: r => by
    rw [List.reverse_cons, tot_app, tot_rev r]
    simp only [tot]; omega
theorem tot_l : ∀ ks : Kds, tot ks.l = ks.szs
  | .nil => rfl
  | .cons k r => by simp only [Kds.l, tot, Kds.szs, tot_l r]
theorem len_tot : ∀ S : List Kd, S.length ≤ tot S
  | [] => Nat.le_refl _
  | k :: r => by
    have h1 := sz_pos k
    have h2 := len_tot r
    simp only [tot, List.length_cons]; omega
theorem gd_l (f : Str) (ks : Kds) (h : Gd (.n f ks)) : ∀ k ∈ ks.l, Gd k := fun k hk => ⟨oks_l ks h.1.2 k hk, by
  have h1 := deps_l ks k hk
  have h2 := h.2
  simp only [Kd.dep] at h2
  omega⟩
abbrev sgZ (d : D) (c : Nat) (o : Option W) : MP.Env := [some (.d d), some (.ref 0), some (.d (.int (c : Int))), o]
abbrev cZ : E := .an (.cmp .NotEq (.var 1) (.lst false [])) (.cmp .LtE (.var 2) (.cst (.int 300)))
abbrev bZ : List MP.S := [(.asg false 3 (.mth .pop (.var 1) [])), (.aug 2 .Add (.cst (.int 1))), (.iff (.cmp .NotEq (.ix (.var 3) (.cst (.int 0))) (.cst (.str ⟨#[63]⟩))) [(.aug 1 .Add (.blt .list [(.ix (.var 3) (.cst (.int 1)))]))] [])]
theorem le_n (st : Sto) (c : Nat) : cmpV .LtE st (vInt (c : Int)) (vInt 300) = some (decide (c ≤ 300)) := by
  show some (decide ((c : Int) ≤ 300)) = _
  congr 1
  by_cases h : c ≤ 300
  · rw [decide_eq_true h, decide_eq_true (by omega)]
  · rw [decide_eq_false h, decide_eq_false (by omega)]
theorem cond_Z (C : CE) (d : D) (c : Nat) (o : Option W) (S : List Kd) (hS : ∀ k ∈ S, Gd k) : evE C cZ (sgZ d c o) [stk S] = .ok (vBool (!S.isEmpty && decide (c ≤ 300))) [stk S] := by
  have h1 := stk_ne (st := [stk S]) (i := 0) S rfl hS
  have h2 := le_n [stk S] c
  cases S with
  | nil =>
    have h1 : cmpV .NotEq [stk []] (.w (.ref 0)) (.fl []) = some false := h1
    repeat' (first | with_reducible exact h1 | with_reducible exact h2 | decreasing_trivial_pre_omega | rfl)
  | cons k r =>
    have h1 : cmpV .NotEq [stk (k :: r)] (.w (.ref 0)) (.fl []) = some true := h1
    have h2 : cmpV .LtE [stk (k :: r)] (vInt (c : Int)) (vInt 300) = some (!(k :: r).isEmpty && decide (c ≤ 300)) := h2
    repeat' (first | with_reducible exact h1 | with_reducible exact h2 | decreasing_trivial_pre_omega | rfl)
theorem body_Z (C : CE) (d : D) (c : Nat) (o : Option W) (k : Kd) (S : List Kd) (hk : Gd k) (hl : S.length + k.sz ≤ 100000) : ∃ S', tot S' + 1 = tot (k :: S) ∧ (∀ x ∈ S', x ∈ S ∨ Gd x) ∧ evSs C bZ (sgZ d c o) [stk (k :: S)] = .ok (.nx (sgZ d (c + 1) (some (.d k.d)))) [stk S'] := by
  have hp := stk_pop (st := [stk (k :: S)]) (i := 0) k S rfl
  have hr := stk_recv (st := [stk (k :: S)]) (i := 0) (k :: S) rfl
  have hx : evE C (.mth .pop (.var 1) []) (sgZ d c o) [stk (k :: S)] = .ok (.w (.d k.d)) [stk S] := ev_mth (r := (.w (.d k.d), [stk S])) (ev_var rfl) hr es_nil hp
  have h1 : evS C (.asg false 3 (.mth .pop (.var 1) [])) (sgZ d c o) [stk (k :: S)] = .ok (.nx (sgZ d c (some (.d k.d)))) [stk S] := s_asg hx rfl
  have h2 : evS C (.aug 2 .Add (.cst (.int 1))) (sgZ d c (some (.d k.d))) [stk S] = .ok (.nx (sgZ d (c + 1) (some (.d k.d)))) [stk S] := s_augI (w := .d (.int (c : Int))) (x := .d (.int ((c + 1 : Nat) : Int))) rfl ev_cst rfl
  have e1 := hd_ix [stk S] k
  cases k with
  | v x =>
    have e2 := ne_str [stk S] (Kd.v x).hd ⟨#[63]⟩
    rw [decide_eq_true (show (Kd.v x).hd = ⟨#[63]⟩ from rfl)] at e2
    have e2 : cmpV .NotEq [stk S] (vStr (Kd.v x).hd) (vStr ⟨#[63]⟩) = some false := e2
    refine ⟨S, by simp only [tot, Kd.sz]; omega, fun y hy => .inl hy, ss_cons h1 (nx_nx (ss_cons h2 (nx_nx ?_)))⟩
    repeat' (first | with_reducible exact e1 | with_reducible exact e2 | decreasing_trivial_pre_omega | rfl)
  | n f ks =>
    have e2 := ne_str [stk S] f ⟨#[63]⟩
    rw [decide_eq_false (show ¬ f = ⟨#[63]⟩ from hk.1.1.1)] at e2
    have e2 : cmpV .NotEq [stk S] (vStr (Kd.n f ks).hd) (vStr ⟨#[63]⟩) = some true := e2
    simp only [Kd.sz] at hl
    have hll := l_szs ks
    have e3 : ixV [stk S] (.w (.d (Kd.n f ks).d)) (vInt 1) = some (vTup ks.ds) := rfl
    have e4 : bltV .list [stk S] [vTup ks.ds] = some (.fl (ks.ds.map W.d)) := rfl
    have e5 := stk_aug (st := [stk S]) (i := 0) ks S rfl (by omega)
    have h3 : evS C (.aug 1 .Add (.blt .list [(.ix (.var 3) (.cst (.int 1)))])) (sgZ d (c + 1) (some (.d (Kd.n f ks).d))) [stk S] = .ok (.nx (sgZ d (c + 1) (some (.d (Kd.n f ks).d)))) [stk (ks.l.reverse ++ S)] :=
      s_augL (w := .ref 0) rfl (ev_blt (es_cons (ev_ix (ev_var rfl) ev_cst e3) es_nil) e4) rfl e5
    refine ⟨ks.l.reverse ++ S, by rw [tot_app, tot_rev, tot_l]; simp only [tot, Kd.sz]; omega, fun y hy => ?_, ss_cons h1 (nx_nx (ss_cons h2 (nx_nx ?_)))⟩
    · obtain hy | hy := List.mem_append.mp hy
      · exact .inr (gd_l f ks hk y (List.mem_reverse.mp hy))
      · exact .inl hy
    · repeat' (first | with_reducible exact e1 | with_reducible exact e2 | with_reducible exact h3 | decreasing_trivial_pre_omega | rfl)
theorem loop_Z (C : CE) (d : D) : ∀ (fu : Nat) (S : List Kd) (c : Nat) (o : Option W), (∀ k ∈ S, Gd k) → tot S ≤ 50000 → c ≤ 301 → 301 < c + fu → ∃ o' S', whileL (evB C cZ) (evSs C bZ) fu (sgZ d c o) [stk S] = .ok (.nx (sgZ d (min 301 (c + tot S)) o')) [stk S']
  | 0, S, c, o, hS, ht, hc, hf => by omega
  | fu + 1, S, c, o, hS, ht, hc, hf => by
    have hcnd := cond_Z C d c o S hS
    cases S with
    | nil =>
      have e : min 301 (c + tot []) = c := by simp only [tot]; omega
      rw [e]
      exact ⟨o, [], wl_f hcnd rfl⟩
    | cons k r =>
      by_cases h3 : c ≤ 300
      · rw [decide_eq_true h3] at hcnd
        have hlt := len_tot r
        simp only [tot] at ht
        obtain ⟨S', t1, t2, t3⟩ := body_Z C d c o k r (hS k (List.mem_cons_self ..)) (by omega)
        obtain ⟨o', S2, q⟩ := loop_Z C d fu S' (c + 1) (some (.d k.d)) (fun x hx => (t2 x hx).elim (fun h => hS x (List.mem_cons_of_mem _ h)) id) (by simp only [tot] at t1; omega) (by omega) (by omega)
        have e : min 301 (c + tot (k :: r)) = min 301 (c + 1 + tot S') := by omega
        rw [e]
        exact ⟨o', S2, wl_t hcnd rfl t3 q⟩
      · rw [decide_eq_false h3] at hcnd
        have e : min 301 (c + tot (k :: r)) = c := by omega
        rw [e]
        exact ⟨o, k :: r, wl_f hcnd rfl⟩
theorem size_run (n : Nat) (k : Kd) (hk : Gd k) (hz : k.sz ≤ 50000) : ∃ st, Rn (n + 1) 1 [.d k.d] [] = .ok (vInt ((min 301 k.sz : Nat) : Int)) st := by
  obtain ⟨o', S', q⟩ := loop_Z (CN n) k.d lfN [k] 0 none (fun x hx => by rw [List.mem_singleton] at hx; rw [hx]; exact hk) (by simp only [tot]; omega) (by omega) (by show 301 < 0 + 10000; omega)
  have e : min 301 (0 + tot [k]) = min 301 k.sz := by simp only [tot]; omega
  rw [e] at q
  refine ⟨[stk S'], ?_⟩
  have h0 : evS (CN n) (.par 1 2 (.cel (.lst false [(.var 0)])) (.cst (.int 0))) [some (.d k.d), none, none, none] [] = .ok (.nx (sgZ k.d 0 none)) [stk [k]] :=
    s_par (ev_cel (ev_lst (es_cons (ev_var rfl) es_nil) rfl rfl) rfl) ev_cst rfl rfl
  apply run_fn (fn := f1) rfl rfl rfl
  simp only [f1, b1, entry, List.map_cons, List.map_nil, List.replicate, List.cons_append, List.nil_append, Nat.reduceSub]
  exact ss_cons h0 (nx_nx (ss_cons (s_wh q) (nx_nx (ss_cons (s_ret (ev_var rfl)) nx_rt))))
end KI
set_option maxHeartbeats 4100000
namespace KI
open PySem MP
local macro_rules | `(tactic| decreasing_trivial_pre_omega) => `(tactic| first
  | simp only [List.map_nil, List.append_nil, List.nil_append, List.cons_append, List.map_cons, List.set_cons_zero, List.set_cons_succ, List.length_nil]
  | with_reducible exact ev_cst | with_reducible apply ev_cel | with_reducible apply ev_var | with_reducible apply ev_bin | with_reducible apply ev_cmp | with_reducible apply ev_ix | with_reducible apply ev_nt | with_reducible apply ev_an | with_reducible apply ev_orr
  | with_reducible apply ev_ife | with_reducible apply ev_cmp2 | with_reducible apply ev_cmp2b | with_reducible apply ev_tup | with_reducible apply ev_lst | with_reducible exact ev_dis | with_reducible apply ev_neg | with_reducible apply ev_sl
  | with_reducible exact eo_none | with_reducible apply eo_some | with_reducible apply ev_call | with_reducible apply ev_blt | with_reducible apply ev_mth | with_reducible apply ev_isi | with_reducible apply ev_lc
  | with_reducible exact ec_nil | with_reducible apply ec_one | with_reducible exact es_nil | with_reducible apply es_cons | with_reducible apply sr_it | with_reducible apply sr_rng1 | with_reducible apply sr_rng2 | with_reducible apply sr_enm | with_reducible apply sr_zp
  | with_reducible apply pick_t | with_reducible apply pick_f | refine pick_tE (by rfl) ?_ | refine pick_fE (by rfl) ?_ | with_reducible apply nx_nx | with_reducible exact nx_rt | with_reducible exact nx_bk | with_reducible exact nx_ct | with_reducible exact ss_nil | with_reducible apply ss_cons | with_reducible apply s_asg | with_reducible apply s_own
  | with_reducible apply s_unp | with_reducible apply s_par | with_reducible apply s_set | with_reducible apply s_ex | with_reducible apply s_iff | with_reducible apply s_ret | with_reducible exact s_retN | with_reducible exact s_pss | with_reducible exact s_brk | with_reducible exact s_cnt
  | with_reducible apply s_fr | with_reducible apply fo_items | with_reducible exact fo_nil | with_reducible apply fo_cons | with_reducible apply frF_ok | with_reducible apply nf_nx | with_reducible apply nf_ct | with_reducible exact nf_rt | with_reducible exact nf_bk
  | with_reducible apply ga_items | with_reducible exact ga_nil | with_reducible apply ng_none | with_reducible apply ng_some | with_reducible apply lcF_ok | with_reducible apply lcE | with_reducible apply ga_cons)
/-! letters, each once, in the order in which they first stand -/
instance memD (x : Ky) : (l : List Ky) → Decidable (x ∈ l)
  | [] => Decidable.isFalse (by simp)
  | y :: r => match decEq x y, memD x r with
    | Decidable.isTrue h, _ => Decidable.isTrue (by simp [h])
    | Decidable.isFalse _, Decidable.isTrue h2 => Decidable.isTrue (by simp [h2])
    | Decidable.isFalse h, Decidable.isFalse h2 => Decidable.isFalse (by simp [h, h2])
def add (acc : List Ky) (x : Ky) : List Ky := if x ∈ acc then acc else acc ++ [x]
abbrev addAll (acc xs : List Ky) : List Ky := xs.foldl add acc
abbrev uq (xs : List Ky) : List Ky := addAll [] xs
mutual
def Kd.lv : Kd → List Ky
  | .v x => [x]
  | .n _ ks => ks.lvs
def Kds.lvs : Kds → List Ky
  | .nil => []
  | .cons k r => k.lv ++ r.lvs
end
theorem mem_add {acc : List Ky} {x y : Ky} (h : y ∈ acc) : y ∈ add acc x := by
  unfold add
  split
  · exact h
  · exact List.mem_append_left _ h
theorem mem_add_self (acc : List Ky) (x : Ky) : x ∈ add acc x := by
  unfold add
  split
  · assumption
  · exact List.mem_append_right _ (List.mem_singleton.mpr rfl)
theorem mem_addAll : ∀ (xs acc : List Ky) (y : Ky), y ∈ acc → y ∈ addAll acc xs
  | [], _, _, h => h
  | x :: r, acc, y, h => mem_addAll r (add acc x) y (mem_add h)
theorem mem_addAll' : ∀ (xs acc : List Ky) (y : Ky), y ∈ xs → y ∈ addAll acc xs
  | x :: r, acc, y, h => by
    obtain rfl | h := List.mem_cons.mp h
    · exact mem_addAll r (add acc y) y (mem_add_self acc y)
    · exact mem_addAll' r (add acc x) y h
theorem add_add (acc b : List Ky) (x : Ky) : addAll acc (add b x) = add (addAll acc b) x := by
  by_cases h : x ∈ b
  · have e1 : add b x = b := by unfold add; rw [if_pos h]
    have e2 : add (addAll acc b) x = addAll acc b := by unfold add; rw [if_pos (mem_addAll' b acc x h)]
    rw [e1, e2]
  · have e1 : add b x = b ++ [x] := by unfold add; rw [if_neg h]
    rw [e1]
    show (b ++ [x]).foldl add acc = _
    rw [List.foldl_append]; rfl
theorem addAll_addAll : ∀ (xs acc b : List Ky), addAll acc (addAll b xs) = addAll (addAll acc b) xs
  | [], acc, b => rfl
  | x :: r, acc, b => by
    show addAll acc (addAll (add b x) r) = addAll (add (addAll acc b) x) r
    rw [addAll_addAll r acc (add b x), add_add]
theorem addAll_uq (acc xs : List Ky) : addAll acc (uq xs) = addAll acc xs := addAll_addAll xs acc []
theorem addAll_app (acc xs ys : List Ky) : addAll acc (xs ++ ys) = addAll (addAll acc xs) ys := List.foldl_append ..
theorem add_len (acc : List Ky) (x : Ky) : (add acc x).length ≤ acc.length + 1 := by
  unfold add
  split
  · omega
  · rw [List.length_append]; exact Nat.le_refl _
theorem addAll_len : ∀ (xs acc : List Ky), (addAll acc xs).length ≤ acc.length + xs.length
  | [], _ => Nat.le_refl _
  | x :: r, acc => by
    have h1 := addAll_len r (add acc x)
    have h2 := add_len acc x
    show (addAll (add acc x) r).length ≤ _
    rw [List.length_cons]; omega
mutual
theorem lv_sz : ∀ k : Kd, k.lv.length ≤ k.sz
  | .v _ => Nat.le_refl _
  | .n _ ks => by have := lvs_sz ks; simp only [Kd.lv, Kd.sz]; omega
theorem lvs_sz : ∀ ks : Kds, ks.lvs.length ≤ ks.szs
  | .nil => Nat.le_refl _
  | .cons k r => by
    have h1 := lv_sz k
    have h2 := lvs_sz r
    simp only [Kds.lvs, Kds.szs, List.length_append]; omega
end
/-! letters_of -/
abbrev kc (acc : List Ky) : Cell := .dct (acc.map fun x => (keyD x, W.d (.bool true)))
theorem any_key (x : Ky) : ∀ acc : List Ky, ((acc.map fun y => (keyD y, W.d (.bool true))).any fun kv => PyData.eqv kv.1 (keyD x)) = decide (x ∈ acc)
  | [] => by simp
  | y :: r => by
    rw [List.map_cons, List.any_cons, any_key x r, eqv_key]
    by_cases h : y = x
    · subst h; simp
    · have h' : ¬ x = y := fun e => h e.symm
      simp [h, h']
theorem put_key (acc : List Ky) (x : Ky) : putD (acc.map fun y => (keyD y, W.d (.bool true))) (keyD x) (W.d (.bool true)) = (add acc x).map fun y => (keyD y, W.d (.bool true)) := by
  unfold putD add
  rw [any_key]
  by_cases h : x ∈ acc
  · rw [decide_eq_true h, if_pos rfl, if_pos h, List.map_map]
    refine List.map_congr_left fun y _ => ?_
    simp only [Function.comp]
    split <;> rfl
  · rw [decide_eq_false h, if_neg (by decide), if_neg h, List.map_append]; rfl
abbrev sgO (v : D) (o2 o3 : Option W) : MP.Env := [some (.d v), some (.ref 0), o2, o3]
abbrev inB : List MP.S := [(.setI (.var 1) (.var 3) (.cst (.bool true)))]
abbrev outB : List MP.S := [(.fr (.nm 3) (.it (.call 0 [(.var 2)] [])) inB)]
theorem set_K (C : CE) (v : D) (o2 : Option W) (acc : List Ky) (x : Ky) (hl : acc.length ≤ 100000) : evSs C inB (sgO v o2 (some (.d (keyD x)))) [kc acc] = .ok (.nx (sgO v o2 (some (.d (keyD x))))) [kc (add acc x)] := by
  have h : setCell [kc acc] (.w (.ref 0)) (.w (.d (keyD x))) (.d (.bool true)) = some [kc (add acc x)] := by
    have e : setCell [kc acc] (.w (.ref 0)) (.w (.d (keyD x))) (.d (.bool true)) = (dataOf [kc acc] (.w (.d (keyD x)))).bind fun k => (keyOf k).bind fun _ => if (acc.map fun y => (keyD y, W.d (.bool true))).length < line then some ([kc acc].set 0 (.dct (putD (acc.map fun y => (keyD y, W.d (.bool true))) k (W.d (.bool true))))) else none := rfl
    have e2 : dataOf [kc acc] (.w (.d (keyD x))) = some (keyD x) := rfl
    rw [e, e2, Option.bind_some, keyOf_D, Option.bind_some, if_pos (by rw [List.length_map]; show acc.length < 16777216; omega), put_key]
    rfl
  repeat' (first | with_reducible exact h | decreasing_trivial_pre_omega | rfl)
theorem in_L (C : CE) (v : D) (o2 : Option W) : ∀ (xs acc : List Ky) (o3 : Option W), acc.length + xs.length ≤ 100000 → ∃ o3', forItems (frF C (.nm 3) inB) ((xs.map keyD).map W.d) (sgO v o2 o3) [kc acc] = .ok (.nx (sgO v o2 o3')) [kc (addAll acc xs)]
  | [], acc, o3, _ => ⟨o3, rfl⟩
  | x :: r, acc, o3, hl => by
    simp only [List.length_cons] at hl
    have h2 := add_len acc x
    obtain ⟨o3', q⟩ := in_L C v o2 r (add acc x) (some (.d (keyD x))) (by omega)
    exact ⟨o3', fo_cons (frF_ok rfl (set_K C v o2 acc x (by omega))) (nf_nx q)⟩
theorem out_L (C : CE) (v : D) : ∀ (L : List Kd) (acc : List Ky) (o2 o3 : Option W), (∀ k ∈ L, ∀ st, callV C 0 [.d k.d] st = .ok (vTup ((uq k.lv).map keyD)) st) → acc.length + (L.flatMap Kd.lv).length ≤ 100000 →
    ∃ o2' o3', forItems (frF C (.nm 2) outB) (L.map fun k => W.d k.d) (sgO v o2 o3) [kc acc] = .ok (.nx (sgO v o2' o3')) [kc (addAll acc (L.flatMap Kd.lv))]
  | [], acc, o2, o3, _, _ => ⟨o2, o3, rfl⟩
  | k :: r, acc, o2, o3, hc, hl => by
    rw [List.flatMap_cons, List.length_append] at hl
    have h1 := addAll_len k.lv []
    have h2 := addAll_len k.lv acc
    have h3 : (uq k.lv).length ≤ k.lv.length := by simpa using h1
    obtain ⟨p3, q⟩ := in_L C v (some (.d k.d)) (uq k.lv) acc o3 (by omega)
    rw [addAll_uq] at q
    have hk := hc k (List.mem_cons_self ..) [kc acc]
    have hb : evSs C outB (sgO v (some (.d k.d)) o3) [kc acc] = .ok (.nx (sgO v (some (.d k.d)) p3)) [kc (addAll acc k.lv)] :=
      ss_cons (s_fr rfl (sr_it (ev_call (es_cons (ev_var rfl) es_nil) rfl hk) rfl) (fo_items q)) (nx_nx ss_nil)
    obtain ⟨o2', o3', q2⟩ := out_L C v r (addAll acc k.lv) (some (.d k.d)) p3 (fun y hy => hc y (List.mem_cons_of_mem _ hy)) (by omega)
    rw [List.flatMap_cons, addAll_app]
    exact ⟨o2', o3', fo_cons (frF_ok rfl hb) (nf_nx q2)⟩
theorem lvs_flat : ∀ ks : Kds, ks.lvs = ks.l.flatMap Kd.lv
  | .nil => rfl
  | .cons k r => by simp only [Kds.lvs, Kds.l, List.flatMap_cons, lvs_flat r]
theorem tup_kc (acc : List Ky) : bltV .tuple [kc acc] [.w (.ref 0)] = some (vTup (acc.map keyD)) := by
  show some (vTup ((acc.map fun x => (keyD x, W.d (.bool true))).map (·.1))) = _
  rw [List.map_map]; rfl
theorem lets_run : ∀ (m : Nat) (k : Kd), k.ok → k.dep < m → k.sz ≤ 10000 → ∀ n, ∃ st, Rn (n + m) 0 [.d k.d] [] = .ok (vTup ((uq k.lv).map keyD)) st
  | 0, k, _, h, _, n => by omega
  | m + 1, .v x, ho, h, hz, n => by
    have e1 := hd_ix [] (.v x)
    have e2 := hd_v [] x
    have e3 : ixV [] (.w (.d (Kd.v x).d)) (vInt 1) = some (.w (.d (keyD x))) := rfl
    refine ⟨[], ?_⟩
    show Rn ((n + m) + 1) 0 [.d (Kd.v x).d] [] = .ok (vTup [keyD x]) []
    apply run_fn (fn := f0) rfl rfl rfl
    simp only [f0, b0, entry, List.map_cons, List.map_nil, List.replicate, List.cons_append, List.nil_append, Nat.reduceSub]
    repeat' (first | with_reducible exact e1 | with_reducible exact e2 | with_reducible exact e3 | decreasing_trivial_pre_omega | rfl)
  | m + 1, .n f ks, ho, h, hz, n => by
    simp only [Kd.dep] at h
    simp only [Kd.sz] at hz
    have hl := lvs_sz ks
    have e1 := hd_ix [] (.n f ks)
    have e2 := hd_n [] f ks ho.1.1
    have e3 : ixV [kc []] (.w (.d (Kd.n f ks).d)) (vInt 1) = some (vTup ks.ds) := rfl
    rw [lvs_flat] at hl
    obtain ⟨o2', o3', q⟩ := out_L (CN (n + m)) (Kd.n f ks).d ks.l [] none none (fun y hy st => by
      obtain ⟨st', hr⟩ := lets_run m y (oks_l ks ho.2 y hy) (by have := deps_l ks y hy; omega) (by have := szs_l ks y hy; omega) n
      exact cl_pure (C := CN (n + m)) rfl hr rfl) (by simp only [List.length_nil]; omega)
    have e4 := tup_kc (addAll [] (ks.l.flatMap Kd.lv))
    have hit : itOf [kc []] (vTup ks.ds) = some (.items (ks.l.map fun k => W.d k.d)) := by
      show some (Itx.items (ks.ds.map W.d)) = _
      rw [ds_l, List.map_map]; rfl
    have hfr : evS (CN (n + m)) (.fr (.nm 2) (.it (.ix (.var 0) (.cst (.int 1)))) outB) (sgO (Kd.n f ks).d none none) [kc []] = .ok (.nx (sgO (Kd.n f ks).d o2' o3')) [kc (addAll [] (ks.l.flatMap Kd.lv))] :=
      s_fr rfl (sr_it (ev_ix (ev_var rfl) ev_cst e3) hit) (fo_items q)
    have h1 : evS (CN (n + m)) (.asg true 1 (.dis [])) [some (.d (Kd.n f ks).d), none, none, none] [] = .ok (.nx (sgO (Kd.n f ks).d none none)) [kc []] := s_own ev_dis rfl
    have hret : evS (CN (n + m)) (.ret (some (.blt .tuple [(.var 1)]))) (sgO (Kd.n f ks).d o2' o3') [kc (addAll [] (ks.l.flatMap Kd.lv))] = .ok (.rt (vTup ((addAll [] (ks.l.flatMap Kd.lv)).map keyD))) [kc (addAll [] (ks.l.flatMap Kd.lv))] :=
      s_ret (ev_blt (es_cons (ev_var rfl) es_nil) e4)
    have hrest : evSs (CN (n + m)) [(.asg true 1 (.dis [])), (.fr (.nm 2) (.it (.ix (.var 0) (.cst (.int 1)))) outB), (.ret (some (.blt .tuple [(.var 1)])))] [some (.d (Kd.n f ks).d), none, none, none] [] = .ok (.rt (vTup ((addAll [] (ks.l.flatMap Kd.lv)).map keyD))) [kc (addAll [] (ks.l.flatMap Kd.lv))] := ss_cons h1 (nx_nx (ss_cons hfr (nx_nx (ss_cons hret nx_rt))))
    refine ⟨[kc (addAll [] (ks.l.flatMap Kd.lv))], ?_⟩
    show Rn ((n + m) + 1) 0 [.d (Kd.n f ks).d] [] = .ok (vTup ((uq ks.lvs).map keyD)) _
    rw [lvs_flat]
    apply run_fn (fn := f0) rfl rfl rfl
    simp only [f0, b0, entry, List.map_cons, List.map_nil, List.replicate, List.cons_append, List.nil_append, Nat.reduceSub]
    refine ss_cons (fl := .nx [some (.d (Kd.n f ks).d), none, none, none]) (s1 := []) ?_ (nx_nx hrest)
    repeat' (first | with_reducible exact e1 | with_reducible exact e2 | decreasing_trivial_pre_omega | rfl)
end KI
set_option maxHeartbeats 4100000
namespace KI
open PySem MP
local macro_rules | `(tactic| decreasing_trivial_pre_omega) => `(tactic| first
  | simp only [List.map_nil, List.append_nil, List.nil_append, List.cons_append, List.map_cons, List.set_cons_zero, List.set_cons_succ, List.length_nil]
  | with_reducible exact ev_cst | with_reducible apply ev_cel | with_reducible apply ev_var | with_reducible apply ev_bin | with_reducible apply ev_cmp | with_reducible apply ev_ix | with_reducible apply ev_nt | with_reducible apply ev_an | with_reducible apply ev_orr
  | with_reducible apply ev_ife | with_reducible apply ev_cmp2 | with_reducible apply ev_cmp2b | with_reducible apply ev_tup | with_reducible apply ev_lst | with_reducible exact ev_dis | with_reducible apply ev_neg | with_reducible apply ev_sl
  | with_reducible exact eo_none | with_reducible apply eo_some | with_reducible apply ev_call | with_reducible apply ev_blt | with_reducible apply ev_mth | with_reducible apply ev_isi | with_reducible apply ev_lc
  | with_reducible exact ec_nil | with_reducible apply ec_one | with_reducible exact es_nil | with_reducible apply es_cons | with_reducible apply sr_it | with_reducible apply sr_rng1 | with_reducible apply sr_rng2 | with_reducible apply sr_enm | with_reducible apply sr_zp
  | with_reducible apply pick_t | with_reducible apply pick_f | refine pick_tE (by rfl) ?_ | refine pick_fE (by rfl) ?_ | with_reducible apply nx_nx | with_reducible exact nx_rt | with_reducible exact nx_bk | with_reducible exact nx_ct | with_reducible exact ss_nil | with_reducible apply ss_cons | with_reducible apply s_asg | with_reducible apply s_own
  | with_reducible apply s_unp | with_reducible apply s_par | with_reducible apply s_set | with_reducible apply s_ex | with_reducible apply s_iff | with_reducible apply s_ret | with_reducible exact s_retN | with_reducible exact s_pss | with_reducible exact s_brk | with_reducible exact s_cnt
  | with_reducible apply s_fr | with_reducible apply fo_items | with_reducible exact fo_nil | with_reducible apply fo_cons | with_reducible apply frF_ok | with_reducible apply nf_nx | with_reducible apply nf_ct | with_reducible exact nf_rt | with_reducible exact nf_bk
  | with_reducible apply ga_items | with_reducible exact ga_nil | with_reducible apply ng_none | with_reducible apply ng_some | with_reducible apply lcF_ok | with_reducible apply lcE | with_reducible apply ga_cons)
/-! the law's own letters: with a stack -/
theorem get_last (X : Sto) (c : Cell) : (X ++ [c])[X.length]? = some c := by simp
theorem set_last (X : Sto) (a b : Cell) : (X ++ [a]).set X.length b = X ++ [b] := by simp [List.set_append_right]
abbrev lK (acc : List Ky) : D := .list (acc.map keyD)
abbrev sgG (v : D) (acc : List Ky) (r : Nat) (o : Option W) : MP.Env := [some (.d v), some (.d (lK acc)), some (.ref r), o]
abbrev cG : E := .cmp .NotEq (.var 2) (.lst false [])
abbrev bG : List MP.S := [(.asg false 3 (.mth .pop (.var 2) [])), (.iff (.cmp .Eq (.ix (.var 3) (.cst (.int 0))) (.cst (.str ⟨#[63]⟩))) [(.asg false 1 (.bin .Add (.var 1) (.ife (.cmp .NotIn (.ix (.var 3) (.cst (.int 1))) (.var 1)) (.lst false [(.ix (.var 3) (.cst (.int 1)))]) (.lst false []))))] [(.asg true 2 (.bin .Add (.var 2) (.blt .rev [(.blt .list [(.ix (.var 3) (.cst (.int 1)))])])))])]
theorem cond_G (C : CE) (v : D) (acc : List Ky) (X : Sto) (o : Option W) (S : List Kd) (hS : ∀ k ∈ S, Gd k) : evE C cG (sgG v acc X.length o) (X ++ [stk S]) = .ok (vBool (!S.isEmpty)) (X ++ [stk S]) := by
  have h1 := stk_ne S (get_last X (stk S)) hS
  repeat' (first | with_reducible exact h1 | decreasing_trivial_pre_omega | rfl)
theorem any_K (x : Ky) : ∀ acc : List Ky, ((acc.map keyD).any fun y => PyData.eqv y (keyD x)) = decide (x ∈ acc)
  | [] => by simp
  | y :: r => by
    rw [List.map_cons, List.any_cons, any_K x r, eqv_key]
    by_cases h : y = x
    · subst h; simp
    · have h' : ¬ x = y := fun e => h e.symm
      simp [h, h']
theorem flat_K : ∀ acc : List Ky, (acc.map keyD).all flatD = true
  | [] => rfl
  | y :: r => by
    rw [List.map_cons, List.all_cons, flat_K r]
    cases y <;> rfl
theorem notin_K (st : Sto) (x : Ky) (acc : List Ky) : cmpV .NotIn st (.w (.d (keyD x))) (.w (.d (lK acc))) = some (!decide (x ∈ acc)) := by
  have e : cmpV .NotIn st (.w (.d (keyD x))) (.w (.d (lK acc))) = (((some ((acc.map keyD).map W.d)).bind fun ws => (datas ws).bind fun ys => (some (keyD x)).bind fun d => inList d ys).map (!·)) := rfl
  rw [e, Option.bind_some, datas_map, Option.bind_some, Option.bind_some]
  unfold inList
  have hf : flatD (keyD x) = true := by cases x <;> rfl
  rw [hf, flat_K, any_K]
  rfl
theorem add_K (st : Sto) (acc xs : List Ky) (h : acc.length + xs.length ≤ 100000) : binV .Add st (.w (.d (lK acc))) (.fl (xs.map fun x => W.d (keyD x))) = some (.fl ((acc ++ xs).map fun x => W.d (keyD x))) := by
  have e : binV .Add st (.w (.d (lK acc))) (.fl (xs.map fun x => W.d (keyD x))) = if ((acc.map keyD).map W.d).length + (xs.map fun x => W.d (keyD x)).length ≤ line then some (.fl ((acc.map keyD).map W.d ++ xs.map fun x => W.d (keyD x))) else none := rfl
  rw [e, if_pos (by simp only [List.length_map, line]; omega), List.map_append, List.map_map]
  rfl
theorem w_K (xs : List Ky) : wOf (.fl (xs.map fun x => W.d (keyD x))) = some (.d (lK xs)) := by
  have e : (xs.map fun x => W.d (keyD x)) = (xs.map keyD).map W.d := by rw [List.map_map]; rfl
  rw [e]
  simp only [wOf, datas_map, Option.map_some]
theorem pop_G (C : CE) (v : D) (acc : List Ky) (X : Sto) (o : Option W) (k : Kd) (S : List Kd) : evS C (.asg false 3 (.mth .pop (.var 2) [])) (sgG v acc X.length o) (X ++ [stk (k :: S)]) = .ok (.nx (sgG v acc X.length (some (.d k.d)))) (X ++ [stk S]) := by
  have hp := stk_pop k S (get_last X (stk (k :: S)))
  rw [set_last] at hp
  have hr := stk_recv (k :: S) (get_last X (stk (k :: S)))
  have hx : evE C (.mth .pop (.var 2) []) (sgG v acc X.length o) (X ++ [stk (k :: S)]) = .ok (.w (.d k.d)) (X ++ [stk S]) := ev_mth (r := (.w (.d k.d), X ++ [stk S])) (ev_var rfl) hr es_nil hp
  exact s_asg hx rfl
theorem leaf_G (C : CE) (v : D) (acc : List Ky) (X : Sto) (x : Ky) (S : List Kd) (hl : acc.length ≤ 90000) : evS C (.asg false 1 (.bin .Add (.var 1) (.ife (.cmp .NotIn (.ix (.var 3) (.cst (.int 1))) (.var 1)) (.lst false [(.ix (.var 3) (.cst (.int 1)))]) (.lst false [])))) (sgG v acc X.length (some (.d (Kd.v x).d))) (X ++ [stk S]) = .ok (.nx (sgG v (add acc x) X.length (some (.d (Kd.v x).d)))) (X ++ [stk S]) := by
  have e3 : ixV (X ++ [stk S]) (.w (.d (Kd.v x).d)) (vInt 1) = some (.w (.d (keyD x))) := rfl
  have e4 := notin_K (X ++ [stk S]) x acc
  by_cases h : x ∈ acc
  · rw [decide_eq_true h] at e4
    have e5 : evE C (.ife (.cmp .NotIn (.ix (.var 3) (.cst (.int 1))) (.var 1)) (.lst false [(.ix (.var 3) (.cst (.int 1)))]) (.lst false [])) (sgG v acc X.length (some (.d (Kd.v x).d))) (X ++ [stk S]) = .ok (.fl (([] : List Ky).map fun x => W.d (keyD x))) (X ++ [stk S]) := by
      repeat' (first | with_reducible exact e3 | with_reducible exact e4 | decreasing_trivial_pre_omega | rfl)
    have e6 := add_K (X ++ [stk S]) acc [] (by simp only [List.length_nil]; omega)
    have e7 := s_asg (i := 1) (ev_bin (op := .Add) (ev_var (i := 1) (σ := sgG v acc X.length (some (.d (Kd.v x).d))) (w := .d (lK acc)) rfl) e5 e6) (w_K (acc ++ []))
    have ea : add acc x = acc ++ [] := by unfold add; rw [if_pos h, List.append_nil]
    rw [ea]
    exact e7
  · rw [decide_eq_false h] at e4
    have e5 : evE C (.ife (.cmp .NotIn (.ix (.var 3) (.cst (.int 1))) (.var 1)) (.lst false [(.ix (.var 3) (.cst (.int 1)))]) (.lst false [])) (sgG v acc X.length (some (.d (Kd.v x).d))) (X ++ [stk S]) = .ok (.fl (([x] : List Ky).map fun x => W.d (keyD x))) (X ++ [stk S]) := by
      repeat' (first | with_reducible exact e3 | with_reducible exact e4 | decreasing_trivial_pre_omega | rfl)
    have e6 := add_K (X ++ [stk S]) acc [x] (by simp only [List.length_cons, List.length_nil]; omega)
    have e7 := s_asg (i := 1) (ev_bin (op := .Add) (ev_var (i := 1) (σ := sgG v acc X.length (some (.d (Kd.v x).d))) (w := .d (lK acc)) rfl) e5 e6) (w_K (acc ++ [x]))
    have ea : add acc x = acc ++ [x] := by unfold add; rw [if_neg h]
    rw [ea]
    exact e7
theorem node_G (C : CE) (v : D) (acc : List Ky) (X : Sto) (f : Str) (ks : Kds) (S : List Kd) (hl : S.length + ks.l.length ≤ 90000) : evS C (.asg true 2 (.bin .Add (.var 2) (.blt .rev [(.blt .list [(.ix (.var 3) (.cst (.int 1)))])]))) (sgG v acc X.length (some (.d (Kd.n f ks).d))) (X ++ [stk S]) = .ok (.nx (sgG v acc (X ++ [stk S]).length (some (.d (Kd.n f ks).d)))) ((X ++ [stk S]) ++ [stk (ks.l ++ S)]) := by
  have e3 : ixV (X ++ [stk S]) (.w (.d (Kd.n f ks).d)) (vInt 1) = some (vTup ks.ds) := rfl
  have e4 : bltV .list (X ++ [stk S]) [vTup ks.ds] = some (.fl (ks.ds.map W.d)) := rfl
  have e5 : bltV .rev (X ++ [stk S]) [.fl (ks.ds.map W.d)] = some (.fl (ks.ds.map W.d).reverse) := rfl
  have hlst : MP.listOf (X ++ [stk S]) (.w (.ref X.length)) = some (wK S.reverse) := by
    simp only [MP.listOf, get_last]
  have e6 : binV .Add (X ++ [stk S]) (.w (.ref X.length)) (.fl (ks.ds.map W.d).reverse) = some (.fl (wK (ks.l ++ S).reverse)) := by
    have e : binV .Add (X ++ [stk S]) (.w (.ref X.length)) (.fl (ks.ds.map W.d).reverse) = (MP.listOf (X ++ [stk S]) (.w (.ref X.length))).bind fun xs => if xs.length + (ks.ds.map W.d).reverse.length ≤ line then some (.fl (xs ++ (ks.ds.map W.d).reverse)) else none := rfl
    rw [e, hlst, Option.bind_some, if_pos (by simp only [List.length_map, List.length_reverse, ds_l, line]; omega), ds_l]
    simp [wK]
  exact s_own (ev_bin (ev_var rfl) (ev_blt (es_cons (ev_blt (es_cons (ev_ix (ev_var rfl) ev_cst e3) es_nil) e4) es_nil) e5) e6) rfl
theorem loop_G (C : CE) (v : D) : ∀ (fu : Nat) (S : List Kd) (acc : List Ky) (X : Sto) (o : Option W), (∀ k ∈ S, Gd k) → tot S < fu → acc.length + tot S ≤ 80000 →
    ∃ X' o' r', whileL (evB C cG) (evSs C bG) fu (sgG v acc X.length o) (X ++ [stk S]) = .ok (.nx (sgG v (addAll acc (S.flatMap Kd.lv)) r' o')) X'
  | 0, S, acc, X, o, hS, ht, hl => by omega
  | fu + 1, [], acc, X, o, hS, ht, hl => ⟨_, _, _, wl_f (cond_G C v acc X o [] hS) rfl⟩
  | fu + 1, .v x :: S, acc, X, o, hS, ht, hl => by
    have hcnd := cond_G C v acc X o (.v x :: S) hS
    simp only [tot, Kd.sz] at ht hl
    have hal := add_len acc x
    obtain ⟨X', o', r', q⟩ := loop_G C v fu S (add acc x) X (some (.d (Kd.v x).d)) (fun k hk => hS k (List.mem_cons_of_mem _ hk)) (by omega) (by omega)
    have e1 := hd_ix (X ++ [stk S]) (.v x)
    have e2 := hd_v (X ++ [stk S]) x
    have h3 := leaf_G C v acc X x S (by omega)
    have hb : evSs C bG (sgG v acc X.length o) (X ++ [stk (.v x :: S)]) = .ok (.nx (sgG v (add acc x) X.length (some (.d (Kd.v x).d)))) (X ++ [stk S]) := by
      refine ss_cons (pop_G C v acc X o (.v x) S) (nx_nx ?_)
      repeat' (first | with_reducible exact e1 | with_reducible exact e2 | with_reducible exact h3 | decreasing_trivial_pre_omega | rfl)
    exact ⟨X', o', r', wl_t hcnd rfl hb q⟩
  | fu + 1, .n f ks :: S, acc, X, o, hS, ht, hl => by
    have hcnd := cond_G C v acc X o (.n f ks :: S) hS
    simp only [tot, Kd.sz] at ht hl
    have hk := hS _ (List.mem_cons_self ..)
    have hls := l_szs ks
    have hlt := len_tot S
    have htl : tot (ks.l ++ S) = ks.szs + tot S := by rw [tot_app, tot_l]
    obtain ⟨X', o', r', q⟩ := loop_G C v fu (ks.l ++ S) acc (X ++ [stk S]) (some (.d (Kd.n f ks).d)) (fun k hk' => (List.mem_append.mp hk').elim (gd_l f ks hk k) fun h => hS k (List.mem_cons_of_mem _ h)) (by omega) (by omega)
    have e1 := hd_ix (X ++ [stk S]) (.n f ks)
    have e2 := hd_n (X ++ [stk S]) f ks hk.1.1.1
    have h3 := node_G C v acc X f ks S (by omega)
    have hb : evSs C bG (sgG v acc X.length o) (X ++ [stk (.n f ks :: S)]) = .ok (.nx (sgG v acc (X ++ [stk S]).length (some (.d (Kd.n f ks).d)))) ((X ++ [stk S]) ++ [stk (ks.l ++ S)]) := by
      refine ss_cons (pop_G C v acc X o (.n f ks) S) (nx_nx ?_)
      repeat' (first | with_reducible exact e1 | with_reducible exact e2 | with_reducible exact h3 | decreasing_trivial_pre_omega | rfl)
    have ef : (Kd.n f ks :: S).flatMap Kd.lv = (ks.l ++ S).flatMap Kd.lv := by
      rw [List.flatMap_cons, List.flatMap_append, ← lvs_flat]; rfl
    rw [ef]
    exact ⟨X', o', r', wl_t hcnd rfl hb q⟩
theorem llets_run (n : Nat) (L : List Kd) (hL : ∀ k ∈ L, Gd k) (ht : tot L ≤ 5000) : ∃ st, Rn (n + 1) 15 [.d (.list (L.map Kd.d))] [] = .ok (.w (.d (lK (uq (L.flatMap Kd.lv))))) st := by
  obtain ⟨X', o', r', q⟩ := loop_G (CN n) (.list (L.map Kd.d)) lfN L [] [] none hL (by show tot L < 10000; omega) (by simp only [List.length_nil]; omega)
  refine ⟨X', ?_⟩
  have e1 : bltV .list [] [.w (.d (.list (L.map Kd.d)))] = some (.fl ((L.map Kd.d).map W.d)) := rfl
  have e2 : bltV .rev [] [.fl ((L.map Kd.d).map W.d)] = some (.fl (wK L.reverse)) := by
    show some (Val.fl ((L.map Kd.d).map W.d).reverse) = _
    rw [List.map_map, ← List.map_reverse]; rfl
  have h0 : evS (CN n) (.par 1 2 (.lst false []) (.cel (.blt .rev [(.blt .list [(.var 0)])]))) [some (.d (.list (L.map Kd.d))), none, none, none] [] = .ok (.nx (sgG (.list (L.map Kd.d)) [] 0 none)) [stk L] :=
    s_par (ev_lst es_nil rfl rfl) (ev_cel (ev_blt (es_cons (ev_blt (es_cons (ev_var rfl) es_nil) e1) es_nil) e2) rfl) rfl rfl
  apply run_fn (fn := f15) rfl rfl rfl
  simp only [f15, b15, entry, List.map_cons, List.map_nil, List.replicate, List.cons_append, List.nil_append, Nat.reduceSub]
  exact ss_cons h0 (nx_nx (ss_cons (s_wh q) (nx_nx (ss_cons (s_ret (ev_var rfl)) nx_rt))))
end KI
set_option maxHeartbeats 4100000
namespace KI
open PySem MP
local macro_rules | `(tactic| decreasing_trivial_pre_omega) => `(tactic| first
  | simp only [List.map_nil, List.append_nil, List.nil_append, List.cons_append, List.map_cons, List.set_cons_zero, List.set_cons_succ, List.length_nil]
  | with_reducible exact ev_cst | with_reducible apply ev_cel | with_reducible apply ev_var | with_reducible apply ev_bin | with_reducible apply ev_cmp | with_reducible apply ev_ix | with_reducible apply ev_nt | with_reducible apply ev_an | with_reducible apply ev_orr
  | with_reducible apply ev_ife | with_reducible apply ev_cmp2 | with_reducible apply ev_cmp2b | with_reducible apply ev_tup | with_reducible apply ev_lst | with_reducible exact ev_dis | with_reducible apply ev_neg | with_reducible apply ev_sl
  | with_reducible exact eo_none | with_reducible apply eo_some | with_reducible apply ev_call | with_reducible apply ev_blt | with_reducible apply ev_mth | with_reducible apply ev_isi | with_reducible apply ev_lc
  | with_reducible exact ec_nil | with_reducible apply ec_one | with_reducible exact es_nil | with_reducible apply es_cons | with_reducible apply sr_it | with_reducible apply sr_rng1 | with_reducible apply sr_rng2 | with_reducible apply sr_enm | with_reducible apply sr_zp
  | with_reducible apply pick_t | with_reducible apply pick_f | refine pick_tE (by rfl) ?_ | refine pick_fE (by rfl) ?_ | with_reducible apply nx_nx | with_reducible exact nx_rt | with_reducible exact nx_bk | with_reducible exact nx_ct | with_reducible exact ss_nil | with_reducible apply ss_cons | with_reducible apply s_asg | with_reducible apply s_own
  | with_reducible apply s_unp | with_reducible apply s_par | with_reducible apply s_set | with_reducible apply s_ex | with_reducible apply s_iff | with_reducible apply s_ret | with_reducible exact s_retN | with_reducible exact s_pss | with_reducible exact s_brk | with_reducible exact s_cnt
  | with_reducible apply s_fr | with_reducible apply fo_items | with_reducible exact fo_nil | with_reducible apply fo_cons | with_reducible apply frF_ok | with_reducible apply nf_nx | with_reducible apply nf_ct | with_reducible exact nf_rt | with_reducible exact nf_bk
  | with_reducible apply ga_items | with_reducible exact ga_nil | with_reducible apply ng_none | with_reducible apply ng_some | with_reducible apply lcF_ok | with_reducible apply lcE | with_reducible apply ga_cons)
/-! a kind that becomes another one: a dict from letters to kinds, filled on the way -/
abbrev Sg := List (Ky × Kd)
def sd (σ : Sg) (x : Ky) (k : Kd) : Sg := match look σ x with
  | some _ => σ
  | none => σ ++ [(x, k)]
abbrev dc (σ : Sg) : Cell := .dct (σ.map fun p => (keyD p.1, W.d p.2.d))
def Gs (σ : Sg) : Prop := ∀ p ∈ σ, Gd p.2
theorem look_mem {α : Type} : ∀ {σ : List (Ky × α)} {x : Ky} {k : α}, look σ x = some k → (x, k) ∈ σ
  | (y, l) :: r, x, k, h => by
    simp only [look] at h
    split at h
    · rename_i e; cases h; subst e; exact List.mem_cons_self ..
    · exact List.mem_cons_of_mem _ (look_mem h)
theorem look_app {α : Type} : ∀ (σ : List (Ky × α)) (x y : Ky) (k : α), look (σ ++ [(x, k)]) y = match look σ y with
    | some v => some v
    | none => if x = y then some k else none
  | [], x, y, k => rfl
  | (z, l) :: r, x, y, k => by
    simp only [List.cons_append, look]
    by_cases h : z = y
    · simp [h]
    · simp only [h, if_false]
      exact look_app r x y k
theorem look_sd (σ : Sg) (x : Ky) (k : Kd) : look (sd σ x k) x = some ((look σ x).getD k) := by
  unfold sd
  cases h : look σ x with
  | some v => simp [h]
  | none =>
    simp only [look_app, h, if_true, Option.getD_none]
theorem gs_sd {σ : Sg} {x : Ky} {k : Kd} (h : Gs σ) (hk : Gd k) : Gs (sd σ x k) := by
  unfold sd
  split
  · exact h
  · intro p hp
    obtain hp | hp := List.mem_append.mp hp
    · exact h p hp
    · rw [List.mem_singleton] at hp; rw [hp]; exact hk
theorem sd_len (σ : Sg) (x : Ky) (k : Kd) : (sd σ x k).length ≤ σ.length + 1 := by
  unfold sd
  split
  · omega
  · rw [List.length_append]; exact Nat.le_refl _
theorem look_W (x : Ky) : ∀ σ : Sg, dLookW (σ.map fun p => (keyD p.1, W.d p.2.d)) (keyD x) = (look σ x).map fun k => W.d k.d
  | [] => rfl
  | (k, v) :: r => by
    simp only [List.map_cons, dLookW, look, eqv_key]
    by_cases h : k = x
    · simp [h]
    · simp only [h, decide_false, Bool.false_eq_true, if_false]
      exact look_W x r
theorem any_none (x : Ky) : ∀ σ : Sg, look σ x = none → ((σ.map fun p => (keyD p.1, W.d p.2.d)).any fun kv => PyData.eqv kv.1 (keyD x)) = false
  | [], _ => rfl
  | (k, v) :: r, h => by
    simp only [look] at h
    split at h
    · cases h
    · rename_i e
      rw [List.map_cons, List.any_cons, any_none x r h, eqv_key, decide_eq_false e]; rfl
theorem set_same {st : Sto} {r : Nat} {c : Cell} (h : st[r]? = some c) : st.set r c = st := by
  have ⟨hl, e⟩ := List.getElem?_eq_some_iff.mp h
  rw [← e]
  exact List.set_getElem_self hl
/-- told.setdefault(x, k) -/
theorem setd_V {st : Sto} {r : Nat} {σ : Sg} (h : st[r]? = some (dc σ)) (x : Ky) (k : Kd) (hl : σ.length ≤ 100000) : mthV .setdefault st (.w (.ref r)) [.w (.d (keyD x)), .w (.d k.d)] = some (.w (.d ((look σ x).getD k).d), st.set r (dc (sd σ x k))) := by
  have e : mthV .setdefault st (.w (.ref r)) [.w (.d (keyD x)), .w (.d k.d)] = (match st[r]? with
    | some (.dct kvs) => (dataOf st (.w (.d (keyD x)))).bind fun d => (keyOf d).bind fun _ => if kvs.length < line then (match dLookW kvs d with
      | some x => some (Val.w x, st)
      | none => some (.w (.d k.d), st.set r (.dct (putD kvs d (.d k.d))))) else none
    | _ => none) := rfl
  have e2 : dataOf st (.w (.d (keyD x))) = some (keyD x) := rfl
  rw [e, h]
  dsimp only
  rw [e2, Option.bind_some, keyOf_D, Option.bind_some, if_pos (by rw [List.length_map]; show σ.length < 16777216; omega), look_W]
  unfold sd
  cases q : look σ x with
  | some v => simp only [Option.map_some, Option.getD_some, set_same h]
  | none =>
    simp only [Option.map_none, Option.getD_none]
    unfold putD
    rw [any_none x σ q, if_neg (by decide), dc, List.map_append]
    rfl
theorem setd_R {st : Sto} {r : Nat} {σ : Sg} (h : st[r]? = some (dc σ)) : recvOk .setdefault st (.w (.ref r)) = true := by
  have e : recvOk .setdefault st (.w (.ref r)) = (match st[r]? with
    | some (.dct _) => true
    | _ => false) := rfl
  rw [e, h]
theorem ix_V {st : Sto} {r : Nat} {σ : Sg} (h : st[r]? = some (dc σ)) (x : Ky) (k : Kd) (hk : look σ x = some k) : ixV st (.w (.ref r)) (.w (.d (keyD x))) = some (.w (.d k.d)) := by
  have e : ixV st (.w (.ref r)) (.w (.d (keyD x))) = (match dctOf st (.w (.ref r)) with
    | some kvs => (dataOf st (.w (.d (keyD x)))).bind fun k => (keyOf k).bind fun _ => (dLookW kvs k).map .w
    | none => (listOf' st (.w (.ref r))).bind fun xs => (int? (.w (.d (keyD x)))).bind fun i => (L2.atI xs i).map .w) := rfl
  have e1 : dctOf st (.w (.ref r)) = some (σ.map fun p => (keyD p.1, W.d p.2.d)) := by simp only [dctOf, h]
  have e2 : dataOf st (.w (.d (keyD x))) = some (keyD x) := rfl
  rw [e, e1]
  dsimp only
  rw [e2, Option.bind_some, keyOf_D, Option.bind_some, look_W, hk]; rfl
/-! what it tells -/
mutual
def bec (σ : Sg) : Kd → Kd → Sg × Bool
  | .v x, l => (sd σ x l, ek ((look σ x).getD l) l)
  | .n _ _, .v _ => (σ, false)
  | .n f ks, .n g ls => if f ≠ g ∨ ks.l.length ≠ ls.l.length then (σ, false) else becs σ ks ls
def becs (σ : Sg) : Kds → Kds → Sg × Bool
  | .cons k r, .cons l q => ((becs (bec σ k l).1 r q).1, (bec σ k l).2 && (becs (bec σ k l).1 r q).2)
  | _, _ => (σ, true)
end
mutual
theorem bec_gs : ∀ (k l : Kd) (σ : Sg), Gs σ → Gd l → Gs (bec σ k l).1 ∧ (bec σ k l).1.length ≤ σ.length + k.sz
  | .v x, l, σ, h, hl => ⟨gs_sd h hl, sd_len σ x l⟩
  | .n f ks, .v y, σ, h, _ => ⟨h, Nat.le_add_right _ _⟩
  | .n f ks, .n g ls, σ, h, hl => by
    simp only [bec]
    split
    · exact ⟨h, Nat.le_add_right _ _⟩
    · have := becs_gs ks ls σ h fun k hk => gd_l g ls hl k hk
      exact ⟨this.1, by simp only [Kd.sz]; have := this.2; omega⟩
theorem becs_gs : ∀ (ks ls : Kds) (σ : Sg), Gs σ → (∀ k ∈ ls.l, Gd k) → Gs (becs σ ks ls).1 ∧ (becs σ ks ls).1.length ≤ σ.length + ks.szs
  | .nil, _, σ, h, _ => ⟨h, Nat.le_add_right _ _⟩
  | .cons k r, .nil, σ, h, _ => ⟨h, Nat.le_add_right _ _⟩
  | .cons k r, .cons l q, σ, h, hl => by
    have h1 := bec_gs k l σ h (hl l (by simp [Kds.l]))
    have h2 := becs_gs r q (bec σ k l).1 h1.1 fun x hx => hl x (by simp [Kds.l, hx])
    refine ⟨h2.1, ?_⟩
    have a := h1.2
    have b := h2.2
    show (becs (bec σ k l).1 r q).1.length ≤ σ.length + (k.sz + r.szs)
    omega
end
/-! its run -/
def Bl (st : Sto) : Prop := st.all (Cell.below st.length) = true
theorem dc_below (n : Nat) (σ : Sg) : Cell.below n (dc σ) = true := by
  show (σ.map fun p => (keyD p.1, W.d p.2.d)).all (fun kv => kv.2.below n) = true
  rw [List.all_eq_true]
  intro kv hkv
  rw [List.mem_map] at hkv
  obtain ⟨p, _, rfl⟩ := hkv
  rfl
theorem bl_set {st : Sto} {r : Nat} (h : Bl st) (σ : Sg) : Bl (st.set r (dc σ)) := by
  unfold Bl at h ⊢
  rw [List.length_set]
  rw [List.all_eq_true] at h ⊢
  intro c hc
  rcases List.mem_or_eq_of_mem_set hc with hc | hc
  · exact h c hc
  · rw [hc]; exact dc_below _ σ
theorem heap_call {C : CE} {f : Nat} {ws : List W} {st st' : Sto} {b : Bool} (hp : ws.all W.pur = false) (h : C.run f ws st = .ok (vBool b) st') (hl : st'.length = st.length) (hb : Bl st') : callV C f ws st = .ok (vBool b) st' := by
  have ht : st'.take st.length = st' := List.take_of_length_le (by omega)
  have e := cl_heap (C := C) (f := f) (st := st) (s1 := st') (v := vBool b) (v' := vBool b) hp h (by rw [ht, ← hl]; exact hb) rfl
  rw [ht] at e
  exact e
abbrev kid19 : E := .call 19 [(.var 0), (.ix (.ix (.var 1) (.cst (.int 1))) (.var 3)), (.ix (.ix (.var 2) (.cst (.int 1))) (.var 3))] []
abbrev sgJ (r : Nat) (k l : D) (o : Option W) : MP.Env := [some (.ref r), some (.d k), some (.d l), o]
theorem turn19 (C : CE) (r : Nat) (f g : Str) (ks ls : Kds) (i : Nat) (k l : Kd) (b : Bool) (st st' : Sto) (h1 : ks.l[i]? = some k) (h2 : ls.l[i]? = some l) (h : callV C 19 [.ref r, .d k.d, .d l.d] st = .ok (vBool b) st') :
    lcF C [3] (.nm 3) [] kid19 (sgJ r (Kd.n f ks).d (Kd.n g ls).d none) (.d (.int (0 + (i : Int)))) st = .ok (some (.d (.bool b))) st' := by
  have e1 : ixV st (.w (.d (Kd.n f ks).d)) (vInt 1) = some (vTup ks.ds) := rfl
  have e2 : ixV st (.w (.d (Kd.n g ls).d)) (vInt 1) = some (vTup ls.ds) := rfl
  have e3 : ixV st (vTup ks.ds) (vInt (0 + (i : Int))) = some (.w (.d k.d)) := by
    have e : L2.atI ks.ds (0 + (i : Int)) = some k.d := by rw [Int.zero_add]; exact L2.atI_nat (j := i) (by rw [ds_l, List.getElem?_map, h1]; rfl)
    show (L2.atI ks.ds (0 + (i : Int))).map (fun x => Val.w (.d x)) = _
    rw [e]; rfl
  have e4 : ixV st (vTup ls.ds) (vInt (0 + (i : Int))) = some (.w (.d l.d)) := by
    have e : L2.atI ls.ds (0 + (i : Int)) = some l.d := by rw [Int.zero_add]; exact L2.atI_nat (j := i) (by rw [ds_l, List.getElem?_map, h2]; rfl)
    show (L2.atI ls.ds (0 + (i : Int))).map (fun x => Val.w (.d x)) = _
    rw [e]; rfl
  repeat' (first | with_reducible exact e1 | with_reducible exact e2 | with_reducible exact e3 | with_reducible exact e4 | with_reducible exact h | decreasing_trivial_pre_omega | rfl)
/-- what is told of the parts, one by one -/
def becB (σ : Sg) : List Kd → List Kd → Sg × List Bool
  | k :: r, l :: q => ((becB (bec σ k l).1 r q).1, (bec σ k l).2 :: (becB (bec σ k l).1 r q).2)
  | _, _ => (σ, [])
theorem becB_is : ∀ (ks ls : Kds) (σ : Sg), (becB σ ks.l ls.l).1 = (becs σ ks ls).1 ∧ (becB σ ks.l ls.l).2.all id = (becs σ ks ls).2
  | .nil, _, σ => ⟨rfl, rfl⟩
  | .cons k r, .nil, σ => ⟨rfl, rfl⟩
  | .cons k r, .cons l q, σ => by
    have h := becB_is r q (bec σ k l).1
    simp only [Kds.l, becB, becs, List.all_cons, h.1, h.2, id, and_self]
theorem kids19 (C : CE) (r : Nat) (f g : Str) (ks ls : Kds) (hlen : ks.l.length = ls.l.length) : ∀ (L M : List Kd) (j : Nat) (σ : Sg) (st : Sto) (acc : List W), ks.l.drop j = L → ls.l.drop j = M → st[r]? = some (dc σ) → Bl st → Gs σ → (∀ l ∈ M, Gd l) → acc.length + L.length ≤ 90000 → σ.length + tot L ≤ 90000 →
    (∀ k ∈ L, ∀ l ∈ M, ∀ (σ : Sg) (st : Sto), st[r]? = some (dc σ) → Bl st → Gs σ → σ.length + k.sz ≤ 90000 → callV C 19 [.ref r, .d k.d, .d l.d] st = .ok (vBool (bec σ k l).2) (st.set r (dc (bec σ k l).1))) →
    gath (lcF C [3] (.nm 3) [] kid19 (sgJ r (Kd.n f ks).d (Kd.n g ls).d none)) ((rngW 0 (ks.l.length : Int)).drop j) acc st = .ok (acc ++ (becB σ L M).2.map fun b => W.d (.bool b)) (st.set r (dc (becB σ L M).1))
  | [], M, j, σ, st, acc, e1, e2, h, hb, hg, hM, ha, ht, hk => by
    have hj : ks.l.length ≤ j := List.drop_eq_nil_iff.mp e1
    have hr : (rngW 0 (ks.l.length : Int)).length = ks.l.length := by unfold rngW; rw [List.length_map, List.length_range]; omega
    rw [List.drop_eq_nil_of_le (by omega)]
    cases M with
    | nil => simp only [gath, becB, List.map_nil, List.append_nil, set_same h]
    | cons a b => simp only [gath, becB, List.map_nil, List.append_nil, set_same h]
  | k :: L, [], j, σ, st, acc, e1, e2, h, hb, hg, hM, ha, ht, hk => by
    exfalso
    have h1 : ls.l.length ≤ j := List.drop_eq_nil_iff.mp e2
    have h2 : ks.l.drop j = [] := List.drop_eq_nil_of_le (by omega)
    rw [h2] at e1; cases e1
  | k :: L, l :: M, j, σ, st, acc, e1, e2, h, hb, hg, hM, ha, ht, hk => by
    have hj : j < ks.l.length := by
      by_cases hj : j < ks.l.length
      · exact hj
      · rw [List.drop_eq_nil_of_le (by omega)] at e1; cases e1
    have hr : (rngW 0 (ks.l.length : Int)).length = ks.l.length := by unfold rngW; rw [List.length_map, List.length_range]; omega
    rw [List.drop_eq_getElem_cons (by omega)]
    have ei : (rngW 0 (ks.l.length : Int))[j]'(by omega) = .d (.int (0 + (j : Int))) := by
      unfold rngW
      rw [List.getElem_map, List.getElem_range]
    rw [ei]
    rw [List.drop_eq_getElem_cons hj] at e1
    injection e1 with f1 f2
    rw [List.drop_eq_getElem_cons (by omega)] at e2
    injection e2 with g1 g2
    have k1 : ks.l[j]? = some k := by rw [List.getElem?_eq_getElem hj, f1]
    have l1 : ls.l[j]? = some l := by rw [List.getElem?_eq_getElem (by omega), g1]
    simp only [tot] at ht
    have hc := hk k (List.mem_cons_self ..) l (List.mem_cons_self ..) σ st h hb hg (by omega)
    have gsb := bec_gs k l σ hg (hM l (List.mem_cons_self ..))
    have hset : (st.set r (dc (bec σ k l).1))[r]? = some (dc (bec σ k l).1) := List.getElem?_set_self (List.getElem?_eq_some_iff.mp h).1
    simp only [List.length_cons] at ha
    have ih := kids19 C r f g ks ls hlen L M (j + 1) (bec σ k l).1 (st.set r (dc (bec σ k l).1)) (acc ++ [.d (.bool (bec σ k l).2)]) f2 g2 hset (bl_set hb _) gsb.1 (fun x hx => hM x (List.mem_cons_of_mem _ hx)) (by simp only [List.length_append, List.length_cons, List.length_nil]; omega) (by have := gsb.2; omega)
      (fun a ha b hb' => hk a (List.mem_cons_of_mem _ ha) b (List.mem_cons_of_mem _ hb'))
    refine ga_cons (turn19 C r f g ks ls j k l _ st _ k1 l1 hc) (ng_some (decide_eq_true (by show acc.length < 16777216; omega)) ?_)
    rw [ih, List.set_set]
    simp only [becB, List.map_cons, List.append_assoc, List.singleton_append]
end KI
set_option maxHeartbeats 4100000
namespace KI
open PySem MP
local macro_rules | `(tactic| decreasing_trivial_pre_omega) => `(tactic| first
  | simp only [List.map_nil, List.append_nil, List.nil_append, List.cons_append, List.map_cons, List.set_cons_zero, List.set_cons_succ, List.length_nil]
  | with_reducible exact ev_cst | with_reducible apply ev_cel | with_reducible apply ev_var | with_reducible apply ev_bin | with_reducible apply ev_cmp | with_reducible apply ev_ix | with_reducible apply ev_nt | with_reducible apply ev_an | with_reducible apply ev_orr
  | with_reducible apply ev_ife | with_reducible apply ev_cmp2 | with_reducible apply ev_cmp2b | with_reducible apply ev_tup | with_reducible apply ev_lst | with_reducible exact ev_dis | with_reducible apply ev_neg | with_reducible apply ev_sl
  | with_reducible exact eo_none | with_reducible apply eo_some | with_reducible apply ev_call | with_reducible apply ev_blt | with_reducible apply ev_mth | with_reducible apply ev_isi | with_reducible apply ev_lc
  | with_reducible exact ec_nil | with_reducible apply ec_one | with_reducible exact es_nil | with_reducible apply es_cons | with_reducible apply sr_it | with_reducible apply sr_rng1 | with_reducible apply sr_rng2 | with_reducible apply sr_enm | with_reducible apply sr_zp
  | with_reducible apply pick_t | with_reducible apply pick_f | refine pick_tE (by rfl) ?_ | refine pick_fE (by rfl) ?_ | with_reducible apply nx_nx | with_reducible exact nx_rt | with_reducible exact nx_bk | with_reducible exact nx_ct | with_reducible exact ss_nil | with_reducible apply ss_cons | with_reducible apply s_asg | with_reducible apply s_own
  | with_reducible apply s_unp | with_reducible apply s_par | with_reducible apply s_set | with_reducible apply s_ex | with_reducible apply s_iff | with_reducible apply s_ret | with_reducible exact s_retN | with_reducible exact s_pss | with_reducible exact s_brk | with_reducible exact s_cnt
  | with_reducible apply s_fr | with_reducible apply fo_items | with_reducible exact fo_nil | with_reducible apply fo_cons | with_reducible apply frF_ok | with_reducible apply nf_nx | with_reducible apply nf_ct | with_reducible exact nf_rt | with_reducible exact nf_bk
  | with_reducible apply ga_items | with_reducible exact ga_nil | with_reducible apply ng_none | with_reducible apply ng_some | with_reducible apply lcF_ok | with_reducible apply lcE | with_reducible apply ga_cons)
theorem gd_got {σ : Sg} {x : Ky} {l : Kd} (hg : Gs σ) (hl : Gd l) : Gd ((look σ x).getD l) := by
  cases q : look σ x with
  | none => exact hl
  | some v => exact hg _ (look_mem q)
theorem len_ds (st : Sto) (ks : Kds) : bltV .len st [vTup ks.ds] = some (vInt (ks.l.length : Nat)) := by
  show (some ks.ds.length).map (fun n : Nat => vInt n) = _
  rw [ds_l, List.length_map]; rfl
theorem ne_nat (st : Sto) (a b : Nat) : cmpV .NotEq st (vInt (a : Int)) (vInt (b : Int)) = some (decide (a ≠ b)) := by
  have e : cmpV .NotEq st (vInt (a : Int)) (vInt (b : Int)) = some (!PyData.eqv (.int (a : Int)) (.int (b : Int))) := rfl
  rw [e]
  congr 1
  simp only [PyData.eqv]
  by_cases h : a = b
  · subst h; simp
  · have : ¬ (a : Int) = (b : Int) := by omega
    simp [h, this]
theorem all_B (st : Sto) (bs : List Bool) : bltV .all st [.fl (bs.map fun b => W.d (.bool b))] = some (vBool (bs.all id)) := by
  have e : ∀ L : List Bool, bools (L.map fun b => W.d (.bool b)) = some L := by
    intro L
    induction L with
    | nil => rfl
    | cons b r ih =>
      show (bools (r.map fun b => W.d (.bool b))).map (b :: ·) = _
      rw [ih]; rfl
  show (some (bs.map fun b => W.d (.bool b))).bind (fun xs => (bools xs).map fun bs => vBool (bs.all id)) = _
  rw [Option.bind_some, e]; rfl
theorem becomes_run : ∀ (m : Nat) (k l : Kd) (σ : Sg) (st : Sto) (r : Nat), k.ok → k.dep < m → k.sz ≤ 80000 → Gd l → st[r]? = some (dc σ) → Bl st → Gs σ → σ.length + k.sz ≤ 90000 → ∀ n, Rn (n + m) 19 [.ref r, .d k.d, .d l.d] st = .ok (vBool (bec σ k l).2) (st.set r (dc (bec σ k l).1))
  | 0, k, l, σ, st, r, ho, hd, hz, hl, h, hb, hg, hs, n => by omega
  | m + 1, .v x, l, σ, st, r, ho, hd, hz, hl, h, hb, hg, hs, n => by
    have e1 := hd_ix st (.v x)
    have e2 := hd_v st x
    have e3 : ixV st (.w (.d (Kd.v x).d)) (vInt 1) = some (.w (.d (keyD x))) := rfl
    have hm := setd_V h x l (by omega)
    have hr := setd_R h
    have hx : evE (CN (n + m)) (.mth .setdefault (.var 0) [(.ix (.var 1) (.cst (.int 1))), (.var 2)]) (sgJ r (Kd.v x).d l.d none) st = .ok (.w (.d ((look σ x).getD l).d)) (st.set r (dc (sd σ x l))) :=
      ev_mth (r := (.w (.d ((look σ x).getD l).d), st.set r (dc (sd σ x l)))) (ev_var rfl) hr (es_cons (ev_ix (ev_var rfl) ev_cst e3) (es_cons (ev_var rfl) es_nil)) hm
    have h' : (st.set r (dc (sd σ x l)))[r]? = some (dc (sd σ x l)) := List.getElem?_set_self (List.getElem?_eq_some_iff.mp h).1
    have e4 : ixV (st.set r (dc (sd σ x l))) (.w (.d (Kd.v x).d)) (vInt 1) = some (.w (.d (keyD x))) := rfl
    have e5 := ix_V h' x _ (look_sd σ x l)
    have e6 := eq_kd (st.set r (dc (sd σ x l))) ((look σ x).getD l) l (gd_got hg hl) hl
    show Rn ((n + m) + 1) 19 [.ref r, .d (Kd.v x).d, .d l.d] st = .ok (vBool (ek ((look σ x).getD l) l)) (st.set r (dc (sd σ x l)))
    apply run_fn (fn := f19) rfl rfl rfl
    simp only [f19, b19, entry, List.map_cons, List.map_nil, List.replicate, List.cons_append, List.nil_append, Nat.reduceSub]
    repeat' (first | with_reducible exact e1 | with_reducible exact e2 | with_reducible exact hx | with_reducible exact e4 | with_reducible exact e5 | with_reducible exact e6 | decreasing_trivial_pre_omega | rfl)
  | m + 1, .n f ks, .v y, σ, st, r, ho, hd, hz, hl, h, hb, hg, hs, n => by
    have e1 := hd_ix st (.n f ks)
    have e2 := hd_n st f ks ho.1.1
    have e3 := hd_ix st (.v y)
    have e4 := hd_v st y
    show Rn ((n + m) + 1) 19 [.ref r, .d (Kd.n f ks).d, .d (Kd.v y).d] st = .ok (vBool false) (st.set r (dc σ))
    rw [set_same h]
    apply run_fn (fn := f19) rfl rfl rfl
    simp only [f19, b19, entry, List.map_cons, List.map_nil, List.replicate, List.cons_append, List.nil_append, Nat.reduceSub]
    repeat' (first | with_reducible exact e1 | with_reducible exact e2 | with_reducible exact e3 | with_reducible exact e4 | decreasing_trivial_pre_omega | rfl)
  | m + 1, .n f ks, .n g ls, σ, st, r, ho, hd, hz, hl, h, hb, hg, hs, n => by
    simp only [Kd.dep] at hd
    simp only [Kd.sz] at hz hs
    have hll := l_szs ks
    have e1 := hd_ix st (.n f ks)
    have e2 := hd_n st f ks ho.1.1
    have e3 := hd_ix st (.n g ls)
    have e4 := hd_n st g ls hl.1.1.1
    have e5 := ne_str st f g
    have i1 : ixV st (.w (.d (Kd.n f ks).d)) (vInt 1) = some (vTup ks.ds) := rfl
    have i2 : ixV st (.w (.d (Kd.n g ls).d)) (vInt 1) = some (vTup ls.ds) := rfl
    have n1 := len_ds st ks
    have n2 := len_ds st ls
    have n3 := ne_nat st ks.l.length ls.l.length
    by_cases hf : f = g
    · rw [decide_eq_true hf] at e5
      have e5 : cmpV .NotEq st (vStr (Kd.n f ks).hd) (vStr (Kd.n g ls).hd) = some false := e5
      by_cases hn : ks.l.length = ls.l.length
      · rw [decide_eq_false (by omega)] at n3
        have eb : bec σ (.n f ks) (.n g ls) = becs σ ks ls := by
          simp only [bec]
          rw [if_neg (by simp [hf, hn])]
        have hk := kids19 (CN (n + m)) r f g ks ls hn ks.l ls.l 0 σ st [] rfl rfl h hb hg (gd_l g ls hl) (by simp only [List.length_nil]; omega) (by rw [tot_l]; omega) (fun k hk l hl' σ st h hb hg hs =>
          heap_call rfl (becomes_run m k l σ st r (oks_l ks ho.2 k hk) (by have := deps_l ks k hk; omega) (by have := szs_l ks k hk; omega) (gd_l g ls hl l hl') h hb hg hs n) (by rw [List.length_set]) (bl_set hb _))
        rw [List.nil_append, List.drop_zero, (becB_is ks ls σ).1] at hk
        have ha := all_B (st.set r (dc (becs σ ks ls).1)) (becB σ ks.l ls.l).2
        rw [(becB_is ks ls σ).2] at ha
        have hr := rng_ok ks.l.length (by omega)
        rw [eb]
        have hq : evSrc (CN (n + m)) (.rng1 [(.blt .len [(.ix (.var 1) (.cst (.int 1)))])]) (sgJ r (Kd.n f ks).d (Kd.n g ls).d none) st = .ok (.items (rngW 0 (ks.l.length : Int))) st :=
          sr_rng1 (es_cons (ev_blt (es_cons (ev_ix (ev_var rfl) ev_cst i1) es_nil) n1) es_nil) hr
        have hlc : evE (CN (n + m)) (.lc [3] (.nm 3) (.rng1 [(.blt .len [(.ix (.var 1) (.cst (.int 1)))])]) [] kid19) (sgJ r (Kd.n f ks).d (Kd.n g ls).d none) st = .ok (.fl ((becB σ ks.l ls.l).2.map fun b => W.d (.bool b))) (st.set r (dc (becs σ ks ls).1)) :=
          ev_lc (it := .items (rngW 0 (ks.l.length : Int))) rfl hq (ga_items hk)
        show Rn ((n + m) + 1) 19 [.ref r, .d (Kd.n f ks).d, .d (Kd.n g ls).d] st = .ok (vBool (becs σ ks ls).2) (st.set r (dc (becs σ ks ls).1))
        apply run_fn (fn := f19) rfl rfl rfl
        simp only [f19, b19, entry, List.map_cons, List.map_nil, List.replicate, List.cons_append, List.nil_append, Nat.reduceSub]
        repeat' (first | with_reducible exact e1 | with_reducible exact e2 | with_reducible exact e3 | with_reducible exact e4 | with_reducible exact e5 | with_reducible exact i1 | with_reducible exact i2 | with_reducible exact n1 | with_reducible exact n2 | with_reducible exact n3 | with_reducible apply nx_nx | with_reducible exact nx_rt | with_reducible apply ss_cons | with_reducible exact hlc | with_reducible exact ha | with_reducible apply s_ret | decreasing_trivial_pre_omega | rfl)
      · rw [decide_eq_true hn] at n3
        have eb : bec σ (.n f ks) (.n g ls) = (σ, false) := by
          simp only [bec]
          rw [if_pos (.inr hn)]
        rw [eb]
        show Rn ((n + m) + 1) 19 [.ref r, .d (Kd.n f ks).d, .d (Kd.n g ls).d] st = .ok (vBool false) (st.set r (dc σ))
        rw [set_same h]
        apply run_fn (fn := f19) rfl rfl rfl
        simp only [f19, b19, entry, List.map_cons, List.map_nil, List.replicate, List.cons_append, List.nil_append, Nat.reduceSub]
        repeat' (first | with_reducible exact e1 | with_reducible exact e2 | with_reducible exact e3 | with_reducible exact e4 | with_reducible exact e5 | with_reducible exact i1 | with_reducible exact i2 | with_reducible exact n1 | with_reducible exact n2 | with_reducible exact n3 | decreasing_trivial_pre_omega | rfl)
    · rw [decide_eq_false hf] at e5
      have e5 : cmpV .NotEq st (vStr (Kd.n f ks).hd) (vStr (Kd.n g ls).hd) = some true := e5
      have eb : bec σ (.n f ks) (.n g ls) = (σ, false) := by
        simp only [bec]
        rw [if_pos (.inl hf)]
      rw [eb]
      show Rn ((n + m) + 1) 19 [.ref r, .d (Kd.n f ks).d, .d (Kd.n g ls).d] st = .ok (vBool false) (st.set r (dc σ))
      rw [set_same h]
      apply run_fn (fn := f19) rfl rfl rfl
      simp only [f19, b19, entry, List.map_cons, List.map_nil, List.replicate, List.cons_append, List.nil_append, Nat.reduceSub]
      repeat' (first | with_reducible exact e1 | with_reducible exact e2 | with_reducible exact e3 | with_reducible exact e4 | with_reducible exact e5 | decreasing_trivial_pre_omega | rfl)
end KI
set_option maxHeartbeats 4100000
namespace KI
open PySem MP
local macro_rules | `(tactic| decreasing_trivial_pre_omega) => `(tactic| first
  | simp only [List.map_nil, List.append_nil, List.nil_append, List.cons_append, List.map_cons, List.set_cons_zero, List.set_cons_succ, List.length_nil]
  | with_reducible exact ev_cst | with_reducible apply ev_cel | with_reducible apply ev_var | with_reducible apply ev_bin | with_reducible apply ev_cmp | with_reducible apply ev_ix | with_reducible apply ev_nt | with_reducible apply ev_an | with_reducible apply ev_orr
  | with_reducible apply ev_ife | with_reducible apply ev_cmp2 | with_reducible apply ev_cmp2b | with_reducible apply ev_tup | with_reducible apply ev_lst | with_reducible exact ev_dis | with_reducible apply ev_neg | with_reducible apply ev_sl
  | with_reducible exact eo_none | with_reducible apply eo_some | with_reducible apply ev_call | with_reducible apply ev_blt | with_reducible apply ev_mth | with_reducible apply ev_isi | with_reducible apply ev_lc
  | with_reducible exact ec_nil | with_reducible apply ec_one | with_reducible exact es_nil | with_reducible apply es_cons | with_reducible apply sr_it | with_reducible apply sr_rng1 | with_reducible apply sr_rng2 | with_reducible apply sr_enm | with_reducible apply sr_zp
  | with_reducible apply pick_t | with_reducible apply pick_f | refine pick_tE (by rfl) ?_ | refine pick_fE (by rfl) ?_ | with_reducible apply nx_nx | with_reducible exact nx_rt | with_reducible exact nx_bk | with_reducible exact nx_ct | with_reducible exact ss_nil | with_reducible apply ss_cons | with_reducible apply s_asg | with_reducible apply s_own
  | with_reducible apply s_unp | with_reducible apply s_par | with_reducible apply s_set | with_reducible apply s_ex | with_reducible apply s_iff | with_reducible apply s_ret | with_reducible exact s_retN | with_reducible exact s_pss | with_reducible exact s_brk | with_reducible exact s_cnt
  | with_reducible apply s_fr | with_reducible apply fo_items | with_reducible exact fo_nil | with_reducible apply fo_cons | with_reducible apply frF_ok | with_reducible apply nf_nx | with_reducible apply nf_ct | with_reducible exact nf_rt | with_reducible exact nf_bk
  | with_reducible apply ga_items | with_reducible exact ga_nil | with_reducible apply ng_none | with_reducible apply ng_some | with_reducible apply lcF_ok | with_reducible apply lcE | with_reducible apply ga_cons)
/-! kind_instance: a stack of pairs -/
abbrev pd (p : Kd × Kd) : D := .tuple [p.1.d, p.2.d]
abbrev stP (S : List (Kd × Kd)) : Cell := .lst (S.reverse.map fun p => W.d (pd p))
def GP (S : List (Kd × Kd)) : Prop := ∀ p ∈ S, Gd p.1 ∧ Gd p.2
theorem pd_shaped (p : Kd × Kd) (h : Gd p.1 ∧ Gd p.2) : PyData.canLay0 (pd p) = true ∧ (pd p).depth ≤ 62 := by
  have h1 := kd_lay p.1 h.1.1
  have h2 := kd_lay p.2 h.2.1
  have d1 := kd_depth p.1
  have d2 := kd_depth p.2
  have d3 := h.1.2
  have d4 := h.2.2
  simp only [PyData.canLay0, PyData.canLayAll0, h1, h2, Bool.and_self, true_and, PyData.depth, PyData.depthAll]
  omega
theorem layP : ∀ L : List (Kd × Kd), GP L → PyData.canLayAll0 (L.map pd) = true ∧ PyData.depthAll (L.map pd) ≤ 62
  | [], _ => ⟨rfl, Nat.zero_le _⟩
  | p :: r, h => by
    have h1 := pd_shaped p (h p (List.mem_cons_self ..))
    have h2 := layP r fun x hx => h x (List.mem_cons_of_mem _ hx)
    simp only [List.map_cons, PyData.canLayAll0, PyData.depthAll, h1.1, h2.1, Bool.and_self, true_and]
    have a := h1.2
    have b := h2.2
    show max (pd p).depth (PyData.depthAll (r.map pd)) ≤ 62
    omega
theorem datas_P : ∀ L : List (Kd × Kd), datas (L.map fun p => W.d (pd p)) = some (L.map pd)
  | [] => rfl
  | p :: r => by
    show (datas (r.map fun p => W.d (pd p))).map (pd p :: ·) = _
    rw [datas_P r]; rfl
theorem stP_ne {st : Sto} {i : Nat} (S : List (Kd × Kd)) (h : st[i]? = some (stP S)) (hS : GP S) : cmpV .NotEq st (.w (.ref i)) (.fl []) = some (!S.isEmpty) := by
  have hd : dataOf st (.w (.ref i)) = some (.list (S.reverse.map pd)) := by
    simp only [dataOf, h, datas_P, Option.map_some]
  have hL := layP S.reverse fun k hk => hS k (List.mem_reverse.mp hk)
  have hs : SeqAt.shaped (.list (S.reverse.map pd)) = true := by
    unfold SeqAt.shaped
    simp only [PyData.canLay0, PyData.depth, hL.1, Bool.true_and]
    exact decide_eq_true (by have := hL.2; omega)
  have hn : SeqAt.shaped (.list []) = true := by decide +kernel
  show ((dataOf st (.w (.ref i))).bind fun d => (dataOf st (.fl [])).bind fun e => (eqD d e).map (!·)) = _
  have hd2 : dataOf st (.fl []) = some (.list []) := rfl
  rw [hd, Option.bind_some, hd2, Option.bind_some]
  unfold eqD
  rw [hs, hn]
  simp only [Bool.and_self, Bool.or_true, if_true, Option.map_some]
  congr 1
  cases S with
  | nil => rfl
  | cons k r =>
    have : ∃ a b, ((k :: r).reverse.map pd) = a :: b := by
      cases q : (k :: r).reverse.map pd with
      | nil => simp at q
      | cons a b => exact ⟨a, b, rfl⟩
    obtain ⟨a, b, e⟩ := this
    rw [e]
    rfl
theorem stP_pop {st : Sto} {i : Nat} (p : Kd × Kd) (S : List (Kd × Kd)) (h : st[i]? = some (stP (p :: S))) : mthV .pop st (.w (.ref i)) [] = some (.w (.d (pd p)), st.set i (stP S)) := by
  show (match st[i]? with
    | some (.lst xs) => xs.getLast?.map fun x => (Val.w x, st.set i (.lst xs.dropLast))
    | _ => none) = _
  rw [h]
  have e : ((p :: S).reverse.map fun p => W.d (pd p)) = (S.reverse.map fun p => W.d (pd p)) ++ [W.d (pd p)] := by simp
  dsimp only [stP]
  rw [e]
  simp
theorem stP_recv {st : Sto} {i : Nat} (S : List (Kd × Kd)) (h : st[i]? = some (stP S)) : recvOk .pop st (.w (.ref i)) = true := by
  show (match st[i]? with
    | some (.lst _) => true
    | _ => false) = true
  rw [h]
theorem zipW_is : ∀ L M : List Kd, zipW (L.map Kd.d) (M.map Kd.d) = (L.zip M).map fun p => W.d (pd p)
  | [], M => by cases M <;> rfl
  | k :: L, [] => rfl
  | k :: L, l :: M => by
    simp only [List.map_cons, zipW, List.zip_cons_cons, zipW_is L M]
theorem stP_aug {st : Sto} {i : Nat} (ks ls : Kds) (S : List (Kd × Kd)) (h : st[i]? = some (stP S)) (hl : S.length + ks.l.length ≤ 100000) : augS .Add st (.ref i) (.fl (zipW ks.ds ls.ds)) = some (st.set i (stP ((ks.l.zip ls.l).reverse ++ S))) := by
  have e : augS .Add st (.ref i) (.fl (zipW ks.ds ls.ds)) = (match st[i]? with
    | some (.lst xs) => if xs.length + (zipW ks.ds ls.ds).length ≤ line then some (st.set i (.lst (xs ++ zipW ks.ds ls.ds))) else none
    | _ => none) := rfl
  rw [e, h]
  dsimp only [stP]
  rw [ds_l, ds_l, zipW_is, if_pos (by simp only [List.length_map, List.length_reverse, List.length_zip, line]; omega)]
  congr 3
  simp
def totP : List (Kd × Kd) → Nat
  | [] => 0
  | p :: r => p.1.sz + totP r
theorem totP_app : ∀ a b, totP (a ++ b) = totP a + totP b
  | [], b => by simp [totP]
  | k :: r, b => by simp only [List.cons_append, totP, totP_app r b]; omega
theorem totP_rev : ∀ a, totP a.reverse = totP a
  | [] => rfl
  | k :: r => by
    rw [List.reverse_cons, totP_app, totP_rev r]
    simp only [totP]; omega
theorem totP_zip : ∀ L M : List Kd, totP (L.zip M) ≤ tot L
  | [], M => by simp [totP]
  | k :: L, [] => by simp [totP]
  | k :: L, l :: M => by
    have := totP_zip L M
    simp only [List.zip_cons_cons, totP, tot]; omega
theorem len_totP : ∀ S, S.length ≤ totP S
  | [] => Nat.le_refl _
  | p :: r => by
    have h1 := sz_pos p.1
    have h2 := len_totP r
    simp only [totP, List.length_cons]; omega
theorem gp_zip (L M : List Kd) (h1 : ∀ k ∈ L, Gd k) (h2 : ∀ k ∈ M, Gd k) : GP (L.zip M) := fun p hp => ⟨h1 _ (List.of_mem_zip hp).1, h2 _ (List.of_mem_zip hp).2⟩
def insF : Nat → List (Kd × Kd) → Sg → Option Sg
  | _, [], σ => some σ
  | 0, _ :: _, _ => none
  | n + 1, (.v x, l) :: P, σ => if ek ((look σ x).getD l) l = true then insF n P (sd σ x l) else none
  | n + 1, (.n _ _, .v _) :: _, _ => none
  | n + 1, (.n f ks, .n g ls) :: P, σ => if f = g ∧ ks.l.length = ls.l.length then insF n ((ks.l.zip ls.l).reverse ++ P) σ else none
abbrev sgI (k l : D) (a b : Option W) : MP.Env := [some (.d k), some (.d l), some (.ref 0), some (.ref 1), a, b]
abbrev cI : E := .cmp .NotEq (.var 3) (.lst false [])
abbrev bI1 : S := (.unp [(.nm 4), (.nm 5)] (.mth .pop (.var 3) []))
abbrev bI2 : S := (.iff (.cmp .Eq (.ix (.var 4) (.cst (.int 0))) (.cst (.str ⟨#[63]⟩))) [(.iff (.cmp .NotEq (.mth .setdefault (.var 2) [(.ix (.var 4) (.cst (.int 1))), (.var 5)]) (.var 5)) [(.ret (some (.cst PyData.none)))] [])] [(.iff (.orr (.cmp .Eq (.ix (.var 5) (.cst (.int 0))) (.cst (.str ⟨#[63]⟩))) (.orr (.cmp .NotEq (.ix (.var 4) (.cst (.int 0))) (.ix (.var 5) (.cst (.int 0)))) (.cmp .NotEq (.blt .len [(.ix (.var 4) (.cst (.int 1)))]) (.blt .len [(.ix (.var 5) (.cst (.int 1)))])))) [(.ret (some (.cst PyData.none)))] [(.aug 3 .Add (.blt .lzip [(.ix (.var 4) (.cst (.int 1))), (.ix (.var 5) (.cst (.int 1)))]))])])
abbrev bI : List S := [bI1, bI2]
theorem cond_I (C : CE) (k l : D) (a b : Option W) (σ : Sg) (S : List (Kd × Kd)) (hS : GP S) : evE C cI (sgI k l a b) [dc σ, stP S] = .ok (vBool (!S.isEmpty)) [dc σ, stP S] := by
  have h1 := stP_ne (st := [dc σ, stP S]) (i := 1) S rfl hS
  exact ev_cmp (ev_var rfl) (ev_lst es_nil rfl rfl) h1
theorem pop_I (C : CE) (k l : D) (a b : Option W) (σ : Sg) (p : Kd × Kd) (S : List (Kd × Kd)) : evS C bI1 (sgI k l a b) [dc σ, stP (p :: S)] = .ok (.nx (sgI k l (some (.d p.1.d)) (some (.d p.2.d)))) [dc σ, stP S] := by
  have hp := stP_pop (st := [dc σ, stP (p :: S)]) (i := 1) p S rfl
  have hr := stP_recv (st := [dc σ, stP (p :: S)]) (i := 1) (p :: S) rfl
  have hx : evE C (.mth .pop (.var 3) []) (sgI k l a b) [dc σ, stP (p :: S)] = .ok (.w (.d (pd p))) [dc σ, stP S] := ev_mth (r := (.w (.d (pd p)), [dc σ, stP S])) (ev_var rfl) hr es_nil hp
  exact s_unp hx rfl
def insS : (Kd × Kd) → List (Kd × Kd) → Sg → Option (List (Kd × Kd) × Sg)
  | (.v x, l), P, σ => if ek ((look σ x).getD l) l = true then some (P, sd σ x l) else none
  | (.n _ _, .v _), _, _ => none
  | (.n f ks, .n g ls), P, σ => if f = g ∧ ks.l.length = ls.l.length then some ((ks.l.zip ls.l).reverse ++ P, σ) else none
theorem insF_S (n : Nat) (p : Kd × Kd) (P : List (Kd × Kd)) (σ : Sg) : insF (n + 1) (p :: P) σ = (insS p P σ).bind fun r => insF n r.1 r.2 := by
  obtain ⟨k, l⟩ := p
  cases k with
  | v x =>
    simp only [insF, insS]
    split <;> rfl
  | n f ks =>
    cases l with
    | v y => rfl
    | n g ls =>
      simp only [insF, insS]
      split <;> rfl
theorem insS_facts (p : Kd × Kd) (P : List (Kd × Kd)) (σ : Sg) (r) (hp : Gd p.1 ∧ Gd p.2) (hP : GP P) (hg : Gs σ) (h : insS p P σ = some r) : GP r.1 ∧ Gs r.2 ∧ totP r.1 + 1 ≤ totP (p :: P) ∧ r.2.length ≤ σ.length + 1 := by
  obtain ⟨k, l⟩ := p
  cases k with
  | v x =>
    simp only [insS] at h
    split at h
    · cases h
      refine ⟨hP, gs_sd hg hp.2, ?_, sd_len σ x l⟩
      simp only [totP, Kd.sz]; omega
    · cases h
  | n f ks =>
    cases l with
    | v y => cases h
    | n g ls =>
      simp only [insS] at h
      split at h
      · cases h
        refine ⟨?_, hg, ?_, Nat.le_succ _⟩
        · intro q hq
          obtain hq | hq := List.mem_append.mp hq
          · exact gp_zip ks.l ls.l (gd_l f ks hp.1) (gd_l g ls hp.2) q (List.mem_reverse.mp hq)
          · exact hP q hq
        · have := totP_zip ks.l ls.l
          rw [totP_app, totP_rev]
          rw [tot_l] at this
          simp only [totP, Kd.sz]; omega
      · cases h
theorem body_I (C : CE) (k l : D) (p : Kd × Kd) (σ : Sg) (P : List (Kd × Kd)) (hp : Gd p.1 ∧ Gd p.2) (hP : GP P) (hg : Gs σ) (h1 : totP (p :: P) ≤ 50000) (h2 : σ.length ≤ 50000) :
    (match insS p P σ with
    | none => ∃ st, evSs C [bI2] (sgI k l (some (.d p.1.d)) (some (.d p.2.d))) [dc σ, stP P] = .ok (.rt vNone) st
    | some r => evSs C [bI2] (sgI k l (some (.d p.1.d)) (some (.d p.2.d))) [dc σ, stP P] = .ok (.nx (sgI k l (some (.d p.1.d)) (some (.d p.2.d)))) [dc r.2, stP r.1]) := by
  obtain ⟨a, b⟩ := p
  have hlt := len_totP P
  simp only [totP] at h1
  have e1 := hd_ix [dc σ, stP P] a
  cases a with
  | v x =>
    have e2 := hd_v [dc σ, stP P] x
    have e3 : ixV [dc σ, stP P] (.w (.d (Kd.v x).d)) (vInt 1) = some (.w (.d (keyD x))) := rfl
    have hm := setd_V (st := [dc σ, stP P]) (r := 0) (σ := σ) rfl x b (by omega)
    have hr := setd_R (st := [dc σ, stP P]) (r := 0) (σ := σ) rfl
    have hx : evE C (.mth .setdefault (.var 2) [(.ix (.var 4) (.cst (.int 1))), (.var 5)]) (sgI k l (some (.d (Kd.v x).d)) (some (.d b.d))) [dc σ, stP P] = .ok (.w (.d ((look σ x).getD b).d)) [dc (sd σ x b), stP P] :=
      ev_mth (r := (.w (.d ((look σ x).getD b).d), [dc (sd σ x b), stP P])) (ev_var rfl) hr (es_cons (ev_ix (ev_var rfl) ev_cst e3) (es_cons (ev_var rfl) es_nil)) hm
    have e6 := ne_kd [dc (sd σ x b), stP P] ((look σ x).getD b) b (gd_got hg hp.2) hp.2
    have hc : evE C (.cmp .NotEq (.mth .setdefault (.var 2) [(.ix (.var 4) (.cst (.int 1))), (.var 5)]) (.var 5)) (sgI k l (some (.d (Kd.v x).d)) (some (.d b.d))) [dc σ, stP P] = .ok (vBool (!ek ((look σ x).getD b) b)) [dc (sd σ x b), stP P] := ev_cmp hx (ev_var rfl) e6
    have h0 : evE C (.cmp .Eq (.ix (.var 4) (.cst (.int 0))) (.cst (.str ⟨#[63]⟩))) (sgI k l (some (.d (Kd.v x).d)) (some (.d b.d))) [dc σ, stP P] = .ok (vBool true) [dc σ, stP P] := ev_cmp (ev_ix (ev_var rfl) ev_cst e1) ev_cst e2
    simp only [insS]
    by_cases hek : ek ((look σ x).getD b) b = true
    · rw [if_pos hek]
      rw [hek] at hc
      exact ss_cons (s_iff h0 rfl (pick_t (ss_cons (s_iff hc rfl (pick_f ss_nil)) (nx_nx ss_nil)))) (nx_nx ss_nil)
    · rw [if_neg hek]
      rw [Bool.not_eq_true] at hek
      rw [hek] at hc
      exact ⟨_, ss_cons (s_iff h0 rfl (pick_t (ss_cons (s_iff hc rfl (pick_t (ss_cons (s_ret ev_cst) nx_rt))) nx_rt))) nx_rt⟩
  | n f ks =>
    have e2 := hd_n [dc σ, stP P] f ks hp.1.1.1.1
    have h0 : evE C (.cmp .Eq (.ix (.var 4) (.cst (.int 0))) (.cst (.str ⟨#[63]⟩))) (sgI k l (some (.d (Kd.n f ks).d)) (some (.d b.d))) [dc σ, stP P] = .ok (vBool false) [dc σ, stP P] := ev_cmp (ev_ix (ev_var rfl) ev_cst e1) ev_cst e2
    have e3 := hd_ix [dc σ, stP P] b
    cases b with
    | v y =>
      have e4 := hd_v [dc σ, stP P] y
      have h5 : evE C (.cmp .Eq (.ix (.var 5) (.cst (.int 0))) (.cst (.str ⟨#[63]⟩))) (sgI k l (some (.d (Kd.n f ks).d)) (some (.d (Kd.v y).d))) [dc σ, stP P] = .ok (vBool true) [dc σ, stP P] := ev_cmp (ev_ix (ev_var rfl) ev_cst e3) ev_cst e4
      exact ⟨_, ss_cons (s_iff h0 rfl (pick_f (ss_cons (s_iff (ev_orr h5 rfl (pick_t rfl)) rfl (pick_t (ss_cons (s_ret ev_cst) nx_rt))) nx_rt))) nx_rt⟩
    | n g ls =>
      have e4 := hd_n [dc σ, stP P] g ls hp.2.1.1.1
      have h5 : evE C (.cmp .Eq (.ix (.var 5) (.cst (.int 0))) (.cst (.str ⟨#[63]⟩))) (sgI k l (some (.d (Kd.n f ks).d)) (some (.d (Kd.n g ls).d))) [dc σ, stP P] = .ok (vBool false) [dc σ, stP P] := ev_cmp (ev_ix (ev_var rfl) ev_cst e3) ev_cst e4
      have e5 : cmpV .NotEq [dc σ, stP P] (vStr (Kd.n f ks).hd) (vStr (Kd.n g ls).hd) = some (!decide (f = g)) := ne_str _ f g
      have h6 : evE C (.cmp .NotEq (.ix (.var 4) (.cst (.int 0))) (.ix (.var 5) (.cst (.int 0)))) (sgI k l (some (.d (Kd.n f ks).d)) (some (.d (Kd.n g ls).d))) [dc σ, stP P] = .ok (vBool (!decide (f = g))) [dc σ, stP P] := ev_cmp (ev_ix (ev_var rfl) ev_cst e1) (ev_ix (ev_var rfl) ev_cst e3) e5
      have i1 : ixV [dc σ, stP P] (.w (.d (Kd.n f ks).d)) (vInt 1) = some (vTup ks.ds) := rfl
      have i2 : ixV [dc σ, stP P] (.w (.d (Kd.n g ls).d)) (vInt 1) = some (vTup ls.ds) := rfl
      have n1 := len_ds [dc σ, stP P] ks
      have n2 := len_ds [dc σ, stP P] ls
      have n3 := ne_nat [dc σ, stP P] ks.l.length ls.l.length
      have h7 : evE C (.cmp .NotEq (.blt .len [(.ix (.var 4) (.cst (.int 1)))]) (.blt .len [(.ix (.var 5) (.cst (.int 1)))])) (sgI k l (some (.d (Kd.n f ks).d)) (some (.d (Kd.n g ls).d))) [dc σ, stP P] = .ok (vBool (decide (ks.l.length ≠ ls.l.length))) [dc σ, stP P] :=
        ev_cmp (ev_blt (es_cons (ev_ix (ev_var rfl) ev_cst i1) es_nil) n1) (ev_blt (es_cons (ev_ix (ev_var rfl) ev_cst i2) es_nil) n2) n3
      simp only [insS]
      by_cases hf : f = g
      · rw [decide_eq_true hf] at h6
        by_cases hn : ks.l.length = ls.l.length
        · rw [if_pos ⟨hf, hn⟩]
          rw [decide_eq_false (by omega)] at h7
          have hll := l_szs ks
          simp only [Kd.sz] at h1
          have e9 := stP_aug (st := [dc σ, stP P]) (i := 1) ks ls P rfl (by omega)
          have hz : bltV .lzip [dc σ, stP P] [vTup ks.ds, vTup ls.ds] = some (.fl (zipW ks.ds ls.ds)) := rfl
          have h8 : evS C (.aug 3 .Add (.blt .lzip [(.ix (.var 4) (.cst (.int 1))), (.ix (.var 5) (.cst (.int 1)))])) (sgI k l (some (.d (Kd.n f ks).d)) (some (.d (Kd.n g ls).d))) [dc σ, stP P] = .ok (.nx (sgI k l (some (.d (Kd.n f ks).d)) (some (.d (Kd.n g ls).d)))) [dc σ, stP ((ks.l.zip ls.l).reverse ++ P)] :=
            s_augL (w := .ref 1) rfl (ev_blt (es_cons (ev_ix (ev_var rfl) ev_cst i1) (es_cons (ev_ix (ev_var rfl) ev_cst i2) es_nil)) hz) rfl e9
          exact ss_cons (s_iff h0 rfl (pick_f (ss_cons (s_iff (ev_orr h5 rfl (pick_f (ev_orr h6 rfl (pick_f h7)))) rfl (pick_f (ss_cons h8 (nx_nx ss_nil)))) (nx_nx ss_nil)))) (nx_nx ss_nil)
        · rw [if_neg (fun h => hn h.2)]
          rw [decide_eq_true hn] at h7
          exact ⟨_, ss_cons (s_iff h0 rfl (pick_f (ss_cons (s_iff (ev_orr h5 rfl (pick_f (ev_orr h6 rfl (pick_f h7)))) rfl (pick_t (ss_cons (s_ret ev_cst) nx_rt))) nx_rt))) nx_rt⟩
      · rw [if_neg (fun h => hf h.1)]
        rw [decide_eq_false hf] at h6
        exact ⟨_, ss_cons (s_iff h0 rfl (pick_f (ss_cons (s_iff (ev_orr h5 rfl (pick_f (ev_orr h6 rfl (pick_t rfl)))) rfl (pick_t (ss_cons (s_ret ev_cst) nx_rt))) nx_rt))) nx_rt⟩
theorem body_I2 (C : CE) (k l : D) (a b : Option W) (p : Kd × Kd) (σ : Sg) (P : List (Kd × Kd)) {o : Fl} {st : Sto} (h : evSs C [bI2] (sgI k l (some (.d p.1.d)) (some (.d p.2.d))) [dc σ, stP P] = .ok o st) : evSs C bI (sgI k l a b) [dc σ, stP (p :: P)] = .ok o st :=
  ss_cons (pop_I C k l a b σ p P) (nx_nx h)
theorem loop_I (C : CE) (k l : D) : ∀ (fu : Nat) (P : List (Kd × Kd)) (σ : Sg) (a b : Option W), GP P → Gs σ → totP P < fu → totP P ≤ 50000 → σ.length + totP P ≤ 50000 →
    (match insF fu P σ with
    | none => ∃ st, whileL (evB C cI) (evSs C bI) fu (sgI k l a b) [dc σ, stP P] = .ok (.rt vNone) st
    | some τ => ∃ a' b', whileL (evB C cI) (evSs C bI) fu (sgI k l a b) [dc σ, stP P] = .ok (.nx (sgI k l a' b')) [dc τ, stP []])
  | 0, P, σ, a, b, hP, hg, hf, ht, hs => by omega
  | fu + 1, [], σ, a, b, hP, hg, hf, ht, hs => by
    have hcnd := cond_I C k l a b σ [] hP
    simp only [insF]
    exact ⟨a, b, wl_f hcnd rfl⟩
  | fu + 1, p :: P, σ, a, b, hP, hg, hf, ht, hs => by
    have hcnd := cond_I C k l a b σ (p :: P) hP
    have hp := hP p (List.mem_cons_self ..)
    have hP' : GP P := fun x hx => hP x (List.mem_cons_of_mem _ hx)
    have hb := body_I C k l p σ P hp hP' hg ht (by omega)
    rw [insF_S]
    cases q : insS p P σ with
    | none =>
      rw [q] at hb
      obtain ⟨st, hb⟩ := hb
      exact ⟨st, wl_r hcnd rfl (body_I2 C k l a b p σ P hb)⟩
    | some r =>
      rw [q] at hb
      have hf2 := insS_facts p P σ r hp hP' hg q
      have ih := loop_I C k l fu r.1 r.2 (some (.d p.1.d)) (some (.d p.2.d)) hf2.1 hf2.2.1 (by have := hf2.2.2.1; omega) (by have := hf2.2.2.1; omega) (by have := hf2.2.2.1; have := hf2.2.2.2; omega)
      rw [Option.bind_some]
      cases q2 : insF fu r.1 r.2 with
      | none =>
        rw [q2] at ih
        obtain ⟨st, ih⟩ := ih
        exact ⟨st, wl_t hcnd rfl (body_I2 C k l a b p σ P hb) ih⟩
      | some τ =>
        rw [q2] at ih
        obtain ⟨a', b', ih⟩ := ih
        exact ⟨a', b', wl_t hcnd rfl (body_I2 C k l a b p σ P hb) ih⟩
abbrev fdS (σ : Sg) : Val := .fd (σ.map fun p => (keyD p.1, W.d p.2.d))
def insV (k l : Kd) : Val := match insF lfN [(k, l)] [] with
  | none => vNone
  | some σ => fdS σ
theorem ins_run (n : Nat) (k l : Kd) (hk : Gd k) (hl : Gd l) (hz : k.sz ≤ 9000) : ∃ v st, Rn (n + 1) 6 [.d k.d, .d l.d] [] = .ok v st ∧ valBelow 0 st v = some (insV k l) := by
  have hq := loop_I (CN n) k.d l.d lfN [(k, l)] [] none none (fun x hx => by rw [List.mem_singleton] at hx; rw [hx]; exact ⟨hk, hl⟩) (fun p hp => by cases hp) (by simp only [totP]; show _ < 10000; omega) (by simp only [totP]; omega) (by simp only [totP, List.length_nil]; omega)
  have h0 : evS (CN n) (.par 2 3 (.cel (.dis [])) (.cel (.lst false [(.tup [(.var 0), (.var 1)])]))) [some (.d k.d), some (.d l.d), none, none, none, none] [] = .ok (.nx (sgI k.d l.d none none)) [dc [], stP [(k, l)]] :=
    s_par (ev_cel ev_dis rfl) (ev_cel (ev_lst (es_cons (ev_tup (es_cons (ev_var rfl) (es_cons (ev_var rfl) es_nil)) rfl rfl) es_nil) rfl rfl) rfl) rfl rfl
  unfold insV
  cases q : insF lfN [(k, l)] [] with
  | none =>
    rw [q] at hq
    obtain ⟨st, hq⟩ := hq
    refine ⟨vNone, st, ?_, rfl⟩
    apply run_fn (fn := f6) rfl rfl rfl
    exact ss_cons h0 (nx_nx (ss_cons (s_wh hq) nx_rt))
  | some τ =>
    rw [q] at hq
    obtain ⟨a', b', hq⟩ := hq
    refine ⟨.w (.ref 0), [dc τ, stP []], ?_, ?_⟩
    · apply run_fn (fn := f6) rfl rfl rfl
      exact ss_cons h0 (nx_nx (ss_cons (s_wh hq) (nx_nx (ss_cons (s_ret (ev_var rfl)) nx_rt))))
    · show (if (τ.map fun p => (keyD p.1, W.d p.2.d)).all (fun kv => kv.2.below 0) then some (Val.fd (τ.map fun p => (keyD p.1, W.d p.2.d))) else none) = _
      have hb : ((τ.map fun p => (keyD p.1, W.d p.2.d)).all fun kv => W.below 0 kv.2) = true := dc_below 0 τ
      rw [if_pos hb]
theorem ins_call (n : Nat) (st : Sto) (k l : Kd) (hk : Gd k) (hl : Gd l) (hz : k.sz ≤ 9000) : callV (CN (n + 1)) 6 [.d k.d, .d l.d] st = .ok (insV k l) st := by
  obtain ⟨v, s1, h1, h2⟩ := ins_run n k l hk hl hz
  exact cl_pure rfl h1 h2
theorem gen_run (n : Nat) (k l : Kd) (hk : Gd k) (hl : Gd l) (hz : k.sz ≤ 9000) : Rn (n + 2) 7 [.d k.d, .d l.d] [] = .ok (vBool (insF lfN [(k, l)] []).isSome) [] := by
  have h := ins_call n [] k l hk hl hz
  have e : cmpV .IsNot [] (insV k l) vNone = some (insF lfN [(k, l)] []).isSome := by
    unfold insV
    cases insF lfN [(k, l)] [] <;> rfl
  apply run_fn (n := n + 1) (fn := f7) rfl rfl rfl
  exact ss_cons (s_ret (ev_cmp (ev_call (es_cons (ev_var rfl) (es_cons (ev_var rfl) es_nil)) rfl h) ev_cst e)) nx_rt
end KI
set_option maxHeartbeats 4100000
namespace KI
open PySem MP
/-! both ways of putting kinds for letters tell the same -/
def Sub (σ : Sg) (φ : Ky → Option Kd) : Prop := ∀ x v, look σ x = some v → φ x = some v
theorem Sub.rfl {σ : Sg} : Sub σ (look σ) := fun _ _ h => h
mutual
def Sol (φ : Ky → Option Kd) : Kd → Kd → Prop
  | .v x, l => φ x = some l
  | .n _ _, .v _ => False
  | .n f ks, .n g ls => f = g ∧ Sols φ ks ls
def Sols (φ : Ky → Option Kd) : Kds → Kds → Prop
  | .nil, .nil => True
  | .cons k r, .cons l q => Sol φ k l ∧ Sols φ r q
  | .nil, .cons _ _ => False
  | .cons _ _, .nil => False
end
mutual
theorem sol_up {φ ψ : Ky → Option Kd} (h : ∀ x v, φ x = some v → ψ x = some v) : ∀ k l, Sol φ k l → Sol ψ k l
  | .v x, l, q => h x l q
  | .n f ks, .v y, q => q
  | .n f ks, .n g ls, q => ⟨q.1, sols_up h ks ls q.2⟩
theorem sols_up {φ ψ : Ky → Option Kd} (h : ∀ x v, φ x = some v → ψ x = some v) : ∀ ks ls, Sols φ ks ls → Sols ψ ks ls
  | .nil, .nil, q => q
  | .cons k r, .cons l p, q => ⟨sol_up h k l q.1, sols_up h r p q.2⟩
  | .nil, .cons _ _, q => q
  | .cons _ _, .nil, q => q
end
theorem sols_zip {φ : Ky → Option Kd} : ∀ ks ls : Kds, Sols φ ks ls ↔ ks.l.length = ls.l.length ∧ ∀ p ∈ ks.l.zip ls.l, Sol φ p.1 p.2
  | .nil, .nil => by simp [Sols, Kds.l]
  | .cons k r, .cons l q => by
    simp only [Sols, Kds.l, List.length_cons, List.zip_cons_cons, List.forall_mem_cons, sols_zip r q, Nat.add_right_cancel_iff]
    constructor
    · rintro ⟨a, b, c⟩; exact ⟨b, a, c⟩
    · rintro ⟨a, b, c⟩; exact ⟨b, a, c⟩
  | .nil, .cons _ _ => by simp [Sols, Kds.l]
  | .cons _ _, .nil => by simp [Sols, Kds.l]
theorem ek_iff {k l : Kd} (hk : Gd k) (hl : Gd l) : ek k l = true ↔ k = l := eqv_kd k l hk.1 hl.1
theorem sd_mono (σ : Sg) (x : Ky) (k : Kd) : ∀ y v, look σ y = some v → look (sd σ x k) y = some v := by
  intro y v h
  unfold sd
  cases q : look σ x with
  | some w => exact h
  | none => simp only [look_app, h]
theorem sd_inv {σ : Sg} {x : Ky} {k : Kd} {φ : Ky → Option Kd} (h : Sub σ φ) (hx : φ x = some k) : Sub (sd σ x k) φ := by
  intro y v hy
  unfold sd at hy
  cases q : look σ x with
  | some w => rw [q] at hy; exact h y v hy
  | none =>
    rw [q] at hy
    simp only [look_app] at hy
    cases q2 : look σ y with
    | some w => rw [q2] at hy; exact h y v (by rw [q2]; exact hy)
    | none =>
      rw [q2] at hy
      dsimp only at hy
      by_cases e : x = y
      · rw [if_pos e] at hy; subst e; rw [hx]; exact hy
      · rw [if_neg e] at hy; cases hy
mutual
theorem bec_mono : ∀ (k l : Kd) (σ : Sg) (y : Ky) (v : Kd), look σ y = some v → look (bec σ k l).1 y = some v
  | .v x, l, σ, y, v, h => sd_mono σ x l y v h
  | .n f ks, .v z, σ, y, v, h => h
  | .n f ks, .n g ls, σ, y, v, h => by
    simp only [bec]
    split
    · exact h
    · exact becs_mono ks ls σ y v h
theorem becs_mono : ∀ (ks ls : Kds) (σ : Sg) (y : Ky) (v : Kd), look σ y = some v → look (becs σ ks ls).1 y = some v
  | .nil, _, σ, y, v, h => h
  | .cons k r, .nil, σ, y, v, h => h
  | .cons k r, .cons l q, σ, y, v, h => becs_mono r q _ y v (bec_mono k l σ y v h)
end
mutual
theorem bec_sound : ∀ (k l : Kd) (σ : Sg), Gs σ → Gd l → (bec σ k l).2 = true → Sol (look (bec σ k l).1) k l
  | .v x, l, σ, hg, hl, h => by
    have e : (look σ x).getD l = l := (ek_iff (gd_got hg hl) hl).mp h
    show look (sd σ x l) x = some l
    rw [look_sd, e]
  | .n f ks, .v z, σ, hg, hl, h => by cases h
  | .n f ks, .n g ls, σ, hg, hl, h => by
    simp only [bec] at h ⊢
    split at h
    · cases h
    · rename_i hn
      rw [if_neg hn]
      have hf : f = g := Classical.byContradiction fun c => hn (.inl c)
      have hlen : ks.l.length = ls.l.length := Classical.byContradiction fun c => hn (.inr c)
      exact ⟨hf, becs_sound ks ls σ hg (gd_l g ls hl) hlen h⟩
theorem becs_sound : ∀ (ks ls : Kds) (σ : Sg), Gs σ → (∀ l ∈ ls.l, Gd l) → ks.l.length = ls.l.length → (becs σ ks ls).2 = true → Sols (look (becs σ ks ls).1) ks ls
  | .nil, .nil, σ, hg, hl, hn, h => trivial
  | .cons k r, .cons l q, σ, hg, hl, hn, h => by
    simp only [becs, Bool.and_eq_true] at h ⊢
    have h1 := bec_sound k l σ hg (hl l (by simp [Kds.l])) h.1
    have g1 := bec_gs k l σ hg (hl l (by simp [Kds.l]))
    have h2 := becs_sound r q (bec σ k l).1 g1.1 (fun x hx => hl x (by simp [Kds.l, hx])) (by simpa [Kds.l] using hn) h.2
    exact ⟨sol_up (becs_mono r q _) k l h1, h2⟩
  | .nil, .cons _ _, σ, hg, hl, hn, h => by simp [Kds.l] at hn
  | .cons _ _, .nil, σ, hg, hl, hn, h => by simp [Kds.l] at hn
end
mutual
theorem bec_compl {φ : Ky → Option Kd} : ∀ (k l : Kd) (σ : Sg), Gs σ → Gd l → Sub σ φ → Sol φ k l → (bec σ k l).2 = true ∧ Sub (bec σ k l).1 φ
  | .v x, l, σ, hg, hl, hs, h => by
    have hx : φ x = some l := h
    refine ⟨?_, sd_inv hs hx⟩
    show ek ((look σ x).getD l) l = true
    refine (ek_iff (gd_got hg hl) hl).mpr ?_
    cases q : look σ x with
    | none => rfl
    | some v =>
      have := hs x v q
      rw [hx] at this
      cases this; rfl
  | .n f ks, .v z, σ, hg, hl, hs, h => h.elim
  | .n f ks, .n g ls, σ, hg, hl, hs, h => by
    have hz := (sols_zip ks ls).mp h.2
    simp only [bec]
    rw [if_neg (by rintro (c | c); exact c h.1; exact c hz.1)]
    exact becs_compl ks ls σ hg (gd_l g ls hl) hs h.2
theorem becs_compl {φ : Ky → Option Kd} : ∀ (ks ls : Kds) (σ : Sg), Gs σ → (∀ l ∈ ls.l, Gd l) → Sub σ φ → Sols φ ks ls → (becs σ ks ls).2 = true ∧ Sub (becs σ ks ls).1 φ
  | .nil, .nil, σ, hg, hl, hs, h => ⟨rfl, hs⟩
  | .cons k r, .cons l q, σ, hg, hl, hs, h => by
    have h1 := bec_compl k l σ hg (hl l (by simp [Kds.l])) hs h.1
    have g1 := bec_gs k l σ hg (hl l (by simp [Kds.l]))
    have h2 := becs_compl r q (bec σ k l).1 g1.1 (fun x hx => hl x (by simp [Kds.l, hx])) h1.2 h.2
    exact ⟨by simp only [becs, h1.1, h2.1, Bool.and_self], h2.2⟩
  | .nil, .cons _ _, σ, hg, hl, hs, h => h.elim
  | .cons _ _, .nil, σ, hg, hl, hs, h => h.elim
end
theorem ins_sound : ∀ (n : Nat) (P : List (Kd × Kd)) (σ τ : Sg), GP P → Gs σ → insF n P σ = some τ → (∀ x v, look σ x = some v → look τ x = some v) ∧ ∀ p ∈ P, Sol (look τ) p.1 p.2
  | n, [], σ, τ, hP, hg, h => by
    have h : some σ = some τ := by cases n <;> exact h
    cases h
    exact ⟨fun _ _ h => h, fun p hp => by cases hp⟩
  | 0, p :: P, σ, τ, hP, hg, h => by cases h
  | n + 1, p :: P, σ, τ, hP, hg, h => by
    rw [insF_S] at h
    have hP' : GP P := fun x hx => hP x (List.mem_cons_of_mem _ hx)
    have hp := hP p (List.mem_cons_self ..)
    cases q : insS p P σ with
    | none => rw [q] at h; cases h
    | some r =>
      rw [q, Option.bind_some] at h
      have hf := insS_facts p P σ r hp hP' hg q
      have ih := ins_sound n r.1 r.2 τ hf.1 hf.2.1 h
      obtain ⟨k, l⟩ := p
      cases k with
      | v x =>
        simp only [insS] at q
        split at q
        · rename_i he
          cases q
          have e : (look σ x).getD l = l := (ek_iff (gd_got hg hp.2) hp.2).mp he
          refine ⟨fun y v hy => ih.1 y v (sd_mono σ x l y v hy), ?_⟩
          intro p hp
          obtain rfl | hp := List.mem_cons.mp hp
          · exact ih.1 x l (by rw [look_sd, e])
          · exact ih.2 p hp
        · cases q
      | n f ks =>
        cases l with
        | v y => cases q
        | n g ls =>
          simp only [insS] at q
          split at q
          · rename_i hn
            cases q
            refine ⟨ih.1, ?_⟩
            intro p hp
            obtain rfl | hp := List.mem_cons.mp hp
            · exact ⟨hn.1, (sols_zip ks ls).mpr ⟨hn.2, fun p hp => ih.2 p (List.mem_append_left _ (List.mem_reverse.mpr hp))⟩⟩
            · exact ih.2 p (List.mem_append_right _ hp)
          · cases q
theorem ins_compl {φ : Ky → Option Kd} : ∀ (n : Nat) (P : List (Kd × Kd)) (σ : Sg), GP P → Gs σ → totP P ≤ n → Sub σ φ → (∀ p ∈ P, Sol φ p.1 p.2) → ∃ τ, insF n P σ = some τ ∧ Sub τ φ
  | n, [], σ, hP, hg, ht, hs, h => ⟨σ, by cases n <;> rfl, hs⟩
  | 0, p :: P, σ, hP, hg, ht, hs, h => by
    have := sz_pos p.1
    simp only [totP] at ht
    omega
  | n + 1, p :: P, σ, hP, hg, ht, hs, h => by
    rw [insF_S]
    have hP' : GP P := fun x hx => hP x (List.mem_cons_of_mem _ hx)
    have hp := hP p (List.mem_cons_self ..)
    have h0 := h p (List.mem_cons_self ..)
    have h' : ∀ p ∈ P, Sol φ p.1 p.2 := fun x hx => h x (List.mem_cons_of_mem _ hx)
    obtain ⟨k, l⟩ := p
    cases k with
    | v x =>
      have hx : φ x = some l := h0
      have he : ek ((look σ x).getD l) l = true := by
        refine (ek_iff (gd_got hg hp.2) hp.2).mpr ?_
        cases q : look σ x with
        | none => rfl
        | some v =>
          have := hs x v q
          rw [hx] at this
          cases this; rfl
      simp only [insS]
      rw [if_pos he, Option.bind_some]
      exact ins_compl n P _ hP' (gs_sd hg hp.2) (by simp only [totP, Kd.sz] at ht; omega) (sd_inv hs hx) h'
    | n f ks =>
      cases l with
      | v y => exact h0.elim
      | n g ls =>
        have hz := (sols_zip ks ls).mp h0.2
        simp only [insS]
        rw [if_pos ⟨h0.1, hz.1⟩, Option.bind_some]
        have hq : insS (.n f ks, .n g ls) P σ = some ((ks.l.zip ls.l).reverse ++ P, σ) := by simp only [insS]; rw [if_pos ⟨h0.1, hz.1⟩]
        have hf := insS_facts (.n f ks, .n g ls) P σ _ hp hP' hg hq
        refine ins_compl n _ σ hf.1 hg (by have := hf.2.2.1; dsimp only at this; omega) hs ?_
        intro p hp
        obtain hp | hp := List.mem_append.mp hp
        · exact hz.2 p (List.mem_reverse.mp hp)
        · exact h' p hp
/-! keys once -/
def Nd (σ : Sg) : Prop := (σ.map (·.1)).Nodup
theorem look_key {σ : Sg} {x : Ky} : look σ x = none ↔ x ∉ σ.map (·.1) := by
  induction σ with
  | nil => simp [look]
  | cons p r ih =>
    obtain ⟨k, v⟩ := p
    simp only [look, List.map_cons, List.mem_cons, not_or]
    by_cases h : k = x
    · simp [h]
    · simp only [h, if_false, ih]
      constructor
      · intro q; exact ⟨fun e => h e.symm, q⟩
      · intro q; exact q.2
theorem nd_sd {σ : Sg} (x : Ky) (k : Kd) (h : Nd σ) : Nd (sd σ x k) := by
  unfold sd
  cases q : look σ x with
  | some w => exact h
  | none =>
    unfold Nd at h ⊢
    dsimp only
    rw [List.map_append]; rw [List.nodup_append]
    refine ⟨h, by simp, ?_⟩
    intro a ha b hb
    simp only [List.map_nil, List.map_cons, List.mem_singleton] at hb
    subst hb
    intro e
    subst e
    exact look_key.mp q ha
mutual
theorem nd_bec : ∀ (k l : Kd) (σ : Sg), Nd σ → Nd (bec σ k l).1
  | .v x, l, σ, h => nd_sd x l h
  | .n f ks, .v z, σ, h => h
  | .n f ks, .n g ls, σ, h => by
    simp only [bec]
    split
    · exact h
    · exact nd_becs ks ls σ h
theorem nd_becs : ∀ (ks ls : Kds) (σ : Sg), Nd σ → Nd (becs σ ks ls).1
  | .nil, _, σ, h => h
  | .cons k r, .nil, σ, h => h
  | .cons k r, .cons l q, σ, h => nd_becs r q _ (nd_bec k l σ h)
end
theorem nd_ins : ∀ (n : Nat) (P : List (Kd × Kd)) (σ τ : Sg), Nd σ → insF n P σ = some τ → Nd τ
  | n, [], σ, τ, hg, h => by
    have h : some σ = some τ := by cases n <;> exact h
    cases h
    exact hg
  | 0, p :: P, σ, τ, hg, h => by cases h
  | n + 1, p :: P, σ, τ, hg, h => by
    rw [insF_S] at h
    cases q : insS p P σ with
    | none => rw [q] at h; cases h
    | some r =>
      rw [q, Option.bind_some] at h
      refine nd_ins n r.1 r.2 τ ?_ h
      obtain ⟨k, l⟩ := p
      cases k with
      | v x =>
        simp only [insS] at q
        split at q
        · cases q; exact nd_sd x l hg
        · cases q
      | n f ks =>
        cases l with
        | v y => cases q
        | n g ls =>
          simp only [insS] at q
          split at q
          · cases q; exact hg
          · cases q
theorem look_in {σ : Sg} {x : Ky} {v : Kd} (hn : Nd σ) (h : (x, v) ∈ σ) : look σ x = some v := by
  induction σ with
  | nil => cases h
  | cons p r ih =>
    obtain ⟨k, w⟩ := p
    unfold Nd at hn
    simp only [List.map_cons, List.nodup_cons] at hn
    simp only [look]
    obtain h | h := List.mem_cons.mp h
    · cases h; simp
    · have : k ≠ x := fun e => hn.1 (by rw [e]; exact List.mem_map_of_mem (f := (·.1)) h)
      simp only [this, if_false]
      exact ih hn.2 h
theorem len_sub {α : Type} [DecidableEq α] : ∀ (A B : List α), A.Nodup → (∀ x ∈ A, x ∈ B) → A.length ≤ B.length
  | [], B, _, _ => Nat.zero_le _
  | a :: A, B, hn, hs => by
    rw [List.nodup_cons] at hn
    have ha := hs a (List.mem_cons_self ..)
    have := len_sub A (B.erase a) hn.2 fun x hx => (List.mem_erase_of_ne (fun e => hn.1 (by rw [← e]; exact hx))).mpr (hs x (List.mem_cons_of_mem _ hx))
    rw [List.length_erase_of_mem ha] at this
    have hb : 0 < B.length := List.length_pos_of_mem ha
    simp only [List.length_cons]
    omega
theorem len_le {σ τ : Sg} (h1 : Nd σ) (h : Sub σ (look τ)) : σ.length ≤ τ.length := by
  have hs : ∀ x ∈ σ.map (·.1), x ∈ τ.map (·.1) := by
    intro x hx
    rw [List.mem_map] at hx
    obtain ⟨p, hp, rfl⟩ := hx
    have := h p.1 p.2 (look_in h1 hp)
    exact Classical.byContradiction fun c => by rw [look_key.mpr c] at this; cases this
  have := len_sub _ _ h1 hs
  rw [List.length_map, List.length_map] at this
  exact this
/-! equal as dicts -/
theorem dLook_D (x : Ky) : ∀ σ : Sg, dLook (σ.map fun p => (keyD p.1, p.2.d)) (keyD x) = (look σ x).map Kd.d
  | [] => rfl
  | (k, v) :: r => by
    simp only [List.map_cons, dLook, look, eqv_key]
    by_cases h : k = x
    · simp [h]
    · simp only [h, decide_false, Bool.false_eq_true, if_false]
      exact dLook_D x r
theorem eqKv_sub (τ : Sg) (ht : Gs τ) : ∀ σ : Sg, Gs σ → (∀ p ∈ σ, look τ p.1 = some p.2) → eqKv (τ.map fun p => (keyD p.1, p.2.d)) (σ.map fun p => (keyD p.1, p.2.d)) = some true
  | [], _, _ => rfl
  | (k, v) :: r, hg, h => by
    have hv := hg (k, v) (List.mem_cons_self ..)
    have hs := kd_shaped v hv.1 hv.2
    have ih := eqKv_sub τ ht r (fun p hp => hg p (List.mem_cons_of_mem _ hp)) fun p hp => h p (List.mem_cons_of_mem _ hp)
    have hk := h (k, v) (List.mem_cons_self ..)
    simp only [List.map_cons, eqKv, dLook_D, hk, Option.map_some, hs, Bool.and_self, if_true, ih]
    congr 1
    rw [Bool.and_true]
    exact (eqv_kd v v hv.1 hv.1).mpr rfl
theorem dct_D (σ : Sg) : dictD (σ.map fun p => (keyD p.1, W.d p.2.d)) = some (dD σ) := by
  have h : ∀ L : Sg, datas ((L.map fun p => (keyD p.1, W.d p.2.d)).map (·.2)) = some (L.map fun p => p.2.d) := by
    intro L
    induction L with
    | nil => rfl
    | cons p r ih =>
      show (datas ((r.map fun p => (keyD p.1, W.d p.2.d)).map (·.2))).map (p.2.d :: ·) = _
      rw [ih]; rfl
  unfold dictD
  rw [h, Option.map_some]
  congr 2
  induction σ with
  | nil => rfl
  | cons p r ih => simp only [List.map_cons, List.zip_cons_cons, ih]
theorem ne_dd {st : Sto} {r : Nat} {σ τ : Sg} (h : st[r]? = some (dc σ)) (hσ : Gs σ) (hτ : Gs τ) (n1 : Nd σ) (n2 : Nd τ) (h1 : Sub σ (look τ)) (h2 : Sub τ (look σ)) : cmpV .NotEq st (.w (.d (dD τ))) (.w (.ref r)) = some false := by
  have hd : dataOf st (.w (.ref r)) = some (dD σ) := by
    simp only [dataOf, h]
    exact dct_D σ
  have hd2 : dataOf st (.w (.d (dD τ))) = some (dD τ) := rfl
  show ((dataOf st (.w (.d (dD τ)))).bind fun d => (dataOf st (.w (.ref r))).bind fun e => (eqD d e).map (!·)) = _
  rw [hd, hd2, Option.bind_some, Option.bind_some]
  have hl : τ.length = σ.length := Nat.le_antisymm (len_le n2 h2) (len_le n1 h1)
  have e : eqD (dD τ) (dD σ) = (if (τ.map fun p => (keyD p.1, p.2.d)).length = (σ.map fun p => (keyD p.1, p.2.d)).length then eqKv (σ.map fun p => (keyD p.1, p.2.d)) (τ.map fun p => (keyD p.1, p.2.d)) else some false) := rfl
  rw [e, if_pos (by rw [List.length_map, List.length_map, hl]), eqKv_sub σ hσ τ hτ fun p hp => h2 p.1 p.2 (look_in n2 hp)]
  rfl
/-! both agree -/
theorem gs_ins : ∀ (n : Nat) (P : List (Kd × Kd)) (σ τ : Sg), GP P → Gs σ → insF n P σ = some τ → Gs τ
  | n, [], σ, τ, hP, hg, h => by
    have h : some σ = some τ := by cases n <;> exact h
    cases h
    exact hg
  | 0, p :: P, σ, τ, hP, hg, h => by cases h
  | n + 1, p :: P, σ, τ, hP, hg, h => by
    rw [insF_S] at h
    have hP' : GP P := fun x hx => hP x (List.mem_cons_of_mem _ hx)
    cases q : insS p P σ with
    | none => rw [q] at h; cases h
    | some r =>
      rw [q, Option.bind_some] at h
      have hf := insS_facts p P σ r (hP p (List.mem_cons_self ..)) hP' hg q
      exact gs_ins n r.1 r.2 τ hf.1 hf.2.1 h
theorem gs_nil : Gs [] := fun p hp => by cases hp
theorem nd_nil : Nd [] := List.nodup_nil
theorem sub_nil {φ : Ky → Option Kd} : Sub [] φ := fun x v h => by cases h
theorem agree (n : Nat) (k l : Kd) (hk : Gd k) (hl : Gd l) (hz : k.sz ≤ n) :
    (bec [] k l).2 = (insF n [(k, l)] []).isSome ∧ ∀ τ, insF n [(k, l)] [] = some τ → Gs τ ∧ Nd τ ∧ Sub (bec [] k l).1 (look τ) ∧ Sub τ (look (bec [] k l).1) := by
  have hP : GP [(k, l)] := fun x hx => by rw [List.mem_singleton] at hx; rw [hx]; exact ⟨hk, hl⟩
  have ht : totP [(k, l)] ≤ n := by simp only [totP]; omega
  cases q : insF n [(k, l)] [] with
  | none =>
    refine ⟨?_, fun τ h => by cases h⟩
    rw [Option.isSome_none]
    cases hb : (bec [] k l).2 with
    | false => rfl
    | true =>
      have hs := bec_sound k l [] gs_nil hl hb
      obtain ⟨τ, h1, _⟩ := ins_compl n [(k, l)] [] hP gs_nil ht (sub_nil (φ := look (bec [] k l).1)) fun p hp => by rw [List.mem_singleton] at hp; rw [hp]; exact hs
      rw [q] at h1; cases h1
  | some τ =>
    have hs := ins_sound n [(k, l)] [] τ hP gs_nil q
    have hb := bec_compl k l [] gs_nil hl (sub_nil (φ := look τ)) (hs.2 _ (List.mem_singleton.mpr rfl))
    refine ⟨by rw [hb.1]; rfl, ?_⟩
    intro τ' h
    cases h
    have hq := bec_sound k l [] gs_nil hl hb.1
    obtain ⟨τ2, h1, h2⟩ := ins_compl n [(k, l)] [] hP gs_nil ht (sub_nil (φ := look (bec [] k l).1)) fun p hp => by rw [List.mem_singleton] at hp; rw [hp]; exact hq
    rw [q] at h1
    cases h1
    exact ⟨gs_ins n _ _ _ hP gs_nil q, nd_ins n _ _ _ nd_nil q, hb.2, h2⟩
end KI
set_option maxHeartbeats 4100000
namespace KI
open PySem MP
local macro_rules | `(tactic| decreasing_trivial_pre_omega) => `(tactic| first
  | simp only [List.map_nil, List.append_nil, List.nil_append, List.cons_append, List.map_cons, List.set_cons_zero, List.set_cons_succ, List.length_nil]
  | with_reducible exact ev_cst | with_reducible apply ev_cel | with_reducible apply ev_var | with_reducible apply ev_bin | with_reducible apply ev_cmp | with_reducible apply ev_ix | with_reducible apply ev_nt | with_reducible apply ev_an | with_reducible apply ev_orr
  | with_reducible apply ev_ife | with_reducible apply ev_cmp2 | with_reducible apply ev_cmp2b | with_reducible apply ev_tup | with_reducible apply ev_lst | with_reducible exact ev_dis | with_reducible apply ev_neg | with_reducible apply ev_sl
  | with_reducible exact eo_none | with_reducible apply eo_some | with_reducible apply ev_call | with_reducible apply ev_blt | with_reducible apply ev_mth | with_reducible apply ev_isi | with_reducible apply ev_lc
  | with_reducible exact ec_nil | with_reducible apply ec_one | with_reducible exact es_nil | with_reducible apply es_cons | with_reducible apply sr_it | with_reducible apply sr_rng1 | with_reducible apply sr_rng2 | with_reducible apply sr_enm | with_reducible apply sr_zp
  | with_reducible apply pick_t | with_reducible apply pick_f | refine pick_tE (by rfl) ?_ | refine pick_fE (by rfl) ?_ | with_reducible apply nx_nx | with_reducible exact nx_rt | with_reducible exact nx_bk | with_reducible exact nx_ct | with_reducible exact ss_nil | with_reducible apply ss_cons | with_reducible apply s_asg | with_reducible apply s_own
  | with_reducible apply s_unp | with_reducible apply s_par | with_reducible apply s_set | with_reducible apply s_ex | with_reducible apply s_iff | with_reducible apply s_ret | with_reducible exact s_retN | with_reducible exact s_pss | with_reducible exact s_brk | with_reducible exact s_cnt
  | with_reducible apply s_fr | with_reducible apply fo_items | with_reducible exact fo_nil | with_reducible apply fo_cons | with_reducible apply frF_ok | with_reducible apply nf_nx | with_reducible apply nf_ct | with_reducible exact nf_rt | with_reducible exact nf_bk
  | with_reducible apply ga_items | with_reducible exact ga_nil | with_reducible apply ng_none | with_reducible apply ng_some | with_reducible apply lcF_ok | with_reducible apply lcE | with_reducible apply ga_cons)
/-! names of letters -/
abbrev abc : Str := ⟨#[97, 98, 99, 100, 101, 102, 103, 104, 105, 106, 107, 108, 109, 110, 111, 112, 113, 114, 115, 116, 117, 118, 119, 120, 121, 122]⟩
theorem abc_ix (st : Sto) : ∀ i : Nat, i < 26 → ixV st (vStr abc) (vInt (i : Int)) = some (vStr ⟨#[97 + i]⟩)
  | 0, _ => rfl
  | 1, _ => rfl
  | 2, _ => rfl
  | 3, _ => rfl
  | 4, _ => rfl
  | 5, _ => rfl
  | 6, _ => rfl
  | 7, _ => rfl
  | 8, _ => rfl
  | 9, _ => rfl
  | 10, _ => rfl
  | 11, _ => rfl
  | 12, _ => rfl
  | 13, _ => rfl
  | 14, _ => rfl
  | 15, _ => rfl
  | 16, _ => rfl
  | 17, _ => rfl
  | 18, _ => rfl
  | 19, _ => rfl
  | 20, _ => rfl
  | 21, _ => rfl
  | 22, _ => rfl
  | 23, _ => rfl
  | 24, _ => rfl
  | 25, _ => rfl
  | n + 26, h => by omega
def ltr (k : Nat) : Str := match k / 26 with
  | 0 => ⟨#[97 + k % 26]⟩
  | q => ⟨#[97 + k % 26, 48 + q]⟩
theorem ts_1 : (((toString (1 : Int)) : String) : Str) = (⟨#[49]⟩ : Str) := by decide +kernel
theorem str_1 (st : Sto) : bltV .str st [vInt 1] = some (vStr ⟨#[49]⟩) := by
  show (if ((1 : Int).natAbs.log2 < 1920) then some (vStr (((toString (1 : Int)) : String) : Str)) else none) = _
  rw [if_pos (by decide +kernel), ts_1]
theorem ts_2 : (((toString (2 : Int)) : String) : Str) = (⟨#[50]⟩ : Str) := by decide +kernel
theorem str_2 (st : Sto) : bltV .str st [vInt 2] = some (vStr ⟨#[50]⟩) := by
  show (if ((2 : Int).natAbs.log2 < 1920) then some (vStr (((toString (2 : Int)) : String) : Str)) else none) = _
  rw [if_pos (by decide +kernel), ts_2]
theorem ts_3 : (((toString (3 : Int)) : String) : Str) = (⟨#[51]⟩ : Str) := by decide +kernel
theorem str_3 (st : Sto) : bltV .str st [vInt 3] = some (vStr ⟨#[51]⟩) := by
  show (if ((3 : Int).natAbs.log2 < 1920) then some (vStr (((toString (3 : Int)) : String) : Str)) else none) = _
  rw [if_pos (by decide +kernel), ts_3]
theorem add_s (st : Sto) (a b : Nat) : binV .Add st (vStr ⟨#[a]⟩) (vStr ⟨#[b]⟩) = some (vStr ⟨#[a, b]⟩) := rfl
theorem add_0 (st : Sto) (a : Nat) : binV .Add st (vStr ⟨#[a]⟩) (vStr ⟨#[]⟩) = some (vStr ⟨#[a]⟩) := rfl
theorem letter_run (n k : Nat) (hk : k < 104) : Rn (n + 1) 4 [.d (.int k)] [] = .ok (vStr (ltr k)) [] := by
  have d1 := div_c [] k 26 (by decide)
  have m1 := mod_c [] k 26 (by decide)
  have e1 : ((k : Int) % 26) = ((k % 26 : Nat) : Int) := by omega
  rw [e1] at m1
  have x1 := abc_ix [] (k % 26) (by omega)
  have l1 : bltV .len [] [vStr abc] = some (vInt 26) := rfl
  have hq : k / 26 = 0 ∨ k / 26 = 1 ∨ k / 26 = 2 ∨ k / 26 = 3 := by omega
  rcases hq with hq | hq | hq | hq
  · have e2 : ((k : Int) / 26) = 0 := by omega
    rw [e2] at d1
    have g1 : cmpV .Gt [] (vInt 0) (vInt 0) = some false := rfl
    have e3 : ltr k = ⟨#[97 + k % 26]⟩ := by unfold ltr; rw [hq]; try rfl
    have h0 : evE (CN n) (.bin .FloorDiv (.var 0) (.blt .len [.cst (.str abc)])) [some (.d (.int k)), none] [] = .ok (vInt 0) [] := ev_bin (ev_var rfl) (ev_blt (es_cons ev_cst es_nil) l1) d1
    have h1 : evE (CN n) (.ix (.cst (.str abc)) (.bin .Mod (.var 0) (.blt .len [.cst (.str abc)]))) [some (.d (.int k)), some (.d (.int 0))] [] = .ok (vStr ⟨#[97 + k % 26]⟩) [] := ev_ix ev_cst (ev_bin (ev_var rfl) (ev_blt (es_cons ev_cst es_nil) l1) m1) x1
    rw [e3]
    apply run_fn (fn := f4) rfl rfl rfl
    exact ss_cons (s_asg h0 rfl) (nx_nx (ss_cons (s_ret (ev_bin h1 (ev_ife (ev_cmp (ev_var rfl) ev_cst g1) rfl (pick_f ev_cst)) (add_0 _ _))) nx_rt))
  · have e2 : ((k : Int) / 26) = 1 := by omega
    rw [e2] at d1
    have g1 : cmpV .Gt [] (vInt 1) (vInt 0) = some true := rfl
    have e3 : ltr k = ⟨#[97 + k % 26, 49]⟩ := by unfold ltr; rw [hq]; try rfl
    have h0 : evE (CN n) (.bin .FloorDiv (.var 0) (.blt .len [.cst (.str abc)])) [some (.d (.int k)), none] [] = .ok (vInt 1) [] := ev_bin (ev_var rfl) (ev_blt (es_cons ev_cst es_nil) l1) d1
    have h1 : evE (CN n) (.ix (.cst (.str abc)) (.bin .Mod (.var 0) (.blt .len [.cst (.str abc)]))) [some (.d (.int k)), some (.d (.int 1))] [] = .ok (vStr ⟨#[97 + k % 26]⟩) [] := ev_ix ev_cst (ev_bin (ev_var rfl) (ev_blt (es_cons ev_cst es_nil) l1) m1) x1
    rw [e3]
    apply run_fn (fn := f4) rfl rfl rfl
    exact ss_cons (s_asg h0 rfl) (nx_nx (ss_cons (s_ret (ev_bin h1 (ev_ife (ev_cmp (ev_var rfl) ev_cst g1) rfl (pick_t (ev_blt (es_cons (ev_var rfl) es_nil) (str_1 _)))) (add_s _ _ _))) nx_rt))
  · have e2 : ((k : Int) / 26) = 2 := by omega
    rw [e2] at d1
    have g1 : cmpV .Gt [] (vInt 2) (vInt 0) = some true := rfl
    have e3 : ltr k = ⟨#[97 + k % 26, 50]⟩ := by unfold ltr; rw [hq]; try rfl
    have h0 : evE (CN n) (.bin .FloorDiv (.var 0) (.blt .len [.cst (.str abc)])) [some (.d (.int k)), none] [] = .ok (vInt 2) [] := ev_bin (ev_var rfl) (ev_blt (es_cons ev_cst es_nil) l1) d1
    have h1 : evE (CN n) (.ix (.cst (.str abc)) (.bin .Mod (.var 0) (.blt .len [.cst (.str abc)]))) [some (.d (.int k)), some (.d (.int 2))] [] = .ok (vStr ⟨#[97 + k % 26]⟩) [] := ev_ix ev_cst (ev_bin (ev_var rfl) (ev_blt (es_cons ev_cst es_nil) l1) m1) x1
    rw [e3]
    apply run_fn (fn := f4) rfl rfl rfl
    exact ss_cons (s_asg h0 rfl) (nx_nx (ss_cons (s_ret (ev_bin h1 (ev_ife (ev_cmp (ev_var rfl) ev_cst g1) rfl (pick_t (ev_blt (es_cons (ev_var rfl) es_nil) (str_2 _)))) (add_s _ _ _))) nx_rt))
  · have e2 : ((k : Int) / 26) = 3 := by omega
    rw [e2] at d1
    have g1 : cmpV .Gt [] (vInt 3) (vInt 0) = some true := rfl
    have e3 : ltr k = ⟨#[97 + k % 26, 51]⟩ := by unfold ltr; rw [hq]; try rfl
    have h0 : evE (CN n) (.bin .FloorDiv (.var 0) (.blt .len [.cst (.str abc)])) [some (.d (.int k)), none] [] = .ok (vInt 3) [] := ev_bin (ev_var rfl) (ev_blt (es_cons ev_cst es_nil) l1) d1
    have h1 : evE (CN n) (.ix (.cst (.str abc)) (.bin .Mod (.var 0) (.blt .len [.cst (.str abc)]))) [some (.d (.int k)), some (.d (.int 3))] [] = .ok (vStr ⟨#[97 + k % 26]⟩) [] := ev_ix ev_cst (ev_bin (ev_var rfl) (ev_blt (es_cons ev_cst es_nil) l1) m1) x1
    rw [e3]
    apply run_fn (fn := f4) rfl rfl rfl
    exact ss_cons (s_asg h0 rfl) (nx_nx (ss_cons (s_ret (ev_bin h1 (ev_ife (ev_cmp (ev_var rfl) ev_cst g1) rfl (pick_t (ev_blt (es_cons (ev_var rfl) es_nil) (str_3 _)))) (add_s _ _ _))) nx_rt))
/-! a dict that renames letters -/
def ren (f : Nat → Ky) (xs : List Ky) : Sg := (List.range xs.length).map fun k => (xs.getD k (.inl 0), Kd.v (f k))
theorem ren_keys (f : Nat → Ky) (xs : List Ky) : (ren f xs).map (·.1) = xs := by
  unfold ren
  rw [List.map_map]
  apply List.ext_getElem
  · simp
  · intro i h1 h2
    simp [List.getD_eq_getElem?_getD, h2]
theorem add_nd {acc : List Ky} (x : Ky) (h : acc.Nodup) : (add acc x).Nodup := by
  unfold add
  split
  · exact h
  · rename_i hx
    rw [List.nodup_append]
    refine ⟨h, by simp, ?_⟩
    intro a ha b hb
    rw [List.mem_singleton] at hb
    subst hb
    intro e
    subst e
    exact hx ha
theorem addAll_nd : ∀ (xs acc : List Ky), acc.Nodup → (addAll acc xs).Nodup
  | [], acc, h => h
  | x :: r, acc, h => addAll_nd r (add acc x) (add_nd x h)
theorem ren_nd (f : Nat → Ky) (xs : List Ky) (h : xs.Nodup) : Nd (ren f xs) := by
  unfold Nd
  rw [ren_keys]
  exact h
theorem merge_nd : ∀ (σ acc : Sg), Nd (acc ++ σ) → mergeD (acc.map fun p => (keyD p.1, W.d p.2.d)) (σ.map fun p => (keyD p.1, W.d p.2.d)) = (acc ++ σ).map fun p => (keyD p.1, W.d p.2.d)
  | [], acc, _ => by simp [mergeD]
  | (x, k) :: r, acc, h => by
    have hx : look acc x = none := by
      apply look_key.mpr
      unfold Nd at h
      rw [List.map_append, List.nodup_append] at h
      intro hm
      exact h.2.2 x hm x (by simp) rfl
    have hp : putD (acc.map fun p => (keyD p.1, W.d p.2.d)) (keyD x) (W.d k.d) = (acc ++ [(x, k)]).map fun p => (keyD p.1, W.d p.2.d) := by
      unfold putD
      rw [any_none x acc hx, if_neg (by decide), List.map_append]
      rfl
    have ih := merge_nd r (acc ++ [(x, k)]) (by simpa using h)
    have e : mergeD (acc.map fun p => (keyD p.1, W.d p.2.d)) (((x, k) :: r).map fun p => (keyD p.1, W.d p.2.d)) = mergeD (putD (acc.map fun p => (keyD p.1, W.d p.2.d)) (keyD x) (W.d k.d)) (r.map fun p => (keyD p.1, W.d p.2.d)) := rfl
    rw [e, hp, ih]
    simp
theorem pairs_S : ∀ σ : Sg, pairsD (σ.map fun p => W.d (.tuple [keyD p.1, p.2.d])) = some (σ.map fun p => (keyD p.1, W.d p.2.d))
  | [] => rfl
  | p :: r => by
    have e : pairD (W.d (.tuple [keyD p.1, p.2.d])) = some (keyD p.1, W.d p.2.d) := by
      show (keyOf (keyD p.1)).map (fun _ => (keyD p.1, W.d p.2.d)) = _
      rw [keyOf_D]; rfl
    rw [List.map_cons]
    show (pairD (W.d (.tuple [keyD p.1, p.2.d]))).bind (fun q => (pairsD (r.map fun p => W.d (.tuple [keyD p.1, p.2.d]))).map (q :: ·)) = _
    rw [e, Option.bind_some, pairs_S r]
    rfl
theorem dict_S (st : Sto) (σ : Sg) (h : Nd σ) : bltV .dict st [.fl (σ.map fun p => W.d (.tuple [keyD p.1, p.2.d]))] = some (fdS σ) := by
  show (some (σ.map fun p => W.d (.tuple [keyD p.1, p.2.d]))).bind (fun xs => (pairsD xs).map fun kvs => Val.fd (mergeD [] kvs)) = _
  rw [Option.bind_some, pairs_S, Option.map_some]
  have := merge_nd σ [] h
  rw [List.map_nil, List.nil_append] at this
  rw [this]
theorem w_S (σ : Sg) : wOf (fdS σ) = some (.d (dD σ)) := by
  have h := dct_D σ
  unfold dictD at h
  show (datas ((σ.map fun p => (keyD p.1, W.d p.2.d)).map (·.2))).map (fun ds => W.d (.dict ((σ.map fun p => (keyD p.1, W.d p.2.d)).map (·.1) |>.zip ds))) = _
  cases q : datas ((σ.map fun p => (keyD p.1, W.d p.2.d)).map (·.2)) with
  | none => rw [q] at h; cases h
  | some ds =>
    rw [q, Option.map_some] at h
    rw [Option.map_some]
    injection h with h
    rw [h]
/-! sizes -/
mutual
theorem sw_ok (σ : Sg) (h : ∀ p ∈ σ, p.2.ok) : ∀ k : Kd, k.ok → (k.sw σ).ok
  | .v x, hk => by
    simp only [Kd.sw]
    cases q : look σ x with
    | none => exact hk
    | some v => exact h _ (look_mem q)
  | .n f ks, hk => ⟨hk.1, sws_ok σ h ks hk.2⟩
theorem sws_ok (σ : Sg) (h : ∀ p ∈ σ, p.2.ok) : ∀ ks : Kds, ks.oks → (ks.sws σ).oks
  | .nil, hk => hk
  | .cons k r, hk => ⟨sw_ok σ h k hk.1, sws_ok σ h r hk.2⟩
end
mutual
theorem sw_dep (σ : Sg) (D : Nat) (h : ∀ p ∈ σ, p.2.dep ≤ D) : ∀ k : Kd, (k.sw σ).dep ≤ k.dep + D
  | .v x => by
    simp only [Kd.sw]
    cases q : look σ x with
    | none => exact Nat.zero_le _
    | some v => have := h _ (look_mem q); simp only [Option.getD_some, Kd.dep]; dsimp only at this; omega
  | .n f ks => by have := sws_dep σ D h ks; simp only [Kd.sw, Kd.dep]; omega
theorem sws_dep (σ : Sg) (D : Nat) (h : ∀ p ∈ σ, p.2.dep ≤ D) : ∀ ks : Kds, (ks.sws σ).deps ≤ ks.deps + D
  | .nil => Nat.zero_le _
  | .cons k r => by have := sw_dep σ D h k; have := sws_dep σ D h r; simp only [Kds.sws, Kds.deps]; omega
end
mutual
theorem sw_sz (σ : Sg) (M : Nat) (hM : 1 ≤ M) (h : ∀ p ∈ σ, p.2.sz ≤ M) : ∀ k : Kd, (k.sw σ).sz ≤ k.sz * M
  | .v x => by
    simp only [Kd.sw]
    cases q : look σ x with
    | none => simp only [Option.getD_none, Kd.sz]; omega
    | some v => have := h _ (look_mem q); simp only [Option.getD_some, Kd.sz]; dsimp only at this; omega
  | .n f ks => by
    have := sws_sz σ M hM h ks
    simp only [Kd.sw, Kd.sz, Nat.add_mul, Nat.one_mul]; omega
theorem sws_sz (σ : Sg) (M : Nat) (hM : 1 ≤ M) (h : ∀ p ∈ σ, p.2.sz ≤ M) : ∀ ks : Kds, (ks.sws σ).szs ≤ ks.szs * M
  | .nil => by simp [Kds.sws, Kds.szs]
  | .cons k r => by
    have := sw_sz σ M hM h k
    have := sws_sz σ M hM h r
    simp only [Kds.sws, Kds.szs, Nat.add_mul]; omega
end
def ofL : List Kd → Kds
  | [] => .nil
  | k :: r => .cons k (ofL r)
theorem ofL_l : ∀ L : List Kd, (ofL L).l = L
  | [] => rfl
  | k :: r => by simp only [ofL, Kds.l, ofL_l r]
theorem ofL_ds (L : List Kd) : (ofL L).ds = L.map Kd.d := by rw [ds_l, ofL_l]
theorem ofL_oks : ∀ L : List Kd, (∀ k ∈ L, k.ok) → (ofL L).oks
  | [], _ => trivial
  | k :: r, h => ⟨h k (List.mem_cons_self ..), ofL_oks r fun x hx => h x (List.mem_cons_of_mem _ hx)⟩
theorem ofL_deps : ∀ (L : List Kd) (D : Nat), (∀ k ∈ L, k.dep ≤ D) → (ofL L).deps ≤ D
  | [], D, _ => Nat.zero_le _
  | k :: r, D, h => by
    have h1 := h k (.head _)
    have h2 := ofL_deps r D fun x hx => h x (List.mem_cons_of_mem _ hx)
    simp only [ofL, Kds.deps]; omega
theorem ofL_szs : ∀ L : List Kd, (ofL L).szs = tot L
  | [] => rfl
  | k :: r => by simp only [ofL, Kds.szs, tot, ofL_szs r]
theorem ofL_lvs (L : List Kd) : (ofL L).lvs = L.flatMap Kd.lv := by rw [lvs_flat, ofL_l]
/-- the letters of more kinds -/
abbrev us (L : List Kd) : List Ky := uq (L.flatMap Kd.lv)
theorem us_len (L : List Kd) : (us L).length ≤ tot L := by
  have h1 := addAll_len (L.flatMap Kd.lv) []
  have h2 := lvs_sz (ofL L)
  rw [ofL_lvs, ofL_szs] at h2
  rw [List.length_nil] at h1
  show (addAll [] (L.flatMap Kd.lv)).length ≤ tot L
  omega
theorem us_nd (L : List Kd) : (us L).Nodup := addAll_nd _ [] List.nodup_nil
abbrev sAll : Str := ⟨#[97, 108, 108]⟩
theorem all_lets (n : Nat) (st : Sto) (L : List Kd) (hL : ∀ k ∈ L, Gd k) (ht : tot L ≤ 9000) : callV (CN (n + 40)) 0 [.d (.tuple [.str sAll, .tuple (L.map Kd.d)])] st = .ok (vTup ((us L).map keyD)) st := by
  have hd := ofL_deps L 30 fun k hk => (hL k hk).2
  obtain ⟨s1, h⟩ := lets_run 40 (.n sAll (ofL L)) ⟨⟨by decide, by decide +kernel⟩, ofL_oks L fun k hk => (hL k hk).1⟩ (by simp only [Kd.dep]; omega) (by simp only [Kd.sz, ofL_szs]; omega) n
  have e : (Kd.n sAll (ofL L)).d = .tuple [.str sAll, .tuple (L.map Kd.d)] := by simp only [Kd.d, ofL_ds]
  have e2 : (Kd.n sAll (ofL L)).lv = L.flatMap Kd.lv := ofL_lvs L
  rw [e, e2] at h
  exact cl_pure rfl h rfl
end KI
set_option maxHeartbeats 4100000
namespace KI
open PySem MP
local macro_rules | `(tactic| decreasing_trivial_pre_omega) => `(tactic| first
  | simp only [List.map_nil, List.append_nil, List.nil_append, List.cons_append, List.map_cons, List.set_cons_zero, List.set_cons_succ, List.length_nil]
  | with_reducible exact ev_cst | with_reducible apply ev_cel | with_reducible apply ev_var | with_reducible apply ev_bin | with_reducible apply ev_cmp | with_reducible apply ev_ix | with_reducible apply ev_nt | with_reducible apply ev_an | with_reducible apply ev_orr
  | with_reducible apply ev_ife | with_reducible apply ev_cmp2 | with_reducible apply ev_cmp2b | with_reducible apply ev_tup | with_reducible apply ev_lst | with_reducible exact ev_dis | with_reducible apply ev_neg | with_reducible apply ev_sl
  | with_reducible exact eo_none | with_reducible apply eo_some | with_reducible apply ev_call | with_reducible apply ev_blt | with_reducible apply ev_mth | with_reducible apply ev_isi | with_reducible apply ev_lc
  | with_reducible exact ec_nil | with_reducible apply ec_one | with_reducible exact es_nil | with_reducible apply es_cons | with_reducible apply sr_it | with_reducible apply sr_rng1 | with_reducible apply sr_rng2 | with_reducible apply sr_enm | with_reducible apply sr_zp
  | with_reducible apply pick_t | with_reducible apply pick_f | refine pick_tE (by rfl) ?_ | refine pick_fE (by rfl) ?_ | with_reducible apply nx_nx | with_reducible exact nx_rt | with_reducible exact nx_bk | with_reducible exact nx_ct | with_reducible exact ss_nil | with_reducible apply ss_cons | with_reducible apply s_asg | with_reducible apply s_own
  | with_reducible apply s_unp | with_reducible apply s_par | with_reducible apply s_set | with_reducible apply s_ex | with_reducible apply s_iff | with_reducible apply s_ret | with_reducible exact s_retN | with_reducible exact s_pss | with_reducible exact s_brk | with_reducible exact s_cnt
  | with_reducible apply s_fr | with_reducible apply fo_items | with_reducible exact fo_nil | with_reducible apply fo_cons | with_reducible apply frF_ok | with_reducible apply nf_nx | with_reducible apply nf_ct | with_reducible exact nf_rt | with_reducible exact nf_bk
  | with_reducible apply ga_items | with_reducible exact ga_nil | with_reducible apply ng_none | with_reducible apply ng_some | with_reducible apply lcF_ok | with_reducible apply lcE | with_reducible apply ga_cons)
/-! dicts of letters, made in a comprehension -/
theorem rng_map (n : Nat) : rngW 0 (n : Int) = (List.range n).map fun k : Nat => W.d (.int (k : Int)) := by
  unfold rngW
  rw [Int.sub_zero, Int.toNat_natCast]
  apply List.map_congr_left
  intro k _
  rw [Int.zero_add]
theorem len_T (st : Sto) (xs : List Ky) : bltV .len st [vTup (xs.map keyD)] = some (vInt (xs.length : Nat)) := by
  show (some (xs.map keyD).length).map (fun n : Nat => vInt n) = _
  rw [List.length_map]; rfl
theorem len_L (st : Sto) (xs : List Ky) : bltV .len st [.w (.d (lK xs))] = some (vInt (xs.length : Nat)) := by
  have e : lenOf st (.w (.d (lK xs))) = some xs.length := by
    show some ((xs.map keyD).map W.d).length = _
    rw [List.length_map, List.length_map]
  simp only [bltV, e]; rfl
theorem ix_T (st : Sto) (xs : List Ky) (k : Nat) (h : k < xs.length) : ixV st (vTup (xs.map keyD)) (vInt (k : Int)) = some (.w (.d (keyD (xs.getD k (.inl 0))))) := by
  have e : L2.atI (xs.map keyD) (k : Int) = some (keyD (xs.getD k (.inl 0))) := L2.atI_nat (j := k) (by rw [List.getElem?_map, List.getElem?_eq_getElem h, List.getD_eq_getElem?_getD, List.getElem?_eq_getElem h]; rfl)
  show (L2.atI (xs.map keyD) (k : Int)).map (fun x => Val.w (.d x)) = _
  rw [e]; rfl
theorem ix_L (st : Sto) (xs : List Ky) (k : Nat) (h : k < xs.length) : ixV st (.w (.d (lK xs))) (vInt (k : Int)) = some (.w (.d (keyD (xs.getD k (.inl 0))))) := by
  have e : L2.atI ((xs.map keyD).map W.d) (k : Int) = some (.d (keyD (xs.getD k (.inl 0)))) := L2.atI_nat (j := k) (by rw [List.getElem?_map, List.getElem?_map, List.getElem?_eq_getElem h, List.getD_eq_getElem?_getD, List.getElem?_eq_getElem h]; rfl)
  show (L2.atI ((xs.map keyD).map W.d) (k : Int)).map Val.w = _
  rw [e]; rfl
theorem pair_V (st : Sto) (x : Ky) (d : D) : bltV .pair st [.w (.d (keyD x)), .w (.d d)] = some (vTup [keyD x, d]) := by
  show (keyOf (keyD x)).map (fun _ => vTup [keyD x, d]) = _
  rw [keyOf_D]; rfl
theorem ren_gath {F : W → Sto → Out (Option W)} {st : Sto} (f : Nat → Ky) (xs : List Ky) (hl : xs.length ≤ 100000) (h : ∀ k : Nat, k < xs.length → F (.d (.int (k : Int))) st = .ok (some (.d (.tuple [keyD (xs.getD k (.inl 0)), (Kd.v (f k)).d]))) st) :
    gath F (rngW 0 (xs.length : Int)) [] st = .ok ((ren f xs).map fun p => W.d (.tuple [keyD p.1, p.2.d])) st := by
  have e := gath_map (f := F) (g := fun k : Nat => W.d (.int (k : Int))) (h := fun k : Nat => W.d (.tuple [keyD (xs.getD k (.inl 0)), (Kd.v (f k)).d])) (st := st) (List.range xs.length) [] (fun k hk => h k (List.mem_range.mp hk)) (by simp only [List.length_nil, List.length_range]; omega)
  rw [rng_map, e, List.nil_append]
  unfold ren
  rw [List.map_map]
  rfl
/-- kinds_plain -/
abbrev pP : Nat → Ky := fun k => .inr (ltr k)
theorem ltr_ok (k : Nat) (h : k < 104) : PyData.strOk (ltr k) = true := by
  have hall : ∀ k : Fin 104, PyData.strOk (ltr k.val) = true := by decide +kernel
  exact hall ⟨k, h⟩
theorem ren_vok (f : Nat → Ky) (xs : List Ky) (h : ∀ k, k < xs.length → kyOk (f k)) : ∀ p ∈ ren f xs, p.2.ok := by
  intro p hp
  unfold ren at hp
  rw [List.mem_map] at hp
  obtain ⟨k, hk, rfl⟩ := hp
  exact h k (List.mem_range.mp hk)
theorem ren_dep (f : Nat → Ky) (xs : List Ky) : ∀ p ∈ ren f xs, p.2.dep ≤ 0 := by
  intro p hp
  unfold ren at hp
  rw [List.mem_map] at hp
  obtain ⟨k, hk, rfl⟩ := hp
  exact Nat.le_refl _
theorem ren_sz (f : Nat → Ky) (xs : List Ky) : ∀ p ∈ ren f xs, p.2.sz ≤ 1 := by
  intro p hp
  unfold ren at hp
  rw [List.mem_map] at hp
  obtain ⟨k, hk, rfl⟩ := hp
  exact Nat.le_refl _
theorem tot_mem : ∀ (L : List Kd) (k : Kd), k ∈ L → k.sz ≤ tot L
  | x :: r, k, h => by
    simp only [tot]
    obtain rfl | h := List.mem_cons.mp h
    · omega
    · have := tot_mem r k h; omega
theorem sw2_call (n : Nat) (st : Sto) (σ : Sg) (k : Kd) (hk : Gd k) (hz : k.sz ≤ 10000) : callV (CN (n + 40)) 2 [.d (dD σ), .d k.d] st = .ok (.w (.d (k.sw σ).d)) st :=
  cl_pure rfl (sw_run2 σ 40 k hk.1 (by have := hk.2; omega) hz n) rfl
theorem sw17_call (n : Nat) (st : Sto) (σ : Sg) (k : Kd) (hk : Gd k) (hz : k.sz ≤ 10000) : callV (CN (n + 40)) 17 [.d (dD σ), .d k.d] st = .ok (.w (.d (k.sw σ).d)) st :=
  cl_pure rfl (sw_run17 σ 40 k hk.1 (by have := hk.2; omega) hz n) rfl
abbrev lc5 : E := .lc [3] (.nm 3) (.rng1 [(.blt .len [(.var 1)])]) [] (.blt .pair [(.ix (.var 1) (.var 3)), (.tup [(.cst (.str ⟨#[63]⟩)), (.call 4 [(.var 3)] [])])])
abbrev lc5b : E := .lc [4] (.nm 4) (.it (.var 0)) [] (.call 2 [(.var 2), (.var 4)] [])
theorem turn5 (C : CE) (v : D) (xs : List Ky) (k : Nat) (st : Sto) (a b c : Option W) (h : k < xs.length) (hc : callV C 4 [.d (.int (k : Int))] st = .ok (vStr (ltr k)) st) : lcF C [3] (.nm 3) [] (.blt .pair [(.ix (.var 1) (.var 3)), (.tup [(.cst (.str ⟨#[63]⟩)), (.call 4 [(.var 3)] [])])]) [some (.d v), some (.d (.tuple (xs.map keyD))), a, b, c] (.d (.int (k : Int))) st = .ok (some (.d (.tuple [keyD (xs.getD k (.inl 0)), (Kd.v (pP k)).d]))) st := by
  have e1 := ix_T st xs k h
  have e2 := pair_V st (xs.getD k (.inl 0)) (Kd.v (pP k)).d
  have hx : evE C (.blt .pair [(.ix (.var 1) (.var 3)), (.tup [(.cst (.str ⟨#[63]⟩)), (.call 4 [(.var 3)] [])])]) [some (.d v), some (.d (.tuple (xs.map keyD))), a, some (.d (.int (k : Int))), c] st = .ok (vTup [keyD (xs.getD k (.inl 0)), (Kd.v (pP k)).d]) st :=
    ev_blt (es_cons (ev_ix (ev_var rfl) (ev_var rfl) e1) (es_cons (ev_tup (es_cons ev_cst (es_cons (ev_call (es_cons (ev_var rfl) es_nil) rfl hc) es_nil)) rfl rfl) es_nil)) e2
  exact lcF_ok (w := .d (.int (k : Int))) rfl ec_nil (pick_t (lcE hx rfl))
theorem turn5b (C : CE) (a b c : Option W) (dd d r : D) (st : Sto) (h : callV C 2 [.d dd, .d d] st = .ok (.w (.d r)) st) : lcF C [4] (.nm 4) [] (.call 2 [(.var 2), (.var 4)] []) [a, b, some (.d dd), c, none] (.d d) st = .ok (some (.d r)) st :=
  lcF_ok (w := .d d) rfl ec_nil (pick_t (lcE (ev_call (es_cons (ev_var rfl) (es_cons (ev_var rfl) es_nil)) rfl h) rfl))
theorem plain_run (n : Nat) (L : List Kd) (hL : ∀ k ∈ L, Gd k) (ht : tot L ≤ 103) : Rn (n + 41) 5 [.d (.tuple (L.map Kd.d))] [] = .ok (vTup (L.map fun k => (k.sw (ren pP (us L))).d)) [] := by
  have hu := us_len L
  have hnd := us_nd L
  have hlen := len_tot L
  have c0 := all_lets n [] L hL (by omega)
  have g1 := ren_gath (F := lcF (CN (n + 40)) [3] (.nm 3) [] (.blt .pair [(.ix (.var 1) (.var 3)), (.tup [(.cst (.str ⟨#[63]⟩)), (.call 4 [(.var 3)] [])])]) [some (.d (.tuple (L.map Kd.d))), some (.d (.tuple ((us L).map keyD))), none, none, none]) (st := []) pP (us L) (by omega) (fun k hk =>
    turn5 (CN (n + 40)) _ _ k [] _ _ _ hk (cl_pure (C := CN (n + 40)) rfl (letter_run (n + 39) k (by omega)) rfl))
  have hlc : evE (CN (n + 40)) lc5 [some (.d (.tuple (L.map Kd.d))), some (.d (.tuple ((us L).map keyD))), none, none, none] [] = .ok (.fl ((ren pP (us L)).map fun p => W.d (.tuple [keyD p.1, p.2.d]))) [] :=
    ev_lc (it := .items (rngW 0 ((us L).length : Int))) rfl (sr_rng1 (es_cons (ev_blt (es_cons (ev_var rfl) es_nil) (len_T [] (us L))) es_nil) (rng_ok _ (by omega))) (ga_items g1)
  have hdi := dict_S [] (ren pP (us L)) (ren_nd pP (us L) hnd)
  have h0 : evS (CN (n + 40)) (.asg false 1 (.call 0 [(.tup [(.cst (.str ⟨#[97, 108, 108]⟩)), (.blt .tuple [(.var 0)])])] [])) [some (.d (.tuple (L.map Kd.d))), none, none, none, none] [] = .ok (.nx [some (.d (.tuple (L.map Kd.d))), some (.d (.tuple ((us L).map keyD))), none, none, none]) [] :=
    s_asg (ev_call (es_cons (ev_tup (es_cons ev_cst (es_cons (ev_blt (es_cons (ev_var rfl) es_nil) rfl) es_nil)) rfl rfl) es_nil) rfl c0) rfl
  have h1 : evS (CN (n + 40)) (.asg false 2 (.blt .dict [lc5])) [some (.d (.tuple (L.map Kd.d))), some (.d (.tuple ((us L).map keyD))), none, none, none] [] = .ok (.nx [some (.d (.tuple (L.map Kd.d))), some (.d (.tuple ((us L).map keyD))), some (.d (dD (ren pP (us L)))), none, none]) [] :=
    s_asg (ev_blt (es_cons hlc es_nil) hdi) (w_S _)
  have g2 := gath_map (f := lcF (CN (n + 40)) [4] (.nm 4) [] (.call 2 [(.var 2), (.var 4)] []) [some (.d (.tuple (L.map Kd.d))), some (.d (.tuple ((us L).map keyD))), some (.d (dD (ren pP (us L)))), none, none]) (g := fun k : Kd => W.d k.d) (h := fun k : Kd => W.d (k.sw (ren pP (us L))).d) (st := []) L [] (fun k hk =>
    turn5b _ _ _ _ _ _ _ _ (sw2_call n [] _ k (hL k hk) (by have := tot_mem L k hk; omega))) (by simp only [List.length_nil]; omega)
  rw [List.nil_append] at g2
  have hit : itOf [] (vTup (L.map Kd.d)) = some (.items (L.map fun k => W.d k.d)) := by
    show some (Itx.items ((L.map Kd.d).map W.d)) = _
    rw [List.map_map]; rfl
  have hlb : evE (CN (n + 40)) lc5b [some (.d (.tuple (L.map Kd.d))), some (.d (.tuple ((us L).map keyD))), some (.d (dD (ren pP (us L)))), none, none] [] = .ok (.fl (L.map fun k => W.d (k.sw (ren pP (us L))).d)) [] :=
    ev_lc (it := .items (L.map fun k => W.d k.d)) rfl (sr_it (ev_var rfl) hit) (ga_items g2)
  have hT : bltV .tuple [] [.fl (L.map fun k => W.d (k.sw (ren pP (us L))).d)] = some (vTup (L.map fun k => (k.sw (ren pP (us L))).d)) := by
    have e : (L.map fun k => W.d (k.sw (ren pP (us L))).d) = (L.map fun k => (k.sw (ren pP (us L))).d).map W.d := by rw [List.map_map]; rfl
    rw [e]
    show (some ((L.map fun k => (k.sw (ren pP (us L))).d).map W.d)).bind (fun xs => (datas xs).map vTup) = _
    rw [Option.bind_some, datas_map]; rfl
  apply run_fn (n := n + 40) (fn := f5) rfl rfl rfl
  exact ss_cons h0 (nx_nx (ss_cons h1 (nx_nx (ss_cons (s_ret (ev_blt (es_cons hlb es_nil) hT)) nx_rt))))
end KI
set_option maxHeartbeats 4100000
namespace KI
open PySem MP
local macro_rules | `(tactic| decreasing_trivial_pre_omega) => `(tactic| first
  | simp only [List.map_nil, List.append_nil, List.nil_append, List.cons_append, List.map_cons, List.set_cons_zero, List.set_cons_succ, List.length_nil]
  | with_reducible exact ev_cst | with_reducible apply ev_cel | with_reducible apply ev_var | with_reducible apply ev_bin | with_reducible apply ev_cmp | with_reducible apply ev_ix | with_reducible apply ev_nt | with_reducible apply ev_an | with_reducible apply ev_orr
  | with_reducible apply ev_ife | with_reducible apply ev_cmp2 | with_reducible apply ev_cmp2b | with_reducible apply ev_tup | with_reducible apply ev_lst | with_reducible exact ev_dis | with_reducible apply ev_neg | with_reducible apply ev_sl
  | with_reducible exact eo_none | with_reducible apply eo_some | with_reducible apply ev_call | with_reducible apply ev_blt | with_reducible apply ev_mth | with_reducible apply ev_isi | with_reducible apply ev_lc
  | with_reducible exact ec_nil | with_reducible apply ec_one | with_reducible exact es_nil | with_reducible apply es_cons | with_reducible apply sr_it | with_reducible apply sr_rng1 | with_reducible apply sr_rng2 | with_reducible apply sr_enm | with_reducible apply sr_zp
  | with_reducible apply pick_t | with_reducible apply pick_f | refine pick_tE (by rfl) ?_ | refine pick_fE (by rfl) ?_ | with_reducible apply nx_nx | with_reducible exact nx_rt | with_reducible exact nx_bk | with_reducible exact nx_ct | with_reducible exact ss_nil | with_reducible apply ss_cons | with_reducible apply s_asg | with_reducible apply s_own
  | with_reducible apply s_unp | with_reducible apply s_par | with_reducible apply s_set | with_reducible apply s_ex | with_reducible apply s_iff | with_reducible apply s_ret | with_reducible exact s_retN | with_reducible exact s_pss | with_reducible exact s_brk | with_reducible exact s_cnt
  | with_reducible apply s_fr | with_reducible apply fo_items | with_reducible exact fo_nil | with_reducible apply fo_cons | with_reducible apply frF_ok | with_reducible apply nf_nx | with_reducible apply nf_ct | with_reducible exact nf_rt | with_reducible exact nf_bk
  | with_reducible apply ga_items | with_reducible exact ga_nil | with_reducible apply ng_none | with_reducible apply ng_some | with_reducible apply lcF_ok | with_reducible apply lcE | with_reducible apply ga_cons)
/-! _law_plain -/
abbrev nm16 : E := (.bin .Add (.ix (.var 2) (.bin .Sub (.var 4) (.bin .Mult (.bin .FloorDiv (.var 4) (.cst (.int 26))) (.cst (.int 26))))) (.ife (.cmp .Lt (.var 4) (.cst (.int 26))) (.cst (.str ⟨#[]⟩)) (.blt .str [(.bin .FloorDiv (.var 4) (.cst (.int 26)))])))
theorem name_16 (C : CE) (a b c d : Option W) (st : Sto) (k : Nat) (hk : k < 104) : evE C nm16 [a, b, some (.d (.str abc)), c, some (.d (.int (k : Int))), d] st = .ok (vStr (ltr k)) st := by
  have d1 := div_c st k 26 (by decide)
  have hq : k / 26 = 0 ∨ k / 26 = 1 ∨ k / 26 = 2 ∨ k / 26 = 3 := by omega
  have x1 := abc_ix st (k % 26) (by omega)
  have e1 : (k : Int) - ((k : Int) / 26) * 26 = ((k % 26 : Nat) : Int) := by omega
  have m1 := mul_c st ((k : Int) / 26) 26 (by decide)
  have s1 : binV .Sub st (vInt (k : Int)) (vInt ((k : Int) / 26 * 26)) = some (vInt ((k % 26 : Nat) : Int)) := by rw [← e1]; rfl
  have l1 : cmpV .Lt st (vInt (k : Int)) (vInt 26) = some (decide ((k : Int) < 26)) := rfl
  have hf : evE C (.bin .FloorDiv (.var 4) (.cst (.int 26))) [a, b, some (.d (.str abc)), c, some (.d (.int (k : Int))), d] st = .ok (vInt ((k : Int) / 26)) st := ev_bin (ev_var rfl) ev_cst d1
  have hi : evE C (.ix (.var 2) (.bin .Sub (.var 4) (.bin .Mult (.bin .FloorDiv (.var 4) (.cst (.int 26))) (.cst (.int 26))))) [a, b, some (.d (.str abc)), c, some (.d (.int (k : Int))), d] st = .ok (vStr ⟨#[97 + k % 26]⟩) st :=
    ev_ix (ev_var rfl) (ev_bin (ev_var rfl) (ev_bin hf ev_cst m1) s1) x1
  rcases hq with hq | hq | hq | hq
  · have e3 : ltr k = ⟨#[97 + k % 26]⟩ := by unfold ltr; rw [hq]; try rfl
    rw [decide_eq_true (by omega)] at l1
    rw [e3]
    exact ev_bin hi (ev_ife (ev_cmp (ev_var rfl) ev_cst l1) rfl (pick_t ev_cst)) (add_0 _ _)
  · have e2 : ((k : Int) / 26) = 1 := by omega
    have e3 : ltr k = ⟨#[97 + k % 26, 49]⟩ := by unfold ltr; rw [hq]; try rfl
    rw [decide_eq_false (by omega)] at l1
    rw [e2] at hf
    rw [e3]
    exact ev_bin hi (ev_ife (ev_cmp (ev_var rfl) ev_cst l1) rfl (pick_f (ev_blt (es_cons hf es_nil) (str_1 _)))) (add_s _ _ _)
  · have e2 : ((k : Int) / 26) = 2 := by omega
    have e3 : ltr k = ⟨#[97 + k % 26, 50]⟩ := by unfold ltr; rw [hq]; try rfl
    rw [decide_eq_false (by omega)] at l1
    rw [e2] at hf
    rw [e3]
    exact ev_bin hi (ev_ife (ev_cmp (ev_var rfl) ev_cst l1) rfl (pick_f (ev_blt (es_cons hf es_nil) (str_2 _)))) (add_s _ _ _)
  · have e2 : ((k : Int) / 26) = 3 := by omega
    have e3 : ltr k = ⟨#[97 + k % 26, 51]⟩ := by unfold ltr; rw [hq]; try rfl
    rw [decide_eq_false (by omega)] at l1
    rw [e2] at hf
    rw [e3]
    exact ev_bin hi (ev_ife (ev_cmp (ev_var rfl) ev_cst l1) rfl (pick_f (ev_blt (es_cons hf es_nil) (str_3 _)))) (add_s _ _ _)
abbrev tp16 : E := (.tup [(.ix (.var 1) (.var 4)), (.tup [(.cst (.str ⟨#[63]⟩)), nm16])])
theorem turn16 (C : CE) (v : D) (xs : List Ky) (k : Nat) (st : Sto) (h : k < xs.length) (hk : k < 104) : lcF C [4] (.nm 4) [] tp16 [some (.d v), some (.d (lK xs)), some (.d (.str abc)), none, none, none] (.d (.int (k : Int))) st = .ok (some (.d (.tuple [keyD (xs.getD k (.inl 0)), (Kd.v (pP k)).d]))) st := by
  have e1 := ix_L st xs k h
  have hx : evE C tp16 [some (.d v), some (.d (lK xs)), some (.d (.str abc)), none, some (.d (.int (k : Int))), none] st = .ok (vTup [keyD (xs.getD k (.inl 0)), (Kd.v (pP k)).d]) st :=
    ev_tup (es_cons (ev_ix (ev_var rfl) (ev_var rfl) e1) (es_cons (ev_tup (es_cons ev_cst (es_cons (name_16 C _ _ _ _ st k hk) es_nil)) rfl rfl) es_nil)) rfl rfl
  exact lcF_ok (w := .d (.int (k : Int))) rfl ec_nil (pick_t (lcE hx rfl))
theorem turn16b (C : CE) (a b c : Option W) (dd d r : D) (st : Sto) (h : callV C 17 [.d dd, .d d] st = .ok (.w (.d r)) st) : lcF C [5] (.nm 5) [] (.call 17 [(.var 3), (.var 5)] []) [a, b, c, some (.d dd), none, none] (.d d) st = .ok (some (.d r)) st :=
  lcF_ok (w := .d d) rfl ec_nil (pick_t (lcE (ev_call (es_cons (ev_var rfl) (es_cons (ev_var rfl) es_nil)) rfl h) rfl))
theorem lets_call (n : Nat) (st : Sto) (L : List Kd) (hL : ∀ k ∈ L, Gd k) (ht : tot L ≤ 5000) : callV (CN (n + 1)) 15 [.d (.list (L.map Kd.d))] st = .ok (.w (.d (lK (us L)))) st := by
  obtain ⟨s1, h⟩ := llets_run n L hL ht
  exact cl_pure rfl h rfl
theorem lplain_run (n : Nat) (L : List Kd) (hL : ∀ k ∈ L, Gd k) (ht : tot L ≤ 103) : Rn (n + 41) 16 [.d (.list (L.map Kd.d))] [] = .ok (.fl (L.map fun k => W.d (k.sw (ren pP (us L))).d)) [] := by
  have hu := us_len L
  have hlen := len_tot L
  have c0 := lets_call (n + 39) [] L hL (by omega)
  have g1 := ren_gath (F := lcF (CN (n + 40)) [4] (.nm 4) [] tp16 [some (.d (.list (L.map Kd.d))), some (.d (lK (us L))), some (.d (.str abc)), none, none, none]) (st := []) pP (us L) (by omega) (fun k hk =>
    turn16 (CN (n + 40)) _ _ k [] hk (by omega))
  have hlc : evE (CN (n + 40)) (.lc [4] (.nm 4) (.rng1 [(.blt .len [(.var 1)])]) [] tp16) [some (.d (.list (L.map Kd.d))), some (.d (lK (us L))), some (.d (.str abc)), none, none, none] [] = .ok (.fl ((ren pP (us L)).map fun p => W.d (.tuple [keyD p.1, p.2.d]))) [] :=
    ev_lc (it := .items (rngW 0 ((us L).length : Int))) rfl (sr_rng1 (es_cons (ev_blt (es_cons (ev_var rfl) es_nil) (len_L [] (us L))) es_nil) (rng_ok _ (by omega))) (ga_items g1)
  have hdi := dict_S [] (ren pP (us L)) (ren_nd pP (us L) (us_nd L))
  have h0 : evS (CN (n + 40)) (.asg false 1 (.call 15 [(.var 0)] [])) [some (.d (.list (L.map Kd.d))), none, none, none, none, none] [] = .ok (.nx [some (.d (.list (L.map Kd.d))), some (.d (lK (us L))), none, none, none, none]) [] :=
    s_asg (ev_call (es_cons (ev_var rfl) es_nil) rfl c0) rfl
  have h1 : evS (CN (n + 40)) (.asg false 3 (.blt .dict [(.lc [4] (.nm 4) (.rng1 [(.blt .len [(.var 1)])]) [] tp16)])) [some (.d (.list (L.map Kd.d))), some (.d (lK (us L))), some (.d (.str abc)), none, none, none] [] = .ok (.nx [some (.d (.list (L.map Kd.d))), some (.d (lK (us L))), some (.d (.str abc)), some (.d (dD (ren pP (us L)))), none, none]) [] :=
    s_asg (ev_blt (es_cons hlc es_nil) hdi) (w_S _)
  have g2 := gath_map (f := lcF (CN (n + 40)) [5] (.nm 5) [] (.call 17 [(.var 3), (.var 5)] []) [some (.d (.list (L.map Kd.d))), some (.d (lK (us L))), some (.d (.str abc)), some (.d (dD (ren pP (us L)))), none, none]) (g := fun k : Kd => W.d k.d) (h := fun k : Kd => W.d (k.sw (ren pP (us L))).d) (st := []) L [] (fun k hk =>
    turn16b _ _ _ _ _ _ _ _ (sw17_call n [] _ k (hL k hk) (by have := tot_mem L k hk; omega))) (by simp only [List.length_nil]; omega)
  rw [List.nil_append] at g2
  have hit : itOf [] (.w (.d (.list (L.map Kd.d)))) = some (.items (L.map fun k => W.d k.d)) := by
    show some (Itx.items ((L.map Kd.d).map W.d)) = _
    rw [List.map_map]; rfl
  apply run_fn (n := n + 40) (fn := f16) rfl rfl rfl
  exact ss_cons h0 (nx_nx (ss_cons (s_asg ev_cst rfl) (nx_nx (ss_cons h1 (nx_nx (ss_cons (s_ret (ev_lc (it := .items (L.map fun k => W.d k.d)) rfl (sr_it (ev_var rfl) hit) (ga_items g2))) nx_rt))))))
/-! kinds_alike -/
abbrev npl (k : Kd) : Kd := k.sw (ren pP (us [k]))
theorem ren_P_ok (xs : List Ky) (h : xs.length ≤ 103) : ∀ p ∈ ren pP xs, p.2.ok := ren_vok pP xs fun k hk => ltr_ok k (by omega)
theorem gd_npl (k : Kd) (hk : Gd k) (hz : k.sz ≤ 103) : Gd (npl k) := by
  have h1 := us_len [k]
  have h2 := sw_dep (ren pP (us [k])) 0 (ren_dep _ _) k
  exact ⟨sw_ok _ (ren_P_ok _ (by simp only [tot] at h1; omega)) k hk.1, by have := hk.2; show (k.sw (ren pP (us [k]))).dep ≤ 30; omega⟩
theorem sh_T (k : Kd) (hk : Gd k) : SeqAt.shaped (.tuple [k.d]) = true := by
  have h1 := kd_lay k hk.1
  have h2 := kd_depth k
  have h3 := hk.2
  unfold SeqAt.shaped
  simp only [PyData.canLay0, PyData.canLayAll0, h1, Bool.and_self, Bool.true_and, PyData.depth, PyData.depthAll]
  exact decide_eq_true_eq.mpr (by omega)
theorem sh_L (k : Kd) (hk : Gd k) : SeqAt.shaped (.list [k.d]) = true := sh_T k hk
theorem eq_T1 (st : Sto) (k l : Kd) (hk : Gd k) (hl : Gd l) : cmpV .Eq st (vTup [k.d]) (vTup [l.d]) = some (ek k l) := by
  show eqD (.tuple [k.d]) (.tuple [l.d]) = _
  unfold eqD
  rw [sh_T k hk, sh_T l hl]
  simp only [Bool.and_self, Bool.or_true, if_true, PyData.eqv, PyData.eqvAll, Bool.and_true]
  rfl
theorem eq_L1 (st : Sto) (k l : Kd) (hk : Gd k) (hl : Gd l) : cmpV .Eq st (.fl [.d k.d]) (.fl [.d l.d]) = some (ek k l) := by
  show eqD (.list [k.d]) (.list [l.d]) = _
  unfold eqD
  rw [sh_L k hk, sh_L l hl]
  simp only [Bool.and_self, Bool.or_true, if_true, PyData.eqv, PyData.eqvAll, Bool.and_true]
  rfl
theorem plain_call (n : Nat) (st : Sto) (L : List Kd) (hL : ∀ k ∈ L, Gd k) (ht : tot L ≤ 103) : callV (CN (n + 41)) 5 [.d (.tuple (L.map Kd.d))] st = .ok (vTup (L.map fun k => (k.sw (ren pP (us L))).d)) st :=
  cl_pure rfl (plain_run n L hL ht) rfl
theorem below_K {α : Type} (g : α → D) : ∀ L : List α, (L.map fun k => W.d (g k)).all (W.below 0) = true
  | [] => rfl
  | k :: r => by rw [List.map_cons, List.all_cons, below_K g r]; rfl
theorem lplain_call (n : Nat) (st : Sto) (L : List Kd) (hL : ∀ k ∈ L, Gd k) (ht : tot L ≤ 103) : callV (CN (n + 41)) 16 [.d (.list (L.map Kd.d))] st = .ok (.fl (L.map fun k => W.d (k.sw (ren pP (us L))).d)) st := by
  refine cl_pure rfl (lplain_run n L hL ht) ?_
  show (if (L.map fun k => W.d (k.sw (ren pP (us L))).d).all (W.below 0) = true then some (Val.fl (L.map fun k => W.d (k.sw (ren pP (us L))).d)) else none) = _
  rw [if_pos (below_K (fun k : Kd => (k.sw (ren pP (us L))).d) L)]
theorem alike_call (n : Nat) (st : Sto) (k l : Kd) (hk : Gd k) (hl : Gd l) (h1 : k.sz ≤ 103) (h2 : l.sz ≤ 103) : callV (CN (n + 42)) 8 [.d k.d, .d l.d] st = .ok (vBool (ek (npl k) (npl l))) st := by
  have c1 := plain_call n [] [k] (fun x hx => by rw [List.mem_singleton] at hx; rw [hx]; exact hk) (by simp only [tot]; omega)
  have c2 := plain_call n [] [l] (fun x hx => by rw [List.mem_singleton] at hx; rw [hx]; exact hl) (by simp only [tot]; omega)
  have e := eq_T1 [] (npl k) (npl l) (gd_npl k hk h1) (gd_npl l hl h2)
  have hr : Rn (n + 42) 8 [.d k.d, .d l.d] [] = .ok (vBool (ek (npl k) (npl l))) [] := by
    apply run_fn (n := n + 41) (fn := f8) rfl rfl rfl
    exact ss_cons (s_ret (ev_cmp (ev_call (es_cons (ev_tup (es_cons (ev_var rfl) es_nil) rfl rfl) es_nil) rfl c1) (ev_call (es_cons (ev_tup (es_cons (ev_var rfl) es_nil) rfl rfl) es_nil) rfl c2) e)) nx_rt
  exact cl_pure rfl hr rfl
end KI
set_option maxHeartbeats 4100000
namespace KI
open PySem MP
local macro_rules | `(tactic| decreasing_trivial_pre_omega) => `(tactic| first
  | simp only [List.map_nil, List.append_nil, List.nil_append, List.cons_append, List.map_cons, List.set_cons_zero, List.set_cons_succ, List.length_nil]
  | with_reducible exact ev_cst | with_reducible apply ev_cel | with_reducible apply ev_var | with_reducible apply ev_bin | with_reducible apply ev_cmp | with_reducible apply ev_ix | with_reducible apply ev_nt | with_reducible apply ev_an | with_reducible apply ev_orr
  | with_reducible apply ev_ife | with_reducible apply ev_cmp2 | with_reducible apply ev_cmp2b | with_reducible apply ev_tup | with_reducible apply ev_lst | with_reducible exact ev_dis | with_reducible apply ev_neg | with_reducible apply ev_sl
  | with_reducible exact eo_none | with_reducible apply eo_some | with_reducible apply ev_call | with_reducible apply ev_blt | with_reducible apply ev_mth | with_reducible apply ev_isi | with_reducible apply ev_lc
  | with_reducible exact ec_nil | with_reducible apply ec_one | with_reducible exact es_nil | with_reducible apply es_cons | with_reducible apply sr_it | with_reducible apply sr_rng1 | with_reducible apply sr_rng2 | with_reducible apply sr_enm | with_reducible apply sr_zp
  | with_reducible apply pick_t | with_reducible apply pick_f | refine pick_tE (by rfl) ?_ | refine pick_fE (by rfl) ?_ | with_reducible apply nx_nx | with_reducible exact nx_rt | with_reducible exact nx_bk | with_reducible exact nx_ct | with_reducible exact ss_nil | with_reducible apply ss_cons | with_reducible apply s_asg | with_reducible apply s_own
  | with_reducible apply s_unp | with_reducible apply s_par | with_reducible apply s_set | with_reducible apply s_ex | with_reducible apply s_iff | with_reducible apply s_ret | with_reducible exact s_retN | with_reducible exact s_pss | with_reducible exact s_brk | with_reducible exact s_cnt
  | with_reducible apply s_fr | with_reducible apply fo_items | with_reducible exact fo_nil | with_reducible apply fo_cons | with_reducible apply frF_ok | with_reducible apply nf_nx | with_reducible apply nf_ct | with_reducible exact nf_rt | with_reducible exact nf_bk
  | with_reducible apply ga_items | with_reducible exact ga_nil | with_reducible apply ng_none | with_reducible apply ng_some | with_reducible apply lcF_ok | with_reducible apply lcE | with_reducible apply ga_cons)
/-! kinding_fresh -/
abbrev pF (b : Int) : Nat → Ky := fun k => .inl (b + (k : Int))
abbrev tp3 : E := (.blt .pair [(.ix (.var 5) (.var 7)), (.tup [(.cst (.str ⟨#[63]⟩)), (.bin .Add (.var 1) (.var 7))])])
abbrev swL (σ : Sg) (A : List Kd) : D := .tuple (A.map fun k => (k.sw σ).d)
abbrev tT (A : List Kd) : D := .tuple (A.map Kd.d)
theorem turn3 (C : CE) (a c d e : Option W) (b : Int) (xs : List Ky) (k : Nat) (st : Sto) (f g h i j : Option W) (hk : k < xs.length) : lcF C [7] (.nm 7) [] tp3 [a, some (.d (.int b)), c, d, e, some (.d (.tuple (xs.map keyD))), f, g, h, i, j] (.d (.int (k : Int))) st = .ok (some (.d (.tuple [keyD (xs.getD k (.inl 0)), (Kd.v (pF b k)).d]))) st := by
  have e1 := ix_T st xs k hk
  have e2 := pair_V st (xs.getD k (.inl 0)) (Kd.v (pF b k)).d
  have hx : evE C tp3 [a, some (.d (.int b)), c, d, e, some (.d (.tuple (xs.map keyD))), f, some (.d (.int (k : Int))), h, i, j] st = .ok (vTup [keyD (xs.getD k (.inl 0)), (Kd.v (pF b k)).d]) st :=
    ev_blt (es_cons (ev_ix (ev_var rfl) (ev_var rfl) e1) (es_cons (ev_tup (es_cons ev_cst (es_cons (ev_bin (ev_var rfl) (ev_var rfl) rfl) es_nil)) rfl rfl) es_nil)) e2
  exact lcF_ok (w := .d (.int (k : Int))) rfl ec_nil (pick_t (lcE hx rfl))
theorem turn3b (C : CE) (a b c d e f g h j : Option W) (dd x r : D) (st : Sto) (hc : callV C 2 [.d dd, .d x] st = .ok (.w (.d r)) st) : lcF C [9] (.nm 9) [] (.call 2 [(.var 6), (.var 9)] []) [a, b, c, d, e, f, some (.d dd), g, h, none, j] (.d x) st = .ok (some (.d r)) st :=
  lcF_ok (w := .d x) rfl ec_nil (pick_t (lcE (ev_call (es_cons (ev_var rfl) (es_cons (ev_var rfl) es_nil)) rfl hc) rfl))
abbrev row3 : E := (.blt .tuple [(.lc [9] (.nm 9) (.it (.var 10)) [] (.call 2 [(.var 6), (.var 9)] []))])
theorem itT (st : Sto) (A : List Kd) : itOf st (.w (.d (tT A))) = some (.items (A.map fun k => W.d k.d)) := by
  show some (Itx.items ((A.map Kd.d).map W.d)) = _
  rw [List.map_map]; rfl
theorem tupF (st : Sto) (σ : Sg) (A : List Kd) : bltV .tuple st [.fl (A.map fun k => W.d (k.sw σ).d)] = some (.w (.d (swL σ A))) := by
  have e : (A.map fun k => W.d (k.sw σ).d) = (A.map fun k => (k.sw σ).d).map W.d := by rw [List.map_map]; rfl
  rw [e]
  show (some ((A.map fun k => (k.sw σ).d).map W.d)).bind (fun xs => (datas xs).map vTup) = _
  rw [Option.bind_some, datas_map]; rfl
theorem row_3 (n : Nat) (a b c d e f g h : Option W) (σ : Sg) (A : List Kd) (st : Sto) (hA : ∀ k ∈ A, Gd k) (ht : tot A ≤ 9000) : evE (CN (n + 40)) row3 [a, b, c, d, e, f, some (.d (dD σ)), g, h, none, some (.d (tT A))] st = .ok (.w (.d (swL σ A))) st := by
  have hlen := len_tot A
  have g2 := gath_map (f := lcF (CN (n + 40)) [9] (.nm 9) [] (.call 2 [(.var 6), (.var 9)] []) [a, b, c, d, e, f, some (.d (dD σ)), g, h, none, some (.d (tT A))]) (g := fun k : Kd => W.d k.d) (h := fun k : Kd => W.d (k.sw σ).d) (st := st) A [] (fun k hk =>
    turn3b _ _ _ _ _ _ _ _ _ _ _ _ _ _ (sw2_call n st _ k (hA k hk) (by have := tot_mem A k hk; omega))) (by simp only [List.length_nil]; omega)
  rw [List.nil_append] at g2
  exact ev_blt (es_cons (ev_lc (it := .items (A.map fun k => W.d k.d)) rfl (sr_it (ev_var rfl) (itT st A)) (ga_items g2)) es_nil) (tupF st σ A)
theorem rows_3 (n : Nat) (a b c d e f g h : Option W) (σ : Sg) (A : List Kd) (st : Sto) (hA : ∀ k ∈ A, Gd k) (ht : tot A ≤ 9000) : lcF (CN (n + 40)) [10] (.nm 10) [] row3 [a, b, c, d, e, f, some (.d (dD σ)), g, h, none, none] (.d (tT A)) st = .ok (some (.d (swL σ A))) st :=
  lcF_ok (w := .d (tT A)) rfl ec_nil (pick_t (lcE (row_3 n a b c d e f g h σ A st hA ht) rfl))
theorem add_T (st : Sto) (A B : List Kd) (h : A.length + B.length ≤ 100000) : binV .Add st (.w (.d (tT A))) (.w (.d (tT B))) = some (.w (.d (tT (A ++ B)))) := by
  show (if (A.map Kd.d).length + (B.map Kd.d).length ≤ line then some (vTup (A.map Kd.d ++ B.map Kd.d)) else none) = _
  rw [if_pos (by simp only [List.length_map, line]; omega), ← List.map_append]
abbrev fre (b : Int) (L : List Kd) : Sg := ren (pF b) (us L)
abbrev kng (A B : List Kd) (k : Kd) : D := .tuple [tT A, tT B, k.d]
theorem fresh_run (n : Nat) (A B : List Kd) (k : Kd) (b : Int) (hA : ∀ k ∈ A, Gd k) (hB : ∀ k ∈ B, Gd k) (hk : Gd k) (ht : tot (A ++ B ++ [k]) ≤ 5000) :
    Rn (n + 41) 3 [.d (kng A B k), .d (.int b)] [] = .ok (vTup [.tuple [swL (fre b (A ++ B ++ [k])) A, swL (fre b (A ++ B ++ [k])) B, (k.sw (fre b (A ++ B ++ [k]))).d], .int (b + ((us (A ++ B ++ [k])).length : Nat))]) [] := by
  have hL : ∀ x ∈ A ++ B ++ [k], Gd x := by
    intro x hx
    obtain hx | hx := List.mem_append.mp hx
    · obtain hx | hx := List.mem_append.mp hx
      · exact hA x hx
      · exact hB x hx
    · rw [List.mem_singleton] at hx; rw [hx]; exact hk
  have hu := us_len (A ++ B ++ [k])
  have hnd := us_nd (A ++ B ++ [k])
  have hlen := len_tot (A ++ B ++ [k])
  have c0 := all_lets n [] (A ++ B ++ [k]) hL (by omega)
  have t1 : tot A ≤ 5000 := by rw [tot_app, tot_app] at ht; omega
  have t2 : tot B ≤ 5000 := by rw [tot_app, tot_app] at ht; omega
  have t3 : k.sz ≤ 5000 := by rw [tot_app] at ht; simp only [tot] at ht; omega
  have b1 := add_T [] A B (by simp only [List.length_append] at hlen; omega)
  have b2 := add_T [] (A ++ B) [k] (by simp only [List.length_append] at hlen ⊢; omega)
  generalize A ++ B ++ [k] = L at *
  have g1 := ren_gath (F := lcF (CN (n + 40)) [7] (.nm 7) [] tp3 [some (.d (kng A B k)), some (.d (.int b)), some (.d (tT A)), some (.d (tT B)), some (.d k.d), some (.d (.tuple ((us L).map keyD))), none, none, none, none, none]) (st := []) (pF b) (us L) (by omega) (fun i hi => turn3 _ _ _ _ _ b (us L) i [] _ _ _ _ _ hi)
  have hlc : evE (CN (n + 40)) (.lc [7] (.nm 7) (.rng1 [(.blt .len [(.var 5)])]) [] tp3) [some (.d (kng A B k)), some (.d (.int b)), some (.d (tT A)), some (.d (tT B)), some (.d k.d), some (.d (.tuple ((us L).map keyD))), none, none, none, none, none] [] = .ok (.fl ((fre b L).map fun p => W.d (.tuple [keyD p.1, p.2.d]))) [] :=
    ev_lc (it := .items (rngW 0 ((us L).length : Int))) rfl (sr_rng1 (es_cons (ev_blt (es_cons (ev_var rfl) es_nil) (len_T [] (us L))) es_nil) (rng_ok _ (by omega))) (ga_items g1)
  have hdi := dict_S [] (fre b L) (ren_nd (pF b) (us L) hnd)
  have hadd : evE (CN (n + 40)) (.bin .Add (.bin .Add (.var 2) (.var 3)) (.tup [(.var 4)])) [some (.d (kng A B k)), some (.d (.int b)), some (.d (tT A)), some (.d (tT B)), some (.d k.d), none, none, none, none, none, none] [] = .ok (.w (.d (tT L))) [] :=
    ev_bin (ev_bin (ev_var rfl) (ev_var rfl) b1) (ev_tup (es_cons (ev_var rfl) es_nil) rfl rfl) b2
  have h0 : evS (CN (n + 40)) (.unp [(.nm 2), (.nm 3), (.nm 4)] (.var 0)) [some (.d (kng A B k)), some (.d (.int b)), none, none, none, none, none, none, none, none, none] [] = .ok (.nx [some (.d (kng A B k)), some (.d (.int b)), some (.d (tT A)), some (.d (tT B)), some (.d k.d), none, none, none, none, none, none]) [] :=
    s_unp (w := .d (kng A B k)) (ev_var rfl) rfl
  have h1 : evS (CN (n + 40)) (.asg false 5 (.call 0 [(.tup [(.cst (.str ⟨#[97, 108, 108]⟩)), (.bin .Add (.bin .Add (.var 2) (.var 3)) (.tup [(.var 4)]))])] [])) [some (.d (kng A B k)), some (.d (.int b)), some (.d (tT A)), some (.d (tT B)), some (.d k.d), none, none, none, none, none, none] [] = .ok (.nx [some (.d (kng A B k)), some (.d (.int b)), some (.d (tT A)), some (.d (tT B)), some (.d k.d), some (.d (.tuple ((us L).map keyD))), none, none, none, none, none]) [] :=
    s_asg (ev_call (es_cons (ev_tup (es_cons ev_cst (es_cons hadd es_nil)) rfl rfl) es_nil) rfl c0) rfl
  have h2 : evS (CN (n + 40)) (.asg false 6 (.blt .dict [(.lc [7] (.nm 7) (.rng1 [(.blt .len [(.var 5)])]) [] tp3)])) [some (.d (kng A B k)), some (.d (.int b)), some (.d (tT A)), some (.d (tT B)), some (.d k.d), some (.d (.tuple ((us L).map keyD))), none, none, none, none, none] [] = .ok (.nx [some (.d (kng A B k)), some (.d (.int b)), some (.d (tT A)), some (.d (tT B)), some (.d k.d), some (.d (.tuple ((us L).map keyD))), some (.d (dD (fre b L))), none, none, none, none]) [] :=
    s_asg (ev_blt (es_cons hlc es_nil) hdi) (w_S _)
  have g3 : gath (lcF (CN (n + 40)) [10] (.nm 10) [] row3 [some (.d (kng A B k)), some (.d (.int b)), some (.d (tT A)), some (.d (tT B)), some (.d k.d), some (.d (.tuple ((us L).map keyD))), some (.d (dD (fre b L))), none, none, none, none]) [.d (tT A), .d (tT B)] [] [] = .ok [.d (swL (fre b L) A), .d (swL (fre b L) B)] [] :=
    ga_cons (rows_3 n _ _ _ _ _ _ _ _ (fre b L) A [] hA (by omega)) (ng_some rfl (ga_cons (rows_3 n _ _ _ _ _ _ _ _ (fre b L) B [] hB (by omega)) (ng_some rfl ga_nil)))
  have hlb : evE (CN (n + 40)) (.lc [10] (.nm 10) (.it (.tup [(.var 2), (.var 3)])) [] row3) [some (.d (kng A B k)), some (.d (.int b)), some (.d (tT A)), some (.d (tT B)), some (.d k.d), some (.d (.tuple ((us L).map keyD))), some (.d (dD (fre b L))), none, none, none, none] [] = .ok (.fl [.d (swL (fre b L) A), .d (swL (fre b L) B)]) [] :=
    ev_lc (it := .items [.d (tT A), .d (tT B)]) rfl (sr_it (ev_tup (es_cons (ev_var rfl) (es_cons (ev_var rfl) es_nil)) rfl rfl) rfl) (ga_items g3)
  have h3 : evS (CN (n + 40)) (.asg false 8 (.lc [10] (.nm 10) (.it (.tup [(.var 2), (.var 3)])) [] row3)) [some (.d (kng A B k)), some (.d (.int b)), some (.d (tT A)), some (.d (tT B)), some (.d k.d), some (.d (.tuple ((us L).map keyD))), some (.d (dD (fre b L))), none, none, none, none] [] = .ok (.nx [some (.d (kng A B k)), some (.d (.int b)), some (.d (tT A)), some (.d (tT B)), some (.d k.d), some (.d (.tuple ((us L).map keyD))), some (.d (dD (fre b L))), none, some (.d (.list [swL (fre b L) A, swL (fre b L) B])), none, none]) [] :=
    s_asg hlb rfl
  have hsw := sw2_call n [] (fre b L) k hk (by omega)
  have x0 : ixV [] (.w (.d (.list [swL (fre b L) A, swL (fre b L) B]))) (vInt 0) = some (.w (.d (swL (fre b L) A))) := rfl
  have x1 : ixV [] (.w (.d (.list [swL (fre b L) A, swL (fre b L) B]))) (vInt 1) = some (.w (.d (swL (fre b L) B))) := rfl
  have hT : evE (CN (n + 40)) (.tup [(.tup [(.ix (.var 8) (.cst (.int 0))), (.ix (.var 8) (.cst (.int 1))), (.call 2 [(.var 6), (.var 4)] [])]), (.bin .Add (.var 1) (.blt .len [(.var 5)]))]) [some (.d (kng A B k)), some (.d (.int b)), some (.d (tT A)), some (.d (tT B)), some (.d k.d), some (.d (.tuple ((us L).map keyD))), some (.d (dD (fre b L))), none, some (.d (.list [swL (fre b L) A, swL (fre b L) B])), none, none] [] = .ok (vTup [.tuple [swL (fre b L) A, swL (fre b L) B, (k.sw (fre b L)).d], .int (b + ((us L).length : Nat))]) [] :=
    ev_tup (es_cons (ev_tup (es_cons (ev_ix (ev_var rfl) ev_cst x0) (es_cons (ev_ix (ev_var rfl) ev_cst x1) (es_cons (ev_call (es_cons (ev_var rfl) (es_cons (ev_var rfl) es_nil)) rfl hsw) es_nil))) rfl rfl) (es_cons (ev_bin (ev_var rfl) (ev_blt (es_cons (ev_var rfl) es_nil) (len_T [] (us L))) rfl) es_nil)) rfl rfl
  apply run_fn (n := n + 40) (fn := f3) rfl rfl rfl
  exact ss_cons h0 (nx_nx (ss_cons h1 (nx_nx (ss_cons h2 (nx_nx (ss_cons h3 (nx_nx (ss_cons (s_ret hT) nx_rt))))))))
end KI
set_option maxHeartbeats 4100000
namespace KI
open PySem MP
local macro_rules | `(tactic| decreasing_trivial_pre_omega) => `(tactic| first
  | simp only [List.map_nil, List.append_nil, List.nil_append, List.cons_append, List.map_cons, List.set_cons_zero, List.set_cons_succ, List.length_nil]
  | with_reducible exact ev_cst | with_reducible apply ev_cel | with_reducible apply ev_var | with_reducible apply ev_bin | with_reducible apply ev_cmp | with_reducible apply ev_ix | with_reducible apply ev_nt | with_reducible apply ev_an | with_reducible apply ev_orr
  | with_reducible apply ev_ife | with_reducible apply ev_cmp2 | with_reducible apply ev_cmp2b | with_reducible apply ev_tup | with_reducible apply ev_lst | with_reducible exact ev_dis | with_reducible apply ev_neg | with_reducible apply ev_sl
  | with_reducible exact eo_none | with_reducible apply eo_some | with_reducible apply ev_call | with_reducible apply ev_blt | with_reducible apply ev_mth | with_reducible apply ev_isi | with_reducible apply ev_lc
  | with_reducible exact ec_nil | with_reducible apply ec_one | with_reducible exact es_nil | with_reducible apply es_cons | with_reducible apply sr_it | with_reducible apply sr_rng1 | with_reducible apply sr_rng2 | with_reducible apply sr_enm | with_reducible apply sr_zp
  | with_reducible apply pick_t | with_reducible apply pick_f | refine pick_tE (by rfl) ?_ | refine pick_fE (by rfl) ?_ | with_reducible apply nx_nx | with_reducible exact nx_rt | with_reducible exact nx_bk | with_reducible exact nx_ct | with_reducible exact ss_nil | with_reducible apply ss_cons | with_reducible apply s_asg | with_reducible apply s_own
  | with_reducible apply s_unp | with_reducible apply s_par | with_reducible apply s_set | with_reducible apply s_ex | with_reducible apply s_iff | with_reducible apply s_ret | with_reducible exact s_retN | with_reducible exact s_pss | with_reducible exact s_brk | with_reducible exact s_cnt
  | with_reducible apply s_fr | with_reducible apply fo_items | with_reducible exact fo_nil | with_reducible apply fo_cons | with_reducible apply frF_ok | with_reducible apply nf_nx | with_reducible apply nf_ct | with_reducible exact nf_rt | with_reducible exact nf_bk
  | with_reducible apply ga_items | with_reducible exact ga_nil | with_reducible apply ng_none | with_reducible apply ng_some | with_reducible apply lcF_ok | with_reducible apply lcE | with_reducible apply ga_cons)
/-! _law_same, on one thing twice -/
mutual
def nar : D → Bool
  | .tuple xs => decide (xs.length ≤ 10000) && nars xs
  | .list xs => decide (xs.length ≤ 10000) && nars xs
  | _ => true
def nars : List D → Bool
  | [] => true
  | x :: r => nar x && nars r
end
theorem nars_mem : ∀ (xs : List D) (x : D), x ∈ xs → nars xs = true → nar x = true
  | y :: r, x, h, hn => by
    simp only [nars, Bool.and_eq_true] at hn
    obtain rfl | h := List.mem_cons.mp h
    · exact hn.1
    · exact nars_mem r x h hn.2
theorem pls_mem : ∀ (xs : List D) (x : D), x ∈ xs → pls xs = true → pl x = true
  | y :: r, x, h, hn => by
    simp only [pls, Bool.and_eq_true] at hn
    obtain rfl | h := List.mem_cons.mp h
    · exact hn.1
    · exact pls_mem r x h hn.2
theorem dep_mem : ∀ (xs : List D) (x : D), x ∈ xs → x.depth ≤ PyData.depthAll xs
  | y :: r, x, h => by
    simp only [PyData.depthAll]
    obtain rfl | h := List.mem_cons.mp h
    · omega
    · have := dep_mem r x h; omega
abbrev kid11 : E := (.call 11 [(.ix (.var 0) (.var 3)), (.ix (.var 1) (.var 3))] [])
theorem turn11 (C : CE) (x y : D) (o : W) (k : Nat) (st : Sto) (e1 : ixV st (.w (.d x)) (vInt (k : Int)) = some (.w (.d y))) (h : callV C 11 [.d y, .d y] st = .ok (vBool true) st) : lcF C [3] (.nm 3) [] kid11 [some (.d x), some (.d x), some o, none] (.d (.int (k : Int))) st = .ok (some (.d (.bool true))) st :=
  lcF_ok (w := .d (.int (k : Int))) rfl ec_nil (pick_t (lcE (ev_call (es_cons (ev_ix (ev_var rfl) (ev_var rfl) e1) (es_cons (ev_ix (ev_var rfl) (ev_var rfl) e1) es_nil)) rfl h) rfl))
theorem eqv_rf (x : D) (h : pl x = true) : PyData.eqv x x = true := (eqv_pl x x h h).mpr rfl
theorem nat_eq (st : Sto) (a : Nat) : cmpV .Eq st (vInt (a : Int)) (vInt (a : Int)) = some true := by
  have e : cmpV .Eq st (vInt (a : Int)) (vInt (a : Int)) = some (PyData.eqv (.int (a : Int)) (.int (a : Int))) := rfl
  rw [e, eqv_rf _ rfl]
theorem all_11 (n : Nat) (xs : List D) (x : D) (o : W) (hlen : xs.length ≤ 10000) (hl : bltV .len [] [.w (.d x)] = some (vInt (xs.length : Nat)))
    (hix : ∀ (k : Nat) (y : D), xs[k]? = some y → ixV [] (.w (.d x)) (vInt (k : Int)) = some (.w (.d y))) (hc : ∀ y ∈ xs, callV (CN n) 11 [.d y, .d y] [] = .ok (vBool true) []) :
    evE (CN n) (.an (.cmp .Eq (.blt .len [(.var 0)]) (.blt .len [(.var 1)])) (.blt .all [(.lc [3] (.nm 3) (.rng1 [(.blt .len [(.var 1)])]) [] kid11)])) [some (.d x), some (.d x), some o, none] [] = .ok (vBool true) [] := by
  have g := gath_map (f := lcF (CN n) [3] (.nm 3) [] kid11 [some (.d x), some (.d x), some o, none]) (g := fun k : Nat => W.d (.int (k : Int))) (h := fun _ : Nat => W.d (.bool true)) (st := []) (List.range xs.length) [] (fun k hk => by
    have hk := List.mem_range.mp hk
    exact turn11 (CN n) x (xs[k]) o k [] (hix k _ (List.getElem?_eq_getElem hk)) (hc _ (List.getElem_mem hk))) (by simp only [List.length_nil, List.length_range]; omega)
  rw [← rng_map, List.nil_append] at g
  have ha := all_B [] ((List.range xs.length).map fun _ => true)
  rw [List.map_map] at ha
  have e : ((List.range xs.length).map fun _ => true).all id = true := by
    rw [List.all_eq_true]
    intro b hb
    rw [List.mem_map] at hb
    obtain ⟨_, _, rfl⟩ := hb
    rfl
  rw [e] at ha
  have hlc : evE (CN n) (.lc [3] (.nm 3) (.rng1 [(.blt .len [(.var 1)])]) [] kid11) [some (.d x), some (.d x), some o, none] [] = .ok (.fl ((List.range xs.length).map fun _ => W.d (.bool true))) [] :=
    ev_lc (it := .items (rngW 0 (xs.length : Int))) rfl (sr_rng1 (es_cons (ev_blt (es_cons (ev_var rfl) es_nil) hl) es_nil) (rng_ok _ (by omega))) (ga_items g)
  exact ev_an (ev_cmp (ev_blt (es_cons (ev_var rfl) es_nil) hl) (ev_blt (es_cons (ev_var rfl) es_nil) hl) (nat_eq _ _)) rfl (pick_t (ev_blt (es_cons hlc es_nil) ha))
theorem same_run : ∀ (m : Nat) (x : D), pl x = true → nar x = true → x.depth < m → ∀ n, Rn (n + m) 11 [.d x, .d x] [] = .ok (vBool true) []
  | 0, x, _, _, h, n => by omega
  | m + 1, .int i, hp, hn, h, n => by
    have e := eqv_rf (.int i) rfl
    have c1 : cmpV .Eq [] (vInt i) (vInt i) = some true := by
      show some (PyData.eqv (.int i) (.int i)) = _
      rw [e]
    show Rn ((n + m) + 1) 11 [.d (.int i), .d (.int i)] [] = _
    apply run_fn (fn := f11) rfl rfl rfl
    exact ss_cons (s_iff (ev_isi (ev_var rfl) rfl) rfl (pick_f ss_nil)) (nx_nx (ss_cons (s_iff (ev_orr (ev_isi (ev_var rfl) rfl) rfl (pick_f (ev_isi (ev_var rfl) rfl))) rfl (pick_f ss_nil)) (nx_nx (ss_cons (s_ret (ev_ife (ev_cmp (ev_var rfl) ev_cst rfl) rfl (pick_f (ev_an (ev_isi (ev_var rfl) rfl) rfl (pick_t (ev_cmp (ev_var rfl) (ev_var rfl) c1)))))) nx_rt))))
  | m + 1, .str i, hp, hn, h, n => by
    have e := eqv_rf (.str i) rfl
    have c1 : cmpV .Eq [] (vStr i) (vStr i) = some true := by
      show some (PyData.eqv (.str i) (.str i)) = _
      rw [e]
    show Rn ((n + m) + 1) 11 [.d (.str i), .d (.str i)] [] = _
    apply run_fn (fn := f11) rfl rfl rfl
    exact ss_cons (s_iff (ev_isi (ev_var rfl) rfl) rfl (pick_f ss_nil)) (nx_nx (ss_cons (s_iff (ev_orr (ev_isi (ev_var rfl) rfl) rfl (pick_f (ev_isi (ev_var rfl) rfl))) rfl (pick_f ss_nil)) (nx_nx (ss_cons (s_ret (ev_ife (ev_cmp (ev_var rfl) ev_cst rfl) rfl (pick_f (ev_an (ev_isi (ev_var rfl) rfl) rfl (pick_t (ev_cmp (ev_var rfl) (ev_var rfl) c1)))))) nx_rt))))
  | m + 1, .tuple xs, hp, hn, h, n => by
    simp only [PyData.depth] at h
    simp only [nar, Bool.and_eq_true, decide_eq_true_eq] at hn
    have hp : pls xs = true := hp
    have ha := all_11 (n + m) xs (.tuple xs) (.d (.bool true)) hn.1 rfl (fun k y hk => by
      have e : L2.atI xs (k : Int) = some y := L2.atI_nat (j := k) hk
      show (L2.atI xs (k : Int)).map (fun x => Val.w (.d x)) = _
      rw [e]; rfl) (fun y hy => cl_pure (C := CN (n + m)) rfl (same_run m y (pls_mem xs y hy hp) (nars_mem xs y hy hn.2) (by have := dep_mem xs y hy; omega) n) rfl)
    show Rn ((n + m) + 1) 11 [.d (.tuple xs), .d (.tuple xs)] [] = _
    apply run_fn (fn := f11) rfl rfl rfl
    exact ss_cons (s_iff (ev_isi (ev_var rfl) rfl) rfl (pick_t (ss_cons (s_asg (ev_ife (ev_isi (ev_var rfl) rfl) rfl (pick_f (ev_isi (ev_var rfl) rfl))) rfl) (nx_nx (ss_cons (s_ret (ev_an (ev_var rfl) rfl (pick_t ha))) nx_rt))))) nx_rt
  | m + 1, .list xs, hp, hn, h, n => by
    simp only [PyData.depth] at h
    simp only [nar, Bool.and_eq_true, decide_eq_true_eq] at hn
    have hp : pls xs = true := hp
    have hl : bltV .len [] [.w (.d (.list xs))] = some (vInt (xs.length : Nat)) := by
      have e : lenOf [] (.w (.d (.list xs))) = some xs.length := by
        show some (xs.map W.d).length = _
        rw [List.length_map]
      simp only [bltV, e]; rfl
    have ha := all_11 (n + m) xs (.list xs) (.d (.bool true)) hn.1 hl (fun k y hk => by
      have e : L2.atI (xs.map W.d) (k : Int) = some (.d y) := L2.atI_nat (j := k) (by rw [List.getElem?_map, hk]; rfl)
      show (L2.atI (xs.map W.d) (k : Int)).map Val.w = _
      rw [e]; rfl) (fun y hy => cl_pure (C := CN (n + m)) rfl (same_run m y (pls_mem xs y hy hp) (nars_mem xs y hy hn.2) (by have := dep_mem xs y hy; omega) n) rfl)
    show Rn ((n + m) + 1) 11 [.d (.list xs), .d (.list xs)] [] = _
    apply run_fn (fn := f11) rfl rfl rfl
    exact ss_cons (s_iff (ev_isi (ev_var rfl) rfl) rfl (pick_t (ss_cons (s_asg (ev_ife (ev_isi (ev_var rfl) rfl) rfl (pick_t (ev_isi (ev_var rfl) rfl))) rfl) (nx_nx (ss_cons (s_ret (ev_an (ev_var rfl) rfl (pick_t ha))) nx_rt))))) nx_rt
  | m + 1, .none, hp, hn, h, n => by cases hp
  | m + 1, .bool _, hp, hn, h, n => by cases hp
  | m + 1, .dict _, hp, hn, h, n => by cases hp
/-! kinds are narrow -/
theorem nars_of : ∀ xs : List D, (∀ x ∈ xs, nar x = true) → nars xs = true
  | [], _ => rfl
  | x :: r, h => by
    simp only [nars, h x (List.mem_cons_self ..), nars_of r fun y hy => h y (List.mem_cons_of_mem _ hy), Bool.and_self]
mutual
theorem kd_nar : ∀ k : Kd, k.sz ≤ 10000 → nar k.d = true
  | .v (.inl i), h => rfl
  | .v (.inr i), h => rfl
  | .n f ks, h => by
    simp only [Kd.sz] at h
    have h1 := kds_nar ks (by omega)
    have h2 := l_szs ks
    have h3 : ks.ds.length ≤ 10000 := by rw [ds_l, List.length_map]; omega
    simp only [Kd.d, nar, nars, h1, List.length_cons, List.length_nil, Bool.and_true, decide_eq_true h3]
    rfl
theorem kds_nar : ∀ ks : Kds, ks.szs ≤ 10000 → nars ks.ds = true
  | .nil, _ => rfl
  | .cons k r, h => by
    simp only [Kds.szs] at h
    have h1 := kd_nar k (by omega)
    have h2 := kds_nar r (by omega)
    simp only [Kds.ds, nars, h1, h2, Bool.and_self]
end
theorem same_call (n : Nat) (st : Sto) (x : D) (h1 : pl x = true) (h2 : nar x = true) (h3 : x.depth ≤ 65) : callV (CN (n + 70)) 11 [.d x, .d x] st = .ok (vBool true) st :=
  cl_pure rfl (same_run 70 x h1 h2 (by omega) n) rfl
end KI
set_option maxHeartbeats 4100000
namespace KI
open PySem MP
local macro_rules | `(tactic| decreasing_trivial_pre_omega) => `(tactic| first
  | simp only [List.map_nil, List.append_nil, List.nil_append, List.cons_append, List.map_cons, List.set_cons_zero, List.set_cons_succ, List.length_nil]
  | with_reducible exact ev_cst | with_reducible apply ev_cel | with_reducible apply ev_var | with_reducible apply ev_bin | with_reducible apply ev_cmp | with_reducible apply ev_ix | with_reducible apply ev_nt | with_reducible apply ev_an | with_reducible apply ev_orr
  | with_reducible apply ev_ife | with_reducible apply ev_cmp2 | with_reducible apply ev_cmp2b | with_reducible apply ev_tup | with_reducible apply ev_lst | with_reducible exact ev_dis | with_reducible apply ev_neg | with_reducible apply ev_sl
  | with_reducible exact eo_none | with_reducible apply eo_some | with_reducible apply ev_call | with_reducible apply ev_blt | with_reducible apply ev_mth | with_reducible apply ev_isi | with_reducible apply ev_lc
  | with_reducible exact ec_nil | with_reducible apply ec_one | with_reducible exact es_nil | with_reducible apply es_cons | with_reducible apply sr_it | with_reducible apply sr_rng1 | with_reducible apply sr_rng2 | with_reducible apply sr_enm | with_reducible apply sr_zp
  | with_reducible apply pick_t | with_reducible apply pick_f | refine pick_tE (by rfl) ?_ | refine pick_fE (by rfl) ?_ | with_reducible apply nx_nx | with_reducible exact nx_rt | with_reducible exact nx_bk | with_reducible exact nx_ct | with_reducible exact ss_nil | with_reducible apply ss_cons | with_reducible apply s_asg | with_reducible apply s_own
  | with_reducible apply s_unp | with_reducible apply s_par | with_reducible apply s_set | with_reducible apply s_ex | with_reducible apply s_iff | with_reducible apply s_ret | with_reducible exact s_retN | with_reducible exact s_pss | with_reducible exact s_brk | with_reducible exact s_cnt
  | with_reducible apply s_fr | with_reducible apply fo_items | with_reducible exact fo_nil | with_reducible apply fo_cons | with_reducible apply frF_ok | with_reducible apply nf_nx | with_reducible apply nf_ct | with_reducible exact nf_rt | with_reducible exact nf_bk
  | with_reducible apply ga_items | with_reducible exact ga_nil | with_reducible apply ng_none | with_reducible apply ng_some | with_reducible apply lcF_ok | with_reducible apply lcE | with_reducible apply ga_cons)
/-! the law's draws -/
abbrev sB9 : List S := [(.asg false 1 (.bin .Mod (.blt .int [(.bin .Add (.bin .Mult (.var 1) (.cst (.int 31))) (.var 2))]) (.cst (.int 1000003))))]
theorem st_loop (C : CE) (v : W) : ∀ (ns : List Int) (q : Int) (o : Option W), ∃ q' o', forItems (frF C (.nm 2) sB9) (ns.map fun i => W.d (.int i)) [some v, some (.d (.int q)), o] [] = .ok (.nx [some v, some (.d (.int q')), o']) []
  | [], q, o => ⟨q, o, rfl⟩
  | i :: r, q, o => by
    have m1 := mul_c [] q 31 (by decide)
    have m2 := mod_c [] (q * 31 + i) 1000003 (by decide)
    have h : evSs C sB9 [some v, some (.d (.int q)), some (.d (.int i))] [] = .ok (.nx [some v, some (.d (.int ((q * 31 + i) % 1000003))), some (.d (.int i))]) [] :=
      ss_cons (s_asg (ev_bin (ev_blt (es_cons (ev_bin (ev_bin (ev_var rfl) ev_cst m1) (ev_var rfl) rfl) es_nil) rfl) ev_cst m2) rfl) (nx_nx ss_nil)
    obtain ⟨q', o', ih⟩ := st_loop C v r ((q * 31 + i) % 1000003) (some (.d (.int i)))
    exact ⟨q', o', fo_cons (frF_ok (w := .d (.int i)) rfl h) (nf_nx ih)⟩
abbrev absI (i : Int) : Int := if i < 0 then -i else i
theorem state_run (n : Nat) (ns : List Int) (hl : ns.length ≤ 63) : ∃ s : Int, Rn (n + 1) 9 [.fz (ns.map PyData.int)] [] = .ok (.fl [.ref 0, .d (.int s)]) [.lst (wI (ns.map absI))] := by
  have hit : itOf [] (.w (.fz (ns.map PyData.int))) = some (.items (ns.map fun i => W.d (.int i))) := by
    show some (Itx.items ((ns.map PyData.int).map W.d)) = _
    rw [List.map_map]; rfl
  obtain ⟨q', o', h⟩ := st_loop (CN n) (.fz (ns.map PyData.int)) ns 7 none
  refine ⟨q' + 1, ?_⟩
  have h1 : evS (CN n) (.fr (.nm 2) (.it (.var 0)) sB9) [some (.fz (ns.map PyData.int)), some (.d (.int 7)), none] [] = .ok (.nx [some (.fz (ns.map PyData.int)), some (.d (.int q')), o']) [] :=
    s_fr rfl (sr_it (ev_var rfl) hit) (fo_items h)
  have g := gath_map (f := lcF (CN n) [2] (.nm 2) [] (.blt .abs [(.var 2)]) [some (.fz (ns.map PyData.int)), some (.d (.int q')), o']) (g := fun i : Int => W.d (.int i)) (h := fun i : Int => W.d (.int (absI i))) (st := []) ns [] (fun i _ =>
    lcF_ok (w := .d (.int i)) rfl ec_nil (pick_t (lcE (ev_blt (es_cons (ev_var rfl) es_nil) rfl) rfl))) (by simp only [List.length_nil]; omega)
  rw [List.nil_append] at g
  have e : (ns.map fun i : Int => W.d (.int (absI i))) = wI (ns.map absI) := by rw [wI, List.map_map]; rfl
  rw [e] at g
  have hlc : evE (CN n) (.cel (.lc [2] (.nm 2) (.it (.var 0)) [] (.blt .abs [(.var 2)]))) [some (.fz (ns.map PyData.int)), some (.d (.int q')), o'] [] = .ok (.w (.ref 0)) [.lst (wI (ns.map absI))] :=
    ev_cel (ev_lc (it := .items (ns.map fun i => W.d (.int i))) rfl (sr_it (ev_var rfl) hit) (ga_items g)) rfl
  apply run_fn (fn := f9) rfl rfl rfl
  exact ss_cons (s_asg ev_cst rfl) (nx_nx (ss_cons h1 (nx_nx (ss_cons (s_ret (ev_lst (es_cons hlc (es_cons (ev_bin (ev_var rfl) ev_cst rfl) es_nil)) rfl rfl)) nx_rt))))
theorem ok_abs (ns : List Int) (hl : ns.length ≤ 63) : Ok (ns.map absI) := by
  refine ⟨by rw [List.length_map]; omega, ?_⟩
  intro c hc
  rw [List.mem_map] at hc
  obtain ⟨i, _, rfl⟩ := hc
  unfold absI
  split <;> omega
theorem flat_nil : Flat [] := fun n => rfl
theorem flat_add {X : Sto} (h : Flat X) (σ : Sg) : Flat (X ++ [dc σ]) := fun n => by
  rw [List.all_append, h n, List.all_cons, dc_below n σ]; rfl
theorem ss_app {C : CE} {b : List S} {r : Out Fl} : ∀ {a : List S} {σ σ' : MP.Env} {st s1 : Sto}, evSs C a σ st = .ok (.nx σ') s1 → evSs C b σ' s1 = r → evSs C (a ++ b) σ st = r
  | [], σ, σ', st, s1, h, h2 => by
    simp only [evSs] at h
    cases h
    exact h2
  | x :: a, σ, σ', st, s1, h, h2 => by
    simp only [List.cons_append, evSs] at h ⊢
    cases q : evS C x σ st with
    | ok fl st' =>
      rw [q] at h
      cases fl with
      | nx σ'' => exact ss_app (a := a) h h2
      | _ => cases h
    | exc c p st' => rw [q] at h; cases h
    | bad => rw [q] at h; cases h
/-! the turn's first part -/
def Go (k : Kd) : Prop := k.ok ∧ k.dep ≤ 6 ∧ k.sz ≤ 45
theorem Go.gd {k : Kd} (h : Go k) : Gd k := ⟨h.1, by have := h.2.1; omega⟩
abbrev L0 : S := (.asg false 3 (.tup [(.cst (.str ⟨#[97]⟩)), (.cst (.str ⟨#[98]⟩)), (.cst (.str ⟨#[99]⟩)), (.cst (.str ⟨#[113]⟩))]))
abbrev L1 : S := (.asg false 4 (.call 18 [(.var 1), (.var 3), (.cst (.int 3))] []))
abbrev L2 : S := (.asg false 5 (.blt .dict [(.lc [6] (.nm 6) (.it (.var 3)) [] (.tup [(.var 6), (.call 18 [(.var 1), (.var 3), (.cst (.int 1))] [])]))]))
abbrev L3 : S := (.asg false 7 (.ix (.tup [(.call 17 [(.var 5), (.var 4)] []), (.call 18 [(.var 1), (.var 3), (.cst (.int 2))] []), (.call 17 [(.blt .dict [(.lst false [(.tup [(.cst (.str ⟨#[97]⟩)), (.tup [(.cst (.str ⟨#[63]⟩)), (.cst (.str ⟨#[122]⟩))])]), (.tup [(.cst (.str ⟨#[122]⟩)), (.tup [(.cst (.str ⟨#[63]⟩)), (.cst (.str ⟨#[97]⟩))])])])]), (.var 4)] [])]) (.call 10 [(.var 1), (.cst (.int 3))] [])))
abbrev L4 : S := (.fr (.tp [(.nm 8), (.nm 9)]) (.it (.tup [(.tup [(.var 4), (.var 7)]), (.tup [(.var 7), (.var 4)]), (.tup [(.var 4), (.var 4)])])) [(.asg true 10 (.dis [])), (.asg false 11 (.call 19 [(.var 10), (.var 8), (.var 9)] [])), (.asg false 12 (.call 6 [(.var 8), (.var 9)] [])), (.iff (.orr (.cmp .NotEq (.cmp .IsNot (.var 12) (.cst PyData.none)) (.var 11)) (.orr (.an (.var 11) (.cmp .NotEq (.var 12) (.var 10))) (.cmp .NotEq (.call 7 [(.var 8), (.var 9)] []) (.var 11)))) [(.ret (some (.cst (.bool false))))] [])])
abbrev L5 : S := (.iff (.orr (.nt (.call 11 [(.blt .list [(.call 5 [(.tup [(.var 4), (.var 7)])] [])]), (.call 16 [(.lst false [(.var 4), (.var 7)])] [])] [])) (.nt (.call 11 [(.blt .list [(.call 5 [(.tup [(.var 7)])] [])]), (.call 16 [(.lst false [(.var 7)])] [])] []))) [(.ret (some (.cst (.bool false))))] [])
abbrev L6 : S := (.iff (.cmp .NotEq (.call 8 [(.var 4), (.var 7)] []) (.cmp .Eq (.call 16 [(.lst false [(.var 4)])] []) (.call 16 [(.lst false [(.var 7)])] []))) [(.ret (some (.cst (.bool false))))] [])
abbrev L7 : S := (.iff (.cmp .NotEq (.call 1 [(.var 4)] []) (.call 20 [(.var 4)] [])) [(.ret (some (.cst (.bool false))))] [])
abbrev L8 : S := (.asg false 13 (.tup [(.tup [(.var 4), (.call 18 [(.var 1), (.var 3), (.cst (.int 1))] [])]), (.tup [(.call 18 [(.var 1), (.var 3), (.cst (.int 0))] [])]), (.var 7)]))
abbrev L9 : S := (.asg false 14 (.call 10 [(.var 1), (.cst (.int 9))] []))
abbrev L10 : S := (.asg false 15 (.call 15 [(.lst false [(.var 4), (.ix (.ix (.var 13) (.cst (.int 0))) (.cst (.int 1))), (.ix (.ix (.var 13) (.cst (.int 1))) (.cst (.int 0))), (.var 7)])] []))
abbrev L11 : S := (.asg false 16 (.blt .dict [(.lc [17] (.nm 17) (.rng1 [(.blt .len [(.var 15)])]) [] (.tup [(.ix (.var 15) (.var 17)), (.tup [(.cst (.str ⟨#[63]⟩)), (.bin .Add (.var 14) (.var 17))])]))]))
abbrev L12 : S := (.asg true 10 (.tup [(.blt .tuple [(.lc [18] (.nm 18) (.it (.ix (.var 13) (.cst (.int 0)))) [] (.call 17 [(.var 16), (.var 18)] []))]), (.blt .tuple [(.lc [18] (.nm 18) (.it (.ix (.var 13) (.cst (.int 1)))) [] (.call 17 [(.var 16), (.var 18)] []))]), (.call 17 [(.var 16), (.var 7)] [])]))
abbrev L13 : S := (.iff (.nt (.call 11 [(.call 3 [(.var 13), (.var 14)] []), (.tup [(.var 10), (.bin .Add (.var 14) (.blt .len [(.var 15)]))])] [])) [(.ret (some (.cst (.bool false))))] [])
abbrev P0 : S := (.asg true 10 (.dis []))
abbrev P1 : S := (.asg false 11 (.call 19 [(.var 10), (.var 8), (.var 9)] []))
abbrev P2 : S := (.asg false 12 (.call 6 [(.var 8), (.var 9)] []))
abbrev P3 : S := (.iff (.orr (.cmp .NotEq (.cmp .IsNot (.var 12) (.cst PyData.none)) (.var 11)) (.orr (.an (.var 11) (.cmp .NotEq (.var 12) (.var 10))) (.cmp .NotEq (.call 7 [(.var 8), (.var 9)] []) (.var 11)))) [(.ret (some (.cst (.bool false))))] [])
abbrev tp6 : E := (.tup [(.var 6), (.call 18 [(.var 1), (.var 3), (.cst (.int 1))] [])])
theorem turn6 (C : CE) (sc o2 o3 o4 o5 o6 o7 o8 o9 o10 o11 o12 o13 o14 o15 o16 o17 o18 o19 o20 : Option W) (a k : Kd) (x : Str) (st st' : Sto) (h : callV C 18 [.ref 1, .d lets, .d (.int 1)] st = .ok (.w (.d k.d)) st') : lcF C [6] (.nm 6) [] tp6 [sc, some (.ref 1), o2, some (.d lets), some (.d a.d), o5, o6, o7, o8, o9, o10, o11, o12, o13, o14, o15, o16, o17, o18, o19, o20] (.d (.str x)) st = .ok (some (.d (.tuple [.str x, k.d]))) st' :=
  lcF_ok (w := .d (.str x)) rfl ec_nil (pick_t (lcE (ev_tup (es_cons (ev_var rfl) (es_cons (ev_call (es_cons (ev_var rfl) (es_cons (ev_var rfl) (es_cons ev_cst es_nil))) rfl h) es_nil)) rfl rfl) rfl))
theorem told_gath (n : Nat) (sc o2 o3 o4 o5 o6 o7 o8 o9 o10 o11 o12 o13 o14 o15 o16 o17 o18 o19 o20 : Option W) (a : Kd) (X : Sto) (hX : Flat X) : ∀ (xs : List Str) (acc : List W) (cs : List Int) (s : Int), Ok cs → acc.length + xs.length ≤ 1000 →
    ∃ (σ : Sg) (cs' : List Int) (s' : Int), Ok cs' ∧ σ.map (·.1) = xs.map Sum.inr ∧ (∀ p ∈ σ, Kn p.2 1) ∧ gath (lcF (CN (n + 3)) [6] (.nm 6) [] tp6 [sc, some (.ref 1), o2, some (.d lets), some (.d a.d), o5, o6, o7, o8, o9, o10, o11, o12, o13, o14, o15, o16, o17, o18, o19, o20]) (xs.map fun x => W.d (.str x)) acc (ST cs s X) = .ok (acc ++ σ.map fun p => W.d (.tuple [keyD p.1, p.2.d])) (ST cs' s' X)
  | [], acc, cs, s, ho, hl => ⟨[], cs, s, ho, rfl, (fun p hp => by cases hp), (by simp only [List.map_nil, List.append_nil, gath])⟩
  | x :: r, acc, cs, s, ho, hl => by
    simp only [List.length_cons] at hl
    obtain ⟨k, cs1, s1, hk, ho1, hc⟩ := gk_ok 1 n cs s X ho hX
    obtain ⟨σ, cs2, s2, ho2, h1, h2, h3⟩ := told_gath n sc o2 o3 o4 o5 o6 o7 o8 o9 o10 o11 o12 o13 o14 o15 o16 o17 o18 o19 o20 a X hX r (acc ++ [.d (.tuple [.str x, k.d])]) cs1 s1 ho1 (by simp only [List.length_append, List.length_cons, List.length_nil]; omega)
    refine ⟨(.inr x, k) :: σ, cs2, s2, ho2, by rw [List.map_cons, h1]; rfl, ?_, ?_⟩
    · intro p hp
      obtain rfl | hp := List.mem_cons.mp hp
      · exact hk
      · exact h2 p hp
    · refine ga_cons (turn6 (CN (n + 3)) sc o2 o3 o4 o5 o6 o7 o8 o9 o10 o11 o12 o13 o14 o15 o16 o17 o18 o19 o20 a k x _ _ hc) (ng_some (decide_eq_true (by show acc.length < 16777216; omega)) ?_)
      rw [h3]
      simp [keyD]
abbrev sA : Str := ⟨#[97]⟩
abbrev sZ : Str := ⟨#[122]⟩
abbrev azS : Sg := [(.inr sA, .v (.inr sZ)), (.inr sZ, .v (.inr sA))]
abbrev azE : E := (.blt .dict [(.lst false [(.tup [(.cst (.str ⟨#[97]⟩)), (.tup [(.cst (.str ⟨#[63]⟩)), (.cst (.str ⟨#[122]⟩))])]), (.tup [(.cst (.str ⟨#[122]⟩)), (.tup [(.cst (.str ⟨#[63]⟩)), (.cst (.str ⟨#[97]⟩))])])])])
theorem az_nd : Nd azS := by unfold Nd; decide +kernel
theorem az_ev (C : CE) (σ : MP.Env) (st : Sto) : evE C azE σ st = .ok (fdS azS) st :=
  ev_blt (es_cons (ev_lst (es_cons (ev_tup (es_cons ev_cst (es_cons (ev_tup (es_cons ev_cst (es_cons ev_cst es_nil)) rfl rfl) es_nil)) rfl rfl) (es_cons (ev_tup (es_cons ev_cst (es_cons (ev_tup (es_cons ev_cst (es_cons ev_cst es_nil)) rfl rfl) es_nil)) rfl rfl) es_nil)) rfl rfl) es_nil) (dict_S st azS az_nd)
theorem go_kn {k : Kd} {d : Nat} (h : Kn k d) (hd : d ≤ 3) : Go k := by
  refine ⟨h.1, by have := h.2.1; omega, ?_⟩
  have h1 := h.2.2
  have : 2 ^ (d + 1) ≤ 2 ^ 4 := Nat.pow_le_pow_right (by decide) (by omega)
  omega
theorem go_sw {k : Kd} {σ : Sg} (h : Kn k 3) (hs : ∀ p ∈ σ, Kn p.2 1) : Go (k.sw σ) := by
  have h1 := sw_ok σ (fun p hp => (hs p hp).1) k h.1
  have h2 := sw_dep σ 2 (fun p hp => (hs p hp).2.1) k
  have h3 := sw_sz σ 3 (by decide) (fun p hp => by have : p.2.sz < 4 := (hs p hp).2.2; omega) k
  have h4 : k.sz < 16 := h.2.2
  exact ⟨h1, by have := h.2.1; omega, by omega⟩
theorem kn_v1 (x : Str) (hx : PyData.strOk x = true) : Kn (.v (.inr x)) 1 := kn_v (.inr x) hx 1
theorem go_az {k : Kd} (h : Kn k 3) : Go (k.sw azS) := go_sw h fun p hp => by
  simp only [List.mem_cons, List.not_mem_nil, or_false] at hp
  rcases hp with rfl | rfl
  · exact kn_v1 sZ (by decide +kernel)
  · exact kn_v1 sA (by decide +kernel)
theorem w_az (v : D) : wsOf [fdS azS, .w (.d v)] = some [.d (dD azS), .d v] := rfl
theorem turnA (n : Nat) (sc o2 o3 o4 o5 o6 o7 o8 o9 o10 o11 o12 o13 o14 o15 o16 o17 o18 o19 o20 : Option W) (cs : List Int) (s : Int) (X : Sto) (ho : Ok cs) (hX : Flat X) :
    ∃ (a b : Kd) (σ : Sg) (cs' : List Int) (s' : Int), Go a ∧ a.sz ≤ 15 ∧ Go b ∧ Ok cs' ∧ evSs (CN (n + 45)) [L0, L1, L2, L3] [sc, some (.ref 1), o2, o3, o4, o5, o6, o7, o8, o9, o10, o11, o12, o13, o14, o15, o16, o17, o18, o19, o20] (ST cs s X) = .ok (.nx [sc, some (.ref 1), o2, some (.d lets), some (.d a.d), some (.d (dD σ)), o6, some (.d b.d), o8, o9, o10, o11, o12, o13, o14, o15, o16, o17, o18, o19, o20]) (ST cs' s' X) := by
  obtain ⟨a, cs1, s1, ka, ho1, c1⟩ := gk_ok 3 (n + 40) cs s X ho hX
  obtain ⟨σ, cs2, s2, ho2, g1, g2, g3⟩ := told_gath (n + 42) sc o2 o3 o4 o5 o6 o7 o8 o9 o10 o11 o12 o13 o14 o15 o16 o17 o18 o19 o20 a X hX [⟨#[97]⟩, ⟨#[98]⟩, ⟨#[99]⟩, ⟨#[113]⟩] [] cs1 s1 ho1 (by decide)
  have hnd : Nd σ := by unfold Nd; rw [g1]; decide +kernel
  have d1 := dict_S (ST cs2 s2 X) σ hnd
  obtain ⟨k2, cs3, s3, kk, ho3, c3⟩ := gk_ok 2 (n + 41) cs2 s2 X ho2 hX
  obtain ⟨v, cs4, s4, v0, v3, ho4, c4⟩ := draw_ok (n + 44) cs3 s3 X 3 ho3 hX (by decide)
  have w1 := sw17_call (n + 5) (ST cs2 s2 X) σ a ⟨ka.1, by have := ka.2.1; omega⟩ (by have : a.sz < 16 := ka.2.2; omega)
  have w2 := sw17_call (n + 5) (ST cs3 s3 X) azS a ⟨ka.1, by have := ka.2.1; omega⟩ (by have : a.sz < 16 := ka.2.2; omega)
  have q0 : evS (CN (n + 45)) L0 [sc, some (.ref 1), o2, o3, o4, o5, o6, o7, o8, o9, o10, o11, o12, o13, o14, o15, o16, o17, o18, o19, o20] (ST cs s X) = .ok (.nx [sc, some (.ref 1), o2, some (.d lets), o4, o5, o6, o7, o8, o9, o10, o11, o12, o13, o14, o15, o16, o17, o18, o19, o20]) (ST cs s X) :=
    s_asg (ev_tup (es_cons ev_cst (es_cons ev_cst (es_cons ev_cst (es_cons ev_cst es_nil)))) rfl rfl) rfl
  have q1 : evS (CN (n + 45)) L1 [sc, some (.ref 1), o2, some (.d lets), o4, o5, o6, o7, o8, o9, o10, o11, o12, o13, o14, o15, o16, o17, o18, o19, o20] (ST cs s X) = .ok (.nx [sc, some (.ref 1), o2, some (.d lets), some (.d a.d), o5, o6, o7, o8, o9, o10, o11, o12, o13, o14, o15, o16, o17, o18, o19, o20]) (ST cs1 s1 X) :=
    s_asg (ev_call (es_cons (ev_var rfl) (es_cons (ev_var rfl) (es_cons ev_cst es_nil))) rfl c1) rfl
  have hit : itOf (ST cs1 s1 X) (.w (.d lets)) = some (.items (([⟨#[97]⟩, ⟨#[98]⟩, ⟨#[99]⟩, ⟨#[113]⟩] : List Str).map fun x => W.d (.str x))) := rfl
  have hlc : evE (CN (n + 45)) (.lc [6] (.nm 6) (.it (.var 3)) [] tp6) [sc, some (.ref 1), o2, some (.d lets), some (.d a.d), o5, o6, o7, o8, o9, o10, o11, o12, o13, o14, o15, o16, o17, o18, o19, o20] (ST cs1 s1 X) = .ok (.fl (σ.map fun p => W.d (.tuple [keyD p.1, p.2.d]))) (ST cs2 s2 X) :=
    ev_lc (it := .items (([⟨#[97]⟩, ⟨#[98]⟩, ⟨#[99]⟩, ⟨#[113]⟩] : List Str).map fun x => W.d (.str x))) rfl (sr_it (ev_var rfl) hit) (ga_items g3)
  have q2 : evS (CN (n + 45)) L2 [sc, some (.ref 1), o2, some (.d lets), some (.d a.d), o5, o6, o7, o8, o9, o10, o11, o12, o13, o14, o15, o16, o17, o18, o19, o20] (ST cs1 s1 X) = .ok (.nx [sc, some (.ref 1), o2, some (.d lets), some (.d a.d), some (.d (dD σ)), o6, o7, o8, o9, o10, o11, o12, o13, o14, o15, o16, o17, o18, o19, o20]) (ST cs2 s2 X) :=
    s_asg (ev_blt (es_cons hlc es_nil) d1) (w_S σ)
  have ht : evE (CN (n + 45)) (.tup [(.call 17 [(.var 5), (.var 4)] []), (.call 18 [(.var 1), (.var 3), (.cst (.int 2))] []), (.call 17 [azE, (.var 4)] [])]) [sc, some (.ref 1), o2, some (.d lets), some (.d a.d), some (.d (dD σ)), o6, o7, o8, o9, o10, o11, o12, o13, o14, o15, o16, o17, o18, o19, o20] (ST cs2 s2 X) = .ok (vTup [(a.sw σ).d, k2.d, (a.sw azS).d]) (ST cs3 s3 X) :=
    ev_tup (es_cons (ev_call (es_cons (ev_var rfl) (es_cons (ev_var rfl) es_nil)) rfl w1) (es_cons (ev_call (es_cons (ev_var rfl) (es_cons (ev_var rfl) (es_cons ev_cst es_nil))) rfl c3) (es_cons (ev_call (es_cons (az_ev _ _ _) (es_cons (ev_var rfl) es_nil)) (w_az a.d) w2) es_nil))) rfl rfl
  have hx : ∃ b : Kd, Go b ∧ ixV (ST cs4 s4 X) (vTup [(a.sw σ).d, k2.d, (a.sw azS).d]) (vInt v) = some (.w (.d b.d)) := by
    obtain rfl | rfl | rfl : v = 0 ∨ v = 1 ∨ v = 2 := by omega
    · exact ⟨a.sw σ, go_sw ka g2, rfl⟩
    · exact ⟨k2, go_kn kk (by decide), rfl⟩
    · exact ⟨a.sw azS, go_az ka, rfl⟩
  obtain ⟨b, hb, hx⟩ := hx
  have q3 : evS (CN (n + 45)) L3 [sc, some (.ref 1), o2, some (.d lets), some (.d a.d), some (.d (dD σ)), o6, o7, o8, o9, o10, o11, o12, o13, o14, o15, o16, o17, o18, o19, o20] (ST cs2 s2 X) = .ok (.nx [sc, some (.ref 1), o2, some (.d lets), some (.d a.d), some (.d (dD σ)), o6, some (.d b.d), o8, o9, o10, o11, o12, o13, o14, o15, o16, o17, o18, o19, o20]) (ST cs4 s4 X) :=
    s_asg (ev_ix ht (ev_call (es_cons (ev_var rfl) (es_cons ev_cst es_nil)) rfl c4) hx) rfl
  exact ⟨a, b, σ, cs4, s4, go_kn ka (by decide), by have : a.sz < 16 := ka.2.2; omega, hb, ho4, ss_cons q0 (nx_nx (ss_cons q1 (nx_nx (ss_cons q2 (nx_nx (ss_cons q3 (nx_nx ss_nil)))))))⟩
end KI
set_option maxHeartbeats 4100000
namespace KI
open PySem MP
local macro_rules | `(tactic| decreasing_trivial_pre_omega) => `(tactic| first
  | simp only [List.map_nil, List.append_nil, List.nil_append, List.cons_append, List.map_cons, List.set_cons_zero, List.set_cons_succ, List.length_nil]
  | with_reducible exact ev_cst | with_reducible apply ev_cel | with_reducible apply ev_var | with_reducible apply ev_bin | with_reducible apply ev_cmp | with_reducible apply ev_ix | with_reducible apply ev_nt | with_reducible apply ev_an | with_reducible apply ev_orr
  | with_reducible apply ev_ife | with_reducible apply ev_cmp2 | with_reducible apply ev_cmp2b | with_reducible apply ev_tup | with_reducible apply ev_lst | with_reducible exact ev_dis | with_reducible apply ev_neg | with_reducible apply ev_sl
  | with_reducible exact eo_none | with_reducible apply eo_some | with_reducible apply ev_call | with_reducible apply ev_blt | with_reducible apply ev_mth | with_reducible apply ev_isi | with_reducible apply ev_lc
  | with_reducible exact ec_nil | with_reducible apply ec_one | with_reducible exact es_nil | with_reducible apply es_cons | with_reducible apply sr_it | with_reducible apply sr_rng1 | with_reducible apply sr_rng2 | with_reducible apply sr_enm | with_reducible apply sr_zp
  | with_reducible apply pick_t | with_reducible apply pick_f | refine pick_tE (by rfl) ?_ | refine pick_fE (by rfl) ?_ | with_reducible apply nx_nx | with_reducible exact nx_rt | with_reducible exact nx_bk | with_reducible exact nx_ct | with_reducible exact ss_nil | with_reducible apply ss_cons | with_reducible apply s_asg | with_reducible apply s_own
  | with_reducible apply s_unp | with_reducible apply s_par | with_reducible apply s_set | with_reducible apply s_ex | with_reducible apply s_iff | with_reducible apply s_ret | with_reducible exact s_retN | with_reducible exact s_pss | with_reducible exact s_brk | with_reducible exact s_cnt
  | with_reducible apply s_fr | with_reducible apply fo_items | with_reducible exact fo_nil | with_reducible apply fo_cons | with_reducible apply frF_ok | with_reducible apply nf_nx | with_reducible apply nf_ct | with_reducible exact nf_rt | with_reducible exact nf_bk
  | with_reducible apply ga_items | with_reducible exact ga_nil | with_reducible apply ng_none | with_reducible apply ng_some | with_reducible apply lcF_ok | with_reducible apply lcE | with_reducible apply ga_cons)
/-! one pair -/
theorem ne_bool (st : Sto) (a b : Bool) : cmpV .NotEq st (vBool a) (vBool b) = some (a != b) := by
  cases a <;> cases b <;> rfl
def fW (l k : Kd) : W := match insF lfN [(l, k)] [] with
  | none => .d .none
  | some τ => .d (dD τ)
theorem fW_of (l k : Kd) : wOf (insV l k) = some (fW l k) := by
  unfold insV fW
  cases insF lfN [(l, k)] [] with
  | none => rfl
  | some τ => exact w_S τ
theorem fW_not (st : Sto) (l k : Kd) : cmpV .IsNot st (.w (fW l k)) vNone = some (insF lfN [(l, k)] []).isSome := by
  unfold fW
  cases insF lfN [(l, k)] [] <;> rfl
theorem st_app (cs : List Int) (s : Int) (X : Sto) (c : Cell) : ST cs s X ++ [c] = ST cs s (X ++ [c]) := rfl
theorem st_at (cs : List Int) (s : Int) (X : Sto) (c : Cell) : (ST cs s (X ++ [c]))[X.length + 2]? = some c := by
  show (X ++ [c])[X.length]? = some c
  simp
theorem st_set (cs : List Int) (s : Int) (X : Sto) (c e : Cell) : (ST cs s (X ++ [c])).set (X.length + 2) e = ST cs s (X ++ [e]) := by
  show Cell.lst (wI cs) :: Cell.lst [.ref 0, .d (.int s)] :: (X ++ [c]).set X.length e = _
  rw [set_last]
theorem bl_st (cs : List Int) (s : Int) {X : Sto} (h : Flat X) : Bl (ST cs s X) := st_below cs s h
theorem bec_call (n : Nat) (l k : Kd) (hl : Go l) (hk : Go k) (cs : List Int) (s : Int) (X : Sto) (hX : Flat X) : callV (CN (n + 50)) 19 [.ref (X.length + 2), .d l.d, .d k.d] (ST cs s (X ++ [dc []])) = .ok (vBool (bec [] l k).2) (ST cs s (X ++ [dc (bec [] l k).1])) := by
  have h := becomes_run 50 l k [] (ST cs s (X ++ [dc []])) (X.length + 2) hl.1 (by have := hl.2.1; omega) (by have := hl.2.2; omega) hk.gd (st_at cs s X _) (bl_st cs s (flat_add hX _)) gs_nil (by have := hl.2.2; simp only [List.length_nil]; omega) n
  rw [st_set] at h
  exact heap_call (C := CN (n + 50)) rfl h (by rw [← st_set cs s X (dc [])]; exact List.length_set) (bl_st cs s (flat_add hX _))
theorem gen_call (n : Nat) (st : Sto) (l k : Kd) (hl : Go l) (hk : Go k) : callV (CN (n + 2)) 7 [.d l.d, .d k.d] st = .ok (vBool (insF lfN [(l, k)] []).isSome) st :=
  cl_pure rfl (gen_run n l k hl.gd hk.gd (by have := hl.2.2; omega)) rfl
theorem pair_run (n : Nat) (sc o2 o3 o4 o5 o6 o7 o8 o9 o10 o11 o12 o13 o14 o15 o16 o17 o18 o19 o20 : Option W) (l k : Kd) (hl : Go l) (hk : Go k) (cs : List Int) (s : Int) (X : Sto) (hX : Flat X) :
    ∃ (o10' o11' o12' : Option W) (X' : Sto), Flat X' ∧ evSs (CN (n + 50)) [P0, P1, P2, P3] [sc, some (.ref 1), o2, o3, o4, o5, o6, o7, some (.d l.d), some (.d k.d), o10, o11, o12, o13, o14, o15, o16, o17, o18, o19, o20] (ST cs s X) = .ok (.nx [sc, some (.ref 1), o2, o3, o4, o5, o6, o7, some (.d l.d), some (.d k.d), o10', o11', o12', o13, o14, o15, o16, o17, o18, o19, o20]) (ST cs s X') := by
  have ag := agree lfN l k hl.gd hk.gd (by have := hl.2.2; show l.sz ≤ 10000; omega)
  have c1 := bec_call n l k hl hk cs s X hX
  have c2 := ins_call (n + 49) (ST cs s (X ++ [dc (bec [] l k).1])) l k hl.gd hk.gd (by have := hl.2.2; omega)
  have c3 := gen_call (n + 48) (ST cs s (X ++ [dc (bec [] l k).1])) l k hl hk
  refine ⟨some (.ref (X.length + 2)), some (.d (.bool (bec [] l k).2)), some (fW l k), X ++ [dc (bec [] l k).1], flat_add hX _, ?_⟩
  have q0 : evS (CN (n + 50)) P0 [sc, some (.ref 1), o2, o3, o4, o5, o6, o7, some (.d l.d), some (.d k.d), o10, o11, o12, o13, o14, o15, o16, o17, o18, o19, o20] (ST cs s X) = .ok (.nx [sc, some (.ref 1), o2, o3, o4, o5, o6, o7, some (.d l.d), some (.d k.d), some (.ref (X.length + 2)), o11, o12, o13, o14, o15, o16, o17, o18, o19, o20]) (ST cs s (X ++ [dc []])) := s_own ev_dis rfl
  have q1 : evS (CN (n + 50)) P1 [sc, some (.ref 1), o2, o3, o4, o5, o6, o7, some (.d l.d), some (.d k.d), some (.ref (X.length + 2)), o11, o12, o13, o14, o15, o16, o17, o18, o19, o20] (ST cs s (X ++ [dc []])) = .ok (.nx [sc, some (.ref 1), o2, o3, o4, o5, o6, o7, some (.d l.d), some (.d k.d), some (.ref (X.length + 2)), some (.d (.bool (bec [] l k).2)), o12, o13, o14, o15, o16, o17, o18, o19, o20]) (ST cs s (X ++ [dc (bec [] l k).1])) :=
    s_asg (ev_call (es_cons (ev_var rfl) (es_cons (ev_var rfl) (es_cons (ev_var rfl) es_nil))) rfl c1) rfl
  have q2 : evS (CN (n + 50)) P2 [sc, some (.ref 1), o2, o3, o4, o5, o6, o7, some (.d l.d), some (.d k.d), some (.ref (X.length + 2)), some (.d (.bool (bec [] l k).2)), o12, o13, o14, o15, o16, o17, o18, o19, o20] (ST cs s (X ++ [dc (bec [] l k).1])) = .ok (.nx [sc, some (.ref 1), o2, o3, o4, o5, o6, o7, some (.d l.d), some (.d k.d), some (.ref (X.length + 2)), some (.d (.bool (bec [] l k).2)), some (fW l k), o13, o14, o15, o16, o17, o18, o19, o20]) (ST cs s (X ++ [dc (bec [] l k).1])) :=
    s_asg (ev_call (es_cons (ev_var rfl) (es_cons (ev_var rfl) es_nil)) rfl c2) (fW_of l k)
  have n1 := fW_not (ST cs s (X ++ [dc (bec [] l k).1])) l k
  have b1 := ne_bool (ST cs s (X ++ [dc (bec [] l k).1])) (insF lfN [(l, k)] []).isSome (bec [] l k).2
  have e1 : ((insF lfN [(l, k)] []).isSome != (bec [] l k).2) = false := by rw [ag.1]; cases (insF lfN [(l, k)] []).isSome <;> rfl
  rw [e1] at b1
  have h1 : evE (CN (n + 50)) (.cmp .NotEq (.cmp .IsNot (.var 12) (.cst PyData.none)) (.var 11)) [sc, some (.ref 1), o2, o3, o4, o5, o6, o7, some (.d l.d), some (.d k.d), some (.ref (X.length + 2)), some (.d (.bool (bec [] l k).2)), some (fW l k), o13, o14, o15, o16, o17, o18, o19, o20] (ST cs s (X ++ [dc (bec [] l k).1])) = .ok (vBool false) (ST cs s (X ++ [dc (bec [] l k).1])) := ev_cmp (ev_cmp (ev_var rfl) ev_cst n1) (ev_var rfl) b1
  have h3 : evE (CN (n + 50)) (.cmp .NotEq (.call 7 [(.var 8), (.var 9)] []) (.var 11)) [sc, some (.ref 1), o2, o3, o4, o5, o6, o7, some (.d l.d), some (.d k.d), some (.ref (X.length + 2)), some (.d (.bool (bec [] l k).2)), some (fW l k), o13, o14, o15, o16, o17, o18, o19, o20] (ST cs s (X ++ [dc (bec [] l k).1])) = .ok (vBool false) (ST cs s (X ++ [dc (bec [] l k).1])) := ev_cmp (ev_call (es_cons (ev_var rfl) (es_cons (ev_var rfl) es_nil)) rfl c3) (ev_var rfl) b1
  have h2 : evE (CN (n + 50)) (.an (.var 11) (.cmp .NotEq (.var 12) (.var 10))) [sc, some (.ref 1), o2, o3, o4, o5, o6, o7, some (.d l.d), some (.d k.d), some (.ref (X.length + 2)), some (.d (.bool (bec [] l k).2)), some (fW l k), o13, o14, o15, o16, o17, o18, o19, o20] (ST cs s (X ++ [dc (bec [] l k).1])) = .ok (vBool false) (ST cs s (X ++ [dc (bec [] l k).1])) := by
    cases q : insF lfN [(l, k)] [] with
    | none =>
      have e : (bec [] l k).2 = false := by rw [ag.1, q]; rfl
      rw [e]
      exact ev_an (ev_var rfl) rfl (pick_f rfl)
    | some τ =>
      have e : (bec [] l k).2 = true := by rw [ag.1, q]; rfl
      have t := ag.2 τ q
      have ef : fW l k = .d (dD τ) := by unfold fW; rw [q]
      rw [e, ef]
      have hne := ne_dd (st_at cs s X (dc (bec [] l k).1)) (bec_gs l k [] gs_nil hk.gd).1 t.1 (nd_bec l k [] nd_nil) t.2.1 t.2.2.1 t.2.2.2
      exact ev_an (ev_var rfl) rfl (pick_t (ev_cmp (ev_var rfl) (ev_var rfl) hne))
  exact ss_cons q0 (nx_nx (ss_cons q1 (nx_nx (ss_cons q2 (nx_nx (ss_cons (s_iff (ev_orr h1 rfl (pick_f (ev_orr h2 rfl (pick_f h3)))) rfl (pick_f ss_nil)) (nx_nx ss_nil)))))))
theorem pair_fr (n : Nat) (sc o2 o3 o4 o5 o6 o7 o8 o9 o10 o11 o12 o13 o14 o15 o16 o17 o18 o19 o20 : Option W) (l k : Kd) (hl : Go l) (hk : Go k) (cs : List Int) (s : Int) (X : Sto) (hX : Flat X) :
    ∃ (o10' o11' o12' : Option W) (X' : Sto), Flat X' ∧ frF (CN (n + 50)) (.tp [(.nm 8), (.nm 9)]) [P0, P1, P2, P3] (.d (.tuple [l.d, k.d])) [sc, some (.ref 1), o2, o3, o4, o5, o6, o7, o8, o9, o10, o11, o12, o13, o14, o15, o16, o17, o18, o19, o20] (ST cs s X) = .ok (.nx [sc, some (.ref 1), o2, o3, o4, o5, o6, o7, some (.d l.d), some (.d k.d), o10', o11', o12', o13, o14, o15, o16, o17, o18, o19, o20]) (ST cs s X') := by
  obtain ⟨a, b, c, X', h1, h2⟩ := pair_run n sc o2 o3 o4 o5 o6 o7 o8 o9 o10 o11 o12 o13 o14 o15 o16 o17 o18 o19 o20 l k hl hk cs s X hX
  exact ⟨a, b, c, X', h1, frF_ok (w := .d (.tuple [l.d, k.d])) rfl h2⟩
theorem turnB (n : Nat) (sc o2 o3 o4 o5 o6 o7 o8 o9 o10 o11 o12 o13 o14 o15 o16 o17 o18 o19 o20 : Option W) (a b : Kd) (σ : Sg) (ha : Go a) (hb : Go b) (cs : List Int) (s : Int) (X : Sto) (hX : Flat X) :
    ∃ (o8' o9' o10' o11' o12' : Option W) (X' : Sto), Flat X' ∧ evS (CN (n + 50)) L4 [sc, some (.ref 1), o2, some (.d lets), some (.d a.d), some (.d (dD σ)), o6, some (.d b.d), o8, o9, o10, o11, o12, o13, o14, o15, o16, o17, o18, o19, o20] (ST cs s X) = .ok (.nx [sc, some (.ref 1), o2, some (.d lets), some (.d a.d), some (.d (dD σ)), o6, some (.d b.d), o8', o9', o10', o11', o12', o13, o14, o15, o16, o17, o18, o19, o20]) (ST cs s X') := by
  obtain ⟨p1, p2, p3, X1, f1, h1⟩ := pair_fr (n := n) sc (o2) (some (.d lets)) (some (.d a.d)) (some (.d (dD σ))) (o6) (some (.d b.d)) (o8) (o9) (o10) (o11) (o12) (o13) (o14) (o15) (o16) (o17) (o18) (o19) (o20) a b ha hb cs s X hX
  obtain ⟨q1, q2, q3, X2, f2, h2⟩ := pair_fr (n := n) sc (o2) (some (.d lets)) (some (.d a.d)) (some (.d (dD σ))) (o6) (some (.d b.d)) (some (.d a.d)) (some (.d b.d)) (p1) (p2) (p3) (o13) (o14) (o15) (o16) (o17) (o18) (o19) (o20) b a hb ha cs s X1 f1
  obtain ⟨r1, r2, r3, X3, f3, h3⟩ := pair_fr (n := n) sc (o2) (some (.d lets)) (some (.d a.d)) (some (.d (dD σ))) (o6) (some (.d b.d)) (some (.d b.d)) (some (.d a.d)) (q1) (q2) (q3) (o13) (o14) (o15) (o16) (o17) (o18) (o19) (o20) a a ha ha cs s X2 f2
  refine ⟨some (.d a.d), some (.d a.d), r1, r2, r3, X3, f3, ?_⟩
  have ht : evE (CN (n + 50)) (.tup [(.tup [(.var 4), (.var 7)]), (.tup [(.var 7), (.var 4)]), (.tup [(.var 4), (.var 4)])]) [sc, some (.ref 1), o2, some (.d lets), some (.d a.d), some (.d (dD σ)), o6, some (.d b.d), o8, o9, o10, o11, o12, o13, o14, o15, o16, o17, o18, o19, o20] (ST cs s X) = .ok (vTup [.tuple [a.d, b.d], .tuple [b.d, a.d], .tuple [a.d, a.d]]) (ST cs s X) :=
    ev_tup (es_cons (ev_tup (es_cons (ev_var rfl) (es_cons (ev_var rfl) es_nil)) rfl rfl) (es_cons (ev_tup (es_cons (ev_var rfl) (es_cons (ev_var rfl) es_nil)) rfl rfl) (es_cons (ev_tup (es_cons (ev_var rfl) (es_cons (ev_var rfl) es_nil)) rfl rfl) es_nil))) rfl rfl
  exact s_fr (it := .items [.d (.tuple [a.d, b.d]), .d (.tuple [b.d, a.d]), .d (.tuple [a.d, a.d])]) rfl (sr_it ht rfl) (fo_items (fo_cons h1 (nf_nx (fo_cons h2 (nf_nx (fo_cons h3 (nf_nx fo_nil)))))))
end KI
set_option maxHeartbeats 4100000
namespace KI
open PySem MP
local macro_rules | `(tactic| decreasing_trivial_pre_omega) => `(tactic| first
  | simp only [List.map_nil, List.append_nil, List.nil_append, List.cons_append, List.map_cons, List.set_cons_zero, List.set_cons_succ, List.length_nil]
  | with_reducible exact ev_cst | with_reducible apply ev_cel | with_reducible apply ev_var | with_reducible apply ev_bin | with_reducible apply ev_cmp | with_reducible apply ev_ix | with_reducible apply ev_nt | with_reducible apply ev_an | with_reducible apply ev_orr
  | with_reducible apply ev_ife | with_reducible apply ev_cmp2 | with_reducible apply ev_cmp2b | with_reducible apply ev_tup | with_reducible apply ev_lst | with_reducible exact ev_dis | with_reducible apply ev_neg | with_reducible apply ev_sl
  | with_reducible exact eo_none | with_reducible apply eo_some | with_reducible apply ev_call | with_reducible apply ev_blt | with_reducible apply ev_mth | with_reducible apply ev_isi | with_reducible apply ev_lc
  | with_reducible exact ec_nil | with_reducible apply ec_one | with_reducible exact es_nil | with_reducible apply es_cons | with_reducible apply sr_it | with_reducible apply sr_rng1 | with_reducible apply sr_rng2 | with_reducible apply sr_enm | with_reducible apply sr_zp
  | with_reducible apply pick_t | with_reducible apply pick_f | refine pick_tE (by rfl) ?_ | refine pick_fE (by rfl) ?_ | with_reducible apply nx_nx | with_reducible exact nx_rt | with_reducible exact nx_bk | with_reducible exact nx_ct | with_reducible exact ss_nil | with_reducible apply ss_cons | with_reducible apply s_asg | with_reducible apply s_own
  | with_reducible apply s_unp | with_reducible apply s_par | with_reducible apply s_set | with_reducible apply s_ex | with_reducible apply s_iff | with_reducible apply s_ret | with_reducible exact s_retN | with_reducible exact s_pss | with_reducible exact s_brk | with_reducible exact s_cnt
  | with_reducible apply s_fr | with_reducible apply fo_items | with_reducible exact fo_nil | with_reducible apply fo_cons | with_reducible apply frF_ok | with_reducible apply nf_nx | with_reducible apply nf_ct | with_reducible exact nf_rt | with_reducible exact nf_bk
  | with_reducible apply ga_items | with_reducible exact ga_nil | with_reducible apply ng_none | with_reducible apply ng_some | with_reducible apply lcF_ok | with_reducible apply lcE | with_reducible apply ga_cons)
/-! plain letters, how many nodes -/
theorem pl_map (L : List Kd) : pls (L.map Kd.d) = true := by rw [← ofL_ds]; exact kds_pl _
theorem gd2 {a b : Kd} (ha : Go a) (hb : Go b) : ∀ x ∈ [a, b], Gd x := by
  intro x hx
  simp only [or_false, List.not_mem_nil, List.mem_cons] at hx
  rcases hx with rfl | rfl
  · exact ha.gd
  · exact hb.gd
theorem gd1 {b : Kd} (hb : Go b) : ∀ x ∈ [b], Gd x := by
  intro x hx
  rw [List.mem_singleton] at hx
  rw [hx]
  exact hb.gd
theorem nar_map : ∀ L : List Kd, tot L ≤ 9000 → nars (L.map Kd.d) = true := by
  intro L h
  rw [← ofL_ds]
  exact kds_nar _ (by rw [ofL_szs]; omega)
theorem tot_sw (σ : Sg) (h : ∀ p ∈ σ, p.2.sz ≤ 1) : ∀ L : List Kd, tot (L.map fun k => k.sw σ) ≤ tot L
  | [] => Nat.le_refl _
  | k :: r => by
    have h1 := sw_sz σ 1 (Nat.le_refl _) h k
    have h2 := tot_sw σ h r
    simp only [List.map_cons, tot]; omega
theorem sames (n : Nat) (st : Sto) (L : List Kd) (f : Nat → Ky) (xs : List Ky) (hL : ∀ k ∈ L, k.dep ≤ 6) (ht : tot L ≤ 103) : callV (CN (n + 70)) 11 [.d (.list (L.map fun k => (k.sw (ren f xs)).d)), .d (.list (L.map fun k => (k.sw (ren f xs)).d))] st = .ok (vBool true) st := by
  have e : (L.map fun k => (k.sw (ren f xs)).d) = (L.map fun k => k.sw (ren f xs)).map Kd.d := by rw [List.map_map]; rfl
  rw [e]
  have h1 := pl_map (L.map fun k => k.sw (ren f xs))
  have h2 := tot_sw (ren f xs) (ren_sz f xs) L
  have h3 := nar_map (L.map fun k => k.sw (ren f xs)) (by omega)
  have h4 := len_tot (L.map fun k => k.sw (ren f xs))
  refine same_call n st _ h1 ?_ ?_
  · simp only [nar, h3, Bool.and_true, List.length_map] at h4 ⊢
    exact decide_eq_true_eq.mpr (by omega)
  · simp only [PyData.depth]
    have hd : ∀ L : List Kd, (∀ k ∈ L, k.dep ≤ 6) → PyData.depthAll ((L.map fun k => k.sw (ren f xs)).map Kd.d) ≤ 13 := by
      intro L
      induction L with
      | nil => intro _; exact Nat.zero_le _
      | cons k r ih =>
        intro h
        have h1 := h k (.head _)
        have h2 := sw_dep (ren f xs) 0 (ren_dep f xs) k
        have h3 := kd_depth (k.sw (ren f xs))
        have h4 := ih fun x hx => h x (List.mem_cons_of_mem _ hx)
        simp only [PyData.depthAll, List.map_cons]
        omega
    have := hd L hL
    omega
theorem ws2 (n : Nat) (st : Sto) (σ : MP.Env) (L : List Kd) (e1 e2 : E) (hL : ∀ k ∈ L, Go k) (ht : tot L ≤ 103) (h1 : evE (CN (n + 70)) e1 σ st = .ok (vTup (L.map Kd.d)) st) (h2 : evE (CN (n + 70)) e2 σ st = .ok (.fl (L.map fun k => W.d k.d)) st) :
    evE (CN (n + 70)) (.call 11 [(.blt .list [(.call 5 [e1] [])]), (.call 16 [e2] [])] []) σ st = .ok (vBool true) st := by
  have hg : ∀ k ∈ L, Gd k := fun k hk => (hL k hk).gd
  have c1 := plain_call (n + 29) st L hg ht
  have c2 := lplain_call (n + 29) st L hg ht
  have c3 := sames n st L pP (us L) (fun k hk => (hL k hk).2.1) ht
  have b1 : bltV .list st [vTup (L.map fun k => (k.sw (ren pP (us L))).d)] = some (.fl ((L.map fun k => (k.sw (ren pP (us L))).d).map W.d)) := rfl
  have em : (L.map fun k => W.d (k.sw (ren pP (us L))).d) = (L.map fun k => (k.sw (ren pP (us L))).d).map W.d := by rw [List.map_map]; rfl
  have em2 : (L.map fun k => W.d k.d) = (L.map Kd.d).map W.d := by rw [List.map_map]; rfl
  rw [em] at c2
  rw [em2] at h2
  have w1 : wOf (.fl ((L.map fun k => (k.sw (ren pP (us L))).d).map W.d)) = some (.d (.list (L.map fun k => (k.sw (ren pP (us L))).d))) := by
    show (datas _).map (fun ds => W.d (.list ds)) = _
    rw [datas_map]; rfl
  have w2 : wOf (.fl ((L.map Kd.d).map W.d)) = some (.d (.list (L.map Kd.d))) := by
    show (datas _).map (fun ds => W.d (.list ds)) = _
    rw [datas_map]; rfl
  have v2 : wsOf [.fl ((L.map Kd.d).map W.d)] = some [.d (.list (L.map Kd.d))] := by simp only [wsOf, w2, Option.bind_some, Option.map_some]
  have v1 : wsOf [.fl ((L.map fun k => (k.sw (ren pP (us L))).d).map W.d), .fl ((L.map fun k => (k.sw (ren pP (us L))).d).map W.d)] = some [.d (.list (L.map fun k => (k.sw (ren pP (us L))).d)), .d (.list (L.map fun k => (k.sw (ren pP (us L))).d))] := by simp only [wsOf, w1, Option.bind_some, Option.map_some]
  exact ev_call (es_cons (ev_blt (es_cons (ev_call (es_cons h1 es_nil) rfl c1) es_nil) b1) (es_cons (ev_call (es_cons h2 es_nil) v2 c2) es_nil)) v1 c3
theorem size_call (n : Nat) (st : Sto) (k : Kd) (hk : Gd k) (hz : k.sz ≤ 50000) : callV (CN (n + 1)) 1 [.d k.d] st = .ok (vInt ((min 301 k.sz : Nat) : Int)) st := by
  obtain ⟨s1, h⟩ := size_run n k hk hz
  exact cl_pure rfl h rfl
theorem nodes_call (n : Nat) (st : Sto) (k : Kd) (hk : Gd k) (hz : k.sz ≤ 10000) : callV (CN (n + 40)) 20 [.d k.d] st = .ok (vInt (k.sz : Nat)) st :=
  cl_pure rfl (nodes_run 40 k hk.1 (by have := hk.2; omega) hz n) rfl
theorem lp1 (n : Nat) (st : Sto) (k : Kd) (hk : Gd k) (hz : k.sz ≤ 103) : callV (CN (n + 41)) 16 [.d (.list [k.d])] st = .ok (.fl [.d (npl k).d]) st :=
  lplain_call n st [k] (fun x hx => by rw [List.mem_singleton] at hx; rw [hx]; exact hk) (by simp only [tot]; omega)
theorem turnC (n : Nat) (sc o2 o3 o4 o5 o6 o7 o8 o9 o10 o11 o12 o13 o14 o15 o16 o17 o18 o19 o20 : Option W) (a b : Kd) (ha : Go a) (ha2 : a.sz ≤ 15) (hb : Go b) (st : Sto) : evSs (CN (n + 70)) [L5, L6, L7] [sc, some (.ref 1), o2, some (.d lets), some (.d a.d), o5, o6, some (.d b.d), o8, o9, o10, o11, o12, o13, o14, o15, o16, o17, o18, o19, o20] st = .ok (.nx [sc, some (.ref 1), o2, some (.d lets), some (.d a.d), o5, o6, some (.d b.d), o8, o9, o10, o11, o12, o13, o14, o15, o16, o17, o18, o19, o20]) st := by
  have hb2 := hb.2.2
  have t1 := ws2 n st [sc, some (.ref 1), o2, some (.d lets), some (.d a.d), o5, o6, some (.d b.d), o8, o9, o10, o11, o12, o13, o14, o15, o16, o17, o18, o19, o20] [a, b] (.tup [(.var 4), (.var 7)]) (.lst false [(.var 4), (.var 7)]) (fun x hx => by
    simp only [or_false, List.not_mem_nil, List.mem_cons] at hx
    rcases hx with rfl | rfl
    · exact ha
    · exact hb) (by simp only [tot]; omega) (ev_tup (es_cons (ev_var rfl) (es_cons (ev_var rfl) es_nil)) rfl rfl) (ev_lst (es_cons (ev_var rfl) (es_cons (ev_var rfl) es_nil)) rfl rfl)
  have t2 := ws2 n st [sc, some (.ref 1), o2, some (.d lets), some (.d a.d), o5, o6, some (.d b.d), o8, o9, o10, o11, o12, o13, o14, o15, o16, o17, o18, o19, o20] [b] (.tup [(.var 7)]) (.lst false [(.var 7)]) (fun x hx => by
    rw [List.mem_singleton] at hx
    rw [hx]
    exact hb) (by simp only [tot]; omega) (ev_tup (es_cons (ev_var rfl) es_nil) rfl rfl) (ev_lst (es_cons (ev_var rfl) es_nil) rfl rfl)
  have c1 := alike_call (n + 28) st a b ha.gd hb.gd (by omega) (by omega)
  have c2 := lp1 (n + 29) st a ha.gd (by omega)
  have c3 := lp1 (n + 29) st b hb.gd (by omega)
  have q1 := eq_L1 st (npl a) (npl b) (gd_npl a ha.gd (by omega)) (gd_npl b hb.gd (by omega))
  have q2 := ne_bool st (ek (npl a) (npl b)) (ek (npl a) (npl b))
  have q3 : (ek (npl a) (npl b) != ek (npl a) (npl b)) = false := by cases ek (npl a) (npl b) <;> rfl
  rw [q3] at q2
  have c4 := size_call (n + 69) st a ha.gd (by omega)
  have c5 := nodes_call (n + 30) st a ha.gd (by omega)
  have em : min 301 a.sz = a.sz := by omega
  rw [em] at c4
  have q4 := ne_nat st a.sz a.sz
  rw [decide_eq_false (by omega)] at q4
  have s5 : evS (CN (n + 70)) L5 [sc, some (.ref 1), o2, some (.d lets), some (.d a.d), o5, o6, some (.d b.d), o8, o9, o10, o11, o12, o13, o14, o15, o16, o17, o18, o19, o20] st = .ok (.nx [sc, some (.ref 1), o2, some (.d lets), some (.d a.d), o5, o6, some (.d b.d), o8, o9, o10, o11, o12, o13, o14, o15, o16, o17, o18, o19, o20]) st :=
    s_iff (ev_orr (ev_nt t1 rfl) rfl (pick_f (ev_nt t2 rfl))) rfl (pick_f ss_nil)
  have s6 : evS (CN (n + 70)) L6 [sc, some (.ref 1), o2, some (.d lets), some (.d a.d), o5, o6, some (.d b.d), o8, o9, o10, o11, o12, o13, o14, o15, o16, o17, o18, o19, o20] st = .ok (.nx [sc, some (.ref 1), o2, some (.d lets), some (.d a.d), o5, o6, some (.d b.d), o8, o9, o10, o11, o12, o13, o14, o15, o16, o17, o18, o19, o20]) st :=
    s_iff (ev_cmp (ev_call (es_cons (ev_var rfl) (es_cons (ev_var rfl) es_nil)) rfl c1) (ev_cmp (ev_call (es_cons (ev_lst (es_cons (ev_var rfl) es_nil) rfl rfl) es_nil) rfl c2) (ev_call (es_cons (ev_lst (es_cons (ev_var rfl) es_nil) rfl rfl) es_nil) rfl c3) q1) q2) rfl (pick_f ss_nil)
  have s7 : evS (CN (n + 70)) L7 [sc, some (.ref 1), o2, some (.d lets), some (.d a.d), o5, o6, some (.d b.d), o8, o9, o10, o11, o12, o13, o14, o15, o16, o17, o18, o19, o20] st = .ok (.nx [sc, some (.ref 1), o2, some (.d lets), some (.d a.d), o5, o6, some (.d b.d), o8, o9, o10, o11, o12, o13, o14, o15, o16, o17, o18, o19, o20]) st :=
    s_iff (ev_cmp (ev_call (es_cons (ev_var rfl) es_nil) rfl c4) (ev_call (es_cons (ev_var rfl) es_nil) rfl c5) q4) rfl (pick_f ss_nil)
  exact ss_cons s5 (nx_nx (ss_cons s6 (nx_nx (ss_cons s7 (nx_nx ss_nil)))))
end KI
set_option maxHeartbeats 4100000
namespace KI
open PySem MP
local macro_rules | `(tactic| decreasing_trivial_pre_omega) => `(tactic| first
  | simp only [List.map_nil, List.append_nil, List.nil_append, List.cons_append, List.map_cons, List.set_cons_zero, List.set_cons_succ, List.length_nil]
  | with_reducible exact ev_cst | with_reducible apply ev_cel | with_reducible apply ev_var | with_reducible apply ev_bin | with_reducible apply ev_cmp | with_reducible apply ev_ix | with_reducible apply ev_nt | with_reducible apply ev_an | with_reducible apply ev_orr
  | with_reducible apply ev_ife | with_reducible apply ev_cmp2 | with_reducible apply ev_cmp2b | with_reducible apply ev_tup | with_reducible apply ev_lst | with_reducible exact ev_dis | with_reducible apply ev_neg | with_reducible apply ev_sl
  | with_reducible exact eo_none | with_reducible apply eo_some | with_reducible apply ev_call | with_reducible apply ev_blt | with_reducible apply ev_mth | with_reducible apply ev_isi | with_reducible apply ev_lc
  | with_reducible exact ec_nil | with_reducible apply ec_one | with_reducible exact es_nil | with_reducible apply es_cons | with_reducible apply sr_it | with_reducible apply sr_rng1 | with_reducible apply sr_rng2 | with_reducible apply sr_enm | with_reducible apply sr_zp
  | with_reducible apply pick_t | with_reducible apply pick_f | refine pick_tE (by rfl) ?_ | refine pick_fE (by rfl) ?_ | with_reducible apply nx_nx | with_reducible exact nx_rt | with_reducible exact nx_bk | with_reducible exact nx_ct | with_reducible exact ss_nil | with_reducible apply ss_cons | with_reducible apply s_asg | with_reducible apply s_own
  | with_reducible apply s_unp | with_reducible apply s_par | with_reducible apply s_set | with_reducible apply s_ex | with_reducible apply s_iff | with_reducible apply s_ret | with_reducible exact s_retN | with_reducible exact s_pss | with_reducible exact s_brk | with_reducible exact s_cnt
  | with_reducible apply s_fr | with_reducible apply fo_items | with_reducible exact fo_nil | with_reducible apply fo_cons | with_reducible apply frF_ok | with_reducible apply nf_nx | with_reducible apply nf_ct | with_reducible exact nf_rt | with_reducible exact nf_bk
  | with_reducible apply ga_items | with_reducible exact ga_nil | with_reducible apply ng_none | with_reducible apply ng_some | with_reducible apply lcF_ok | with_reducible apply lcE | with_reducible apply ga_cons)
/-! kindings with new letters -/
abbrev tp17 : E := (.tup [(.ix (.var 15) (.var 17)), (.tup [(.cst (.str ⟨#[63]⟩)), (.bin .Add (.var 14) (.var 17))])])
theorem turn21 (C : CE) (sc o2 o3 o4 o5 o6 o7 o8 o9 o10 o11 o12 o13 o14 o15 o16 o17 o18 o19 o20 : Option W) (v : Int) (xs : List Ky) (k : Nat) (st : Sto) (hk : k < xs.length) : lcF C [17] (.nm 17) [] tp17 [sc, some (.ref 1), o2, o3, o4, o5, o6, o7, o8, o9, o10, o11, o12, o13, some (.d (.int v)), some (.d (lK xs)), o16, o17, o18, o19, o20] (.d (.int (k : Int))) st = .ok (some (.d (.tuple [keyD (xs.getD k (.inl 0)), (Kd.v (pF v k)).d]))) st := by
  have e1 := ix_L st xs k hk
  exact lcF_ok (w := .d (.int (k : Int))) rfl ec_nil (pick_t (lcE (ev_tup (es_cons (ev_ix (ev_var rfl) (ev_var rfl) e1) (es_cons (ev_tup (es_cons ev_cst (es_cons (ev_bin (ev_var rfl) (ev_var rfl) rfl) es_nil)) rfl rfl) es_nil)) rfl rfl) rfl))
theorem dict_21 (n : Nat) (sc o2 o3 o4 o5 o6 o7 o8 o9 o10 o11 o12 o13 o14 o15 o16 o17 o18 o19 o20 : Option W) (v : Int) (L : List Kd) (st : Sto) (ht : tot L ≤ 9000) : evE (CN n) (.blt .dict [(.lc [17] (.nm 17) (.rng1 [(.blt .len [(.var 15)])]) [] tp17)]) [sc, some (.ref 1), o2, o3, o4, o5, o6, o7, o8, o9, o10, o11, o12, o13, some (.d (.int v)), some (.d (lK (us L))), o16, o17, o18, o19, o20] st = .ok (fdS (fre v L)) st := by
  have hu := us_len L
  have g1 := ren_gath (F := lcF (CN n) [17] (.nm 17) [] tp17 [sc, some (.ref 1), o2, o3, o4, o5, o6, o7, o8, o9, o10, o11, o12, o13, some (.d (.int v)), some (.d (lK (us L))), o16, o17, o18, o19, o20]) (st := st) (pF v) (us L) (by omega) (fun k hk => turn21 (CN n) sc o2 o3 o4 o5 o6 o7 o8 o9 o10 o11 o12 o13 none none o16 o17 o18 o19 o20 v (us L) k st hk)
  have hlc : evE (CN n) (.lc [17] (.nm 17) (.rng1 [(.blt .len [(.var 15)])]) [] tp17) [sc, some (.ref 1), o2, o3, o4, o5, o6, o7, o8, o9, o10, o11, o12, o13, some (.d (.int v)), some (.d (lK (us L))), o16, o17, o18, o19, o20] st = .ok (.fl ((fre v L).map fun p => W.d (.tuple [keyD p.1, p.2.d]))) st :=
    ev_lc (it := .items (rngW 0 ((us L).length : Int))) rfl (sr_rng1 (es_cons (ev_blt (es_cons (ev_var rfl) es_nil) (len_L st (us L))) es_nil) (rng_ok _ (by omega))) (ga_items g1)
  exact ev_blt (es_cons hlc es_nil) (dict_S st (fre v L) (ren_nd (pF v) (us L) (us_nd L)))
theorem turn18 (C : CE) (sc o2 o3 o4 o5 o6 o7 o8 o9 o10 o11 o12 o13 o14 o15 o16 o17 o18 o19 o20 : Option W) (dd d r : D) (st : Sto) (hc : callV C 17 [.d dd, .d d] st = .ok (.w (.d r)) st) : lcF C [18] (.nm 18) [] (.call 17 [(.var 16), (.var 18)] []) [sc, some (.ref 1), o2, o3, o4, o5, o6, o7, o8, o9, o10, o11, o12, o13, o14, o15, some (.d dd), o17, o18, o19, o20] (.d d) st = .ok (some (.d r)) st :=
  lcF_ok (w := .d d) rfl ec_nil (pick_t (lcE (ev_call (es_cons (ev_var rfl) (es_cons (ev_var rfl) es_nil)) rfl hc) rfl))
theorem row_18 (n : Nat) (sc o2 o3 o4 o5 o6 o7 o8 o9 o10 o11 o12 o13 o14 o15 o16 o17 o18 o19 o20 : Option W) (σ : Sg) (A : List Kd) (e : E) (st : Sto) (hA : ∀ k ∈ A, Gd k) (ht : tot A ≤ 9000) (he : evE (CN (n + 40)) e [sc, some (.ref 1), o2, o3, o4, o5, o6, o7, o8, o9, o10, o11, o12, o13, o14, o15, some (.d (dD σ)), o17, o18, o19, o20] st = .ok (.w (.d (tT A))) st) :
    evE (CN (n + 40)) (.blt .tuple [(.lc [18] (.nm 18) (.it e) [] (.call 17 [(.var 16), (.var 18)] []))]) [sc, some (.ref 1), o2, o3, o4, o5, o6, o7, o8, o9, o10, o11, o12, o13, o14, o15, some (.d (dD σ)), o17, o18, o19, o20] st = .ok (.w (.d (swL σ A))) st := by
  have hlen := len_tot A
  have g2 := gath_map (f := lcF (CN (n + 40)) [18] (.nm 18) [] (.call 17 [(.var 16), (.var 18)] []) [sc, some (.ref 1), o2, o3, o4, o5, o6, o7, o8, o9, o10, o11, o12, o13, o14, o15, some (.d (dD σ)), o17, o18, o19, o20]) (g := fun k : Kd => W.d k.d) (h := fun k : Kd => W.d (k.sw σ).d) (st := st) A [] (fun k hk =>
    turn18 (CN (n + 40)) sc o2 o3 o4 o5 o6 o7 o8 o9 o10 o11 o12 o13 o14 o15 none o17 o18 o19 o20 _ _ _ _ (sw17_call n st σ k (hA k hk) (by have := tot_mem A k hk; omega))) (by simp only [List.length_nil]; omega)
  rw [List.nil_append] at g2
  exact ev_blt (es_cons (ev_lc (it := .items (A.map fun k => W.d k.d)) rfl (sr_it he (itT st A)) (ga_items g2)) es_nil) (tupF st σ A)
theorem fresh_call (n : Nat) (st : Sto) (A B : List Kd) (k : Kd) (b : Int) (hA : ∀ k ∈ A, Gd k) (hB : ∀ k ∈ B, Gd k) (hk : Gd k) (ht : tot (A ++ B ++ [k]) ≤ 5000) :
    callV (CN (n + 41)) 3 [.d (kng A B k), .d (.int b)] st = .ok (vTup [.tuple [swL (fre b (A ++ B ++ [k])) A, swL (fre b (A ++ B ++ [k])) B, (k.sw (fre b (A ++ B ++ [k]))).d], .int (b + ((us (A ++ B ++ [k])).length : Nat))]) st :=
  cl_pure rfl (fresh_run n A B k b hA hB hk ht) rfl
theorem swL_pl (σ : Sg) (A : List Kd) : pl (swL σ A) = true := by
  have e : (A.map fun k => (k.sw σ).d) = (A.map fun k => k.sw σ).map Kd.d := by rw [List.map_map]; rfl
  show pls (A.map fun k => (k.sw σ).d) = true
  rw [e]
  exact pl_map _
theorem swL_nar (f : Nat → Ky) (xs : List Ky) (A : List Kd) (h : tot A ≤ 9000) : nar (swL (ren f xs) A) = true := by
  have e : (A.map fun k => (k.sw (ren f xs)).d) = (A.map fun k => k.sw (ren f xs)).map Kd.d := by rw [List.map_map]; rfl
  have h2 := tot_sw (ren f xs) (ren_sz f xs) A
  have h4 := len_tot A
  show (decide ((A.map fun k => (k.sw (ren f xs)).d).length ≤ 10000) && nars (A.map fun k => (k.sw (ren f xs)).d)) = true
  rw [e, nar_map _ (by omega), Bool.and_true]
  exact decide_eq_true (by simp only [List.length_map]; omega)
theorem swL_dep (f : Nat → Ky) (xs : List Ky) (M : Nat) : ∀ A : List Kd, (∀ k ∈ A, k.dep ≤ M) → PyData.depthAll (A.map fun k => (k.sw (ren f xs)).d) ≤ 2 * M + 1
  | [], _ => Nat.zero_le _
  | k :: r, h => by
    have h1 := h k (.head _)
    have h2 := sw_dep (ren f xs) 0 (ren_dep f xs) k
    have h3 := kd_depth (k.sw (ren f xs))
    have h4 := swL_dep f xs M r fun x hx => h x (List.mem_cons_of_mem _ hx)
    simp only [PyData.depthAll, List.map_cons]
    omega
theorem same_kng (n : Nat) (st : Sto) (A B : List Kd) (k : Kd) (f : Nat → Ky) (xs : List Ky) (z : Int) (hA : ∀ k ∈ A, k.dep ≤ 12) (hB : ∀ k ∈ B, k.dep ≤ 12) (hk : k.dep ≤ 12) (tA : tot A ≤ 9000) (tB : tot B ≤ 9000) (tk : k.sz ≤ 9000) :
    pl (.tuple [.tuple [swL (ren f xs) A, swL (ren f xs) B, (k.sw (ren f xs)).d], .int z]) = true ∧ nar (.tuple [.tuple [swL (ren f xs) A, swL (ren f xs) B, (k.sw (ren f xs)).d], .int z]) = true ∧ PyData.depth (.tuple [.tuple [swL (ren f xs) A, swL (ren f xs) B, (k.sw (ren f xs)).d], .int z]) ≤ 40 := by
  have h1 := swL_pl (ren f xs) A
  have h2 := swL_pl (ren f xs) B
  have h3 := kd_pl (k.sw (ren f xs))
  have n1 := swL_nar f xs A tA
  have n2 := swL_nar f xs B tB
  have n3 := kd_nar (k.sw (ren f xs)) (by have := sw_sz (ren f xs) 1 (Nat.le_refl _) (ren_sz f xs) k; omega)
  have d1 := swL_dep f xs 12 A hA
  have d2 := swL_dep f xs 12 B hB
  have d3 := kd_depth (k.sw (ren f xs))
  have d4 := sw_dep (ren f xs) 0 (ren_dep f xs) k
  refine ⟨?_, ?_, ?_⟩
  · simp only [pl, pls, h3, Bool.and_true, Bool.true_and]
    have h1 : pls (A.map fun k => (k.sw (ren f xs)).d) = true := h1
    have h2 : pls (B.map fun k => (k.sw (ren f xs)).d) = true := h2
    rw [h1, h2]; rfl
  · have e : nar (.tuple [.tuple [swL (ren f xs) A, swL (ren f xs) B, (k.sw (ren f xs)).d], .int z]) = ((decide (2 ≤ 10000)) && ((decide (3 ≤ 10000) && (nar (swL (ren f xs) A) && (nar (swL (ren f xs) B) && (nar (k.sw (ren f xs)).d && true)))) && (true && true))) := rfl
    rw [e, n1, n2, n3]; rfl
  · simp only [PyData.depth, PyData.depthAll]
    omega
theorem turnD (n : Nat) (sc o2 o3 o4 o5 o6 o7 o8 o9 o10 o11 o12 o13 o14 o15 o16 o17 o18 o19 o20 : Option W) (a b : Kd) (ha : Go a) (ha2 : a.sz ≤ 15) (hb : Go b) (cs : List Int) (s : Int) (X : Sto) (ho : Ok cs) (hX : Flat X) :
    ∃ (o10' o13' o14' o15' o16' : Option W) (cs' : List Int) (s' : Int), Ok cs' ∧ evSs (CN (n + 70)) [L8, L9, L10, L11, L12, L13] [sc, some (.ref 1), o2, some (.d lets), some (.d a.d), o5, o6, some (.d b.d), o8, o9, o10, o11, o12, o13, o14, o15, o16, o17, o18, o19, o20] (ST cs s X) = .ok (.nx [sc, some (.ref 1), o2, some (.d lets), some (.d a.d), o5, o6, some (.d b.d), o8, o9, o10', o11, o12, o13', o14', o15', o16', o17, o18, o19, o20]) (ST cs' s' X) := by
  obtain ⟨x, cs1, s1, kx, ho1, c1⟩ := gk_ok 1 (n + 67) cs s X ho hX
  obtain ⟨y, cs2, s2, ky, ho2, c2⟩ := gk_ok 0 (n + 68) cs1 s1 X ho1 hX
  obtain ⟨v, cs3, s3, v0, v9, ho3, c3⟩ := draw_ok (n + 69) cs2 s2 X 9 ho2 hX (by decide)
  have gx := go_kn kx (by decide)
  have gy := go_kn ky (by decide)
  have hA : ∀ k ∈ [a, x], Gd k := gd2 ha gx
  have hB : ∀ k ∈ [y], Gd k := gd1 gy
  have za := ha.2.2
  have zb := hb.2.2
  have zx := gx.2.2
  have zy := gy.2.2
  have hL : ∀ k ∈ [a, x, y, b], Gd k := by
    intro k hk
    simp only [List.mem_cons, List.not_mem_nil, or_false] at hk
    rcases hk with rfl | rfl | rfl | rfl
    · exact ha.gd
    · exact gx.gd
    · exact gy.gd
    · exact hb.gd
  have ht : tot [a, x, y, b] ≤ 180 := by simp only [tot]; omega
  have c4 := lets_call (n + 69) (ST cs3 s3 X) [a, x, y, b] hL (by omega)
  have c5 := fresh_call (n + 29) (ST cs3 s3 X) [a, x] [y] b v hA hB hb.gd (by show tot [a, x, y, b] ≤ 5000; omega)
  have c5 : callV (CN (n + 70)) 3 [.d (kng [a, x] [y] b), .d (.int v)] (ST cs3 s3 X) = .ok (vTup [.tuple [swL (fre v [a, x, y, b]) [a, x], swL (fre v [a, x, y, b]) [y], (b.sw (fre v [a, x, y, b])).d], .int (v + ((us [a, x, y, b]).length : Nat))]) (ST cs3 s3 X) := c5
  have sm := same_kng n (ST cs3 s3 X) [a, x] [y] b (pF v) (us [a, x, y, b]) (v + ((us [a, x, y, b]).length : Nat)) (fun k hk => by
    simp only [List.mem_cons, List.not_mem_nil, or_false] at hk
    rcases hk with rfl | rfl
    · have := ha.2.1; omega
    · have := gx.2.1; omega) (fun k hk => by
    rw [List.mem_singleton] at hk
    rw [hk]
    have := gy.2.1; omega) (by have := hb.2.1; omega) (by simp only [tot]; omega) (by simp only [tot]; omega) (by omega)
  have c6 := same_call n (ST cs3 s3 X) _ sm.1 sm.2.1 (by have := sm.2.2; omega)
  have c7 := sw17_call (n + 30) (ST cs3 s3 X) (fre v [a, x, y, b]) b hb.gd (by omega)
  have q8 : evS (CN (n + 70)) L8 [sc, some (.ref 1), o2, some (.d lets), some (.d a.d), o5, o6, some (.d b.d), o8, o9, o10, o11, o12, o13, o14, o15, o16, o17, o18, o19, o20] (ST cs s X) = .ok (.nx [sc, some (.ref 1), o2, some (.d lets), some (.d a.d), o5, o6, some (.d b.d), o8, o9, o10, o11, o12, some (.d (kng [a, x] [y] b)), o14, o15, o16, o17, o18, o19, o20]) (ST cs2 s2 X) :=
    s_asg (ev_tup (es_cons (ev_tup (es_cons (ev_var rfl) (es_cons (ev_call (es_cons (ev_var rfl) (es_cons (ev_var rfl) (es_cons ev_cst es_nil))) rfl c1) es_nil)) rfl rfl) (es_cons (ev_tup (es_cons (ev_call (es_cons (ev_var rfl) (es_cons (ev_var rfl) (es_cons ev_cst es_nil))) rfl c2) es_nil) rfl rfl) (es_cons (ev_var rfl) es_nil))) rfl rfl) rfl
  have q9 : evS (CN (n + 70)) L9 [sc, some (.ref 1), o2, some (.d lets), some (.d a.d), o5, o6, some (.d b.d), o8, o9, o10, o11, o12, some (.d (kng [a, x] [y] b)), o14, o15, o16, o17, o18, o19, o20] (ST cs2 s2 X) = .ok (.nx [sc, some (.ref 1), o2, some (.d lets), some (.d a.d), o5, o6, some (.d b.d), o8, o9, o10, o11, o12, some (.d (kng [a, x] [y] b)), some (.d (.int v)), o15, o16, o17, o18, o19, o20]) (ST cs3 s3 X) :=
    s_asg (ev_call (es_cons (ev_var rfl) (es_cons ev_cst es_nil)) rfl c3) rfl
  have i0 : ixV (ST cs3 s3 X) (.w (.d (kng [a, x] [y] b))) (vInt 0) = some (.w (.d (tT [a, x]))) := rfl
  have i1 : ixV (ST cs3 s3 X) (.w (.d (kng [a, x] [y] b))) (vInt 1) = some (.w (.d (tT [y]))) := rfl
  have i2 : ixV (ST cs3 s3 X) (.w (.d (tT [a, x]))) (vInt 1) = some (.w (.d x.d)) := rfl
  have i3 : ixV (ST cs3 s3 X) (.w (.d (tT [y]))) (vInt 0) = some (.w (.d y.d)) := rfl
  have q10 : evS (CN (n + 70)) L10 [sc, some (.ref 1), o2, some (.d lets), some (.d a.d), o5, o6, some (.d b.d), o8, o9, o10, o11, o12, some (.d (kng [a, x] [y] b)), some (.d (.int v)), o15, o16, o17, o18, o19, o20] (ST cs3 s3 X) = .ok (.nx [sc, some (.ref 1), o2, some (.d lets), some (.d a.d), o5, o6, some (.d b.d), o8, o9, o10, o11, o12, some (.d (kng [a, x] [y] b)), some (.d (.int v)), some (.d (lK (us [a, x, y, b]))), o16, o17, o18, o19, o20]) (ST cs3 s3 X) :=
    s_asg (ev_call (es_cons (ev_lst (es_cons (ev_var rfl) (es_cons (ev_ix (ev_ix (ev_var rfl) ev_cst i0) ev_cst i2) (es_cons (ev_ix (ev_ix (ev_var rfl) ev_cst i1) ev_cst i3) (es_cons (ev_var rfl) es_nil)))) rfl rfl) es_nil) rfl c4) rfl
  have q11 : evS (CN (n + 70)) L11 [sc, some (.ref 1), o2, some (.d lets), some (.d a.d), o5, o6, some (.d b.d), o8, o9, o10, o11, o12, some (.d (kng [a, x] [y] b)), some (.d (.int v)), some (.d (lK (us [a, x, y, b]))), o16, o17, o18, o19, o20] (ST cs3 s3 X) = .ok (.nx [sc, some (.ref 1), o2, some (.d lets), some (.d a.d), o5, o6, some (.d b.d), o8, o9, o10, o11, o12, some (.d (kng [a, x] [y] b)), some (.d (.int v)), some (.d (lK (us [a, x, y, b]))), some (.d (dD (fre v [a, x, y, b]))), o17, o18, o19, o20]) (ST cs3 s3 X) :=
    s_asg (dict_21 (n + 70) sc o2 (some (.d lets)) (some (.d a.d)) o5 o6 (some (.d b.d)) o8 o9 o10 o11 o12 (some (.d (kng [a, x] [y] b))) none none o16 o17 o18 o19 o20 v [a, x, y, b] (ST cs3 s3 X) (by omega)) (w_S _)
  have r1 := row_18 (n + 30) sc o2 (some (.d lets)) (some (.d a.d)) o5 o6 (some (.d b.d)) o8 o9 o10 o11 o12 (some (.d (kng [a, x] [y] b))) (some (.d (.int v))) (some (.d (lK (us [a, x, y, b])))) none o17 o18 o19 o20 (fre v [a, x, y, b]) [a, x] (.ix (.var 13) (.cst (.int 0))) (ST cs3 s3 X) hA (by simp only [tot]; omega) (ev_ix (ev_var rfl) ev_cst i0)
  have r2 := row_18 (n + 30) sc o2 (some (.d lets)) (some (.d a.d)) o5 o6 (some (.d b.d)) o8 o9 o10 o11 o12 (some (.d (kng [a, x] [y] b))) (some (.d (.int v))) (some (.d (lK (us [a, x, y, b])))) none o17 o18 o19 o20 (fre v [a, x, y, b]) [y] (.ix (.var 13) (.cst (.int 1))) (ST cs3 s3 X) hB (by simp only [tot]; omega) (ev_ix (ev_var rfl) ev_cst i1)
  have q12 : evS (CN (n + 70)) L12 [sc, some (.ref 1), o2, some (.d lets), some (.d a.d), o5, o6, some (.d b.d), o8, o9, o10, o11, o12, some (.d (kng [a, x] [y] b)), some (.d (.int v)), some (.d (lK (us [a, x, y, b]))), some (.d (dD (fre v [a, x, y, b]))), o17, o18, o19, o20] (ST cs3 s3 X) = .ok (.nx [sc, some (.ref 1), o2, some (.d lets), some (.d a.d), o5, o6, some (.d b.d), o8, o9, some (.d (.tuple [swL (fre v [a, x, y, b]) [a, x], swL (fre v [a, x, y, b]) [y], (b.sw (fre v [a, x, y, b])).d])), o11, o12, some (.d (kng [a, x] [y] b)), some (.d (.int v)), some (.d (lK (us [a, x, y, b]))), some (.d (dD (fre v [a, x, y, b]))), o17, o18, o19, o20]) (ST cs3 s3 X) :=
    s_ownW (ev_tup (es_cons r1 (es_cons r2 (es_cons (ev_call (es_cons (ev_var rfl) (es_cons (ev_var rfl) es_nil)) rfl c7) es_nil))) rfl rfl)
  have hl : evE (CN (n + 70)) (.tup [(.var 10), (.bin .Add (.var 14) (.blt .len [(.var 15)]))]) [sc, some (.ref 1), o2, some (.d lets), some (.d a.d), o5, o6, some (.d b.d), o8, o9, some (.d (.tuple [swL (fre v [a, x, y, b]) [a, x], swL (fre v [a, x, y, b]) [y], (b.sw (fre v [a, x, y, b])).d])), o11, o12, some (.d (kng [a, x] [y] b)), some (.d (.int v)), some (.d (lK (us [a, x, y, b]))), some (.d (dD (fre v [a, x, y, b]))), o17, o18, o19, o20] (ST cs3 s3 X) = .ok (vTup [.tuple [swL (fre v [a, x, y, b]) [a, x], swL (fre v [a, x, y, b]) [y], (b.sw (fre v [a, x, y, b])).d], .int (v + ((us [a, x, y, b]).length : Nat))]) (ST cs3 s3 X) :=
    ev_tup (es_cons (ev_var rfl) (es_cons (ev_bin (ev_var rfl) (ev_blt (es_cons (ev_var rfl) es_nil) (len_L (ST cs3 s3 X) (us [a, x, y, b]))) rfl) es_nil)) rfl rfl
  have q13 : evS (CN (n + 70)) L13 [sc, some (.ref 1), o2, some (.d lets), some (.d a.d), o5, o6, some (.d b.d), o8, o9, some (.d (.tuple [swL (fre v [a, x, y, b]) [a, x], swL (fre v [a, x, y, b]) [y], (b.sw (fre v [a, x, y, b])).d])), o11, o12, some (.d (kng [a, x] [y] b)), some (.d (.int v)), some (.d (lK (us [a, x, y, b]))), some (.d (dD (fre v [a, x, y, b]))), o17, o18, o19, o20] (ST cs3 s3 X) = .ok (.nx [sc, some (.ref 1), o2, some (.d lets), some (.d a.d), o5, o6, some (.d b.d), o8, o9, some (.d (.tuple [swL (fre v [a, x, y, b]) [a, x], swL (fre v [a, x, y, b]) [y], (b.sw (fre v [a, x, y, b])).d])), o11, o12, some (.d (kng [a, x] [y] b)), some (.d (.int v)), some (.d (lK (us [a, x, y, b]))), some (.d (dD (fre v [a, x, y, b]))), o17, o18, o19, o20]) (ST cs3 s3 X) :=
    s_iff (ev_nt (ev_call (es_cons (ev_call (es_cons (ev_var rfl) (es_cons (ev_var rfl) es_nil)) rfl c5) (es_cons hl es_nil)) rfl c6) rfl) rfl (pick_f ss_nil)
  exact ⟨_, _, _, _, _, cs3, s3, ho3, ss_cons q8 (nx_nx (ss_cons q9 (nx_nx (ss_cons q10 (nx_nx (ss_cons q11 (nx_nx (ss_cons q12 (nx_nx (ss_cons q13 (nx_nx ss_nil)))))))))))⟩
end KI
set_option maxHeartbeats 4100000
namespace KI
open PySem MP
local macro_rules | `(tactic| decreasing_trivial_pre_omega) => `(tactic| first
  | simp only [List.map_nil, List.append_nil, List.nil_append, List.cons_append, List.map_cons, List.set_cons_zero, List.set_cons_succ, List.length_nil]
  | with_reducible exact ev_cst | with_reducible apply ev_cel | with_reducible apply ev_var | with_reducible apply ev_bin | with_reducible apply ev_cmp | with_reducible apply ev_ix | with_reducible apply ev_nt | with_reducible apply ev_an | with_reducible apply ev_orr
  | with_reducible apply ev_ife | with_reducible apply ev_cmp2 | with_reducible apply ev_cmp2b | with_reducible apply ev_tup | with_reducible apply ev_lst | with_reducible exact ev_dis | with_reducible apply ev_neg | with_reducible apply ev_sl
  | with_reducible exact eo_none | with_reducible apply eo_some | with_reducible apply ev_call | with_reducible apply ev_blt | with_reducible apply ev_mth | with_reducible apply ev_isi | with_reducible apply ev_lc
  | with_reducible exact ec_nil | with_reducible apply ec_one | with_reducible exact es_nil | with_reducible apply es_cons | with_reducible apply sr_it | with_reducible apply sr_rng1 | with_reducible apply sr_rng2 | with_reducible apply sr_enm | with_reducible apply sr_zp
  | with_reducible apply pick_t | with_reducible apply pick_f | refine pick_tE (by rfl) ?_ | refine pick_fE (by rfl) ?_ | with_reducible apply nx_nx | with_reducible exact nx_rt | with_reducible exact nx_bk | with_reducible exact nx_ct | with_reducible exact ss_nil | with_reducible apply ss_cons | with_reducible apply s_asg | with_reducible apply s_own
  | with_reducible apply s_unp | with_reducible apply s_par | with_reducible apply s_set | with_reducible apply s_ex | with_reducible apply s_iff | with_reducible apply s_ret | with_reducible exact s_retN | with_reducible exact s_pss | with_reducible exact s_brk | with_reducible exact s_cnt
  | with_reducible apply s_fr | with_reducible apply fo_items | with_reducible exact fo_nil | with_reducible apply fo_cons | with_reducible apply frF_ok | with_reducible apply nf_nx | with_reducible apply nf_ct | with_reducible exact nf_rt | with_reducible exact nf_bk
  | with_reducible apply ga_items | with_reducible exact ga_nil | with_reducible apply ng_none | with_reducible apply ng_some | with_reducible apply lcF_ok | with_reducible apply lcE | with_reducible apply ga_cons)
abbrev M0 : S := (.asg true 1 (.call 9 [(.var 0)] []))
abbrev M2 : S := (.asg false 19 (.tup [(.cst (.str ⟨#[110, 117, 109]⟩)), (.tup [])]))
abbrev M4 : S := (.asg false 20 (.ife (.cmp .Lt (.call 1 [(.var 19)] []) (.cst (.int 301))) (.call 20 [(.var 19)] []) (.cst (.int 301))))
abbrev M5 : S := (.iff (.orr (.cmp .NotEq (.call 1 [(.var 19)] []) (.var 20)) (.cmp .NotEq (.var 20) (.blt .min [(.cst (.int 301)), (.call 20 [(.var 19)] [])]))) [(.ret (some (.cst (.bool false))))] [])
abbrev M6 : S := (.ret (some (.an (.cmp .Eq (.lc [17] (.nm 17) (.it (.tup [(.cst (.int 0)), (.cst (.int 25)), (.cst (.int 26)), (.cst (.int 53))])) [] (.call 4 [(.var 17)] [])) (.lst false [(.cst (.str ⟨#[97]⟩)), (.cst (.str ⟨#[122]⟩)), (.cst (.str ⟨#[97, 49]⟩)), (.cst (.str ⟨#[98, 50]⟩))])) (.an (.cmp .Eq (.call 5 [(.tup [])] []) (.tup [])) (.cmp .Eq (.call 3 [(.tup [(.tup []), (.tup []), (.var 19)]), (.cst (.int 4))] []) (.tup [(.tup [(.tup []), (.tup []), (.var 19)]), (.cst (.int 4))]))))))
abbrev DB : List S := [(.asg false 19 (.tup [(.cst (.str ⟨#[112, 97, 105, 114]⟩)), (.tup [(.var 19), (.var 19)])]))]
abbrev TB : List S := [L0, L1, L2, L3] ++ ([L4] ++ ([L5, L6, L7] ++ [L8, L9, L10, L11, L12, L13]))
/-- a turn -/
theorem turn_run (n : Nat) (sc o2 o3 o4 o5 o6 o7 o8 o9 o10 o11 o12 o13 o14 o15 o16 o17 o18 o19 o20 : Option W) (cs : List Int) (s : Int) (X : Sto) (ho : Ok cs) (hX : Flat X) :
    ∃ (r : List (Option W)) (cs' : List Int) (s' : Int) (X' : Sto), r.length = 19 ∧ Ok cs' ∧ Flat X' ∧ evSs (CN (n + 70)) TB [sc, some (.ref 1), o2, o3, o4, o5, o6, o7, o8, o9, o10, o11, o12, o13, o14, o15, o16, o17, o18, o19, o20] (ST cs s X) = .ok (.nx (sc :: some (.ref 1) :: r)) (ST cs' s' X') := by
  obtain ⟨a, b, σ, cs1, s1, ha, ha2, hb, ho1, h1⟩ := turnA (n + 25) sc o2 o3 o4 o5 o6 o7 o8 o9 o10 o11 o12 o13 o14 o15 o16 o17 o18 o19 o20 cs s X ho hX
  obtain ⟨u8, u9, u10, u11, u12, X1, hX1, h2⟩ := turnB (n + 20) sc (o2) (some (.d lets)) (some (.d a.d)) (some (.d (dD σ))) (o6) (some (.d b.d)) (o8) (o9) (o10) (o11) (o12) (o13) (o14) (o15) (o16) (o17) (o18) (o19) (o20) a b σ ha hb cs1 s1 X hX
  have h3 := turnC n sc (o2) (some (.d lets)) (some (.d a.d)) (some (.d (dD σ))) (o6) (some (.d b.d)) (u8) (u9) (u10) (u11) (u12) (o13) (o14) (o15) (o16) (o17) (o18) (o19) (o20) a b ha ha2 hb (ST cs1 s1 X1)
  obtain ⟨w10, w13, w14, w15, w16, cs2, s2, ho2, h4⟩ := turnD n sc (o2) (some (.d lets)) (some (.d a.d)) (some (.d (dD σ))) (o6) (some (.d b.d)) (u8) (u9) (u10) (u11) (u12) (o13) (o14) (o15) (o16) (o17) (o18) (o19) (o20) a b ha ha2 hb cs1 s1 X1 ho1 hX1
  refine ⟨_, cs2, s2, X1, rfl, ho2, hX1, ss_app h1 (ss_app (ss_cons h2 (nx_nx ss_nil)) (ss_app h3 h4))⟩
theorem turns (n : Nat) (sc : Option W) : ∀ (is : List Int) (r : List (Option W)) (cs : List Int) (s : Int) (X : Sto), r.length = 19 → Ok cs → Flat X →
    ∃ (r' : List (Option W)) (cs' : List Int) (s' : Int) (X' : Sto), r'.length = 19 ∧ Ok cs' ∧ Flat X' ∧ forItems (frF (CN (n + 70)) (.nm 2) TB) (is.map fun i => W.d (.int i)) (sc :: some (.ref 1) :: r) (ST cs s X) = .ok (.nx (sc :: some (.ref 1) :: r')) (ST cs' s' X')
  | [], r, cs, s, X, hr, ho, hX => ⟨r, cs, s, X, hr, ho, hX, rfl⟩
  | i :: is, [o2, o3, o4, o5, o6, o7, o8, o9, o10, o11, o12, o13, o14, o15, o16, o17, o18, o19, o20], cs, s, X, hr, ho, hX => by
    obtain ⟨r1, cs1, s1, X1, hr1, ho1, hX1, h1⟩ := turn_run n sc (some (.d (.int i))) (o3) (o4) (o5) (o6) (o7) (o8) (o9) (o10) (o11) (o12) (o13) (o14) (o15) (o16) (o17) (o18) (o19) (o20) cs s X ho hX
    obtain ⟨r2, cs2, s2, X2, hr2, ho2, hX2, h2⟩ := turns n sc is r1 cs1 s1 X1 hr1 ho1 hX1
    exact ⟨r2, cs2, s2, X2, hr2, ho2, hX2, fo_cons (frF_ok (w := .d (.int i)) rfl h1) (nf_nx h2)⟩
/-! great kinds -/
def dbl : Nat → Kd
  | 0 => .n sNum .nil
  | k + 1 => .n sPair (two (dbl k) (dbl k))
theorem dbl_ok : ∀ k, (dbl k).ok
  | 0 => ⟨by decide +kernel, trivial⟩
  | k + 1 => ⟨by decide +kernel, dbl_ok k, dbl_ok k, trivial⟩
theorem dbl_dep : ∀ k, (dbl k).dep = k + 1
  | 0 => rfl
  | k + 1 => by
    have h := dbl_dep k
    show max (dbl k).dep (max (dbl k).dep 0) + 1 = k + 1 + 1
    omega
theorem dbl_sz : ∀ k, (dbl k).sz + 1 = 2 ^ (k + 1)
  | 0 => rfl
  | k + 1 => by
    have h := dbl_sz k
    show (dbl k).sz + ((dbl k).sz + 0) + 1 + 1 = 2 ^ (k + 1 + 1)
    rw [Nat.pow_succ, ← h]; omega
theorem dbl_le (k : Nat) (h : k ≤ 10) : (dbl k).sz ≤ 2047 := by
  have h1 := dbl_sz k
  have h2 : 2 ^ (k + 1) ≤ 2 ^ 11 := Nat.pow_le_pow_right (by decide) (by omega)
  omega
theorem dbl_lv : ∀ k, (dbl k).lv = []
  | 0 => rfl
  | k + 1 => by
    show (dbl k).lv ++ ((dbl k).lv ++ []) = []
    rw [dbl_lv k]; rfl
theorem dbl_sw (σ : Sg) : ∀ k, (dbl k).sw σ = dbl k
  | 0 => rfl
  | k + 1 => by
    show Kd.n sPair (two ((dbl k).sw σ) ((dbl k).sw σ)) = _
    rw [dbl_sw σ k]; rfl
theorem gd_dbl (k : Nat) (h : k ≤ 10) : Gd (dbl k) := ⟨dbl_ok k, by rw [dbl_dep]; omega⟩
theorem doubles (C : CE) (sc o2 o3 o4 o5 o6 o7 o8 o9 o10 o11 o12 o13 o14 o15 o16 o17 o18 o19 o20 : Option W) (st : Sto) : ∀ (is : List Int) (j : Nat) (o2 : Option W), ∃ o2', forItems (frF C (.nm 2) DB) (is.map fun i => W.d (.int i)) [sc, some (.ref 1), o2, o3, o4, o5, o6, o7, o8, o9, o10, o11, o12, o13, o14, o15, o16, o17, o18, some (.d (dbl j).d), o20] st = .ok (.nx [sc, some (.ref 1), o2', o3, o4, o5, o6, o7, o8, o9, o10, o11, o12, o13, o14, o15, o16, o17, o18, some (.d (dbl (j + is.length)).d), o20]) st
  | [], j, o2 => ⟨o2, rfl⟩
  | i :: is, j, o2 => by
    have h : evSs C DB [sc, some (.ref 1), some (.d (.int i)), o3, o4, o5, o6, o7, o8, o9, o10, o11, o12, o13, o14, o15, o16, o17, o18, some (.d (dbl j).d), o20] st = .ok (.nx [sc, some (.ref 1), some (.d (.int i)), o3, o4, o5, o6, o7, o8, o9, o10, o11, o12, o13, o14, o15, o16, o17, o18, some (.d (dbl (j + 1)).d), o20]) st :=
      ss_cons (s_asg (ev_tup (es_cons ev_cst (es_cons (ev_tup (es_cons (ev_var rfl) (es_cons (ev_var rfl) es_nil)) rfl rfl) es_nil)) rfl rfl) rfl) (nx_nx ss_nil)
    obtain ⟨o2', ih⟩ := doubles C sc o2 o3 o4 o5 o6 o7 o8 o9 o10 o11 o12 o13 o14 o15 o16 o17 o18 o19 o20 st is (j + 1) (some (.d (.int i)))
    refine ⟨o2', ?_⟩
    have e : j + (i :: is).length = j + 1 + is.length := by simp only [List.length_cons]; omega
    rw [e]
    exact fo_cons (frF_ok (w := .d (.int i)) rfl h) (nf_nx ih)
theorem rng_ints (j : Int) : rngW 0 j = ((List.range j.toNat).map fun k : Nat => (k : Int)).map fun i => W.d (.int i) := by
  unfold rngW
  rw [Int.sub_zero, List.map_map]
  apply List.map_congr_left
  intro k _
  rw [Int.zero_add]; rfl
theorem lt_301 (st : Sto) (k : Nat) : cmpV .Lt st (vInt (k : Int)) (vInt 301) = some (decide ((k : Int) < 301)) := rfl
theorem min_301 (st : Sto) (k : Nat) : bltV .min st [vInt 301, vInt (k : Int)] = some (vInt ((min 301 k : Nat) : Int)) := by
  show some (vInt (if (k : Int) < 301 then (k : Int) else 301)) = _
  congr 2
  by_cases h : k < 301
  · rw [if_pos (by omega)]
    have : min 301 k = k := by omega
    rw [this]
  · rw [if_neg (by omega)]
    have : min 301 k = 301 := by omega
    rw [this]; rfl
theorem sh_of (x : D) (h : pl x = true) (h2 : PyData.canLay0 x = true) (h3 : x.depth ≤ 64) (st : Sto) : cmpV .Eq st (.w (.d x)) (.w (.d x)) = some true := by
  show eqD x x = some true
  unfold eqD SeqAt.shaped
  rw [h2, decide_eq_true h3]
  simp only [Bool.and_self, Bool.or_true, if_true]
  rw [eqv_rf x h]
theorem great_eq (k : Nat) (hk : k ≤ 10) (st : Sto) : cmpV .Eq st (vTup [kng [] [] (dbl k), .int 4]) (vTup [kng [] [] (dbl k), .int 4]) = some true := by
  have h1 := kd_pl (dbl k)
  have h2 := kd_lay (dbl k) (dbl_ok k)
  have h3 := kd_depth (dbl k)
  rw [dbl_dep] at h3
  refine sh_of _ ?_ ?_ ?_ st
  · show (((true && (true && (pl (dbl k).d && true))) && (true && true)) : Bool) = true
    rw [h1]; rfl
  · show (((true && (true && (PyData.canLay0 (dbl k).d && true))) && (true && true)) : Bool) = true
    rw [h2]; rfl
  · show max (max 1 (max 1 (max (dbl k).d.depth 0)) + 1) (max 0 0) + 1 ≤ 64
    omega
theorem let_names (n : Nat) (st : Sto) (k : Nat) (h : k < 104) : callV (CN (n + 1)) 4 [.d (.int (k : Int))] st = .ok (vStr (ltr k)) st := cl_pure rfl (letter_run n k h) rfl
theorem turn17L (C : CE) (sc o2 o3 o4 o5 o6 o7 o8 o9 o10 o11 o12 o13 o14 o15 o16 o17 o18 o19 o20 : Option W) (i : Int) (x : Str) (st : Sto) (h : callV C 4 [.d (.int i)] st = .ok (vStr x) st) : lcF C [17] (.nm 17) [] (.call 4 [(.var 17)] []) [sc, some (.ref 1), o2, o3, o4, o5, o6, o7, o8, o9, o10, o11, o12, o13, o14, o15, o16, o17, o18, o19, o20] (.d (.int i)) st = .ok (some (.d (.str x))) st :=
  lcF_ok (w := .d (.int i)) rfl ec_nil (pick_t (lcE (ev_call (es_cons (ev_var rfl) es_nil) rfl h) rfl))
theorem four_eq (st : Sto) : cmpV .Eq st (.fl [.d (.str ⟨#[97]⟩), .d (.str ⟨#[122]⟩), .d (.str ⟨#[97, 49]⟩), .d (.str ⟨#[98, 50]⟩)]) (.fl [.d (.str ⟨#[97]⟩), .d (.str ⟨#[122]⟩), .d (.str ⟨#[97, 49]⟩), .d (.str ⟨#[98, 50]⟩)]) = some true := by
  have h := sh_of (.list [.str ⟨#[97]⟩, .str ⟨#[122]⟩, .str ⟨#[97, 49]⟩, .str ⟨#[98, 50]⟩]) rfl (by decide +kernel) (by decide +kernel) st
  exact h
theorem ltr_4 : ltr 0 = ⟨#[97]⟩ ∧ ltr 25 = ⟨#[122]⟩ ∧ ltr 26 = ⟨#[97, 49]⟩ ∧ ltr 53 = ⟨#[98, 50]⟩ := by decide +kernel
theorem last_run (n : Nat) (sc o2 o3 o4 o5 o6 o7 o8 o9 o10 o11 o12 o13 o14 o15 o16 o17 o18 o19 o20 : Option W) (k : Nat) (hk : k ≤ 10) (st : Sto) : evSs (CN (n + 70)) [M4, M5, M6] [sc, some (.ref 1), o2, o3, o4, o5, o6, o7, o8, o9, o10, o11, o12, o13, o14, o15, o16, o17, o18, some (.d (dbl k).d), o20] st = .ok (.rt (vBool true)) st := by
  have hg := gd_dbl k hk
  have hz := dbl_le k hk
  have c1 := size_call (n + 69) st (dbl k) hg (by omega)
  have c2 := nodes_call (n + 30) st (dbl k) hg (by omega)
  have l1 := lt_301 st (min 301 (dbl k).sz)
  have h4 : evS (CN (n + 70)) M4 [sc, some (.ref 1), o2, o3, o4, o5, o6, o7, o8, o9, o10, o11, o12, o13, o14, o15, o16, o17, o18, some (.d (dbl k).d), o20] st = .ok (.nx [sc, some (.ref 1), o2, o3, o4, o5, o6, o7, o8, o9, o10, o11, o12, o13, o14, o15, o16, o17, o18, some (.d (dbl k).d), some (.d (.int ((min 301 (dbl k).sz : Nat) : Int)))]) st := by
    by_cases h : (dbl k).sz < 301
    · have e : min 301 (dbl k).sz = (dbl k).sz := by omega
      rw [e] at l1 c1 ⊢
      rw [decide_eq_true (by omega)] at l1
      exact s_asg (ev_ife (ev_cmp (ev_call (es_cons (ev_var rfl) es_nil) rfl c1) ev_cst l1) rfl (pick_t (ev_call (es_cons (ev_var rfl) es_nil) rfl c2))) rfl
    · have e : min 301 (dbl k).sz = 301 := by omega
      rw [e] at l1 c1 ⊢
      rw [decide_eq_false (by decide)] at l1
      exact s_asg (ev_ife (ev_cmp (ev_call (es_cons (ev_var rfl) es_nil) rfl c1) ev_cst l1) rfl (pick_f ev_cst)) rfl
  have n1 := ne_nat st (min 301 (dbl k).sz) (min 301 (dbl k).sz)
  rw [decide_eq_false (by omega)] at n1
  have m1 := min_301 st (dbl k).sz
  have h5 : evS (CN (n + 70)) M5 [sc, some (.ref 1), o2, o3, o4, o5, o6, o7, o8, o9, o10, o11, o12, o13, o14, o15, o16, o17, o18, some (.d (dbl k).d), some (.d (.int ((min 301 (dbl k).sz : Nat) : Int)))] st = .ok (.nx [sc, some (.ref 1), o2, o3, o4, o5, o6, o7, o8, o9, o10, o11, o12, o13, o14, o15, o16, o17, o18, some (.d (dbl k).d), some (.d (.int ((min 301 (dbl k).sz : Nat) : Int)))]) st :=
    s_iff (ev_orr (ev_cmp (ev_call (es_cons (ev_var rfl) es_nil) rfl c1) (ev_var rfl) n1) rfl (pick_f (ev_cmp (ev_var rfl) (ev_blt (es_cons ev_cst (es_cons (ev_call (es_cons (ev_var rfl) es_nil) rfl c2) es_nil)) m1) n1))) rfl (pick_f ss_nil)
  have t0 := let_names (n + 69) st 0 (by decide)
  have t1 := let_names (n + 69) st 25 (by decide)
  have t2 := let_names (n + 69) st 26 (by decide)
  have t3 := let_names (n + 69) st 53 (by decide)
  rw [ltr_4.1] at t0
  rw [ltr_4.2.1] at t1
  rw [ltr_4.2.2.1] at t2
  rw [ltr_4.2.2.2] at t3
  have g : gath (lcF (CN (n + 70)) [17] (.nm 17) [] (.call 4 [(.var 17)] []) [sc, some (.ref 1), o2, o3, o4, o5, o6, o7, o8, o9, o10, o11, o12, o13, o14, o15, o16, o17, o18, some (.d (dbl k).d), some (.d (.int ((min 301 (dbl k).sz : Nat) : Int)))]) [.d (.int 0), .d (.int 25), .d (.int 26), .d (.int 53)] [] st = .ok [.d (.str ⟨#[97]⟩), .d (.str ⟨#[122]⟩), .d (.str ⟨#[97, 49]⟩), .d (.str ⟨#[98, 50]⟩)] st :=
    ga_cons (turn17L (CN (n + 70)) sc (o2) (o3) (o4) (o5) (o6) (o7) (o8) (o9) (o10) (o11) (o12) (o13) (o14) (o15) (o16) (o17) (o18) (some (.d (dbl k).d)) (some (.d (.int ((min 301 (dbl k).sz : Nat) : Int)))) 0 _ st t0) (ng_some rfl (ga_cons (turn17L (CN (n + 70)) sc (o2) (o3) (o4) (o5) (o6) (o7) (o8) (o9) (o10) (o11) (o12) (o13) (o14) (o15) (o16) (o17) (o18) (some (.d (dbl k).d)) (some (.d (.int ((min 301 (dbl k).sz : Nat) : Int)))) 25 _ st t1) (ng_some rfl (ga_cons (turn17L (CN (n + 70)) sc (o2) (o3) (o4) (o5) (o6) (o7) (o8) (o9) (o10) (o11) (o12) (o13) (o14) (o15) (o16) (o17) (o18) (some (.d (dbl k).d)) (some (.d (.int ((min 301 (dbl k).sz : Nat) : Int)))) 26 _ st t2) (ng_some rfl (ga_cons (turn17L (CN (n + 70)) sc (o2) (o3) (o4) (o5) (o6) (o7) (o8) (o9) (o10) (o11) (o12) (o13) (o14) (o15) (o16) (o17) (o18) (some (.d (dbl k).d)) (some (.d (.int ((min 301 (dbl k).sz : Nat) : Int)))) 53 _ st t3) (ng_some rfl ga_nil)))))))
  have hlc : evE (CN (n + 70)) (.lc [17] (.nm 17) (.it (.tup [(.cst (.int 0)), (.cst (.int 25)), (.cst (.int 26)), (.cst (.int 53))])) [] (.call 4 [(.var 17)] [])) [sc, some (.ref 1), o2, o3, o4, o5, o6, o7, o8, o9, o10, o11, o12, o13, o14, o15, o16, o17, o18, some (.d (dbl k).d), some (.d (.int ((min 301 (dbl k).sz : Nat) : Int)))] st = .ok (.fl [.d (.str ⟨#[97]⟩), .d (.str ⟨#[122]⟩), .d (.str ⟨#[97, 49]⟩), .d (.str ⟨#[98, 50]⟩)]) st :=
    ev_lc (it := .items [.d (.int 0), .d (.int 25), .d (.int 26), .d (.int 53)]) rfl (sr_it (ev_tup (es_cons ev_cst (es_cons ev_cst (es_cons ev_cst (es_cons ev_cst es_nil)))) rfl rfl) rfl) (ga_items g)
  have p1 := plain_call (n + 29) st [] (fun x hx => by cases hx) (by decide)
  have p2 : cmpV .Eq st (vTup []) (vTup []) = some true := sh_of (.tuple []) rfl (by decide +kernel) (by decide +kernel) st
  have f1 := fresh_call (n + 29) st [] [] (dbl k) 4 (fun x hx => by cases hx) (fun x hx => by cases hx) hg (by show (dbl k).sz + 0 ≤ 5000; omega)
  have hu : us ([] ++ [] ++ [dbl k]) = [] := by
    show uq ((dbl k).lv ++ []) = []
    rw [dbl_lv]; rfl
  rw [hu, dbl_sw] at f1
  have f1 : callV (CN (n + 70)) 3 [.d (kng [] [] (dbl k)), .d (.int 4)] st = .ok (vTup [kng [] [] (dbl k), .int 4]) st := f1
  have ge := great_eq k hk st
  have h6 : evS (CN (n + 70)) M6 [sc, some (.ref 1), o2, o3, o4, o5, o6, o7, o8, o9, o10, o11, o12, o13, o14, o15, o16, o17, o18, some (.d (dbl k).d), some (.d (.int ((min 301 (dbl k).sz : Nat) : Int)))] st = .ok (.rt (vBool true)) st :=
    s_ret (ev_an (ev_cmp hlc (ev_lst (es_cons ev_cst (es_cons ev_cst (es_cons ev_cst (es_cons ev_cst es_nil)))) rfl rfl) (four_eq st)) rfl (pick_t (ev_an (ev_cmp (ev_call (es_cons (ev_tup es_nil rfl rfl) es_nil) rfl p1) (ev_tup es_nil rfl rfl) p2) rfl (pick_t (ev_cmp (ev_call (es_cons (ev_tup (es_cons (ev_tup es_nil rfl rfl) (es_cons (ev_tup es_nil rfl rfl) (es_cons (ev_var rfl) es_nil))) rfl rfl) (es_cons ev_cst es_nil)) rfl f1) (ev_tup (es_cons (ev_tup (es_cons (ev_tup es_nil rfl rfl) (es_cons (ev_tup es_nil rfl rfl) (es_cons (ev_var rfl) es_nil))) rfl rfl) (es_cons ev_cst es_nil)) rfl rfl) ge)))))
  exact ss_cons h4 (nx_nx (ss_cons h5 (nx_nx (ss_cons h6 nx_rt))))
theorem hrun (ns : List Int) (hl : ns.length ≤ 63) (hb : ∀ z ∈ ns, Builtin.Int.intBits z ≤ 1048576) : ∃ st, runAt (fun i => Fs[i]?) 10000 100 21 [.fz (ns.map PyData.int)] [] = .ok (vBool true) st := by
  obtain ⟨s, hs⟩ := state_run 98 ns hl
  have ho := ok_abs ns hl
  obtain ⟨r1, cs1, s1, X1, hr1, ho1, hX1, h1⟩ := turns 29 (some (.fz (ns.map PyData.int))) [0, 1, 2, 3, 4, 5] [none, none, none, none, none, none, none, none, none, none, none, none, none, none, none, none, none, none, none] (ns.map absI) s [] rfl ho flat_nil
  have c9 : callV (CN 99) 9 [.fz (ns.map PyData.int)] [] = .ok (.fl [.ref 0, .d (.int s)]) [.lst (wI (ns.map absI))] := cl_keep (C := CN 99) rfl hs rfl
  have h0 : evS (CN 99) M0 [some (.fz (ns.map PyData.int)), none, none, none, none, none, none, none, none, none, none, none, none, none, none, none, none, none, none, none, none] [] = .ok (.nx [some (.fz (ns.map PyData.int)), some (.ref 1), none, none, none, none, none, none, none, none, none, none, none, none, none, none, none, none, none, none, none]) (ST (ns.map absI) s []) :=
    s_own (c := .lst [.ref 0, .d (.int s)]) (s1 := [.lst (wI (ns.map absI))]) (x := .fl [.ref 0, .d (.int s)]) (ev_call (ws := [.fz (ns.map PyData.int)]) (es_cons (ev_var rfl) es_nil) rfl c9) rfl
  have h2 : evS (CN 99) (.fr (.nm 2) (.rng1 [(.cst (.int 6))]) TB) [some (.fz (ns.map PyData.int)), some (.ref 1), none, none, none, none, none, none, none, none, none, none, none, none, none, none, none, none, none, none, none] (ST (ns.map absI) s []) = .ok (.nx (some (.fz (ns.map PyData.int)) :: some (.ref 1) :: r1)) (ST cs1 s1 X1) :=
    s_fr (it := .items (([0, 1, 2, 3, 4, 5] : List Int).map fun i => W.d (.int i))) rfl (sr_rng1 (es_cons ev_cst es_nil) rfl) (fo_items h1)
  obtain ⟨v, cs2, s2, v0, v6, ho2, c10⟩ := draw_ok 98 cs1 s1 X1 6 ho1 hX1 (by decide)
  match r1, hr1, h2 with
  | [o2, o3, o4, o5, o6, o7, o8, o9, o10, o11, o12, o13, o14, o15, o16, o17, o18, o19, o20], _, h2 =>
    have hd : (((List.range (5 + v).toNat).map fun k : Nat => (k : Int)).length) ≤ 10 := by
      simp only [List.length_map, List.length_range]; omega
    obtain ⟨o2', h3⟩ := doubles (CN 99) (some (.fz (ns.map PyData.int))) o2 o3 o4 o5 o6 o7 o8 o9 o10 o11 o12 o13 o14 o15 o16 o17 o18 o19 o20 (ST cs2 s2 X1) ((List.range (5 + v).toNat).map fun k : Nat => (k : Int)) 0 o2
    rw [← rng_ints, Nat.zero_add] at h3
    have hk := rng1_of (5 + v) (by unfold rngOk; exact decide_eq_true (by omega))
    have m2 : evS (CN 99) M2 [some (.fz (ns.map PyData.int)), some (.ref 1), o2, o3, o4, o5, o6, o7, o8, o9, o10, o11, o12, o13, o14, o15, o16, o17, o18, o19, o20] (ST cs1 s1 X1) = .ok (.nx [some (.fz (ns.map PyData.int)), some (.ref 1), o2, o3, o4, o5, o6, o7, o8, o9, o10, o11, o12, o13, o14, o15, o16, o17, o18, some (.d (dbl 0).d), o20]) (ST cs1 s1 X1) :=
      s_asg (ev_tup (es_cons ev_cst (es_cons (ev_tup es_nil rfl rfl) es_nil)) rfl rfl) rfl
    have m3 : evS (CN 99) (.fr (.nm 2) (.rng1 [(.bin .Add (.cst (.int 5)) (.call 10 [(.var 1), (.cst (.int 6))] []))]) DB) [some (.fz (ns.map PyData.int)), some (.ref 1), o2, o3, o4, o5, o6, o7, o8, o9, o10, o11, o12, o13, o14, o15, o16, o17, o18, some (.d (dbl 0).d), o20] (ST cs1 s1 X1) = .ok (.nx [some (.fz (ns.map PyData.int)), some (.ref 1), o2', o3, o4, o5, o6, o7, o8, o9, o10, o11, o12, o13, o14, o15, o16, o17, o18, some (.d (dbl ((List.range (5 + v).toNat).map fun k : Nat => (k : Int)).length).d), o20]) (ST cs2 s2 X1) :=
      s_fr (it := .items (rngW 0 (5 + v))) rfl (sr_rng1 (es_cons (ev_bin ev_cst (ev_call (es_cons (ev_var rfl) (es_cons ev_cst es_nil)) rfl c10) rfl) es_nil) hk) (fo_items h3)
    have h4 := last_run 29 (some (.fz (ns.map PyData.int))) (o2') (o3) (o4) (o5) (o6) (o7) (o8) (o9) (o10) (o11) (o12) (o13) (o14) (o15) (o16) (o17) (o18) (o19) (o20) _ hd (ST cs2 s2 X1)
    refine ⟨ST cs2 s2 X1, ?_⟩
    show Rn (99 + 1) 21 [.fz (ns.map PyData.int)] [] = _
    apply run_fn (n := 99) (fn := f21) rfl rfl rfl
    exact ss_cons h0 (nx_nx (ss_cons h2 (nx_nx (ss_cons m2 (nx_nx (ss_cons m3 (nx_nx h4)))))))
end KI
theorem PySem.Challenge.cw_onetongue_k31_whole_instances_of_kinds_holds : PySem.Challenge.rw_onetongue_k31_whole_instances_of_kinds.Holds := by
  exact KI.whole KI.hrun
#print axioms PySem.Challenge.cw_onetongue_k31_whole_instances_of_kinds_holds
