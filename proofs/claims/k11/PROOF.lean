import PyProof.Rows.All
import Wide.All
import OpenK.AllK
import Wide.FinOn
import PySem.Challenge.RW_unlikebins_k11_data_refused
import HandS.ForMost
import HandS.Wide
import HandS.TupAny
import HandS.TupMul
import HandS.IsInst
import HandS.Slots
import HandS.SlotsOwn
import HandS.ClsMeth
import HandS.Lambda
import HandS.WideBits
import HandS.RaiseMore
import HandS.Style
import HandS.Deep
import HandS.Defaults
import HandS.Star
import HandS.Exc
import HandS.ExcOwn
import HandS.Zip
import HandS.Walk
import HandS.Iter
import HandS.NoneIn
import HandS.ExcInit
import HandS.HeadHook1
import KE.GoesMore
import KE.GoesEnum
import HandS.FStr
import HandS.Text
import HandS.ReplaceLit
import KE.KCallOwn
import HandS.SetFor
import PyProof.InstNe
import PyProof.MeetsIn
import PyProof.Rows.Range3
import HandS.Dict
import HandS.HotCalls
import HandS.ExcIs
import HandS.ExcField
import HandS.HeadEnd
import HandS.Head0
import HandS.Head1
import HandS.Head2
import HandS.HeadHook2
import HandS.HeadHook4
import HandS.NestedK
import HandS.Words
import Open.Row
import HandS.Codes
import HandS.ReplaceList
import PyProof.StrLawsChain
import PyProof.StrLawsReplace
set_option Elab.async false
set_option linter.all false
set_option maxRecDepth 100000
set_option maxHeartbeats 4000000
set_option exponentiation.threshold 300
/-! a small language: values, its texts, what they come to -/
namespace Mn
open PySem L2
/-- a value: a piece of data by itself, or a thing of the store -/
inductive D where
  | non | bl (b : Bool) | int (i : Int) | str (x : Str)
  | tup (xs : List D) | lst (xs : List D) | scr (ns : List Int)
  | dic (kvs : List (Key × D)) | ins (c : Nat) (ds : List D) | obj (n : Nat) | cls (c : Nat) | fnv (f : Nat) | ty (n : String)
/-- what stands in the store -/
inductive SO where
  | lst (xs : List D) | dct (kvs : List (Key × D)) | ins (c : Nat) (ds : List D) | dead
abbrev Sto := List SO
/-- what a slot of a frame holds: a value, or a list | dict that is its own -/
inductive SV where
  | val (d : D) | olst (xs : List D) | odct (kvs : List (Key × D))
abbrev Frm := List (Option SV)
inductive Out (α : Type) where
  | ok (a : α) (S : Sto) | exc (e : D) (S : Sto) | bad
/-- the constants by name, the methods by class, the attributes of a class in their order -/
structure GL where
  g : Nat → Option D
  m : Nat → Nat → Option Nat
  p : Nat → Nat → Option Nat
  c : Nat → Nat → Option Nat
  fl : Nat → List Nat
  w : Nat → Option Str := fun _ => none
  b : Nat → Bool := fun _ => false
  mkr : List Str → Option Str := fun _ => none
  o : Nat → Bool := fun _ => false
def Out.bind {α β : Type} (o : Out α) (f : α → Sto → Out β) : Out β :=
  match o with
  | .ok a S => f a S
  | .exc _ _ => .bad
  | .bad => .bad
/-- the same where an exception passes -/
def Out.bindX {α β : Type} (o : Out α) (f : α → Sto → Out β) : Out β :=
  match o with
  | .ok a S => f a S
  | .exc e S => .exc e S
  | .bad => .bad
/-- nothing may be raised -/
def Out.nox {α : Type} (o : Out α) : Out α := o.bind fun a S => .ok a S
/-- built-in functions by their values -/
inductive Bi where
  | len | abs | int | str | repr | all | any | sum | max | min | tuple | list | divmod | sorted | isinst
  | range
  deriving DecidableEq
/-- built-in methods -/
inductive Me where
  | split | join | get | index | count | upper | replace | partition
  deriving DecidableEq
mutual
/-- an expression -/
inductive ME where
  | var (i : Nat) | cst (d : D) | glob (x : Nat)
  | bin (op : Operator) (a b : ME) | neg (a : ME)
  | cmp (op : CmpOp) (a b : ME) | chain (o1 o2 : CmpOp) (a b c : ME)
  | and (a b : ME) | or (a b : ME) | not (a : ME)
  | ife (t : MT) (a b : ME)
  | tup (es : List ME) | lst (es : List ME) | ref (es : List ME)
  | call (f : Nat) (es : List ME) | callK (f : Nat) (es : List ME) (ks : List Nat) (vs : List ME)
  | blt (b : Bi) (es : List ME)
  | sub (a i : ME) | sl (a : ME) (lo hi : Option ME) | rev (a : ME)
  | lc (own : List Nat) (g : MG) (src : MI) (tt : List MT) (e : ME)
  | meth (m : Me) (a : ME) (es : List ME)
  | fld (a : ME) (f : Nat) | vm (m : Nat) (a : ME) (es : List ME) | vp (m : Nat) (a : ME) | cm (c f : Nat) (es : List ME)
  | tupS (bs : List Bool) (es : List ME) | lstS (bs : List Bool) (es : List ME) | callS (f : Nat) (bs : List Bool) (es : List ME)
  | vmK (f m : Nat) (a : ME) (es : List ME) (ks : List Nat) (vs : List ME) | cmK (c m : Nat) (es : List ME) (ks : List Nat) (vs : List ME)
  | eqm (m : Nat) (a b : ME) | lcL (own : List Nat) (g : MG) (src : ME) (tt : List MT) (e : ME) | app (o e : ME) | get1 (a b : ME) | get2 (a b c : ME)
  | dun (m : Nat) (b : Bi) (e : ME) | fs (es : List ME) | dct (es : List ME) | lc2 (own : List Nat) (g : MG) (src : MI) (tt : List MT) (own2 : List Nat) (g2 : MG) (src2 : MI) (tt2 : List MT) (e : ME)
  | outc (f : Nat) (e : ME) | eqx (c m : Nat) (neg : Bool) (a b : ME) | tln (m : Nat) (e : ME) | unst (i : Nat)
/-- a test -/
inductive MT where
  | val (e : ME) | cmp (op : CmpOp) (a b : ME) | chain (o1 o2 : CmpOp) (a b c : ME)
  | and (a b : MT) | or (a b : MT) | not (a : MT) | tru (e : ME)
/-- what is walked -/
inductive MI where
  | lst (e : ME) | tup (e : ME) | rng1 (a : ME) | rng2 (a b : ME) | zip (a b : ME) | enum (a : ME) | enumT (a : ME) | str (e : ME)
/-- a target -/
inductive MG where
  | name (i : Nat) | tup (gs : List MG) | sub (o i : ME)
end
/-- what a name is given: a value, or a new list of its own -/
inductive MR where
  | val (e : ME) | lst (es : List ME)
/-- a statement -/
inductive MS where
  | set (i : Nat) (r : MR) | setLc (i : Nat) (o : Bool) (e : ME)
  | par (is : List Nat) (rs : List MR) | asg (g : MG) (e : ME)
  | aug (i : Nat) (op : Operator) (e : ME)
  | freeze (i : Nat) | append (i : Nat) (e : ME)
  | expr (e : ME) | ret (e : ME) | retN
  | ife (t : MT) (a b : List MS)
  | forr (g : MG) (src : MI) (b : List MS) | whil (t : MT) (b : List MS)
  | brk | cont | pass | never
  | forL (g : MG) (src : ME) (b : List MS)
  | setLs (i : Nat) (e : ME) | raise (c f : Nat) (es : List ME) | setO (f : Nat) (e : ME) | ext (i : Nat) (e : ME) | insr (i : Nat) (a e : ME)
/-! ### data -/
mutual
def D.py : D → Option PyData
  | .non => some .none
  | .bl b => some (.bool b)
  | .int i => some (.int i)
  | .str x => some (.str x)
  | .tup xs => (pyAll xs).map .tuple
  | .lst xs => (pyAll xs).map .list
  | _ => none
def pyAll : List D → Option (List PyData)
  | [] => some []
  | d :: ds => match d.py, pyAll ds with
    | some p, some ps => some (p :: ps)
    | _, _ => none
end
def mulOk (i j : Int) : Bool := decide (-(2 ^ 64) < i ∧ i < 2 ^ 64) || decide (-(2 ^ 64) < j ∧ j < 2 ^ 64) || decide (i.natAbs.log2 + j.natAbs.log2 < 1000000)
def divOk (j : Int) : Bool := decide (0 < j) && decide (j.natAbs.log2 < 9000)
def powOk (i j : Int) : Bool := decide (0 ≤ j) && decide (j ≤ 1000000) && decide (i.natAbs < 2 ^ 64)
def repOk (n : Nat) (k : Int) : Bool := decide (0 < n) && decide (2 ≤ k) && decide (k ≤ 1000) && decide (n ≤ 1000)
def repL (n : Nat) (k : Int) : Bool := decide (0 ≤ k) && decide (k ≤ 1000) && decide (n ≤ 1000)
def binD : Operator → D → D → Option D
  | .Add, .int i, .int j => some (.int (i + j))
  | .Add, .str a, .str b => if a.length + b.length ≤ sizeLine then some (.str (a ++ b)) else none
  | .Add, .lst a, .lst b => if a.length + b.length ≤ sizeLine then some (.lst (a ++ b)) else none
  | .Add, .tup a, .tup b => if a.length + b.length ≤ sizeLine then some (.tup (a ++ b)) else none
  | .Sub, .int i, .int j => some (.int (i - j))
  | .Mult, .int i, .int j => if mulOk i j then some (.int (i * j)) else none
  | .Mult, .tup a, .int k => if repOk a.length k then some (.tup (List.replicate k.toNat a).flatten) else none
  | .Mult, .lst a, .int k => if repL a.length k then some (.lst (List.replicate k.toNat a).flatten) else none
  | .Mult, .str a, .int k => if repOk a.length k then some (.str ⟨(List.replicate k.toNat a.cps).foldl (· ++ ·) #[]⟩) else none
  | .FloorDiv, .int i, .int j => if divOk j then some (.int (i / j)) else none
  | .Mod, .int i, .int j => if 0 < j then some (.int (i % j)) else none
  | .Pow, .int i, .int j => if powOk i j then some (.int (i ^ j.toNat)) else none
  | _, _, _ => none
def augD : Operator → D → D → Option D
  | .Add, .int i, .int j => some (.int (i + j))
  | .Sub, .int i, .int j => some (.int (i - j))
  | _, _, _ => none
def eqD (d e : D) : Option Bool :=
  match d.py, e.py with
  | some p, some q => if SeqAt.shaped p && SeqAt.shaped q then some (PyData.eqv p q) else none
  | _, _ => none
/-- == of scalars -/
def sclD : D → D → Option Bool
  | .non, .non => some true
  | .non, .int _ => some false
  | .non, .bl _ => some false
  | .non, .str _ => some false
  | .int _, .non => some false
  | .bl _, .non => some false
  | .str _, .non => some false
  | .int i, .int j => some (decide (i = j))
  | .bl i, .bl j => some (decide (i = j))
  | .str i, .str j => some (decide (i = j))
  | .int _, .str _ => some false
  | .str _, .int _ => some false
  | .bl _, .str _ => some false
  | .str _, .bl _ => some false
  | _, _ => none
/-- == of the rest: a tuple with the empty one, or data -/
def eqE : D → D → Option Bool
  | .tup xs, .tup [] => some xs.isEmpty
  | a, b => eqD a b
def eqA (a b : D) : Option Bool := match sclD a b with
  | some r => some r
  | none => eqE a b
def isN : D → Bool
  | .non => true
  | _ => false
/-- one of several -/
def inD (d : D) (es : List D) : Option Bool :=
  match d.py, pyAll es with
  | some p, some qs => if SeqAt.shaped p && SeqAt.shaped (.list qs) then some (qs.any fun q => PyData.eqv q p) else none
  | _, _ => none
def flatD : D → Bool
  | .non => true
  | .bl _ => true
  | .int _ => true
  | .str _ => true
  | _ => false
def eqF : D → D → Bool
  | .non, .non => true
  | .bl a, .bl b => a == b
  | .bl a, .int b => (if a then 1 else 0) == b
  | .int a, .bl b => a == (if b then 1 else 0)
  | .int a, .int b => a == b
  | .str a, .str b => a == b
  | _, _ => false
/-- one of several flat things -/
def inF (d : D) (es : List D) : Option Bool := if flatD d && es.all flatD then some (es.any fun e => eqF e d) else none
def cmpD : CmpOp → D → D → Option Bool
  | .Lt, .int i, .int j => some (decide (i < j))
  | .LtE, .int i, .int j => some (decide (i ≤ j))
  | .Gt, .int i, .int j => some (decide (j < i))
  | .GtE, .int i, .int j => some (decide (j ≤ i))
  | .Eq, a, b => eqA a b
  | .NotEq, a, b => (eqA a b).map (!·)
  | .Is, .bl a, .bl b => some (decide (a = b))
  | .IsNot, .bl a, .bl b => some (!decide (a = b))
  | .Is, a, .non => some (isN a)
  | .IsNot, a, .non => some (!isN a)
  | .In, .str a, .str b => some (!(Builtin.Str.occurrences b a 0 b.length 1).isEmpty)
  | .NotIn, .str a, .str b => some (!(!(Builtin.Str.occurrences b a 0 b.length 1).isEmpty))
  | .In, a, .lst b => inD a b
  | .NotIn, a, .lst b => (inD a b).map (!·)
  | .In, a, .tup b => inF a b
  | .NotIn, a, .tup b => (inF a b).map (!·)
  | _, _, _ => none
/-- a list's items, in the store or by itself -/
def rdL (S : Sto) : D → Option (List D)
  | .lst xs => some xs
  | .scr ns => some (ns.map D.int)
  | .obj n => match S[n]? with
    | some (.lst xs) => some xs
    | _ => none
  | _ => none
/-- a list's items that stay as they are -/
def rdF : D → Option (List D)
  | .lst xs => some xs
  | .scr ns => some (ns.map D.int)
  | _ => none
/-- a list or a tuple that stays -/
def rdS : D → Option (Bool × List D)
  | .lst xs => some (true, xs)
  | .scr ns => some (true, ns.map D.int)
  | .tup xs => some (false, xs)
  | _ => none
def intsD : List D → Option (List Int)
  | [] => some []
  | .int i :: r => (intsD r).map (i :: ·)
  | _ :: _ => none
def blsD : List D → Option (List Bool)
  | [] => some []
  | .bl b :: r => (blsD r).map (b :: ·)
  | _ :: _ => none
def isTy : D → String → Option Bool
  | .non, T => kitB "NoneType" T
  | .bl _, T => kitB "bool" T
  | .int _, T => kitB "int" T
  | .str _, T => kitB "str" T
  | .tup _, T => kitB "tuple" T
  | .lst _, T => kitB "list" T
  | .dic _, T => kitB "dict" T
  | _, _ => none
/-- an instance of this class? -/
def isC (c : Nat) : D → Option Bool
  | .ins c' _ => some (decide (c' = c))
  | .non => some false
  | .bl _ => some false
  | .int _ => some false
  | .str _ => some false
  | .tup _ => some false
  | .lst _ => some false
  | .dic _ => some false
  | _ => none
def showD (d : D) : Option Str :=
  match d.py with
  | some p => if p.showable && decide (p.depth ≤ 60) && !p.hasDict && decide (p.shown.length ≤ sizeLine) then some p.shown else none
  | none => none
/-- a dict of plain things -/
def flatP : D → Option PyData
  | .non => some .none
  | .bl b => some (.bool b)
  | .int i => some (.int i)
  | .str x => some (.str x)
  | _ => none
def keyP : Key → PyData
  | .inl i => .int i
  | .inr x => .str x
def dicP : List (Key × D) → Option (List (PyData × PyData))
  | [] => some []
  | (k, v) :: r => match flatP v, dicP r with
    | some p, some ps => some ((keyP k, p) :: ps)
    | _, _ => none
def showDic : D → Option Str
  | .dic kvs => match dicP kvs with
    | some ps => if (PyData.dict ps).showable && decide ((PyData.dict ps).depth ≤ 60) && decide ((PyData.dict ps).shown.length ≤ sizeLine) then some (PyData.dict ps).shown else none
    | none => none
  | _ => none
def orX : Option Str → D → Option Str
  | some y, _ => some y
  | none, d => showDic d
def showX (d : D) : Option Str := orX (showD d) d
def maxO : List Int → Option Int
  | [] => none
  | x :: xs => some (xs.foldl (fun a b => if b > a then b else a) x)
def minO : List Int → Option Int
  | [] => none
  | x :: xs => some (xs.foldl (fun a b => if b < a then b else a) x)
def blD (S : Sto) : Bi → List D → Option D
  | .len, [.str z] => if z.length ≤ sizeLine then some (.int z.length) else none
  | .len, [.tup xs] => some (.int xs.length)
  | .len, [d] => (rdL S d).map fun xs => .int xs.length
  | .abs, [.int i] => some (.int (if i < 0 then -i else i))
  | .int, [.int i] => some (.int i)
  | .int, [.bl b] => some (.int (if b then 1 else 0))
  | .int, [.str a] => if a.length ≤ 640 then (PySem.intText? a).map .int else none
  | .str, [.int i] => if i.natAbs.log2 < 1920 then some (.str (toString i)) else none
  | .str, [.str a] => some (.str a)
  | .repr, [d] => (showX d).map .str
  | .all, [.lst xs] => (blsD xs).map fun bs => .bl (bs.all id)
  | .any, [.lst xs] => (blsD xs).map fun bs => .bl (bs.any id)
  | .sum, [.lst xs] => (intsD xs).map fun ns => .int ns.sum
  | .max, [.lst xs] => ((intsD xs).bind maxO).map .int
  | .min, [.lst xs] => ((intsD xs).bind minO).map .int
  | .max, [.int i, .int j] => some (.int (if j > i then j else i))
  | .min, [.int i, .int j] => some (.int (if j < i then j else i))
  | .tuple, [.tup xs] => some (.tup xs)
  | .tuple, [.lst xs] => some (.tup xs)
  | .list, [.tup xs] => some (.lst xs)
  | .list, [.lst xs] => some (.lst xs)
  | .divmod, [.int i, .int j] => if divOk j then some (.tup [.int (i / j), .int (i % j)]) else none
  | .isinst, [d, .ty T] => (isTy d T).map .bl
  | .isinst, [d, .cls c] => (isC c d).map .bl
  | _, _ => none
def subD (S : Sto) : D → D → Option D
  | .tup xs, .int i => atI xs i
  | .str z, .int i => if z.length ≤ sizeLine then (atI z.cps.toList i).map fun c => .str ⟨#[c]⟩ else none
  | d, .int i => (rdL S d).bind fun xs => atI xs i
  | _, _ => none
def cutL (xs : List D) (lo hi : Option Int) : List D := (xs.drop (HT.sIx xs.length 0 lo)).take (HT.sIx xs.length xs.length hi - HT.sIx xs.length 0 lo)
def slD (S : Sto) (lo hi : Option Int) : D → Option D
  | .tup xs => some (.tup (cutL xs lo hi))
  | .str z => if z.length ≤ sizeLine then some (.str (cutS z lo hi)) else none
  | d => (rdL S d).map fun xs => .lst (cutL xs lo hi)
def strsD : List D → Option (List Str)
  | [] => some []
  | .str x :: r => (strsD r).map (x :: ·)
  | _ :: _ => none
def joinD (a : Str) (xs : List D) : Option D := (strsD xs).bind fun ys => if (ys.map (·.length)).sum + ys.length * a.length ≤ 16777216 then some (.str (Txt.join a ys)) else none
def keyD : D → Option Key
  | .int i => some (.inl i)
  | .str x => some (.inr x)
  | _ => none
def getK (kvs : List (Key × D)) (k : Key) : Option D := (kvs.find? fun kv => decide (kv.1 = k)).map (·.2)
def putD {α : Type} (kvs : List (Key × α)) (k : Key) (v : α) : List (Key × α) := if kvs.any (fun kv => decide (kv.1 = k)) then kvs.map (fun kv => if kv.1 = k then (k, v) else kv) else kvs ++ [(k, v)]
def mergeD {α : Type} (kvs more : List (Key × α)) : List (Key × α) := more.foldl (fun acc kv => putD acc kv.1 kv.2) kvs
def pairsD : List D → Option (List (Key × D))
  | [] => some []
  | k :: v :: r => (keyD k).bind fun k => (pairsD r).map ((k, v) :: ·)
  | [_] => none
def meD : Me → D → List D → Option D
  | .join, .str a, [.lst xs] => joinD a xs
  | .join, .str a, [.tup xs] => joinD a xs
  | .partition, .str a, [.str b] => if (b.length == 0) = false ∧ a.length ≤ sizeLine then some (.tup [.str (Txt.partition a b).1, .str (Txt.partition a b).2.1, .str (Txt.partition a b).2.2]) else none
  | .upper, .str a, [] => if a.length ≤ 5592405 then some (.str (Txt.upper a)) else none
  | .replace, .str a, [.str b, .str c] => if (b.length == 0) = false ∧ a.length + (a.length + 1) * c.length ≤ 16777216 then some (.str (Txt.replace a b c)) else none
  | .get, .dic kvs, [k] => (keyD k).map fun k => (getK kvs k).getD .non
  | .get, .dic kvs, [k, d] => (keyD k).map fun k => (getK kvs k).getD d
  | .count, .lst xs, [d] => if flatD d && xs.all flatD then some (.int ((xs.countP fun e => eqF e d : Nat) : Int)) else none
  | .index, .lst xs, [d] => if flatD d && xs.all flatD then (xs.findIdx? fun e => eqF e d).map fun j => .int (j : Int) else none
  | .split, .str a, [.str b] => if (b.length == 0) = false ∧ a.length + 2 ≤ sizeLine then some (.lst ((Txt.split a b).map .str)) else none
  | _, _, _ => none
/-! ### instances -/
def clsO (S : Sto) : D → Option Nat
  | .ins c _ => some c
  | .obj n => match S[n]? with
    | some (.ins c _) => some c
    | _ => none
  | _ => none
def fget (ns : List Nat) (ds : List D) (f : Nat) : Option D := (ns.zip ds).lookup f
def fput : List Nat → List D → Nat → D → Option (List D)
  | n :: _, [], f, d => if n = f then some [d] else none
  | n :: ns, x :: ds, f, d => if n = f then some (d :: ds) else (fput ns ds f d).map (x :: ·)
  | [], _, _, _ => none
def fldD (gl : GL) (S : Sto) (f : Nat) : D → Option D
  | .ins c ds => fget (gl.fl c) ds f
  | .obj n => match S[n]? with
    | some (.ins c ds) => fget (gl.fl c) ds f
    | _ => none
  | _ => none
/-- what a special method may give -/
def dunOk : Bi → D → Bool
  | .len, .int n => decide (0 ≤ n) && decide (n < 2 ^ 62)
  | .str, .str _ => true
  | .repr, .str _ => true
  | _, _ => false
/-- things of any kind that == may meet -/
def othD : D → Bool
  | .non => true
  | .bl _ => true
  | .int _ => true
  | .str _ => true
  | .tup _ => true
  | .lst _ => true
  | .dic _ => true
  | .ins _ _ => true
  | _ => false
/-- the items that a star gives -/
def rdA (S : Sto) : D → Option (List D)
  | .tup xs => some xs
  | d => rdL S d
def strF : D → Option Str
  | .str z => some z
  | .int i => if i.natAbs.log2 < 1920 then some (toString i) else none
  | _ => none
def fsD : Str → List D → Option Str
  | acc, [] => some acc
  | acc, d :: ds => (strF d).bind fun z => if (acc ++ z).length ≤ sizeLine then fsD (acc ++ z) ds else none
/-! ### what expressions come to -/
def opt {α : Type} (o : Option α) (S : Sto) : Out α :=
  match o with
  | some a => .ok a S
  | none => .bad
def foldO {α : Type} (f : α → D → Sto → Out α) : α → List D → Sto → Out α
  | a, [], S => .ok a S
  | a, x :: xs, S => (f a x S).bind fun a S => foldO f a xs S
/-- what is walked: items, or a list of the store as it stands at each turn -/
inductive Wk where
  | its (xs : List D) | live (n : Nat)
def wkD : D → Option Wk
  | .obj n => some (.live n)
  | .lst xs => some (.its xs)
  | .scr ns => some (.its (ns.map D.int))
  | _ => none
def LF : Nat := 1000000
def foldL {α : Type} (n : Nat) (f : α → D → Sto → Out α) : Nat → Nat → α → Sto → Out α
  | 0, _, _, _ => .bad
  | k + 1, i, a, S => match S[n]? with
    | some (.lst xs) => match xs[i]? with
      | some x => (f a x S).bind fun a S => foldL n f k (i + 1) a S
      | none => .ok a S
    | _ => .bad
def foldW {α : Type} (w : Wk) (f : α → D → Sto → Out α) (a : α) (S : Sto) : Out α := match w with
  | .its xs => foldO f a xs S
  | .live n => foldL n f LF 0 a S
def appD (S : Sto) : D → D → Option Sto
  | .obj n, d => match S[n]? with
    | some (.lst xs) => if xs.length < sizeLine then some (S.set n (.lst (xs ++ [d]))) else none
    | _ => none
  | _, _ => none
def wipeF (fr : Frm) : List Nat → Frm
  | [] => fr
  | v :: vs => (wipeF fr vs).set v none
def intO : D → Option Int
  | .int i => some i
  | _ => none
def boolO : D → Option Bool
  | .bl b => some b
  | _ => none
def truD (S : Sto) : D → Option Bool
  | .non => some false
  | .bl b => some b
  | .int i => some (i != 0)
  | .str z => if z.length ≤ sizeLine then some ((z.length : Int) != 0) else none
  | .tup xs => some (!xs.isEmpty)
  | d => (rdL S d).map fun xs => !xs.isEmpty
def rngD (lo hi : Int) : Option (List D) :=
  if -(2 ^ 62) ≤ lo ∧ lo < 2 ^ 62 ∧ -(2 ^ 62) ≤ hi ∧ hi < 2 ^ 62 then some ((List.range (hi - lo).toNat).map fun i => .int (lo + (i : Nat))) else none
def zipD (xs ys : List D) : List D := (xs.zip ys).map fun p => .tup [p.1, p.2]
def zipO (x y : D) : Option (List D) :=
  match rdS x, rdS y with
  | some (a, xs), some (b, ys) => if a = b then some (zipD xs ys) else none
  | _, _ => none
def enumD (xs : List D) : List D := xs.zipIdx.map fun p => .tup [.int p.2, p.1]
def setD (S : Sto) (n : Nat) (i : Int) (d : D) : Option Sto :=
  match S[n]? with
  | some (.lst xs) => match ixN xs.length i with
    | some j => some (S.set n (.lst (xs.set j d)))
    | none => none
  | _ => none
/-- what the law's outcome tells of a value, of an exception -/
def strL (s : String) : D := .str (Str.ofString s)
def backD (d : D) : Option D := (showD d).map fun z => .lst [strL "back", .str z]
def wordD (gl : GL) : D → Option D
  | .ins c [d] => (gl.w c).bind fun z => (showX d).map fun y => .lst [.str z, .str y]
  | _ => none
section
variable (cl : Nat → List D → Sto → Out D) (gl : GL)
mutual
def ev (fr : Frm) : ME → Sto → Out D
  | .var i, S => match fr[i]? with
    | some (some (.val d)) => .ok d S
    | _ => .bad
  | .cst d, S => .ok d S
  | .glob x, S => opt (gl.g x) S
  | .bin op a b, S => (ev fr a S).bind fun x S => (ev fr b S).bind fun y S => opt (binD op x y) S
  | .neg a, S => (ev fr a S).bind fun x S => opt ((intO x).map fun i => .int (-i)) S
  | .cmp op a b, S => (ev fr a S).bind fun x S => (ev fr b S).bind fun y S => opt ((cmpD op x y).map .bl) S
  | .chain o1 o2 a b c, S => (ev fr a S).bind fun x S => (ev fr b S).bind fun y S => (opt (cmpD o1 x y) S).bind fun k S =>
    if k then (ev fr c S).bind fun z S => opt ((cmpD o2 y z).map .bl) S else .ok (.bl false) S
  | .and a b, S => (ev fr a S).bind fun x S => (opt (boolO x) S).bind fun k S => if k then (ev fr b S).nox else .ok (.bl false) S
  | .or a b, S => (ev fr a S).bind fun x S => (opt (boolO x) S).bind fun k S => if k then .ok (.bl true) S else (ev fr b S).nox
  | .not a, S => (ev fr a S).bind fun x S => (opt (boolO x) S).bind fun k S => .ok (.bl (!k)) S
  | .ife t a b, S => (evT fr t S).bind fun k S => if k then ev fr a S else ev fr b S
  | .tup es, S => (evs fr es S).bind fun xs S => .ok (.tup xs) S
  | .lst es, S => (evs fr es S).bind fun xs S => .ok (.lst xs) S
  | .ref es, S => (evs fr es S).bind fun xs S => .ok (.obj S.length) (S ++ [.lst xs])
  | .call f es, S => (evs fr es S).bindX fun xs S => cl f xs S
  | .callK f es ks vs, S => (evs fr es S).bindX fun xs S => (evs fr vs S).bindX fun ys S => cl f (xs ++ ks.map fun k => ys.getD k .non) S
  | .blt b es, S => (evs fr es S).bind fun xs S => opt (blD S b xs) S
  | .sub a i, S => (ev fr a S).bind fun x S => (ev fr i S).bind fun y S => opt (subD S x y) S
  | .sl a lo hi, S => (ev fr a S).bind fun x S => (evO fr lo S).bind fun l S => (evO fr hi S).bind fun h S => opt (slD S l h x) S
  | .rev a, S => (ev fr a S).bind fun x S => opt ((rdL S x).map fun xs => .lst xs.reverse) S
  | .lc own g src tt e, S => (evI fr src S).bind fun xs S =>
    (foldO (fun (acc : List D) x S => (asg g (wipeF fr own) x S).bind fun fr2 S => (evTs fr2 tt S).bind fun k S =>
      if k then (ev fr2 e S).bind fun d S => if acc.length < sizeLine then .ok (acc ++ [d]) S else .bad else .ok acc S) [] xs S).bind fun acc S => .ok (.lst acc) S
  | .meth m a es, S => (ev fr a S).bind fun x S => (evs fr es S).bind fun xs S => opt (meD m x xs) S
  | .fld a f, S => (ev fr a S).bind fun x S => opt (fldD gl S f x) S
  | .vm m a es, S => (ev fr a S).bindX fun x S => (opt ((clsO S x).bind fun c => gl.m c m) S).bind fun f S => (evs fr es S).bindX fun xs S => cl f (x :: xs) S
  | .vmK f m a es ks vs, S => (ev fr a S).bindX fun x S => (opt ((clsO S x).bind fun c => gl.m c m) S).bind fun f' S => if f' = f then (evs fr es S).bindX fun xs S => (evs fr vs S).bindX fun ys S => cl f (x :: (xs ++ ks.map fun k => ys.getD k .non)) S else .bad
  | .vp m a, S => (ev fr a S).bindX fun x S => (opt ((clsO S x).bind fun c => gl.p c m) S).bind fun f S => (cl f [x] S).nox
  | .cm c m es, S => (opt (gl.c c m) S).bind fun f S => (evs fr es S).bindX fun xs S => cl f (.cls c :: xs) S
  | .cmK c m es ks vs, S => (opt (gl.c c m) S).bind fun f S => (evs fr es S).bindX fun xs S => (evs fr vs S).bindX fun ys S => cl f (.cls c :: (xs ++ ks.map fun k => ys.getD k .non)) S
  | .eqm m a b, S => (ev fr a S).bind fun x S => (ev fr b S).bind fun y S => match clsO S x with
    | some c => if clsO S y = some c then (opt (gl.m c m) S).bind fun f S => (cl f [x, y] S).nox else .bad
    | none => opt ((cmpD .Eq x y).map .bl) S
  | .lcL own g src tt e, S => (ev fr src S).bind fun x S => (opt (wkD x) S).bind fun w S =>
    (foldW w (fun (acc : List D) x S => (asg g (wipeF fr own) x S).bind fun fr2 S => (evTs fr2 tt S).bind fun k S =>
      if k then (ev fr2 e S).bind fun d S => if acc.length < sizeLine then .ok (acc ++ [d]) S else .bad else .ok acc S) [] S).bind fun acc S => .ok (.lst acc) S
  | .app o e, S => (ev fr o S).bind fun x S => (opt (rdL S x) S).bind fun _ S => (ev fr e S).bind fun y S => (opt (appD S x y) S).bind fun S' _ => .ok .non S'
  | .get1 a b, S => (ev fr a S).bind fun x S => (ev fr b S).bind fun y S => opt (meD .get x [y]) S
  | .get2 a b c, S => (ev fr a S).bind fun x S => (ev fr b S).bind fun y S => (ev fr c S).bind fun z S => opt (meD .get x [y, z]) S
  | .tupS bs es, S => (evS fr bs es S).bind fun xs S => if xs.length ≤ sizeLine then .ok (.tup xs) S else .bad
  | .lstS bs es, S => (evS fr bs es S).bind fun xs S => if xs.length ≤ sizeLine then .ok (.lst xs) S else .bad
  | .callS f bs es, S => (evS fr bs es S).bind fun xs S => (cl f xs S).nox
  | .dun m b e, S => (ev fr e S).bind fun x S => match clsO S x with
    | some c => (opt (gl.m c m) S).bind fun f S => (cl f [x] S).bind fun d S => if dunOk b d then .ok d S else .bad
    | none => opt (blD S b [x]) S
  | .fs es, S => (evs fr es S).bind fun xs S => opt ((fsD Str.empty xs).map .str) S
  | .dct es, S => (evs fr es S).bind fun xs S => opt ((pairsD xs).map fun kvs => .dic (mergeD [] kvs)) S
  | .lc2 own g src tt own2 g2 src2 tt2 e, S => (evI fr src S).bind fun xs S =>
    (foldO (fun (acc : List D) x S => (asg g (wipeF fr own) x S).bind fun fr2 S => (evTs fr2 tt S).bind fun k S =>
      if k then (evI fr2 src2 S).bind fun ys S => foldO (fun (acc : List D) y S => (asg g2 (wipeF fr2 own2) y S).bind fun fr3 S => (evTs fr3 tt2 S).bind fun k S =>
        if k then (ev fr3 e S).bind fun d S => if acc.length < sizeLine then .ok (acc ++ [d]) S else .bad else .ok acc S) acc ys S
      else .ok acc S) [] xs S).bind fun acc S => .ok (.lst acc) S
  | .eqx c m neg a b, S => (ev fr a S).bind fun x S => (ev fr b S).bind fun y S => if clsO S x = some c ∧ othD y = true then (opt (gl.m c m) S).bind fun f S => (cl f [x, y] S).bind fun d S => opt ((boolO d).map fun r => .bl (if neg then !r else r)) S else .bad
  | .tln m e, S => (ev fr e S).bind fun x S => match clsO S x with
    | some c => if gl.b c = false then .bad else (opt (gl.m c m) S).bind fun f S => (cl f [x] S).bind fun d S => match d with
      | .int n => if dunOk .len d then .ok (.bl (n != 0)) S else .bad
      | _ => .bad
    | none => .bad
  | .unst i, S => match fr[i]? with
    | some (some (.val (.obj n))) => match S[n]? with
      | some (.lst xs) => .ok (.lst xs) (S.set n .dead)
      | _ => .bad
    | _ => .bad
  | .outc _ e, S => match ev fr e S with
    | .ok d S => opt (backD d) S
    | .exc x S => opt (wordD gl x) S
    | .bad => .bad
def evs (fr : Frm) : List ME → Sto → Out (List D)
  | [], S => .ok [] S
  | e :: es, S => (ev fr e S).bindX fun x S => (evs fr es S).bindX fun xs S => .ok (x :: xs) S
def evS (fr : Frm) : List Bool → List ME → Sto → Out (List D)
  | b :: bs, e :: es, S => (ev fr e S).bind fun x S => (opt (if b then rdA S x else some [x]) S).bind fun xs S => (evS fr bs es S).bind fun ys S => .ok (xs ++ ys) S
  | [], [], S => .ok [] S
  | _, _, _ => .bad
def evO (fr : Frm) : Option ME → Sto → Out (Option Int)
  | none, S => .ok none S
  | some e, S => (ev fr e S).bind fun x S => (opt (intO x) S).bind fun i S => .ok (some i) S
def evT (fr : Frm) : MT → Sto → Out Bool
  | .val e, S => (ev fr e S).bind fun x S => opt (boolO x) S
  | .cmp op a b, S => (ev fr a S).bind fun x S => (ev fr b S).bind fun y S => opt (cmpD op x y) S
  | .chain o1 o2 a b c, S => (ev fr a S).bind fun x S => (ev fr b S).bind fun y S => (opt (cmpD o1 x y) S).bind fun k S =>
    if k then (ev fr c S).bind fun z S => opt (cmpD o2 y z) S else .ok false S
  | .and a b, S => (evT fr a S).bind fun k S => if k then evT fr b S else .ok false S
  | .or a b, S => (evT fr a S).bind fun k S => if k then .ok true S else evT fr b S
  | .not a, S => (evT fr a S).bind fun k S => .ok (!k) S
  | .tru e, S => (ev fr e S).bind fun x S => opt (truD S x) S
def evTs (fr : Frm) : List MT → Sto → Out Bool
  | [], S => .ok true S
  | t :: _, S => evT fr t S
def evI (fr : Frm) : MI → Sto → Out (List D)
  | .lst e, S => (ev fr e S).bind fun x S => opt (rdF x) S
  | .tup e, S => (ev fr e S).bind fun x S => match x with
    | .tup xs => .ok xs S
    | _ => .bad
  | .rng1 a, S => (ev fr a S).bind fun x S => opt ((intO x).bind fun i => rngD 0 i) S
  | .rng2 a b, S => (ev fr a S).bind fun x S => (ev fr b S).bind fun y S => opt ((intO x).bind fun i => (intO y).bind fun j => rngD i j) S
  | .zip a b, S => (ev fr a S).bind fun x S => (ev fr b S).bind fun y S => opt (zipO x y) S
  | .enum a, S => (ev fr a S).bind fun x S => opt ((rdF x).map enumD) S
  | .enumT a, S => (ev fr a S).bind fun x S => match x with
    | .tup xs => .ok (enumD xs) S
    | _ => .bad
  | .str e, S => (ev fr e S).bind fun x S => match x with
    | .str z => if z.length ≤ sizeLine then .ok (z.cps.toList.map fun c => .str ⟨#[c]⟩) S else .bad
    | _ => .bad
def asg : MG → Frm → D → Sto → Out Frm
  | .name i, fr, d, S => .ok (fr.set i (some (.val d))) S
  | .tup gs, fr, d, S => match d with
    | .tup xs => asgs gs fr xs S
    | .lst xs => asgs gs fr xs S
    | _ => .bad
  | .sub o i, fr, d, S => (ev fr o S).bind fun x S => (ev fr i S).bind fun y S => match x, y with
    | .obj n, .int j => (opt (setD S n j d) S).bind fun S' _ => .ok fr S'
    | _, _ => .bad
def asgs : List MG → Frm → List D → Sto → Out Frm
  | [], fr, [], S => .ok fr S
  | g :: gs, fr, x :: xs, S => (asg g fr x S).bind fun fr S => asgs gs fr xs S
  | _, _, _, _ => .bad
end
/-! ### statements -/
inductive Fl where
  | next (fr : Frm) | ret (d : D) | brk (fr : Frm) | cont (fr : Frm) | exc (x : D)
def Out.stm {α : Type} (o : Out α) (f : α → Sto → Out Fl) : Out Fl :=
  match o with
  | .ok a S => f a S
  | .exc x S => .ok (.exc x) S
  | .bad => .bad
def whileO (t : Frm → Sto → Out Bool) (b : Frm → Sto → Out Fl) : Nat → Frm → Sto → Out Fl
  | 0, _, _ => .bad
  | n + 1, fr, S => (t fr S).bind fun k S => if k then (b fr S).bind fun f S => match f with
      | .next fr => whileO t b n fr S
      | .cont fr => whileO t b n fr S
      | .brk fr => .ok (.next fr) S
      | .ret d => .ok (.ret d) S
      | .exc x => .ok (.exc x) S
    else .ok (.next fr) S
def forO (g : Frm → D → Sto → Out Frm) (b : Frm → Sto → Out Fl) : List D → Frm → Sto → Out Fl
  | [], fr, S => .ok (.next fr) S
  | x :: xs, fr, S => (g fr x S).bind fun fr S => (b fr S).bind fun f S => match f with
      | .next fr => forO g b xs fr S
      | .cont fr => forO g b xs fr S
      | .brk fr => .ok (.next fr) S
      | .ret d => .ok (.ret d) S
      | .exc x => .ok (.exc x) S
def forLv (n : Nat) (g : Frm → D → Sto → Out Frm) (b : Frm → Sto → Out Fl) : Nat → Nat → Frm → Sto → Out Fl
  | 0, _, _, _ => .bad
  | k + 1, i, fr, S => match S[n]? with
    | some (.lst xs) => match xs[i]? with
      | some x => (g fr x S).bind fun fr S => (b fr S).bind fun f S => match f with
        | .next fr => forLv n g b k (i + 1) fr S
        | .cont fr => forLv n g b k (i + 1) fr S
        | .brk fr => .ok (.next fr) S
        | .ret d => .ok (.ret d) S
        | .exc x => .ok (.exc x) S
      | none => .ok (.next fr) S
    | _ => .bad
def forW (w : Wk) (g : Frm → D → Sto → Out Frm) (b : Frm → Sto → Out Fl) (fr : Frm) (S : Sto) : Out Fl := match w with
  | .its xs => forO g b xs fr S
  | .live n => forLv n g b LF 0 fr S
def evR (fr : Frm) : MR → Sto → Out SV
  | .val e, S => (ev cl gl fr e S).bindX fun d S => .ok (.val d) S
  | .lst es, S => (evs cl gl fr es S).bind fun xs S => .ok (.olst xs) S
def evRs (fr : Frm) : List MR → Sto → Out (List SV)
  | [], S => .ok [] S
  | r :: rs, S => (evR cl gl fr r S).bind fun x S => (evRs fr rs S).bind fun xs S => .ok (x :: xs) S
def setAll (fr : Frm) : List Nat → List SV → Frm
  | i :: is, d :: ds => setAll (fr.set i (some d)) is ds
  | _, _ => fr
variable (fuel : Nat)
mutual
def ex : MS → Frm → Sto → Out Fl
  | .set i r, fr, S => (evR cl gl fr r S).stm fun d S => .ok (.next (fr.set i (some d))) S
  | .setLc i o e, fr, S => (ev cl gl fr e S).bind fun d S => match o, d with
    | true, .lst xs => .ok (.next (fr.set i (some (.olst xs)))) S
    | true, _ => .bad
    | false, d => .ok (.next (fr.set i (some (.val d)))) S
  | .par is rs, fr, S => (evRs cl gl fr rs S).bind fun ds S => .ok (.next (setAll fr is ds)) S
  | .asg g e, fr, S => (ev cl gl fr e S).bind fun d S => (asg cl gl g fr d S).bind fun fr S => .ok (.next fr) S
  | .aug i op e, fr, S => match fr[i]? with
    | some (some (.val x)) => (ev cl gl fr e S).bind fun y S => (opt (augD op x y) S).bind fun d S => .ok (.next (fr.set i (some (.val d)))) S
    | _ => .bad
  | .freeze i, fr, S => match fr[i]? with
    | some (some (.olst xs)) => .ok (.next (fr.set i (some (.val (.lst xs))))) S
    | some (some (.odct xs)) => .ok (.next (fr.set i (some (.val (.dic xs))))) S
    | _ => .ok (.next fr) S
  | .append i e, fr, S => (ev cl gl fr e S).bind fun d S => match fr[i]? with
    | some (some (.olst xs)) => if xs.length < sizeLine then .ok (.next (fr.set i (some (.olst (xs ++ [d]))))) S else .bad
    | _ => .bad
  | .expr e, fr, S => (ev cl gl fr e S).stm fun _ S => .ok (.next fr) S
  | .ret e, fr, S => (ev cl gl fr e S).stm fun d S => .ok (.ret d) S
  | .retN, _, S => .ok (.ret .non) S
  | .ife t a b, fr, S => (evT cl gl fr t S).bind fun k S => if k then exs a fr S else exs b fr S
  | .forr g src b, fr, S => (evI cl gl fr src S).bind fun xs S => forO (asg cl gl g) (exs b) xs fr S
  | .forL g src b, fr, S => (ev cl gl fr src S).bind fun x S => (opt (wkD x) S).bind fun w S => forW w (asg cl gl g) (exs b) fr S
  | .whil t b, fr, S => whileO (fun fr S => evT cl gl fr t S) (exs b) fuel fr S
  | .brk, fr, S => .ok (.brk fr) S
  | .cont, fr, S => .ok (.cont fr) S
  | .pass, fr, S => .ok (.next fr) S
  | .never, _, _ => .bad
  | .setO _ _, _, _ => .bad
  | .setLs i e, fr, S => (ev cl gl fr e S).bind fun d S => match d with
    | .lst xs => .ok (.next (fr.set i (some (.val (.obj S.length))))) (S ++ [.lst xs])
    | _ => .bad
  | .raise c _ es, fr, S => (evs cl gl fr es S).bind fun xs S => .ok (.exc (.ins c xs)) S
  | .ext i e, fr, S => (ev cl gl fr e S).bind fun d S => match fr[i]? with
    | some (some (.olst xs)) => (opt (rdF d) S).bind fun ys S => if xs.length + ys.length ≤ sizeLine then .ok (.next (fr.set i (some (.olst (xs ++ ys))))) S else .bad
    | _ => .bad
  | .insr i a e, fr, S => (ev cl gl fr a S).bind fun x S => (ev cl gl fr e S).bind fun d S => match fr[i]? with
    | some (some (.olst xs)) => (opt (intO x) S).bind fun j S => if xs.length < sizeLine ∧ 0 ≤ j ∧ j < 2 ^ 62 then .ok (.next (fr.set i (some (.olst (xs.take j.toNat ++ [d] ++ xs.drop j.toNat))))) S else .bad
    | _ => .bad
def exs : List MS → Frm → Sto → Out Fl
  | [], fr, S => .ok (.next fr) S
  | s :: r, fr, S => (ex s fr S).bind fun f S => match f with
    | .next fr => exs r fr S
    | f => .ok f S
end
/-- the body of an __init__ whose instance is known to it alone: its attributes so far -/
def exI (c : Nat) : List MS → Frm → List D → Sto → Out (List D)
  | [], _, ds, S => .ok ds S
  | s :: r, fr, ds, S => match s with
    | .setO f e => (ev cl gl fr e S).bind fun d S => (opt (fput (gl.fl c) ds f d) S).bind fun ds S => exI c r fr ds S
    | .expr e => (ev cl gl fr e S).bindX fun _ S => exI c r fr ds S
    | .set i (.val e) => if i = 0 then .bad else (ev cl gl fr e S).bind fun d S => exI c r (fr.set i (some (.val d))) ds S
    | .setLc i false e => if i = 0 then .bad else (ev cl gl fr e S).bind fun d S => exI c r (fr.set i (some (.val d))) ds S
    | _ => .bad
end
/-- a def, a method, or a class by its __init__: frozen, or in the store -/
inductive MK where
  | fn | met | frz (c : Nat) | sto (c : Nat) | exc (c : Nat)
/-- has it a name of the module? how many parameters are given by itself? -/
def MK.top : MK → Bool
  | .met => false
  | .exc _ => false
  | _ => true
def MK.off : MK → Nat
  | .frz _ => 1
  | .sto _ => 1
  | .exc _ => 1
  | _ => 0
/-- a def: its names, how many parameters, its body -/
structure MF where
  names : List Str
  ps : Nat
  body : List MS
  kind : MK
def callN (P : List (Nat × MF)) (gl : GL) (fuel : Nat) : Nat → Nat → List D → Sto → Out D
  | 0, _, _, _ => .bad
  | k + 1, f, ds, S => match P.lookup f with
    | some m => match m.kind with
      | .exc _ => .bad
      | .frz c => if ds.length + 1 = m.ps then (exI (callN P gl fuel k) gl c m.body (none :: (ds.map (fun d => some (.val d)) ++ List.replicate (m.names.length - m.ps) none)) [] S).bindX fun fs S => .ok (.ins c fs) S else .bad
      | .sto c => if ds.length + 1 = m.ps then (exs (callN P gl fuel k) gl fuel m.body (some (.val (.obj S.length)) :: (ds.map (fun d => some (.val d)) ++ List.replicate (m.names.length - m.ps) none)) (S ++ [.ins c []])).bind fun fl S' => match fl with
          | .ret .non => .ok (.obj S.length) S'
          | .next _ => .ok (.obj S.length) S'
          | _ => .bad
        else .bad
      | _ => if ds.length = m.ps then (exs (callN P gl fuel k) gl fuel m.body (ds.map (fun d => some (.val d)) ++ List.replicate (m.names.length - m.ps) none) S).bind fun fl S => match fl with
          | .ret d => .ok d S
          | .next _ => .ok .non S
          | .exc x => .exc x S
          | _ => .bad
        else .bad
    | none => .bad
end Mn
namespace Mn
open PySem PySem.Spec PyProof.Rows L2 RZ He
def nBi : Bi → Str
  | .len => "len" | .abs => "abs" | .int => "int" | .str => "str" | .repr => "repr" | .all => "all" | .any => "any" | .sum => "sum" | .max => "max" | .min => "min"
  | .tuple => "tuple" | .list => "list" | .divmod => "divmod" | .sorted => "sorted" | .isinst => "isinstance" | .range => "range"
/-- where a def stands: a name of the module; a method, a property's getter, a classmethod's def of a class -/
inductive Pth where
  | glo (x : Str) | met (C m : Str) | prop (C m : Str) | cme (C m : Str)
def recAt (K : PySem.W.Frag) (p : Addr) (T : String) : Addr := match PySem.W.recIn K p T with
  | some (.ref g :: _) => g
  | _ => 0
def pAd (K : PySem.W.Frag) : Pth → Addr
  | .glo x => ga K x
  | .met C m => ma K (ga K C) m
  | .prop C m => recAt K (ma K (ga K C) m) "property"
  | .cme C m => recAt K (ma K (ga K C) m) "classmethod"
structure DefP where
  at_ : Pth
  name : Str
  qual : Str
  params : Arguments
  body : List Stmt
  scope : Scope
def fnP (K : PySem.W.Frag) (p : Pth) : FnW := match K.lookup (pAd K p) with
  | some ⟨_, _, .func fd, _⟩ => some (fd.name, fd.qualname, fd.params, fd.body, fd.scope, fd.globals, fd.closure, fd.builtins)
  | _ => none
def DefP.val (d : DefP) : FnW := some (d.name, d.qual, d.params, .stmts d.body, d.scope, mainGlobals, [], builtinsNs)
def DefP.ok (K : PySem.W.Frag) (d : DefP) : Bool := PySem.W.keepIn K (.ref (pAd K d.at_)) && (match K.lookup (pAd K d.at_) with
  | some ⟨_, _, .func fd, _⟩ => PySem.W.codeIn K fd.code d.qual && (dflB K fd.defaults [] && kwdB K fd.kwdefaults [])
  | _ => false)
/-- a class as the interpreter knows it: its name, slots or not, its attributes in order, is it asked for by isinstance, is it made here, its methods, properties, classmethods (name, def) -/
structure CD where
  c : Nat
  sl : Bool
  fl : List Nat
  tc : Bool
  made : Bool
  ms : List (Nat × Nat)
  ps : List (Nat × Nat)
  cs : List (Nat × Nat)
section
variable (nm : Nat → Str) (K : PySem.W.Frag)
def tcL : List String := ["int", "str", "bool", "tuple", "list", "dict", "NoneType"]
def slotB (C : Addr) (i f : Nat) : Bool := eqO (PySem.W.findIn K (.ref C) (nm f)) (some (some (.ref (ma K C (nm f))))) && (eqO (PySem.W.specialIn K (.ref (ma K C (nm f))) "__get__") (some (some (.builtin "member_descriptor.__get__"))) &&
  (decide (PySem.W.takesIn K (.ref (ma K C (nm f))) = some true) && (decide (PySem.W.typeIn K (.ref (ma K C (nm f))) = some (.type "member_descriptor")) && (decide (PySem.W.slotIn K (ma K C (nm f)) C = some i) && decide (i < 1000)))))
def siB (C : Addr) : Bool := eqO (PySem.W.findIn K (.ref C) "__class__") (some (some (.builtin "object.__class__"))) && (eqO (PySem.W.specialIn K (.builtin "object.__class__") "__get__") (some (some (.builtin "getset_descriptor.__get__"))) &&
  (decide (PySem.W.takesIn K (.builtin "object.__class__") = some true) && decide (PySem.W.mroIn K C (.type "object") = some true)))
def propB (C : Addr) (m : Nat) (g : Addr) : Bool := PySem.W.isClsIn K C && (eqO (PySem.W.findIn K (.ref C) (nm m)) (some (some (.ref (ma K C (nm m))))) && (eqO (PySem.W.specialIn K (.ref (ma K C (nm m))) "__get__") (some (some (.builtin "property.__get__"))) &&
  (decide (PySem.W.takesIn K (.ref (ma K C (nm m))) = some true) && (match PySem.W.recIn K (ma K C (nm m)) "property" with
    | some (.ref g' :: _) => decide (g' = g)
    | _ => false))))
def cmeB (C : Addr) (m : Nat) (g : Addr) : Bool := PySem.W.readsIn K C (.type "type") && (eqO (PySem.W.specialIn K (.ref C) "__getattribute__") (some (some (.builtin "type.__getattribute__"))) && ((match PySem.W.findCls K (.ref C) (.type "type") (nm m) with
    | some (.get a p o w) => decide (a = .builtin "classmethod.__get__") && (decide (p = .ref (ma K C (nm m))) && (decide (o = .none) && decide (w = .ref C)))
    | _ => false) && ((match PySem.W.recIn K (ma K C (nm m)) "classmethod" with
    | some (.ref g' :: _) => decide (g' = g)
    | _ => false) && PySem.W.fnIn K g)))
def metB (C : Addr) (m : Nat) (g : Addr) : Bool := eqO (PySem.W.findIn K (.ref C) (nm m)) (some (some (.ref g))) && (PySem.W.isFn K (.ref g) && PySem.W.keepIn K (.ref g))
def mkB (C : Addr) : Bool := PySem.W.makesIn K C && (eqO (PySem.W.findIn K (.ref C) "__init__") (some (some (.ref (ma K C "__init__")))) && (PySem.W.isFn K (.ref (ma K C "__init__")) && PySem.W.keepIn K (.ref C)))
def CD.ok (pth : Nat → Pth) (d : CD) : Bool :=
  eqO (PySem.W.nsIn K mainGlobals (nm d.c)) (some (some (.ref (ga K (nm d.c))))) && ((if d.sl then PySem.W.plainGet K (ga K (nm d.c)) Str.empty && (PySem.W.isClsIn K (ga K (nm d.c)) && (PySem.W.plainOver K (ga K (nm d.c)) && (eqO (PySem.W.findIn K (.ref (ga K (nm d.c))) "__setattr__") (some (some (.builtin "object.__setattr__"))) && d.fl.zipIdx.all fun p => slotB nm K (ga K (nm d.c)) p.2 p.1)))
    else (Fa.cls (nm d.c)).ok K && d.fl.all fun f => eqO (PySem.W.findIn K (.ref (ga K (nm d.c))) (nm f)) (some none)) && (((siB K (ga K (nm d.c)) && eqO (PySem.W.findIn K (.ref (ga K (nm d.c))) "__ne__") (some (some (.builtin "object.__ne__")))) && (!d.tc || tcL.all fun T => decide (PySem.W.kitOne K (.type T) (.ref (ga K (nm d.c))) = some false))) && ((!d.made || mkB K (ga K (nm d.c))) &&
    (d.ms.all (fun m => metB nm K (ga K (nm d.c)) m.1 (pAd K (pth m.2))) && (d.ps.all (fun m => propB nm K (ga K (nm d.c)) m.1 (pAd K (pth m.2))) && d.cs.all fun m => cmeB nm K (ga K (nm d.c)) m.1 (pAd K (pth m.2)))))))
end
/-- an own class of exceptions over ValueError: its name, its one attribute -/
structure XD where
  c : Nat
  f : Nat
def oexB (K : PySem.W.Frag) (C : Addr) : Bool := (match K.lookup C with
  | some ⟨.type "type", _, .cls cd, sl⟩ => (match cd.mro, sl.toList with
    | .ref C' :: bm, [_, _, _, _, some (.builtin n), _] => decide (C' = C) && (decide (n = "ValueError.__new__") && (!cd.hasDel && (cd.hasDict && PySem.HandSPX.refsVE bm)))
    | _, _ => false)
  | _ => false) && (eqO (PySem.W.findIn K (.ref C) "__setattr__") (some (some (.builtin "object.__setattr__"))) && (decide (PySem.W.subIn K (.ref C) (.type "BaseException") = some true) && (decide (PySem.W.typeIn K (.ref C) = some (.type "type")) && PySem.W.keepIn K (.ref C))))
def XD.ok (nm : Nat → Str) (K : PySem.W.Frag) (d : XD) : Bool := eqO (PySem.W.nsIn K mainGlobals (nm d.c)) (some (some (.ref (ga K (nm d.c))))) && (oexB K (ga K (nm d.c)) && (eqO (PySem.W.findIn K (.ref (ga K (nm d.c))) (nm d.f)) (some none) && (eqO (PySem.W.findIn K (.ref (ga K (nm d.c))) "__init__") (some (some (.ref (ma K (ga K (nm d.c)) "__init__")))) &&
  decide (PySem.W.typeIn K (.ref (ma K (ga K (nm d.c)) "__init__")) = some (.type "function")))))
/-! ### the Hook -/
/-- what is looked at: the names' facts, the classes, the defs -/
structure OL where
  x1 : Str
  x2 : Str
  x3 : Str
  ns : List Str
  xs : List Nat
structure Lk where
  nm : Nat → Str
  pth : Nat → Pth
  fa : List Fa
  cd : List CD
  xd : List XD
  nb : List Nat
  fn : List DefP
  mkl : List Nat
  ox : Option OL
/-- no instance of another class is one of an asked class -/
def othB (L : Lk) (K : PySem.W.Frag) : Bool := L.cd.all fun d => !d.tc || L.cd.all fun e => (e.c == d.c) || decide (PySem.W.kitOne K (.ref (ga K (L.nm e.c))) (.ref (ga K (L.nm d.c))) = some false)
def nbB (L : Lk) (K : PySem.W.Frag) : Bool := L.nb.all fun c => eqO (PySem.W.findIn K (.ref (ga K (L.nm c))) "__bool__") (some none)
/-- a class of exceptions of which isinstance and attributes are asked -/
def excCB (K : PySem.W.Frag) (D : Addr) : Bool := (eqO (PySem.W.specialIn K (.builtin "object.__class__") "__get__") (some (some (.builtin "getset_descriptor.__get__"))) && (decide (PySem.W.takesIn K (.builtin "object.__class__") = some true) && (decide (PySem.W.mroIn K D (.type "object") = some true) && xfB K D))) && eqO (PySem.W.findIn K (.ref D) "__class__") (some (some (.builtin "object.__class__")))
theorem excCB_ok {K : PySem.W.Frag} {D : Addr} (h : excCB K D = true) : ExcC K D ∧ XfC K D := by
  unfold excCB at h
  obtain ⟨h1, h5⟩ := ba h
  obtain ⟨h1, h2⟩ := ba h1
  obtain ⟨h2, h3⟩ := ba h2
  obtain ⟨h3, h4⟩ := ba h3
  have x := xfB_ok h4
  exact ⟨⟨x.ga, x.gg, x.exC, x.hdC, eqO_ok h5, eqO_ok h1, of_decide_eq_true h2, of_decide_eq_true h3⟩, x⟩
/-- the one class of an exception that is told -/
def kfB (nm : Nat → Str) (c : Nat) (n : Str) : Bool := decide (n = nm c)
def told1 (nm : Nat → Str) (o : OL) (K : PySem.W.Frag) (c : Nat) : Bool := excCB K (ga K (nm c)) && (eqO (PySem.W.findIn K (.ref (ga K (nm c))) "index") (some none) && (eqO (PySem.W.findIn K (.ref (ga K (nm c))) "given") (some none) &&
  (decide (PySem.W.exmAny K (.ref (ga K (nm c))) [.ref (ga K o.x1), .ref (ga K o.x2), .ref (ga K o.x3)] = some true) && o.ns.all fun n => decide (PySem.W.kitOne K (.ref (ga K (nm c))) (.ref (ga K n)) = some (kfB nm c n)))))
def toldB (L : Lk) (K : PySem.W.Frag) : Bool := match L.ox with
  | none => true
  | some o => o.xs.all fun c => told1 L.nm o K c
/-- the code object of the def at f, its table -/
def cdAd (K : PySem.W.Frag) (f : Addr) : Addr := match K.lookup f with
  | some ⟨_, _, .func fd, _⟩ => (match fd.code with
    | .ref c => c
    | _ => 0)
  | _ => 0
def tbAd (K : PySem.W.Frag) (f : Addr) : Addr := He.tabOf K (cdAd K f)
def mkOk (g : Addr → Option Obj) (K : PySem.W.Frag) (f : Addr) : Bool := PySem.W.codeHdIn K (cdAd K f) (tbAd K f) && match g (tbAd K f) with
  | some o => He.emptyTab o
  | none => false
def mksB (L : Lk) (g : Addr → Option Obj) (K : PySem.W.Frag) : Bool := (L.mkl.all fun f => mkOk g K (pAd K (L.pth f))) && decide ((L.mkl.map fun f => tbAd K (pAd K (L.pth f))).Nodup)
/-- what is reached from the main globals in so many steps; every address once (what has been seen is told by the bits of a number) -/
def addNew (m : Nat) (acc : List Addr) : List Addr → Nat × List Addr
  | [] => (m, acc)
  | a :: r => match m.testBit a with
    | true => addNew m acc r
    | false => addNew (m ||| (1 <<< a)) (a :: acc) r
def lev (g : Addr → Option Obj) (m : Nat) (acc : List Addr) : List Addr → Nat × List Addr
  | [] => (m, acc)
  | a :: r => match g a with
    | some o => match addNew m acc (He.refsD o) with
      | (m2, acc2) => lev g m2 acc2 r
    | none => lev g m acc r
def levs (g : Addr → Option Obj) : Nat → Nat → List Addr → List Addr → List Addr
  | 0, _, _, all => all
  | n + 1, m, fr, all => match lev g m [] fr with
    | (m2, fr2) => levs g n m2 fr2 (all ++ fr2)
def asQ (g : Addr → Option Obj) (n : Nat) : List Addr := levs g n (1 <<< mainGlobals) [mainGlobals] [mainGlobals]
def obsP (L : Lk) (K : PySem.W.Frag) : AlD := ((L.fa.all fun f => f.ok K) && (L.cd.all (fun d => d.ok L.nm K L.pth) && ((L.xd.all (fun d => d.ok L.nm K) && (othB L K && (nbB L K && toldB L K))) && L.fn.all fun d => d.ok K)), L.fn.map fun d => fnP K d.at_)
def valP (L : Lk) : AlD := (true, L.fn.map DefP.val)
def SaysP (L : Lk) (K : PySem.W.Frag) : Prop := obsP L K = valP L
def obsK (L : Lk) (g : Addr → Option Obj) (K : PySem.W.Frag) : AlD := ((obsP L K).1 && mksB L g K, (obsP L K).2)
def obsPG (n : Nat) (L : Lk) (g : Addr → Option Obj) : AlD := obsK L g (He.frT g (asQ g n ++ [cStatics]))
/-- the makers' code objects and their tables: empty, not looked at -/
structure MksAt (L : Lk) (K : PySem.W.Frag) (h : Heap) : Prop where
  hd : ∀ f ∈ L.mkl, PySem.W.codeHdIn K (cdAd K (pAd K (L.pth f))) (tbAd K (pAd K (L.pth f))) = true
  out : ∀ f ∈ L.mkl, K.lookup (tbAd K (pAd K (L.pth f))) = none
  em : ∀ f ∈ L.mkl, h.get? (tbAd K (pAd K (L.pth f))) = some { cls := .none, data := .fields #[] }
  nd : (L.mkl.map fun f => tbAd K (pAd K (L.pth f))).Nodup
theorem says_of {n : Nat} {L : Lk} {h : Heap} (e : obsPG n L h.get? = valP L) : SaysP L (He.frT h.get? (asQ h.get? n ++ [cStatics])) ∧ MksAt L (He.frT h.get? (asQ h.get? n ++ [cStatics])) h := by
  unfold obsPG obsK at e
  have e1 : ((obsP L (He.frT h.get? (asQ h.get? n ++ [cStatics]))).1 && mksB L h.get? (He.frT h.get? (asQ h.get? n ++ [cStatics]))) = true := congrArg (fun z : AlD => z.1) e
  have e2 := congrArg (fun z : AlD => z.2) e
  obtain ⟨a1, a2⟩ := ba e1
  obtain ⟨b1, b2⟩ := ba a2
  have one : ∀ f ∈ L.mkl, PySem.W.codeHdIn (He.frT h.get? (asQ h.get? n ++ [cStatics])) (cdAd (He.frT h.get? (asQ h.get? n ++ [cStatics])) (pAd (He.frT h.get? (asQ h.get? n ++ [cStatics])) (L.pth f))) (tbAd (He.frT h.get? (asQ h.get? n ++ [cStatics])) (pAd (He.frT h.get? (asQ h.get? n ++ [cStatics])) (L.pth f))) = true ∧
      ∃ o, h.get? (tbAd (He.frT h.get? (asQ h.get? n ++ [cStatics])) (pAd (He.frT h.get? (asQ h.get? n ++ [cStatics])) (L.pth f))) = some o ∧ He.emptyTab o = true := fun f hf => by
    obtain ⟨c1, c2⟩ := ba (List.all_eq_true.mp b1 f hf)
    refine ⟨c1, ?_⟩
    split at c2
    · rename_i o ho
      exact ⟨o, ho, c2⟩
    · cases c2
  refine ⟨Prod.ext a1 e2, fun f hf => (one f hf).1, fun f hf => ?_, fun f hf => ?_, of_decide_eq_true b2⟩
  · obtain ⟨_, o, ho, em⟩ := one f hf
    exact He.frT_none ho em
  · obtain ⟨_, o, ho, em⟩ := one f hf
    rw [ho, He.emptyTab_eq em]
def hookP (n : Nat) (L : Lk) : PySem.W.Hook where
  α := AlD
  obs := fun s => obsPG n L s.heap.get?
  val := fun _ => valP L
  says := fun _ h => ∃ K : PySem.W.Frag, K.In h ∧ SaysP L K ∧ MksAt L K h
  of := fun _ _ e => ⟨_, He.frT_in, says_of e⟩
  keeps := fun _ _ _ ⟨K, hK, c, m⟩ k => ⟨K, PySem.W.Frag.In.keeps hK k, c, m.hd, m.out, fun f hf => k _ _ (m.em f hf), m.nd⟩
theorem obsPG_eq {n : Nat} {L : Lk} {g : Addr → Option Obj} {s : Shared} (h : ∀ a, g a = s.heap.get? a) : obsPG n L g = (hookP n L).obs s := by
  have e : g = s.heap.get? := funext h
  rw [e] <;> rfl
/-- a row of written texts -/
def txtsB : List Expr → Option (List Str)
  | [] => some []
  | .Constant (.str z) _ _ :: r => (txtsB r).map (z :: ·)
  | _ => none
/-- the names in the text of the def that tells outcomes -/
structure ON where
  act : Str
  back : Str
  n : Str
  wh : Str
  x1 : Str
  x2 : Str
  x3 : Str
  wd : Str
  w1 : List Str
  w2 : List Str
  deriving DecidableEq
def outB : List Stmt → Option ON
  | [.Try [.Assign [.Name back _] (.Call (.Name act _) [] [] _) _] [.ExceptHandler (some (.Tuple [.Name x1 _, .Name x2 _, .Name x3 _] _ _)) (some n)
      [.Assign [.Name wh _] (.Call (.Name wd _) [.Name n1 _] [] _) _,
       .If (.Compare (.Name wh1 _) [.In] [.List e1 _] _) [.Return (some (.List [.Name wh2 _, .Call (.Name r1 _) [.Attribute (.Name n2 _) ix _] [] _] _)) _] [] _,
       .Return (some (.List [.Name wh3 _, .IfExp (.Compare (.Name wh4 _) [.In] [.List e2 _] _) (.Constant (.str z) _ _) (.Call (.Name r2 _) [.Attribute (.Name n3 _) gv _] [] _) _] _)) _] _] [] [] _,
     .Return (some (.List [.Constant (.str bk) _ _, .Call (.Name r3 _) [.Name back1 _] [] _] _)) _] =>
    match txtsB e1, txtsB e2 with
    | some w1, some w2 => if n1 = n ∧ n2 = n ∧ n3 = n ∧ wh1 = wh ∧ wh2 = wh ∧ wh3 = wh ∧ wh4 = wh ∧ r1 = "repr" ∧ r2 = "repr" ∧ r3 = "repr" ∧ ix = "index" ∧ gv = "given" ∧ z = "" ∧ bk = "back" ∧ back1 = back ∧ w1.length ≤ 1000 ∧ w2.length ≤ 1000 then some ⟨act, back, n, wh, x1, x2, x3, wd, w1, w2⟩ else none
    | _, _ => none
  | _ => none
/-- both defs' texts -/
structure OD where
  x : Str
  pg : Arguments
  bg : List Stmt
  sg : Scope
  on : ON
  wq : Str
  wn : Str
  wpg : Arguments
  wbg : List Stmt
  wsg : Scope
  we : Str
  wfl : Str
  wwd : Str
  ns : List Str
/-- the defs that tell outcomes: their numbers, the second one's names, the classes that it asks for, the classes that are raised, with their words -/
structure OutD where
  f : Nat
  w : Nat
  we : Str
  wfl : Str
  wwd : Str
  ns : List Str
  xs : List (Nat × Str)
/-- a law's module, as data -/
structure Md where
  nm : Nat → Str
  P : List (Nat × MF)
  pth : Nat → Pth
  src : Nat → Stmt
  qu : Nat → Str
  cs : List (Nat × D)
  cd : List CD
  xd : List XD := []
  nb : List Nat := []
  out : Option OutD := none
  mks : List (Nat × Str) := []
def noON : ON := ⟨Str.empty, Str.empty, Str.empty, Str.empty, Str.empty, Str.empty, Str.empty, Str.empty, [], []⟩
def blsV : List V → Option (List Bool)
  | [] => some []
  | .bl b :: r => (blsV r).map (b :: ·)
  | _ :: _ => none
def strsV : List V → Option (List Str)
  | [] => some []
  | .str z :: r => (strsV r).map (z :: ·)
  | _ :: _ => none
theorem blsV_ok : ∀ {vs : List V} {bs : List Bool}, blsV vs = some bs → vs = bs.map V.bl
  | [], _, h => by cases h; rfl
  | v :: r, bs, h => by
    cases v with
    | bl b =>
      obtain ⟨q, e, rfl⟩ := Option.map_eq_some_iff.mp h
      rw [blsV_ok e]; rfl
    | _ => cases h
theorem strsV_ok : ∀ {vs : List V} {bs : List Str}, strsV vs = some bs → vs = bs.map V.str
  | [], _, h => by cases h; rfl
  | v :: r, bs, h => by
    cases v with
    | str b =>
      obtain ⟨q, e, rfl⟩ := Option.map_eq_some_iff.mp h
      rw [strsV_ok e]; rfl
    | _ => cases h
def defName (s : Stmt) : Str := match s with
  | .FunctionDef n _ _ _ _ _ _ _ _ _ => n
  | _ => Str.empty
def allBi : List Bi := [.len, .abs, .int, .str, .repr, .all, .any, .sum, .max, .min, .tuple, .list, .divmod, .sorted, .isinst, .range]
def freeL : List Str := allBi.map nBi ++ [Str.ofString "zip", Str.ofString "enumerate", Str.ofString "bool", Str.ofString "dict"]
def faC (x : Str) : D → He.Fa
  | .int i => .int x i
  | .str z => .str x z
  | _ => .glo x
def cstOk : D → Bool
  | .int _ => true
  | .str _ => true
  | _ => false
namespace Md
variable (M : Md)
def cdO (c : Nat) : Option CD := M.cd.find? fun d => d.c == c
def xdO (c : Nat) : Option XD := M.xd.find? fun d => d.c == c
def gl : GL where
  g x := M.cs.lookup x
  m c m := (M.cdO c).bind fun d => d.ms.lookup m
  p c m := (M.cdO c).bind fun d => d.ps.lookup m
  c c m := (M.cdO c).bind fun d => d.cs.lookup m
  fl c := match M.cdO c with
    | some d => d.fl
    | none => match M.xdO c with
      | some x => [x.f]
      | none => []
  b c := M.nb.contains c
  w c := match M.out with
    | some o => o.xs.lookup c
    | none => none
  mkr N := (M.mks.find? fun p => match M.P.lookup p.1 with
    | some m => decide (m.names = N)
    | none => false).map (·.2)
  o f := match M.out with
    | some o => decide (o.f = f)
    | none => false
def od (o : OutD) : OD := ⟨M.nm o.f, defArgs (M.src o.f), defBody (M.src o.f), defScope (M.src o.f), (outB (defBody (M.src o.f))).getD noON, M.qu o.w, defName (M.src o.w), defArgs (M.src o.w), defBody (M.src o.w), defScope (M.src o.w), o.we, o.wfl, o.wwd, o.ns⟩
def fasO : List He.Fa := match M.out with
  | some o => .glo (M.nm o.f) :: .glo (M.od o).on.wd :: .glo (M.od o).on.x1 :: .glo (M.od o).on.x2 :: .glo (M.od o).on.x3 :: o.ns.map .glo
  | none => []
def defP (f : Nat) : DefP := ⟨M.pth f, defName (M.src f), M.qu f, defArgs (M.src f), defBody (M.src f), defScope (M.src f)⟩
def fnsO : List DefP := match M.out with
  | some o => [M.defP o.f, M.defP o.w]
  | none => []
def fas : List He.Fa := freeL.map .free ++ (M.cs.map (fun c => faC (M.nm c.1) c.2) ++ M.P.map fun p => match p.2.kind with
  | .fn => .glo (M.nm p.1)
  | _ => .free "zip")
def fns : List DefP := (M.P.map fun p => M.defP p.1) ++ M.fnsO
def lk : Lk := ⟨M.nm, M.pth, M.fas ++ M.fasO, M.cd, M.xd, M.nb, M.fns, M.mks.map (·.1), match M.out with
  | some o => some ⟨(M.od o).on.x1, (M.od o).on.x2, (M.od o).on.x3, o.ns, o.xs.map (·.1)⟩
  | none => none⟩
end Md
end Mn
namespace Mn
open PySem PySem.Spec PyProof.Rows L2 RZ
def m_count : MF := ⟨["data", "low", "high"], 3, [.expr (.call 8 [.var 0]), .expr (.call 9 [.var 1, .var 2]), .ret (.call 19 [.var 0, .var 1, .var 2])], .fn⟩
def m_total : MF := ⟨["data", "low", "high", "triple", "top", "bottom"], 3, [.expr (.call 8 [.var 0]), .expr (.call 9 [.var 1, .var 2]), .asg (.tup [.name 4, .name 5]) (.tup [.cst (.int 0), .cst (.int 1)]), .forr (.name 3) (.tup (.var 0)) [.ife (.tru (.call 10 [.var 3, .var 1, .var 2])) [.asg (.tup [.name 4, .name 5]) (.call 11 [.bin .Add (.bin .Mult (.var 4) (.sub (.var 3) (.cst (.int 1)))) (.bin .Mult (.bin .Mult (.sub (.var 3) (.cst (.int 0))) (.sub (.var 3) (.cst (.int 2)))) (.var 5)), .bin .Mult (.var 5) (.sub (.var 3) (.cst (.int 1)))])] []], .ret (.tup [.var 4, .var 5])], .fn⟩
def m__law_right : MF := ⟨["_law_source_here", "_law_lap", "_law_value_here", "_law_lower", "_law_upper", "_law_due_here", "_law_page"], 1, [.forr (.name 1) (.rng1 (.cst (.int 4))) [.set 2 (.val (.call 99 [.var 0])), .set 3 (.val (.call 22 [.var 0, .lst [.cst (.int 0), .cst (.int 0), .cst (.int 3), .bin .Pow (.cst (.int 10)) (.cst (.int 30)), .neg (.cst (.int 1)), .cst (.bl true), .cst .non, .cst (.str "0")]])), .set 4 (.val (.call 22 [.var 0, .lst [.cst (.str "open"), .cst (.str "open"), .cst (.int 9), .bin .Pow (.cst (.int 10)) (.cst (.int 38)), .cst (.int 0), .cst (.int 3), .cst (.str "Open"), .cst .non, .cst (.bl false), .tup [.cst (.int 9)]]])), .set 5 (.val (.call 96 [.var 2, .var 3, .var 4])), .ife (.not (.tru (.call 100 [.outc 86 (.call 0 [.var 2, .var 3, .var 4]), .var 5]))) [.ret (.cst (.bl false))] [], .ife (.not (.tru (.call 100 [.outc 86 (.callK 1 [] [2, 1, 0] [.var 4, .var 3, .var 2]), .var 5]))) [.ret (.cst (.bl false))] [], .set 6 (.val (.call 22 [.var 0, .lst [.call 27 [.tup [.cst (.str "0 9 is 2")]], .call 27 [.tup [.cst (.str "0 9 is 2")]], .cst .non, .tup [.cst (.str "0 9 is 2")], .cst (.str "0 9 is 2")]])), .set 5 (.val (.ife (.not (.tru (.blt .isinst [.var 6, .glob 27]))) (.lst [.cst (.str "table"), .blt .repr [.var 6]]) (.call 96 [.var 2, .cst (.int 0), .cst (.str "open")]))), .ife (.not (.tru (.call 100 [.outc 86 (.call 65 [.var 6, .var 2]), .var 5]))) [.ret (.cst (.bl false))] [], .ife (.not (.tru (.call 100 [.outc 86 (.callK 65 [] [1, 0] [.var 2, .var 6]), .var 5]))) [.ret (.cst (.bl false))] []], .ret (.cst (.bl true))], .fn⟩
def m__law_source : MF := ⟨["_law_script", "_law_turn", "_law_state", "_law_cell", "_law_own"], 2, [.set 2 (.val (.bin .Add (.bin .Mult (.cst (.int 30011)) (.var 1)) (.cst (.int 7)))), .forr (.name 3) (.lst (.sl (.var 0) none (some (.cst (.int 7))))) [.set 2 (.val (.bin .Mod (.blt .int [.bin .Add (.bin .Mult (.var 2) (.cst (.int 69061))) (.var 3)]) (.cst (.int 2147483563))))], .set 4 (.val (.ife (.cmp .Lt (.var 1) (.blt .len [.var 0])) (.sub (.var 0) (.var 1)) (.cst (.int 0)))), .set 2 (.val (.bin .Mod (.blt .int [.bin .Add (.bin .Add (.bin .Mult (.var 2) (.cst (.int 40009))) (.bin .Mult (.var 4) (.cst (.int 31)))) (.var 1)]) (.cst (.int 2147483563)))), .ret (.ref [.var 2, .ife (.cmp .GtE (.blt .abs [.var 4]) (.bin .Pow (.cst (.int 10)) (.cst (.int 18)))) (.blt .abs [.var 4]) (.cst (.int 0)), .cst (.int 0)])], .fn⟩
def m__law_things : MF := ⟨["_law_source_here", "_law_turn", "_law_found", "_law_base", "_law_bottom", "_law_top", "_law_part", "_law_many"], 1, [.par [2, 3] [.lst [], .val (.cst (.int 0))], .forr (.name 1) (.rng1 (.call 21 [.var 0, .cst (.int 9)])) [.set 3 (.val (.bin .Add (.bin .Add (.var 3) (.call 21 [.var 0, .cst (.int 3)])) (.bin .Mult (.call 22 [.var 0, .lst [.cst (.int 1), .cst (.int 1), .cst (.int 5), .bin .Pow (.cst (.int 10)) (.cst (.int 6)), .bin .Pow (.cst (.int 10)) (.cst (.int 29))]]) (.blt .int [.cmp .Gt (.var 1) (.cst (.int 0))])))), .set 4 (.val (.call 22 [.var 0, .lst [.cst (.int 1), .cst (.int 1), .cst (.int 2), .cst (.int 3), .cst (.int 4), .cst (.int 7), .cst (.int 12), .cst (.int 60)]])), .set 5 (.val (.bin .Add (.bin .Mult (.var 3) (.var 4)) (.call 21 [.var 0, .var 4]))), .set 6 (.val (.call 20 [.var 5, .var 4])), .set 7 (.val (.call 22 [.var 0, .lst [.cst (.int 1), .cst (.int 2), .bin .Add (.cst (.int 1)) (.call 21 [.var 0, .cst (.int 9)]), .bin .Add (.cst (.int 1)) (.call 21 [.var 0, .bin .Pow (.cst (.int 10)) (.cst (.int 6))]), .bin .Pow (.cst (.int 10)) (.cst (.int 30))]])), .append 2 (.tup [.bin .FloorDiv (.var 5) (.var 6), .bin .FloorDiv (.var 4) (.var 6), .var 7])], .freeze 2, .ret (.var 2)], .fn⟩
def m_check_data : MF := ⟨["value"], 1, [.ife (.or (.not (.tru (.call 16 [.var 0]))) (.cmp .Gt (.blt .len [.var 0]) (.glob 17))) [.raise 101 101 [.var 0]] []], .fn⟩
def m_check_stretch : MF := ⟨["low", "high"], 2, [.ife (.not (.tru (.call 13 [.var 0]))) [.raise 103 103 [.var 0]] [], .ife (.not (.tru (.call 14 [.var 1, .var 0]))) [.raise 103 103 [.var 1]] []], .fn⟩
def m_lies_in : MF := ⟨["triple", "low", "high"], 3, [.ife (.cmp .Lt (.sub (.var 0) (.cst (.int 0))) (.bin .Mult (.var 1) (.sub (.var 0) (.cst (.int 1))))) [.ret (.cst (.bl false))] [], .ret (.or (.cmp .Eq (.var 2) (.glob 12)) (.cmp .Lt (.sub (.var 0) (.cst (.int 0))) (.bin .Mult (.var 2) (.sub (.var 0) (.cst (.int 1))))))], .fn⟩
def m_lowest_terms : MF := ⟨["top", "bottom", "one", "other"], 2, [.par [2, 3] [.val (.blt .abs [.var 0]), .val (.var 1)], .whil (.cmp .Gt (.var 3) (.cst (.int 0))) [.par [2, 3] [.val (.var 3), .val (.bin .Mod (.var 2) (.var 3))]], .ret (.tup [.bin .FloorDiv (.var 0) (.var 2), .bin .FloorDiv (.var 1) (.var 2)])], .fn⟩
def m_is_count : MF := ⟨["value"], 1, [.ret (.and (.call 15 [.var 0]) (.cmp .GtE (.var 0) (.cst (.int 0))))], .fn⟩
def m_is_high : MF := ⟨["value", "low"], 2, [.ife (.tru (.blt .isinst [.var 0, .cst (.ty "str")])) [.ret (.cmp .Eq (.var 0) (.glob 12))] [], .ret (.and (.call 15 [.var 0]) (.cmp .Gt (.var 0) (.var 1)))], .fn⟩
def m_is_integer : MF := ⟨["value"], 1, [.ret (.and (.blt .isinst [.var 0, .cst (.ty "int")]) (.not (.blt .isinst [.var 0, .cst (.ty "bool")])))], .fn⟩
def m_is_data : MF := ⟨["value", "one", "other", "part"], 1, [.ife (.or (.not (.tru (.blt .isinst [.var 0, .cst (.ty "tuple")]))) (.not (.tru (.blt .all [.lc [3] (.name 3) (.tup (.var 0)) [] (.call 18 [.var 3])])))) [.ret (.cst (.bl false))] [], .ret (.blt .all [.lc [1, 2] (.tup [.name 1, .name 2]) (.zip (.var 0) (.sl (.var 0) (some (.cst (.int 1))) none)) [] (.cmp .Lt (.bin .Mult (.sub (.var 1) (.cst (.int 0))) (.sub (.var 2) (.cst (.int 1)))) (.bin .Mult (.sub (.var 2) (.cst (.int 0))) (.sub (.var 1) (.cst (.int 1)))))])], .fn⟩
def m_is_triple : MF := ⟨["value", "part"], 1, [.ife (.or (.not (.tru (.blt .isinst [.var 0, .cst (.ty "tuple")]))) (.or (.cmp .NotEq (.blt .len [.var 0]) (.cst (.int 3))) (.not (.tru (.blt .all [.lc [1] (.name 1) (.tup (.var 0)) [] (.call 15 [.var 1])]))))) [.ret (.cst (.bl false))] [], .ife (.or (.cmp .Lt (.sub (.var 0) (.cst (.int 0))) (.cst (.int 0))) (.or (.cmp .Lt (.sub (.var 0) (.cst (.int 1))) (.cst (.int 1))) (.cmp .Lt (.sub (.var 0) (.cst (.int 2))) (.cst (.int 1))))) [.ret (.cst (.bl false))] [], .ret (.cmp .Eq (.call 11 [.sub (.var 0) (.cst (.int 0)), .sub (.var 0) (.cst (.int 1))]) (.sl (.var 0) none (some (.cst (.int 2)))))], .fn⟩
def m_count_in : MF := ⟨["data", "low", "high", "triple"], 3, [.ret (.blt .sum [.lc [3] (.name 3) (.tup (.var 0)) [.tru (.call 10 [.var 3, .var 1, .var 2])] (.sub (.var 3) (.cst (.int 2)))])], .fn⟩
def m__law_gcd : MF := ⟨["_law_one", "_law_two", "_law_turn"], 2, [.forr (.name 2) (.rng1 (.cst (.int 2000))) [.ife (.cmp .Eq (.var 1) (.cst (.int 0))) [.brk] [], .par [0, 1] [.val (.var 1), .val (.bin .Mod (.blt .int [.var 0]) (.var 1))]], .ret (.var 0)], .fn⟩
def m__law_below : MF := ⟨["_law_source_here", "_law_many", "_law_state", "_law_figure"], 2, [.ife (.cmp .Gt (.sub (.var 0) (.cst (.int 1))) (.cst (.int 0))) [.asg (.tup [.sub (.var 0) (.cst (.int 1)), .name 3]) (.blt .divmod [.sub (.var 0) (.cst (.int 1)), .var 1]), .ret (.var 3)] [], .asg (.sub (.var 0) (.cst (.int 2))) (.bin .Add (.sub (.var 0) (.cst (.int 2))) (.cst (.int 1))), .set 2 (.val (.bin .Mod (.blt .int [.bin .Add (.bin .Add (.bin .Mult (.sub (.var 0) (.cst (.int 0))) (.cst (.int 48611))) (.bin .Mult (.sub (.var 0) (.cst (.int 2))) (.cst (.int 30253)))) (.cst (.int 11))]) (.cst (.int 2147483587)))), .asg (.sub (.var 0) (.cst (.int 0))) (.bin .Mod (.blt .int [.bin .Add (.bin .Mult (.var 2) (.bin .Add (.cst (.int 20011)) (.bin .Mod (.blt .int [.var 2]) (.cst (.int 5021))))) (.sub (.var 0) (.cst (.int 2)))]) (.cst (.int 2147483549))), .ret (.bin .Mod (.blt .int [.bin .FloorDiv (.sub (.var 0) (.cst (.int 0))) (.cst (.int 512))]) (.var 1))], .fn⟩
def m__law_choice : MF := ⟨["_law_source_here", "_law_things_here"], 2, [.ret (.sub (.var 1) (.call 21 [.var 0, .blt .len [.var 1]]))], .fn⟩
def m_law : MF := ⟨["_law_script", "_law_many", "_law_more", "_law_k", "_law_turn"], 1, [.set 1 (.val (.blt .tuple [.lc [3] (.name 3) (.rng1 (.cst (.int 1000))) [] (.tup [.var 3, .cst (.int 1), .cst (.int 1)])])), .ife (.or (.cmp .NotEq (.call 0 [.var 1, .cst (.int 0), .cst (.str "open")]) (.cst (.int 1000))) (.cmp .NotEq (.call 1 [.var 1, .cst (.int 0), .cst (.int 3)]) (.tup [.cst (.int 3), .cst (.int 1)]))) [.ret (.cst (.bl false))] [], .ife (.cmp .IsNot (.call 65 [.call 27 [.tup [.cst (.str "0 open is 1000")]], .var 1]) (.cst (.bl true))) [.ret (.cst (.bl false))] [], .set 2 (.val (.bin .Add (.var 1) (.tup [.tup [.cst (.int 1000), .cst (.int 1), .cst (.int 1)]]))), .ife (.cmp .NotEq (.outc 86 (.call 0 [.var 2, .cst (.int 0), .cst (.int 9)])) (.lst [.cst (.str "data"), .blt .repr [.var 2]])) [.ret (.cst (.bl false))] [], .ife (.cmp .NotEq (.outc 86 (.call 65 [.call 27 [.tup [.cst (.str "0 9 is 2")]], .var 2])) (.lst [.cst (.str "data"), .blt .repr [.var 2]])) [.ret (.cst (.bl false))] [], .ret (.blt .all [.lc [4] (.name 4) (.rng1 (.blt .max [.cst (.int 2), .blt .min [.blt .len [.var 0], .cst (.int 5)]])) [] (.call 2 [.call 3 [.var 0, .var 4]])])], .fn⟩
def m_Table : MF := ⟨["self", "tellings", "line"], 2, [.expr (.call 38 [.var 1]), .setO 32 (.var 1), .setO 34 (.blt .tuple [.lc [2] (.name 2) (.tup (.var 1)) [] (.call 39 [.var 2])])], (.frz 27)⟩
def m_check_tellings : MF := ⟨["value", "at", "line"], 1, [.ife (.or (.not (.tru (.blt .isinst [.var 0, .cst (.ty "tuple")]))) (.cmp .Eq (.blt .len [.var 0]) (.cst (.int 0)))) [.raise 88 88 [.cst .non]] [], .forr (.tup [.name 1, .name 2]) (.enumT (.var 0)) [.ife (.or (.cmp .Eq (.var 1) (.glob 49)) (.cmp .Is (.call 39 [.var 2]) (.cst .non))) [.raise 88 88 [.var 1]] []]], .fn⟩
def m_telling_of : MF := ⟨["value", "words", "stretch", "bounds"], 1, [.ife (.not (.tru (.blt .isinst [.var 0, .cst (.ty "str")]))) [.ret (.cst .non)] [], .set 1 (.val (.meth .split (.var 0) [.cst (.str " ")])), .ife (.cmp .Lt (.blt .len [.var 1]) (.cst (.int 4))) [.ret (.cst .non)] [], .par [2, 3] [.val (.call 40 [.sl (.var 1) none (some (.cst (.int 2)))]), .val (.call 41 [.sl (.var 1) (some (.cst (.int 2))) none])], .ret (.ife (.or (.cmp .Is (.var 2) (.cst .non)) (.cmp .Is (.var 3) (.cst .non))) (.cst .non) (.callS 42 [true, true] [.var 2, .var 3]))], .fn⟩
def m_written_stretch : MF := ⟨["words", "low", "high"], 1, [.set 1 (.val (.call 45 [.sub (.var 0) (.cst (.int 0))])), .set 2 (.val (.ife (.cmp .Eq (.sub (.var 0) (.cst (.int 1))) (.glob 12)) (.glob 12) (.call 45 [.sub (.var 0) (.cst (.int 1))]))), .ret (.ife (.and (.cmp .IsNot (.var 1) (.cst .non)) (.and (.cmp .IsNot (.var 2) (.cst .non)) (.tru (.call 14 [.var 2, .var 1])))) (.tup [.var 1, .var 2]) (.cst .non))], .fn⟩
def m_written_bounds : MF := ⟨["words", "number", "first", "second"], 1, [.ife (.cmp .Eq (.blt .len [.var 0]) (.cst (.int 2))) [.set 1 (.val (.call 45 [.sub (.var 0) (.cst (.int 1))])), .ret (.ife (.cmp .Is (.var 1) (.cst .non)) (.cst .non) (.call 46 [.sub (.var 0) (.cst (.int 0)), .var 1]))] [], .ife (.cmp .NotEq (.blt .len [.var 0]) (.cst (.int 4))) [.ret (.cst .non)] [], .par [2, 3] [.val (.call 45 [.sub (.var 0) (.cst (.int 1))]), .val (.call 45 [.sub (.var 0) (.cst (.int 3))])], .ife (.or (.cmp .Is (.var 2) (.cst .non)) (.cmp .Is (.var 3) (.cst .non))) [.ret (.cst .non)] [], .ife (.and (.cmp .Eq (.sub (.var 0) (.cst (.int 0))) (.cst (.str "from"))) (.cmp .Eq (.sub (.var 0) (.cst (.int 2))) (.cst (.str "to")))) [.ret (.ife (.cmp .LtE (.var 2) (.var 3)) (.tup [.var 2, .var 3]) (.cst .non))] [], .ife (.or (.cmp .NotEq (.sub (.var 0) (.cst (.int 0))) (.cst (.str "near"))) (.or (.cmp .NotEq (.sub (.var 0) (.cst (.int 2))) (.cst (.str "by"))) (.or (.cmp .Eq (.var 3) (.cst (.int 0))) (.cmp .NotEq (.bin .Mod (.var 2) (.var 3)) (.cst (.int 0)))))) [.ret (.cst .non)] [], .ret (.call 47 [.var 2, .var 3])], .fn⟩
def m_Telling : MF := ⟨["self", "low", "high", "least", "most"], 5, [.setO 43 (.var 1), .setO 44 (.var 2), .setO 35 (.var 3), .setO 36 (.var 4)], (.frz 42)⟩
def m_written_count : MF := ⟨["word", "sign"], 1, [.ife (.or (.cmp .Eq (.var 0) (.cst (.str ""))) (.or (.cmp .Gt (.blt .len [.var 0]) (.cst (.int 4000))) (.not (.tru (.blt .all [.lc [1] (.name 1) (.str (.var 0)) [] (.cmp .In (.var 1) (.glob 48))]))))) [.ret (.cst .non)] [], .ret (.ife (.cmp .Eq (.blt .str [.blt .int [.var 0]]) (.var 0)) (.blt .int [.var 0]) (.cst .non))], .fn⟩
def m_one_number : MF := ⟨["word", "number"], 2, [.ife (.cmp .Eq (.var 0) (.cst (.str "is"))) [.ret (.tup [.var 1, .var 1])] [], .ife (.cmp .Eq (.var 0) (.cst (.str "least"))) [.ret (.tup [.var 1, .cst .non])] [], .ife (.cmp .Eq (.var 0) (.cst (.str "most"))) [.ret (.tup [.cst (.int 0), .var 1])] [], .ret (.ife (.and (.cmp .Eq (.var 0) (.cst (.str "under"))) (.cmp .Gt (.var 1) (.cst (.int 0)))) (.tup [.cst (.int 0), .bin .Sub (.var 1) (.cst (.int 1))]) (.cst .non))], .fn⟩
def m_near_bounds : MF := ⟨["count", "step"], 2, [.ret (.tup [.blt .max [.cst (.int 0), .bin .Sub (.var 0) (.bin .FloorDiv (.var 1) (.cst (.int 2)))], .bin .Sub (.bin .Add (.var 0) (.bin .FloorDiv (.bin .Add (.var 1) (.cst (.int 1))) (.cst (.int 2)))) (.cst (.int 1))])], .fn⟩
def m_fits : MF := ⟨["table", "data"], 2, [.expr (.call 66 [.var 0]), .expr (.call 8 [.var 1]), .ret (.call 67 [.var 0, .var 1])], .fn⟩
def m_check_table : MF := ⟨["value"], 1, [.ife (.not (.tru (.blt .isinst [.var 0, .glob 27]))) [.raise 102 102 [.var 0]] []], .fn⟩
def m_does_fit : MF := ⟨["table", "data", "telling", "found"], 2, [.forr (.name 2) (.tup (.fld (.var 0) 34)) [.set 3 (.val (.call 19 [.var 1, .fld (.var 2) 43, .fld (.var 2) 44])), .ife (.or (.cmp .Lt (.var 3) (.fld (.var 2) 35)) (.and (.cmp .IsNot (.fld (.var 2) 36) (.cst .non)) (.cmp .Gt (.var 3) (.fld (.var 2) 36)))) [.ret (.cst (.bl false))] []], .ret (.cst (.bl true))], .fn⟩
def m__law_due : MF := ⟨["_law_value_here", "_law_lower", "_law_upper"], 3, [.ife (.not (.tru (.call 104 [.var 0]))) [.ret (.lst [.cst (.str "data"), .blt .repr [.var 0]])] [], .ife (.not (.tru (.call 105 [.var 1, .cst (.int 0)]))) [.ret (.lst [.cst (.str "border"), .blt .repr [.var 1]])] [], .ret (.ife (.tru (.call 106 [.var 2, .var 1])) (.lst []) (.lst [.cst (.str "border"), .blt .repr [.var 2]]))], .fn⟩
def m__law_thing : MF := ⟨["_law_source_here", "_law_menu"], 1, [.set 1 (.val (.lst [.cst .non, .cst (.bl true), .cst (.bl false), .cst (.int 0), .cst (.int 1), .neg (.cst (.int 1)), .bin .Pow (.cst (.int 10)) (.cst (.int 39)), .cst (.str ""), .cst (.str "a"), .cst (.str "open"), .cst (.str "0 9 is 2"), .cst (.str "0 9 is 2\n"), .tup [], .tup [.cst (.int 0)], .lst [], .lst [.cst (.int 1)], .dct []])), .set 1 (.val (.bin .Add (.var 1) (.lst [.dct [.cst (.str "a"), .cst (.int 0)], .tup [.cst (.str "0 9 is 2")], .lst [.cst (.str "0 9 is 2")], .tup [.cst .non, .lst [.cst (.int 2)]], .tup [.tup [.cst (.int 1), .cst (.int 1), .cst (.int 1)]], .tup [.cst (.str "possible")], .tup [.cst (.str "a"), .cst (.str "b")], .tup [.cst (.int 1), .cst (.int 2)]]))), .ret (.call 22 [.var 0, .var 1])], .fn⟩
def m__law_value : MF := ⟨["_law_source_here", "_law_at", "_law_some", "_law_form"], 1, [.par [2, 3] [.val (.call 4 [.var 0]), .val (.call 21 [.var 0, .cst (.int 9)])], .set 1 (.val (.call 21 [.var 0, .bin .Add (.blt .len [.var 2]) (.cst (.int 1))])), .ife (.cmp .Eq (.var 3) (.cst (.int 0))) [.ret (.call 98 [.var 0])] [], .ife (.cmp .Eq (.var 3) (.cst (.int 1))) [.ret (.blt .list [.var 2])] [], .ife (.cmp .Eq (.var 3) (.cst (.int 2))) [.ret (.blt .tuple [.rev (.var 2)])] [], .ife (.cmp .Eq (.var 3) (.cst (.int 3))) [.ret (.blt .tuple [.bin .Add (.sl (.var 2) none (some (.var 1))) (.sl (.var 2) (some (.blt .max [.cst (.int 0), .bin .Sub (.var 1) (.cst (.int 1))])) none)])] [], .ife (.and (.cmp .Lt (.var 3) (.cst (.int 7))) (.cmp .Lt (.var 1) (.blt .len [.var 2]))) [.ret (.blt .tuple [.bin .Add (.bin .Add (.sl (.var 2) none (some (.var 1))) (.lst [.call 107 [.var 0, .sub (.var 2) (.var 1)]])) (.sl (.var 2) (some (.bin .Add (.var 1) (.cst (.int 1)))) none)])] [], .ret (.blt .tuple [.var 2])], .fn⟩
def m__law_meets : MF := ⟨["_law_told", "_law_due_here"], 2, [.ret (.ife (.cmp .Eq (.var 1) (.lst [])) (.cmp .Eq (.sub (.var 0) (.cst (.int 0))) (.cst (.str "back"))) (.cmp .Eq (.var 0) (.var 1)))], .fn⟩
def m__law_is_data : MF := ⟨["_law_value_here", "_law_at", "_law_one", "_law_part"], 1, [.ife (.not (.tru (.blt .isinst [.var 0, .cst (.ty "tuple")]))) [.ret (.cst (.bl false))] [], .forr (.name 1) (.rng1 (.blt .len [.var 0])) [.set 2 (.val (.sub (.var 0) (.var 1))), .ife (.or (.not (.tru (.blt .isinst [.var 2, .cst (.ty "tuple")]))) (.cmp .NotEq (.blt .len [.var 2]) (.cst (.int 3)))) [.ret (.cst (.bl false))] [], .ife (.not (.tru (.blt .all [.lc [3] (.name 3) (.tup (.var 2)) [] (.and (.blt .isinst [.var 3, .cst (.ty "int")]) (.not (.blt .isinst [.var 3, .cst (.ty "bool")])))]))) [.ret (.cst (.bl false))] [], .ife (.or (.cmp .Lt (.sub (.var 2) (.cst (.int 0))) (.cst (.int 0))) (.or (.cmp .Lt (.sub (.var 2) (.cst (.int 1))) (.cst (.int 1))) (.or (.cmp .Lt (.sub (.var 2) (.cst (.int 2))) (.cst (.int 1))) (.cmp .NotEq (.call 20 [.sub (.var 2) (.cst (.int 0)), .sub (.var 2) (.cst (.int 1))]) (.cst (.int 1)))))) [.ret (.cst (.bl false))] [], .ife (.and (.cmp .Gt (.var 1) (.cst (.int 0))) (.cmp .GtE (.bin .Mult (.sub (.sub (.var 0) (.bin .Sub (.var 1) (.cst (.int 1)))) (.cst (.int 0))) (.sub (.var 2) (.cst (.int 1)))) (.bin .Mult (.sub (.var 2) (.cst (.int 0))) (.sub (.sub (.var 0) (.bin .Sub (.var 1) (.cst (.int 1)))) (.cst (.int 1)))))) [.ret (.cst (.bl false))] []], .ret (.cst (.bl true))], .fn⟩
def m__law_is_whole : MF := ⟨["_law_value_here", "_law_least"], 2, [.ret (.and (.blt .isinst [.var 0, .cst (.ty "int")]) (.and (.not (.blt .isinst [.var 0, .cst (.ty "bool")])) (.cmp .GtE (.var 0) (.var 1))))], .fn⟩
def m__law_is_high : MF := ⟨["_law_value_here", "_law_lower"], 2, [.ret (.ife (.tru (.blt .isinst [.var 0, .cst (.ty "str")])) (.cmp .Eq (.var 0) (.cst (.str "open"))) (.call 105 [.var 0, .bin .Add (.var 1) (.cst (.int 1))]))], .fn⟩
def m__law_odd_triple : MF := ⟨["_law_source_here", "_law_one", "_law_form", "_law_at", "_law_odd"], 2, [.par [2, 3] [.val (.call 21 [.var 0, .cst (.int 6)]), .val (.call 21 [.var 0, .cst (.int 3)])], .ife (.cmp .Lt (.var 2) (.cst (.int 2))) [.set 4 (.val (.call 22 [.var 0, .lst [.cst (.int 0), .neg (.cst (.int 1)), .cst (.bl true), .cst .non, .cst (.str "1"), .tup [.cst (.int 1)], .bin .Pow (.cst (.int 10)) (.cst (.int 39)), .cst (.int 2), .lst [.cst (.int 1)]]])), .ret (.bin .Add (.bin .Add (.sl (.var 1) none (some (.var 3))) (.tup [.var 4])) (.sl (.var 1) (some (.bin .Add (.var 3) (.cst (.int 1)))) none))] [], .ife (.cmp .Eq (.var 2) (.cst (.int 2))) [.ret (.tup [.bin .Mult (.sub (.var 1) (.cst (.int 0))) (.cst (.int 2)), .bin .Mult (.sub (.var 1) (.cst (.int 1))) (.cst (.int 2)), .sub (.var 1) (.cst (.int 2))])] [], .ret (.call 22 [.var 0, .lst [.sl (.var 1) none (some (.cst (.int 2))), .bin .Add (.var 1) (.tup [.cst (.int 1)]), .blt .list [.var 1], .tup [.var 1], .cst .non, .cst (.str "1 1 1"), .tup [.sub (.var 1) (.cst (.int 1)), .sub (.var 1) (.cst (.int 0)), .sub (.var 1) (.cst (.int 2))], .tup []]])], .fn⟩
def m_InvalidTellings : MF := ⟨["self", "index"], 2, [], (.exc 88)⟩
def m_InvalidData : MF := ⟨["self", "given"], 2, [], (.exc 101)⟩
def m_NotTable : MF := ⟨["self", "given"], 2, [], (.exc 102)⟩
def m_InvalidBorder : MF := ⟨["self", "given"], 2, [], (.exc 103)⟩
def nmL : List (Nat × Str) := ([(0, "count"), (1, "total"), (2, "_law_right"), (3, "_law_source"), (4, "_law_things"), (8, "check_data"), (9, "check_stretch"), (10, "lies_in"), (11, "lowest_terms"), (13, "is_count"), (14, "is_high"), (15, "is_integer"), (16, "is_data"), (18, "is_triple"), (19, "count_in"), (20, "_law_gcd"), (21, "_law_below"), (22, "_law_choice"), (23, "law"), (27, "Table")] : List (Nat × Str)) ++ ([(38, "check_tellings"), (39, "telling_of"), (40, "written_stretch"), (41, "written_bounds"), (42, "Telling"), (45, "written_count"), (46, "one_number"), (47, "near_bounds"), (65, "fits"), (66, "check_table"), (67, "does_fit"), (96, "_law_due"), (98, "_law_thing"), (99, "_law_value"), (100, "_law_meets"), (104, "_law_is_data"), (105, "_law_is_whole"), (106, "_law_is_high"), (107, "_law_odd_triple"), (88, "InvalidTellings")] : List (Nat × Str)) ++ ([(101, "InvalidData"), (102, "NotTable"), (103, "InvalidBorder"), (27, "Table"), (17, "MOST_TRIPLES"), (12, "OPEN"), (49, "MOST_TELLINGS"), (48, "DIGITS"), (32, "shape"), (34, "told"), (43, "low"), (44, "high"), (35, "least"), (36, "most"), (93, "index"), (92, "given"), (86, "_law_outcome"), (94, "_law_word")] : List (Nat × Str))
def nm (x : Nat) : Str := (nmL.lookup x).getD Str.empty
def P : List (Nat × MF) := ([(0, m_count), (1, m_total), (2, m__law_right), (3, m__law_source), (4, m__law_things), (8, m_check_data), (9, m_check_stretch), (10, m_lies_in), (11, m_lowest_terms), (13, m_is_count), (14, m_is_high), (15, m_is_integer), (16, m_is_data), (18, m_is_triple), (19, m_count_in), (20, m__law_gcd), (21, m__law_below), (22, m__law_choice), (23, m_law), (27, m_Table)] : List (Nat × MF)) ++ ([(38, m_check_tellings), (39, m_telling_of), (40, m_written_stretch), (41, m_written_bounds), (42, m_Telling), (45, m_written_count), (46, m_one_number), (47, m_near_bounds), (65, m_fits), (66, m_check_table), (67, m_does_fit), (96, m__law_due), (98, m__law_thing), (99, m__law_value), (100, m__law_meets), (104, m__law_is_data), (105, m__law_is_whole), (106, m__law_is_high), (107, m__law_odd_triple), (88, m_InvalidTellings)] : List (Nat × MF)) ++ ([(101, m_InvalidData), (102, m_NotTable), (103, m_InvalidBorder)] : List (Nat × MF))
def pthL : List (Nat × Pth) := ([(0, Pth.glo "count"), (1, Pth.glo "total"), (2, Pth.glo "_law_right"), (3, Pth.glo "_law_source"), (4, Pth.glo "_law_things"), (8, Pth.glo "check_data"), (9, Pth.glo "check_stretch"), (10, Pth.glo "lies_in"), (11, Pth.glo "lowest_terms"), (13, Pth.glo "is_count"), (14, Pth.glo "is_high"), (15, Pth.glo "is_integer"), (16, Pth.glo "is_data"), (18, Pth.glo "is_triple"), (19, Pth.glo "count_in"), (20, Pth.glo "_law_gcd"), (21, Pth.glo "_law_below"), (22, Pth.glo "_law_choice"), (23, Pth.glo "law"), (27, Pth.met "Table" "__init__")] : List (Nat × Pth)) ++ ([(38, Pth.glo "check_tellings"), (39, Pth.glo "telling_of"), (40, Pth.glo "written_stretch"), (41, Pth.glo "written_bounds"), (42, Pth.met "Telling" "__init__"), (45, Pth.glo "written_count"), (46, Pth.glo "one_number"), (47, Pth.glo "near_bounds"), (65, Pth.glo "fits"), (66, Pth.glo "check_table"), (67, Pth.glo "does_fit"), (96, Pth.glo "_law_due"), (98, Pth.glo "_law_thing"), (99, Pth.glo "_law_value"), (100, Pth.glo "_law_meets"), (104, Pth.glo "_law_is_data"), (105, Pth.glo "_law_is_whole"), (106, Pth.glo "_law_is_high"), (107, Pth.glo "_law_odd_triple"), (88, Pth.met "InvalidTellings" "__init__")] : List (Nat × Pth)) ++ ([(101, Pth.met "InvalidData" "__init__"), (102, Pth.met "NotTable" "__init__"), (103, Pth.met "InvalidBorder" "__init__"), (86, Pth.glo "_law_outcome"), (94, Pth.glo "_law_word")] : List (Nat × Pth))
def ixL : List (Nat × Nat × Nat × Bool) := ([(0, 55, 0, false), (1, 56, 0, false), (2, 75, 0, false), (3, 60, 0, false), (4, 64, 0, false), (8, 52, 0, false), (9, 47, 0, false), (10, 53, 0, false), (11, 34, 0, false), (13, 30, 0, false), (14, 32, 0, false), (15, 29, 0, false), (16, 51, 0, false), (18, 50, 0, false), (19, 54, 0, false), (20, 63, 0, false), (21, 61, 0, false), (22, 62, 0, false), (23, 76, 0, false), (27, 43, 1, true)] : List (Nat × Nat × Nat × Bool)) ++ ([(38, 42, 0, false), (39, 41, 0, false), (40, 33, 0, false), (41, 40, 0, false), (42, 37, 0, true), (45, 31, 0, false), (46, 39, 0, false), (47, 38, 0, false), (65, 58, 0, false), (66, 45, 0, false), (67, 57, 0, false), (96, 73, 0, false), (98, 68, 0, false), (99, 72, 0, false), (100, 74, 0, false), (104, 65, 0, false), (105, 66, 0, false), (106, 67, 0, false), (107, 71, 0, false), (88, 13, 0, true)] : List (Nat × Nat × Nat × Bool)) ++ ([(101, 9, 0, true), (102, 12, 0, true), (103, 6, 0, true), (86, 70, 0, false), (94, 69, 0, false)] : List (Nat × Nat × Nat × Bool))
def quL : List (Nat × Str) := ([(0, "count"), (1, "total"), (2, "_law_right"), (3, "_law_source"), (4, "_law_things"), (8, "check_data"), (9, "check_stretch"), (10, "lies_in"), (11, "lowest_terms"), (13, "is_count"), (14, "is_high"), (15, "is_integer"), (16, "is_data"), (18, "is_triple"), (19, "count_in"), (20, "_law_gcd"), (21, "_law_below"), (22, "_law_choice"), (23, "law"), (27, "Table.__init__")] : List (Nat × Str)) ++ ([(38, "check_tellings"), (39, "telling_of"), (40, "written_stretch"), (41, "written_bounds"), (42, "Telling.__init__"), (45, "written_count"), (46, "one_number"), (47, "near_bounds"), (65, "fits"), (66, "check_table"), (67, "does_fit"), (96, "_law_due"), (98, "_law_thing"), (99, "_law_value"), (100, "_law_meets"), (104, "_law_is_data"), (105, "_law_is_whole"), (106, "_law_is_high"), (107, "_law_odd_triple"), (88, "InvalidTellings.__init__")] : List (Nat × Str)) ++ ([(101, "InvalidData.__init__"), (102, "NotTable.__init__"), (103, "InvalidBorder.__init__"), (86, "_law_outcome"), (94, "_law_word")] : List (Nat × Str))
def cs : List (Nat × D) := [(27, .cls 27), (17, .int 1000), (12, .str "open"), (49, .int 12), (48, .str "0123456789")]
def src (f : Nat) : Stmt := match ixL.lookup f with
  | some (i, j, true) => inClass (PySem.Challenge.pw_unlikebins_k11_data_refused.main.body.getD i (.Pass ⟨0, 0, 0, 0⟩)) j
  | some (i, _, false) => PySem.Challenge.pw_unlikebins_k11_data_refused.main.body.getD i (.Pass ⟨0, 0, 0, 0⟩)
  | none => .Pass ⟨0, 0, 0, 0⟩
def cdL : List CD := [⟨27, true, [32, 34], true, true, [], [], []⟩, ⟨42, false, [43, 44, 35, 36], false, true, [], [], []⟩]
def xdL : List XD := [⟨88, 93⟩, ⟨101, 92⟩, ⟨102, 92⟩, ⟨103, 92⟩]
def md : Md := ⟨nm, P, fun f => (pthL.lookup f).getD (.glo Str.empty), src, fun f => (quL.lookup f).getD Str.empty, cs, cdL, xdL, [], (some ⟨86, 94, "_law_e", "_law_flags", "_law_words", (["InvalidTelling", "InvalidText", "InvalidName", "InvalidBorder", "InvalidNumber", "InvalidFraction", "InvalidData", "InvalidWish", "InvalidIndex", "NotTable", "InvalidTellings", "InvalidBorders", "InvalidChanges", "InvalidWishes", "UnknownName", "InUse", "Impossible", "TooMany", "Contradicts", "NothingToUndo"] : List (Str)) ++ (["Broken"] : List (Str)), [(88, "tellings"), (101, "data"), (102, "table"), (103, "border")]⟩), [(2, "_law_source_here"), (23, "_law_many")]⟩
def gl : GL := md.gl
theorem wk_InvalidTellings : gl.w 88 = some "tellings" := rfl
theorem wk_InvalidData : gl.w 101 = some "data" := rfl
theorem wk_NotTable : gl.w 102 = some "table" := rfl
theorem wk_InvalidBorder : gl.w 103 = some "border" := rfl
theorem lk_count : P.lookup 0 = some m_count := rfl
theorem lk_total : P.lookup 1 = some m_total := rfl
theorem lk__law_right : P.lookup 2 = some m__law_right := rfl
theorem lk__law_source : P.lookup 3 = some m__law_source := rfl
theorem lk__law_things : P.lookup 4 = some m__law_things := rfl
theorem lk_check_data : P.lookup 8 = some m_check_data := rfl
theorem lk_check_stretch : P.lookup 9 = some m_check_stretch := rfl
theorem lk_lies_in : P.lookup 10 = some m_lies_in := rfl
theorem lk_lowest_terms : P.lookup 11 = some m_lowest_terms := rfl
theorem lk_is_count : P.lookup 13 = some m_is_count := rfl
theorem lk_is_high : P.lookup 14 = some m_is_high := rfl
theorem lk_is_integer : P.lookup 15 = some m_is_integer := rfl
theorem lk_is_data : P.lookup 16 = some m_is_data := rfl
theorem lk_is_triple : P.lookup 18 = some m_is_triple := rfl
theorem lk_count_in : P.lookup 19 = some m_count_in := rfl
theorem lk__law_gcd : P.lookup 20 = some m__law_gcd := rfl
theorem lk__law_below : P.lookup 21 = some m__law_below := rfl
theorem lk__law_choice : P.lookup 22 = some m__law_choice := rfl
theorem lk_law : P.lookup 23 = some m_law := rfl
theorem lk_Table : P.lookup 27 = some m_Table := rfl
theorem lk_check_tellings : P.lookup 38 = some m_check_tellings := rfl
theorem lk_telling_of : P.lookup 39 = some m_telling_of := rfl
theorem lk_written_stretch : P.lookup 40 = some m_written_stretch := rfl
theorem lk_written_bounds : P.lookup 41 = some m_written_bounds := rfl
theorem lk_Telling : P.lookup 42 = some m_Telling := rfl
theorem lk_written_count : P.lookup 45 = some m_written_count := rfl
theorem lk_one_number : P.lookup 46 = some m_one_number := rfl
theorem lk_near_bounds : P.lookup 47 = some m_near_bounds := rfl
theorem lk_fits : P.lookup 65 = some m_fits := rfl
theorem lk_check_table : P.lookup 66 = some m_check_table := rfl
theorem lk_does_fit : P.lookup 67 = some m_does_fit := rfl
theorem lk__law_due : P.lookup 96 = some m__law_due := rfl
theorem lk__law_thing : P.lookup 98 = some m__law_thing := rfl
theorem lk__law_value : P.lookup 99 = some m__law_value := rfl
theorem lk__law_meets : P.lookup 100 = some m__law_meets := rfl
theorem lk__law_is_data : P.lookup 104 = some m__law_is_data := rfl
theorem lk__law_is_whole : P.lookup 105 = some m__law_is_whole := rfl
theorem lk__law_is_high : P.lookup 106 = some m__law_is_high := rfl
theorem lk__law_odd_triple : P.lookup 107 = some m__law_odd_triple := rfl
theorem lk_InvalidTellings : P.lookup 88 = some m_InvalidTellings := rfl
theorem lk_InvalidData : P.lookup 101 = some m_InvalidData := rfl
theorem lk_NotTable : P.lookup 102 = some m_NotTable := rfl
theorem lk_InvalidBorder : P.lookup 103 = some m_InvalidBorder := rfl
theorem gk_Table : gl.g 27 = some (.cls 27) := rfl
theorem gk_MOST_TRIPLES : gl.g 17 = some (.int 1000) := rfl
theorem gk_OPEN : gl.g 12 = some (.str "open") := rfl
theorem gk_MOST_TELLINGS : gl.g 49 = some (.int 12) := rfl
theorem gk_DIGITS : gl.g 48 = some (.str "0123456789") := rfl
theorem fk_Table : gl.fl 27 = [32, 34] := rfl
theorem fk_Telling : gl.fl 42 = [43, 44, 35, 36] := rfl
end Mn
namespace Mn
open PySem PySem.W PySem.Spec PyProof.Rows L2 RZ HandSHeadRun
abbrev Rw : PySem.W.OpenRow := PySem.W.OpenLaw.row PySem.Challenge.rw_unlikebins_k11_data_refused
abbrev hk : PySem.W.Hook := hookP 7 md.lk
def looseL : List Str := (["_wall", "WrongValue", "InvalidTelling", "InvalidText", "InvalidName", "InvalidBorder", "InvalidNumber", "InvalidFraction", "InvalidData", "InvalidWish", "InvalidIndex", "NotTable", "InvalidTellings", "InvalidBorders", "InvalidChanges", "InvalidWishes", "WrongName", "UnknownName", "InUse", "NotPossible"] : List (Str)) ++ (["TooMany", "Contradicts", "Impossible", "NothingToUndo", "Broken", "DIGITS", "OPEN", "is_integer", "is_count", "written_count", "is_high", "written_stretch", "lowest_terms", "MOST_TELLINGS", "Telling", "near_bounds", "one_number", "written_bounds", "telling_of", "check_tellings"] : List (Str)) ++ (["Table", "text_table", "check_table", "check_index", "check_stretch", "MOST_TRIPLES", "is_triple", "is_data", "check_data", "lies_in", "count_in", "count", "total", "does_fit", "fits", "_law_source", "_law_below", "_law_choice", "_law_gcd", "_law_things"] : List (Str)) ++ (["_law_is_data", "_law_is_whole", "_law_is_high", "_law_thing", "_law_word", "_law_outcome", "_law_odd_triple", "_law_value", "_law_due", "_law_meets", "_law_right"] : List (Str))
def ob (s : PySem.W.SharedT) : He.AlD := obsPG 7 md.lk (HandSHeadRun.getT s)
theorem ob_eq (s : PySem.W.SharedT) : ob s = hk.obs s.abs := obsPG_eq (HandSHeadRun.getT_eq s)
theorem split4 {α β γ δ ε : Type} {o : Option α} {A : α → β} {B : α → γ} {C : α → δ × ε} {a : β} {b : γ} {c : δ} {d : ε} (h1 : o.map A = some a) (h2 : o.map B = some b) (h3 : (o.map fun s => (C s).1) = some c) (h4 : (o.map fun s => (C s).2) = some d) : (o.map fun s => (A s, B s, C s)) = some (a, b, (c, d)) := by
  cases o with
  | none => cases h1
  | some s =>
    simp only [Option.map_some, Option.some.injEq] at h1 h2 h3 h4 ⊢
    rw [h1, h2, ← h3, ← h4]
theorem run1 (w : World) (os : OsState) : ((endF (stepQ (denQ tabQ) Rw.prog w) 12000 Rw.prog w os).map fun s => looksF Rw.prog (boot_heap w.params) s.abs) = some true := by kernel_rfl
theorem run2 (w : World) (os : OsState) : ((endF (stepQ (denQ tabQ) Rw.prog w) 12000 Rw.prog w os).map fun s => seenQ (PySem.W.view Rw.prog [76]) looseL (importedModules Rw.prog.main.body) (fun s => xlAt (PySem.W.view Rw.prog [76]) [] s && recOk Rw.toRowW.records s) s.abs) = some (openGood (PySem.W.view Rw.prog [76]) looseL) := by kernel_rfl
def restB (L : Lk) (g : Addr → Option Obj) (K : PySem.W.Frag) : Bool := ((L.fa.all fun f => f.ok K) && (L.cd.all (fun d => d.ok L.nm K L.pth) && ((L.xd.all (fun d => d.ok L.nm K) && (othB L K && nbB L K)) && L.fn.all fun d => d.ok K))) && mksB L g K
def tld (L : Lk) (K : PySem.W.Frag) (cs : List Nat) : Bool := match L.ox with
  | none => true
  | some o => cs.all fun c => told1 L.nm o K c
theorem told_of {L : Lk} {K : PySem.W.Frag} {css : List (List Nat)} (hx : (match L.ox with | none => [] | some o => o.xs) = css.flatten) (t : ∀ cs ∈ css, tld L K cs = true) : toldB L K = true := by
  unfold toldB
  cases e : L.ox with
  | none => rfl
  | some o =>
    rw [e] at hx
    have hx : o.xs = css.flatten := hx
    show (o.xs.all fun c => told1 L.nm o K c) = true
    rw [hx, List.all_eq_true]
    intro c hc
    obtain ⟨cs, h1, h2⟩ := List.mem_flatten.mp hc
    have q := t cs h1
    unfold tld at q
    rw [e] at q
    exact List.all_eq_true.mp q c h2
theorem obs_of {L : Lk} {g : Addr → Option Obj} {K : PySem.W.Frag} (a : restB L g K = true) (t : toldB L K = true) : (obsK L g K).1 = true := by
  unfold restB at a
  show (((L.fa.all fun f => f.ok K) && (L.cd.all (fun d => d.ok L.nm K L.pth) && ((L.xd.all (fun d => d.ok L.nm K) && (othB L K && (nbB L K && toldB L K))) && L.fn.all fun d => d.ok K))) && mksB L g K) = true
  rw [t, Bool.and_true]
  exact a
theorem run3a (w : World) (os : OsState) : ((endF (stepQ (denQ tabQ) Rw.prog w) 12000 Rw.prog w os).map fun s => restB md.lk (HandSHeadRun.getT s) (He.frT (HandSHeadRun.getT s) (asQ (HandSHeadRun.getT s) 7 ++ [cStatics]))) = some true := by kernel_rfl
theorem run3t0 (w : World) (os : OsState) : ((endF (stepQ (denQ tabQ) Rw.prog w) 12000 Rw.prog w os).map fun s => tld md.lk (He.frT (HandSHeadRun.getT s) (asQ (HandSHeadRun.getT s) 7 ++ [cStatics])) [88, 101]) = some true := by kernel_rfl
theorem run3t1 (w : World) (os : OsState) : ((endF (stepQ (denQ tabQ) Rw.prog w) 12000 Rw.prog w os).map fun s => tld md.lk (He.frT (HandSHeadRun.getT s) (asQ (HandSHeadRun.getT s) 7 ++ [cStatics])) [102, 103]) = some true := by kernel_rfl
theorem run3 (w : World) (os : OsState) : ((endF (stepQ (denQ tabQ) Rw.prog w) 12000 Rw.prog w os).map fun s => (ob s).1) = some true := by
  have ha := run3a w os
  have h0 := run3t0 w os
  have h1 := run3t1 w os
  generalize (endF (stepQ (denQ tabQ) Rw.prog w) 12000 Rw.prog w os) = o at *
  cases o with
  | none => cases ha
  | some s =>
    simp only [Option.map_some, Option.some.injEq] at ha h0 h1 ⊢
    refine obs_of ha (told_of (css := [[88, 101], [102, 103]]) rfl fun cs hcs => ?_)
    simp only [List.mem_cons, List.not_mem_nil, or_false] at hcs
    rcases hcs with rfl | rfl <;> assumption
theorem run4 (w : World) (os : OsState) : ((endF (stepQ (denQ tabQ) Rw.prog w) 12000 Rw.prog w os).map fun s => (ob s).2) = some (md.lk.fn.map DefP.val) := by kernel_rfl
theorem runEq (w : World) : HandSHeadRun.RunEq Rw (PySem.W.view Rw.prog [76]) hk ob 12000 looseL w := fun os => split4 (run1 w os) (run2 w os) (run3 w os) (run4 w os)
end Mn
/-! what a value of the small language stands for in the heap -/
namespace Mn
open PySem L2
/-- where the classes and the defs stand, the attributes' names, those of a class in their order; is it one with __slots__? -/
class CA where
  ca : Nat → Addr
  fa : Nat → Addr
  fnm : Nat → Str
  fl : Nat → List Nat
  sl : Nat → Bool
  kc : Nat → Bool
  tc : Nat → Bool
  tb : List (Addr × Str) := []
  nd : ∀ c, ((fl c).map fnm).Nodup
section
variable [CA]
/-- at a stands an instance of the class c with the attributes ws -/
def InsAt (F : Hp) (a dx : Addr) (c : Nat) (ws : List V) : Prop := (dx ≠ a ∧ CA.kc c = true) ∧ ((CA.sl c = false ∧ ws.length ≤ (CA.fl c).length ∧ F a = some (.ins (CA.ca c) dx (((CA.fl c).map CA.fnm).zip ws)) ∧ F dx = some (.own a)) ∨
  (CA.sl c = true ∧ ((ws = [] ∧ F a = some (.ins (CA.ca c) dx []) ∧ F dx = some (.own a)) ∨ (F a = some (SlX.SlO a (CA.ca c) dx (ws.map some)) ∧ F dx = some (.xd [])))))
end
section
variable [CA]
variable (K : PySem.W.Frag) (F : Hp) (R : List Addr)
mutual
inductive Rep : V → D → Prop
  | non : Rep .non .non
  | bl (b : Bool) : Rep (.bl b) (.bl b)
  | int (i : Int) : Rep (.int i) (.int i)
  | str (x : Str) : Rep (.str x) (.str x)
  | ty (n : String) : Rep (.ty n) (.ty n)
  | tup {a : Addr} {xs : List V} {ds : List D} (h : SqT K F a xs) (r : RepAll xs ds) : Rep (.ref a) (.tup ds)
  | lst {a : Addr} {xs : List V} {ds : List D} (h : F a = some (.lst xs)) (r : RepAll xs ds) : Rep (.ref a) (.lst ds)
  | scr {a : Addr} {ns : List Int} (h : SqL K F a (ns.map V.int)) : Rep (.ref a) (.scr ns)
  | obj {a : Addr} {n : Nat} (h : R[n]? = some a) : Rep (.ref a) (.obj n)
  | ins {a dx : Addr} {c : Nat} {ws : List V} {ds : List D} (h : InsAt F a dx c ws) (r : RepAll ws ds) : Rep (.ref a) (.ins c ds)
  | dic {a : Addr} {ks : List Key} {ws : List V} {ds : List D} (h : F a = some (.dK (ks.zip ws))) (hl : ks.length = ws.length) (r : RepAll ws ds) : Rep (.ref a) (.dic (ks.zip ds))
  | cls (c : Nat) (h : CA.tc c = true) : Rep (.ref (CA.ca c)) (.cls c)
  | fnv (f : Nat) : Rep (.ref (CA.fa f)) (.fnv f)
inductive RepAll : List V → List D → Prop
  | nil : RepAll [] []
  | cons {v : V} {d : D} {vs : List V} {ds : List D} (h : Rep v d) (t : RepAll vs ds) : RepAll (v :: vs) (d :: ds)
end
end
section
variable [CA]
theorem InsAt.same {F F' : Hp} {a dx : Addr} {c : Nat} {ws : List V} (h : InsAt F a dx c ws) (e1 : ∀ o, F a = some o → F' a = some o) (e2 : ∀ o, F dx = some o → F' dx = some o) : InsAt F' a dx c ws := by
  obtain ⟨hn, ⟨h0, hl, h1, h2⟩ | ⟨h0, ⟨hw, h1, h2⟩ | ⟨h1, h2⟩⟩⟩ := h
  · exact ⟨hn, .inl ⟨h0, hl, e1 _ h1, e2 _ h2⟩⟩
  · exact ⟨hn, .inr ⟨h0, .inl ⟨hw, e1 _ h1, e2 _ h2⟩⟩⟩
  · exact ⟨hn, .inr ⟨h0, .inr ⟨e1 _ h1, e2 _ h2⟩⟩⟩
theorem InsAt.here0 {F : Hp} {a dx : Addr} {c : Nat} {ws : List V} (h : InsAt F a dx c ws) : (∃ o, F a = some o) ∧ ∃ o, F dx = some o := by
  obtain ⟨_, ⟨_, _, h1, h2⟩ | ⟨_, ⟨_, h1, h2⟩ | ⟨h1, h2⟩⟩⟩ := h
  · exact ⟨⟨_, h1⟩, _, h2⟩
  · exact ⟨⟨_, h1⟩, _, h2⟩
  · exact ⟨⟨_, h1⟩, _, h2⟩
end
section
variable [CA]
variable {K : PySem.W.Frag} {F F' H H' : Hp} {R R' : List Addr}
theorem same_t {a : Addr} {xs : List V} (e : Same F F') (h : SqT K F a xs) : SqT K F' a xs := by
  rcases h with (h | ⟨o, h⟩) | h
  · exact .inl (.inl (e _ _ h))
  · exact .inl (.inr ⟨o, e _ _ h⟩)
  · exact .inr h
theorem ix_pre {n : Nat} {a : Addr} (p : R <+: R') (h : R[n]? = some a) : R'[n]? = some a := by
  obtain ⟨m, rfl⟩ := p
  have hn : n < R.length := (List.getElem?_eq_some_iff.mp h).1
  rw [List.getElem?_append_left hn]
  exact h
mutual
theorem Rep.mono (e : Same F F') (p : R <+: R') : ∀ {v : V} {d : D}, Rep K F R v d → Rep K F' R' v d
  | _, _, .non => .non
  | _, _, .bl b => .bl b
  | _, _, .int i => .int i
  | _, _, .str x => .str x
  | _, _, .ty n => .ty n
  | _, _, .tup h r => .tup (same_t e h) (RepAll.mono e p r)
  | _, _, .lst h r => .lst (e _ _ h) (RepAll.mono e p r)
  | _, _, .scr h => .scr (e.seq h)
  | _, _, .obj h => .obj (ix_pre p h)
  | _, _, .ins h r => .ins (h.same (e _) (e _)) (RepAll.mono e p r)
  | _, _, .dic h hl r => .dic (e _ _ h) hl (RepAll.mono e p r)
  | _, _, .cls c h => .cls c h
  | _, _, .fnv f => .fnv f
theorem RepAll.mono (e : Same F F') (p : R <+: R') : ∀ {vs : List V} {ds : List D}, RepAll K F R vs ds → RepAll K F' R' vs ds
  | _, _, .nil => .nil
  | _, _, .cons h t => .cons (Rep.mono e p h) (RepAll.mono e p t)
end
theorem RepAll.length : ∀ {vs : List V} {ds : List D}, RepAll K F R vs ds → vs.length = ds.length
  | _, _, .nil => rfl
  | _, _, .cons _ t => congrArg (· + 1) (RepAll.length t)
theorem RepAll.get : ∀ {vs : List V} {ds : List D} {i : Nat} {d : D}, RepAll K F R vs ds → ds[i]? = some d → ∃ v, vs[i]? = some v ∧ Rep K F R v d
  | _, _, _, _, .nil, e => by simp at e
  | _, _, 0, _, .cons h _, e => by simp at e; subst e; exact ⟨_, rfl, h⟩
  | _, _, i + 1, d, .cons _ t, e => by
    obtain ⟨v, h1, h2⟩ := RepAll.get (i := i) (d := d) t (by simpa using e)
    exact ⟨v, by simpa using h1, h2⟩
theorem RepAll.got : ∀ {vs : List V} {ds : List D} {i : Nat} {v : V}, RepAll K F R vs ds → vs[i]? = some v → ∃ d, ds[i]? = some d ∧ Rep K F R v d
  | _, _, _, _, .nil, e => by simp at e
  | _, _, 0, _, .cons h _, e => by simp at e; subst e; exact ⟨_, rfl, h⟩
  | _, _, i + 1, d, .cons _ t, e => by
    obtain ⟨v, h1, h2⟩ := RepAll.got (i := i) (v := d) t (by simpa using e)
    exact ⟨v, by simpa using h1, h2⟩
theorem RepAll.append : ∀ {vs ws : List V} {ds es : List D}, RepAll K F R vs ds → RepAll K F R ws es → RepAll K F R (vs ++ ws) (ds ++ es)
  | _, _, _, _, .nil, s => s
  | _, _, _, _, .cons h t, s => .cons h (RepAll.append t s)
theorem RepAll.take : ∀ {vs : List V} {ds : List D} (n : Nat), RepAll K F R vs ds → RepAll K F R (vs.take n) (ds.take n)
  | _, _, 0, _ => .nil
  | _, _, _ + 1, .nil => .nil
  | _, _, n + 1, .cons h t => .cons h (RepAll.take n t)
theorem RepAll.drop : ∀ {vs : List V} {ds : List D} (n : Nat), RepAll K F R vs ds → RepAll K F R (vs.drop n) (ds.drop n)
  | _, _, 0, r => r
  | _, _, _ + 1, .nil => .nil
  | _, _, n + 1, .cons _ t => RepAll.drop n t
theorem RepAll.set {v : V} {d : D} (h : Rep K F R v d) : ∀ {vs : List V} {ds : List D} (n : Nat), RepAll K F R vs ds → RepAll K F R (vs.set n v) (ds.set n d)
  | _, _, _, .nil => .nil
  | _, _, 0, .cons _ t => .cons h t
  | _, _, n + 1, .cons q t => .cons q (RepAll.set h n t)
theorem RepAll.reverse {vs : List V} {ds : List D} (h : RepAll K F R vs ds) : RepAll K F R vs.reverse ds.reverse := by
  have go : ∀ {vs : List V} {ds : List D}, RepAll K F R vs ds → RepAll K F R vs.reverse ds.reverse := by
    intro vs
    induction vs with
    | nil => intro ds h; cases h; exact .nil
    | cons v vs ih =>
      intro ds h
      cases h with
      | cons q t =>
        rw [List.reverse_cons, List.reverse_cons]
        exact (ih t).append (.cons q .nil)
  exact go h
theorem RepAll.ints : ∀ (ns : List Int), RepAll K F R (ns.map V.int) (ns.map D.int)
  | [] => .nil
  | n :: r => .cons (.int n) (RepAll.ints r)
theorem RepAll.rep {vs : List V} {ds : List D} (h : RepAll K F R vs ds) : ∀ n : Nat, RepAll K F R (List.replicate n vs).flatten (List.replicate n ds).flatten
  | 0 => .nil
  | n + 1 => by
    rw [List.replicate_succ, List.replicate_succ, List.flatten_cons, List.flatten_cons]
    exact h.append (RepAll.rep h n)
/-! ### data -/
theorem sq_same {a : Addr} {xs : List V} (e : Same F H) (h : SqT K F a xs) : SqT K H a xs := same_t e h
mutual
theorem Rep.py (e : Same F H) : ∀ {v : V} {d : D} {p : PyData}, Rep K F R v d → d.py = some p → Dp K H v p
  | _, _, _, .non, h => by cases h; exact .non
  | _, _, _, .bl b, h => by cases h; exact .bl b
  | _, _, _, .int i, h => by cases h; exact .int i
  | _, _, _, .str x, h => by cases h; exact .str x
  | _, _, _, .ty n, h => by cases h
  | _, _, p, .tup (ds := ds) q r, h => by
    simp only [D.py] at h
    cases hp : pyAll ds with
    | none => rw [hp] at h; cases h
    | some ps => rw [hp] at h; cases h; exact .tup (same_t e q) (RepAll.py e r hp)
  | _, _, p, .lst (ds := ds) q r, h => by
    simp only [D.py] at h
    cases hp : pyAll ds with
    | none => rw [hp] at h; cases h
    | some ps => rw [hp] at h; cases h; exact .lst (SqL.of (e _ _ q)) (RepAll.py e r hp)
  | _, _, _, .scr _, h => by cases h
  | _, _, _, .obj _, h => by cases h
  | _, _, _, .ins _ _, h => by cases h
  | _, _, _, .dic _ _ _, h => by cases h
  | _, _, _, .cls _ _, h => by cases h
  | _, _, _, .fnv _, h => by cases h
theorem RepAll.py (e : Same F H) : ∀ {vs : List V} {ds : List D} {ps : List PyData}, RepAll K F R vs ds → pyAll ds = some ps → DpAll K H vs ps
  | _, _, _, .nil, h => by cases h; exact .nil
  | _, _, _, .cons (d := d) (ds := ds) q t, h => by
    simp only [pyAll] at h
    cases h1 : d.py with
    | none => rw [h1] at h; cases h
    | some p =>
      cases h2 : pyAll ds with
      | none => rw [h1, h2] at h; cases h
      | some ps => rw [h1, h2] at h; cases h; exact .cons (Rep.py e q h1) (RepAll.py e t h2)
end
end
/-! ### the store, the frame -/
section
variable [CA]
variable (K : PySem.W.Frag) (F : Hp) (R : List Addr) (H : Hp)
def StoAt (a : Addr) : SO → Prop
  | .lst ds => F a = none ∧ ∃ xs, H a = some (.lst xs) ∧ RepAll K F R xs ds
  | .dct kvs => F a = none ∧ ∃ ws, ws.length = kvs.length ∧ H a = some (.dK ((kvs.map (·.1)).zip ws)) ∧ RepAll K F R ws (kvs.map (·.2))
  | .ins c ds => F a = none ∧ CA.sl c = false ∧ ∃ dx ws, dx ∉ R ∧ InsAt H a dx c ws ∧ RepAll K F R ws ds
  | .dead => True
structure RelS (S : Sto) : Prop where
  fh : Same F H
  tb : LamX.Tabs CA.tb H ∧ ∀ a ps, F a ≠ some (.tbl ps)
  len : R.length = S.length
  nd : R.Nodup
  tr : ∀ a ∈ R, ∃ o, H a = some o
  at_ : ∀ (n : Nat) (a : Addr) (o : SO), R[n]? = some a → S[n]? = some o → StoAt K F R H a o
def SlotAt (v : V) : SV → Prop
  | .val d => Rep K F R v d
  | .olst ds => ∃ a xs, v = .ref a ∧ F a = none ∧ a ∉ R ∧ H a = some (.lst xs) ∧ RepAll K F R xs ds
  | .odct kvs => ∃ a ws, v = .ref a ∧ F a = none ∧ a ∉ R ∧ ws.length = kvs.length ∧ H a = some (.dK ((kvs.map (·.1)).zip ws)) ∧ RepAll K F R ws (kvs.map (·.2))
def SV.own : SV → Bool
  | .val _ => false
  | _ => true
def OwnAt (σ : St) (fr : Frm) (i : Nat) (a : Addr) : Prop := ∃ sv, fr[i]? = some (some sv) ∧ sv.own = true ∧ σ[i]? = some (some (.ref a))
structure RelF (σ : St) (fr : Frm) : Prop where
  len : fr.length = σ.length
  sl : ∀ (i : Nat) (sv : SV), fr[i]? = some (some sv) → ∃ v, σ[i]? = some (some v) ∧ SlotAt K F R H v sv
  ap : ∀ (i j : Nat) (a : Addr), OwnAt σ fr i a → OwnAt σ fr j a → i = j
end
/-- no table of code objects -/
def NT (o : HO) : Prop := ∀ ps, o ≠ .tbl ps
/-- what a piece of work leaves as it was: F grows by new objects (or by what stood in the store), all that was tracked but the store stays -/
structure Nxt (F : Hp) (R : List Addr) (H F' : Hp) (R' : List Addr) (H' : Hp) : Prop where
  f : Same F F'
  r : R <+: R'
  new : ∀ a o, F' a = some o → F a = some o ∨ H a = none ∨ a ∈ R
  tr : ∀ a o, H a = some o → a ∉ R → NT o → H' a = some o
  ax : ∀ a o, H a = some o → a ∉ R → ∃ o', H' a = some o'
  newR : ∀ a ∈ R', a ∈ R ∨ H a = none
section
variable [CA]
variable {K : PySem.W.Frag} {F F1 F2 F' H H1 H2 H' : Hp} {R R1 R2 R' : List Addr} {σ : St} {fr : Frm} {S S' : Sto}
theorem Nxt.refl : Nxt F R H F R H := ⟨Same.refl _, List.prefix_refl _, fun _ _ h => .inl h, fun _ _ h _ _ => h, fun _ o h _ => ⟨o, h⟩, fun _ h => .inl h⟩
theorem Nxt.trans (a : Nxt F R H F1 R1 H1) (b : Nxt F1 R1 H1 F2 R2 H2) : Nxt F R H F2 R2 H2 where
  f := a.f.trans b.f
  r := a.r.trans b.r
  new := fun x o h => by
    rcases b.new x o h with h1 | h1 | h1
    · exact a.new x o h1
    · by_cases hx : x ∈ R
      · exact .inr (.inr hx)
      · refine .inr (.inl ?_)
        cases q : H x with
        | none => rfl
        | some u => obtain ⟨o', e⟩ := a.ax x u q hx; rw [e] at h1; cases h1
    · rcases a.newR x h1 with h2 | h2
      · exact .inr (.inr h2)
      · exact .inr (.inl h2)
  tr := fun x o h hx ht => b.tr x o (a.tr x o h hx ht) (fun hx1 => by
    rcases a.newR x hx1 with h2 | h2
    · exact hx h2
    · rw [h] at h2; cases h2) ht
  ax := fun x o h hx => by
    obtain ⟨o', e⟩ := a.ax x o h hx
    exact b.ax x o' e fun hx1 => by
      rcases a.newR x hx1 with h2 | h2
      · exact hx h2
      · rw [h] at h2; cases h2
  newR := fun x h => by
    rcases b.newR x h with h1 | h1
    · exact a.newR x h1
    · by_cases hx : x ∈ R
      · exact .inl hx
      · refine .inr ?_
        cases q : H x with
        | none => rfl
        | some u => obtain ⟨o', e⟩ := a.ax x u q hx; rw [e] at h1; cases h1
/-- a new object, known from now on as what it is -/
theorem Nxt.new1 {p : Addr} {o : HO} (hp : H p = none) (fh : Same F H) : Nxt F R H (upd F p o) R (upd H p o) where
  f := fun a u h => by
    rw [upd_ne]
    · exact h
    · rintro rfl; rw [fh _ _ h] at hp; cases hp
  r := List.prefix_refl _
  new := fun a u h => by
    by_cases e : a = p
    · subst e; exact .inr (.inl hp)
    · rw [upd_ne e] at h; exact .inl h
  tr := fun a u h _ _ => by
    rw [upd_ne]
    · exact h
    · rintro rfl; rw [h] at hp; cases hp
  ax := fun a u h _ => ⟨u, by
    rw [upd_ne]
    · exact h
    · rintro rfl; rw [h] at hp; cases hp⟩
  newR := fun a h => .inl h
theorem same_new {p : Addr} {o : HO} (fh : Same F H) : Same (upd F p o) (upd H p o) := fun a u h => by
  by_cases e : a = p
  · subst e; rw [upd_same] at h ⊢; exact h
  · rw [upd_ne e] at h ⊢; exact fh _ _ h
theorem StoAt.up {a : Addr} {o : SO} (e : Same F F') (p : R <+: R') (ha : F a = none → F' a = none) (keep : ∀ b u, H b = some u → (b = a ∨ b ∉ R) → H' b = some u) (nr : ∀ b ∈ R', b ∈ R ∨ H b = none) (h : StoAt K F R H a o) : StoAt K F' R' H' a o := by
  cases o with
  | lst ds =>
    obtain ⟨h1, xs, h2, h3⟩ := h
    exact ⟨ha h1, xs, keep _ _ h2 (.inl rfl), h3.mono e p⟩
  | dct kvs =>
    obtain ⟨h1, ws, hl, h2, h3⟩ := h
    exact ⟨ha h1, ws, hl, keep _ _ h2 (.inl rfl), h3.mono e p⟩
  | ins c ds =>
    obtain ⟨h1, hs, dx, ws, hd, h2, h3⟩ := h
    refine ⟨ha h1, hs, dx, ws, fun hx => ?_, h2.same (fun o ho => keep _ _ ho (.inl rfl)) (fun o ho => keep _ _ ho (.inr hd)), h3.mono e p⟩
    rcases nr dx hx with q | q
    · exact hd q
    · obtain ⟨o, ho⟩ := h2.here0.2
      rw [q] at ho; cases ho
  | dead => trivial
/-- no table, no code object -/
def PlT (H : Hp) (p : Addr) : Prop := (∀ x, H p ≠ some (.tbl x)) ∧ ∀ q, H p ≠ some (LamX.CodeO p q)
/-- no dict of an instance either -/
def Pln (H : Hp) (p : Addr) : Prop := (∀ x, H p ≠ some (.own x)) ∧ PlT H p
/-- another kind of thing than a table or a code object -/
def NCo (o : HO) : Prop := (∀ ps, o ≠ .tbl ps) ∧ ∀ p q, o ≠ LamX.CodeO p q
theorem NCo.nt {o : HO} (h : NCo o) : NT o := h.1
theorem slO_nco {a C dx : Addr} {vs : List (Option V)} {q : Str} : SlX.SlO a C dx vs ≠ LamX.CodeO a q := fun z => by
  unfold SlX.SlO LamX.CodeO at z
  have e := HO.ext.inj z
  let o : Obj := { cls := .none, data := .fields #[.none, .str q 0] }
  let h : Heap := ⟨Array.replicate (a + 1) o, {}⟩
  have g : h.get? a = some o := by
    unfold Heap.get?
    have : h.objs[a]? = some o := by
      show (Array.replicate (a + 1) o)[a]? = some o
      simp
    rw [this]
  have y : ∃ (oc : Obj) (vs : Array Value) (t : Tok), h.get? a = some oc ∧ oc.data = .fields vs ∧ vs[1]? = some (.str q t) := ⟨o, _, 0, g, rfl, rfl⟩
  have y2 := (congrFun e h).mpr y
  obtain ⟨sl, e1, _⟩ := y2
  rw [g] at e1
  have e2 := congrArg Obj.data (Option.some.inj e1)
  cases e2
theorem PlT.of {p : Addr} {o : HO} (h : H p = some o) (h1 : NCo o) : PlT H p := by
  refine ⟨fun x e => ?_, fun x e => ?_⟩ <;> rw [h] at e
  · exact h1.1 x (Option.some.inj e)
  · exact h1.2 _ x (Option.some.inj e)
theorem PlT.own {p x : Addr} (h : H p = some (.own x)) : PlT H p := .of h ⟨fun _ z => (by cases z), fun _ _ z => (by unfold LamX.CodeO at z; cases z)⟩
theorem PlT.slO {p C dx : Addr} {vs : List (Option V)} (h : H p = some (SlX.SlO p C dx vs)) : PlT H p := by
  refine ⟨fun x e => ?_, fun x e => ?_⟩ <;> rw [h] at e
  · have := Option.some.inj e
    unfold SlX.SlO at this
    cases this
  · exact slO_nco (Option.some.inj e)
theorem Pln.of {p : Addr} {o : HO} (h : H p = some o) (h1 : ∀ x, o ≠ .own x) (h2 : NCo o) : Pln H p := ⟨fun x e => by rw [h] at e; exact h1 x (Option.some.inj e), .of h h2⟩
theorem Pln.non {p : Addr} (h : H p = none) : Pln H p := by
  refine ⟨fun x e => ?_, fun x e => ?_, fun x e => ?_⟩ <;> (rw [h] at e; cases e)
theorem Pln.lst {p : Addr} {xs : List V} (h : H p = some (.lst xs)) : Pln H p := .of h (fun _ z => (by cases z)) ⟨fun _ z => (by cases z), fun _ _ z => (by unfold LamX.CodeO at z; cases z)⟩
theorem Pln.dK {p : Addr} {xs : List (Key × V)} (h : H p = some (.dK xs)) : Pln H p := .of h (fun _ z => (by cases z)) ⟨fun _ z => (by cases z), fun _ _ z => (by unfold LamX.CodeO at z; cases z)⟩
theorem Pln.ins {p C dx : Addr} {xs : List (Str × V)} (h : H p = some (.ins C dx xs)) : Pln H p := .of h (fun _ z => (by cases z)) ⟨fun _ z => (by cases z), fun _ _ z => (by unfold LamX.CodeO at z; cases z)⟩
/-- the tables and their code objects stay where something else is laid -/
theorem PlT.tabs {T : List (Addr × Str)} {p : Addr} {o : HO} (h : PlT H p) (t : LamX.Tabs T H) : LamX.Tabs T (upd H p o) := fun q hq => by
  obtain ⟨ps, e1, e2, e3⟩ := t q hq
  refine ⟨ps, ?_, e2, fun pos cv hc => ?_⟩
  · rw [upd_ne (fun z : q.1 = p => h.1 ps (by rw [← z]; exact e1))]; exact e1
  · obtain ⟨c, r1, r2⟩ := e3 pos cv hc
    exact ⟨c, r1, by rw [upd_ne (fun z : c = p => h.2 q.2 (by rw [← z]; exact r2))]; exact r2⟩
theorem Pln.tabs {T : List (Addr × Str)} {p : Addr} {o : HO} (h : Pln H p) (t : LamX.Tabs T H) : LamX.Tabs T (upd H p o) := h.2.tabs t
theorem InsAt.ne {a dx p : Addr} {c : Nat} {ws : List V} (h : InsAt H a dx c ws) (hs : CA.sl c = false) (hp : H p ≠ some (.own a)) : dx ≠ p := fun e => by
  subst e
  obtain ⟨_, ⟨_, _, _, h2⟩ | ⟨h0, _⟩⟩ := h
  · exact hp h2
  · rw [hs] at h0; cases h0
theorem InsAt.here {F : Hp} {a dx : Addr} {c : Nat} {ws : List V} (h : InsAt F a dx c ws) : (∃ o, F a = some o ∧ NT o) ∧ ∃ o, F dx = some o ∧ NT o := by
  have so : NT (SlX.SlO a (CA.ca c) dx (ws.map some)) := fun _ z => by unfold SlX.SlO at z; cases z
  obtain ⟨_, ⟨_, _, h1, h2⟩ | ⟨_, ⟨_, h1, h2⟩ | ⟨h1, h2⟩⟩⟩ := h
  · exact ⟨⟨_, h1, fun _ z => by cases z⟩, _, h2, fun _ z => by cases z⟩
  · exact ⟨⟨_, h1, fun _ z => by cases z⟩, _, h2, fun _ z => by cases z⟩
  · exact ⟨⟨_, h1, so⟩, _, h2, fun _ z => by cases z⟩
/-- the instance's own places -/
theorem InsAt.plain {F : Hp} {a dx : Addr} {c : Nat} {ws : List V} (h : InsAt F a dx c ws) : PlT F a ∧ PlT F dx := by
  obtain ⟨_, ⟨_, _, h1, h2⟩ | ⟨_, ⟨_, h1, h2⟩ | ⟨h1, h2⟩⟩⟩ := h
  · exact ⟨.of h1 ⟨fun _ z => (by cases z), fun _ _ z => (by unfold LamX.CodeO at z; cases z)⟩, .of h2 ⟨fun _ z => (by cases z), fun _ _ z => (by unfold LamX.CodeO at z; cases z)⟩⟩
  · exact ⟨.of h1 ⟨fun _ z => (by cases z), fun _ _ z => (by unfold LamX.CodeO at z; cases z)⟩, .of h2 ⟨fun _ z => (by cases z), fun _ _ z => (by unfold LamX.CodeO at z; cases z)⟩⟩
  · exact ⟨.slO h1, .of h2 ⟨fun _ z => (by cases z), fun _ _ z => (by unfold LamX.CodeO at z; cases z)⟩⟩
/-- a thing that is laid or changed, neither known nor in the store -/
theorem StoAt.lay {a p : Addr} {o : SO} {u : HO} (hne : a ≠ p) (hp : H p ≠ some (.own a)) (h : StoAt K F R H a o) : StoAt K F R (upd H p u) a o := by
  cases o with
  | lst ds =>
    obtain ⟨h1, xs, h2, h3⟩ := h
    exact ⟨h1, xs, by rw [upd_ne hne]; exact h2, h3⟩
  | dct kvs =>
    obtain ⟨h1, ws, hl, h2, h3⟩ := h
    exact ⟨h1, ws, hl, by rw [upd_ne hne]; exact h2, h3⟩
  | ins c ds =>
    obtain ⟨h1, hs, dx, ws, hd, h2, h3⟩ := h
    have := h2.ne hs hp
    exact ⟨h1, hs, dx, ws, hd, h2.same (fun o ho => by rw [upd_ne hne]; exact ho) (fun o ho => by rw [upd_ne this]; exact ho), h3⟩
  | dead => trivial
/-- behind new frozen objects the store is as it was -/
theorem RelS.new1 {p : Addr} {o : HO} (r : RelS K F R H S) (hp : H p = none) (ht : NT o) : RelS K (upd F p o) R (upd H p o) S := by
  have n := Nxt.new1 (R := R) (o := o) hp r.fh
  have ne : ∀ a ∈ R, a ≠ p := fun a ha e => by
    obtain ⟨u, hu⟩ := r.tr a ha
    rw [e, hp] at hu; cases hu
  refine ⟨same_new r.fh, ⟨(Pln.non (H := H) hp).tabs r.tb.1, fun a ps z => ?_⟩, r.len, r.nd, fun a ha => ?_, fun i a so h1 h2 => ?_⟩
  · by_cases e : a = p
    · rw [e, upd_same] at z; exact ht ps (Option.some.inj z)
    · rw [upd_ne e] at z; exact r.tb.2 a ps z
  · obtain ⟨u, hu⟩ := r.tr a ha
    exact ⟨u, by rw [upd_ne (ne a ha)]; exact hu⟩
  · have ha : a ∈ R := List.mem_of_getElem? h1
    refine (r.at_ i a so h1 h2).up n.f n.r (fun q => by rw [upd_ne (ne a ha)]; exact q) (fun b u hb _ => ?_) fun b hb => .inl hb
    rw [upd_ne]
    · exact hb
    · rintro rfl; rw [hp] at hb; cases hb
/-- the frame behind a piece of work -/
theorem RelF.nxt (f : RelF K F R H σ fr) (n : Nxt F R H F' R' H') : RelF K F' R' H' σ fr := by
  refine ⟨f.len, fun i sv h => ?_, f.ap⟩
  obtain ⟨v, h1, h2⟩ := f.sl i sv h
  refine ⟨v, h1, ?_⟩
  have go : ∀ a u, F a = none → a ∉ R → H a = some u → F' a = none ∧ a ∉ R' := fun a u g1 g2 g3 => by
    refine ⟨?_, fun hx => ?_⟩
    · cases q : F' a with
      | none => rfl
      | some u =>
        rcases n.new a u q with z | z | z
        · rw [g1] at z; cases z
        · rw [g3] at z; cases z
        · exact (g2 z).elim
    · rcases n.newR a hx with z | z
      · exact g2 z
      · rw [g3] at z; cases z
  cases sv with
  | val d => exact Rep.mono n.f n.r h2
  | olst ds =>
    obtain ⟨a, xs, rfl, g1, g2, g3, g4⟩ := h2
    obtain ⟨q1, q2⟩ := go a _ g1 g2 g3
    exact ⟨a, xs, rfl, q1, q2, n.tr a _ g3 g2 (fun _ z => by cases z), g4.mono n.f n.r⟩
  | odct kvs =>
    obtain ⟨a, ws, rfl, g1, g2, hl, g3, g4⟩ := h2
    obtain ⟨q1, q2⟩ := go a _ g1 g2 g3
    exact ⟨a, ws, rfl, q1, q2, hl, n.tr a _ g3 g2 (fun _ z => by cases z), g4.mono n.f n.r⟩
end
end Mn
/-! operations on values: the rules of the hand layer by the small language's own functions -/
namespace Mn
open PySem L2
variable [CA]
/-- some new frozen objects, or none -/
def Nw (K : PySem.W.Frag) (F : Hp) (R : List Addr) (H F' H' : Hp) : Prop := Nxt F R H F' R H' ∧ ∀ S, RelS K F R H S → RelS K F' R H' S
theorem Nw.refl {K : PySem.W.Frag} {F H : Hp} {R : List Addr} : Nw K F R H F H := ⟨.refl, fun _ h => h⟩
theorem Nw.one {K : PySem.W.Frag} {F H : Hp} {R : List Addr} {p : Addr} {o : HO} (hp : H p = none) (fh : Same F H) (ht : NT o := by intro _ z; cases z) : Nw K F R H (upd F p o) (upd H p o) := ⟨.new1 hp fh, fun _ h => h.new1 hp ht⟩
theorem Nw.trans {K : PySem.W.Frag} {F H F1 H1 F2 H2 : Hp} {R : List Addr} (a : Nw K F R H F1 H1) (b : Nw K F1 R H1 F2 H2) : Nw K F R H F2 H2 := ⟨a.1.trans b.1, fun S h => b.2 S (a.2 S h)⟩
section
variable {X : Cx}
def rBin (K : PySem.W.Frag) (op : Operator) : R2 := fun v w H Q => ∃ F R x y d, Same F H ∧ Rep K F R v x ∧ Rep K F R w y ∧ binD op x y = some d ∧ ∀ z F' H', Nw K F R H F' H' → Rep K F' R z d → Q z H'
theorem mulOk_of {i j : Int} (h : mulOk i j = true) : CMul i j ∨ CMulW i j := by
  unfold mulOk at h
  simp only [Bool.or_eq_true, decide_eq_true_eq] at h
  rcases h with (h | h) | h
  · exact .inl (.inl h)
  · exact .inl (.inr h)
  · exact .inr h
theorem divOk_of {i j : Int} (h : divOk j = true) : CDivW i j := by
  unfold divOk at h
  simp only [Bool.and_eq_true, decide_eq_true_eq] at h
  exact h
theorem powOk_of {i j : Int} (h : powOk i j = true) : CPow i j := by
  unfold powOk at h
  simp only [Bool.and_eq_true, decide_eq_true_eq] at h
  exact ⟨h.1.1, h.1.2, h.2⟩
theorem tup_cat {F H : Hp} {R : List Addr} {a b : Addr} {xs ys : List V} {ds es : List D} {Q : VK} (fh : Same F H) (ha : SqT X.K F a xs) (hb : SqT X.K F b ys) (ra : RepAll X.K F R xs ds) (rb : RepAll X.K F R ys es)
    (k : ∀ z F' H', Nw X.K F R H F' H' → Rep X.K F' R z (.tup (ds ++ es)) → Q z H') :
    (xs = [] → Q (.ref b) H) ∧ (xs ≠ [] → ys = [] → Q (.ref a) H) ∧ (xs ≠ [] → ys ≠ [] → ∀ p, H p = none → Q (.ref p) (upd H p (.tup (xs ++ ys)))) := by
  refine ⟨fun e => ?_, fun _ e => ?_, fun _ _ p hp => ?_⟩
  · subst e
    cases ra
    exact k _ F H .refl (.tup hb rb)
  · subst e
    cases rb
    exact k _ F H .refl (.tup ha (by rw [List.append_nil]; exact ra))
  · have n : Nw X.K F R H (upd F p (.tup (xs ++ ys))) (upd H p (.tup (xs ++ ys))) := Nw.one hp fh
    exact k _ _ _ n (.tup (SqT.of upd_same) ((ra.append rb).mono n.1.f n.1.r))
theorem rep_acc (x : Array Nat) : ∀ (n : Nat) (acc : Array Nat), ((List.replicate n x).foldl (· ++ ·) acc).size = acc.size + n * x.size
  | 0, acc => by simp
  | n + 1, acc => by
    rw [List.replicate_succ, List.foldl_cons, rep_acc x n, Array.size_append, Nat.add_mul, Nat.one_mul]
    omega
theorem rep_size (x : Str) (n : Nat) : (⟨(List.replicate n x.cps).foldl (· ++ ·) #[]⟩ : Str).length = n * x.length := by
  show ((List.replicate n x.cps).foldl (· ++ ·) #[]).size = _
  rw [rep_acc]
  show 0 + _ = _
  rw [Nat.zero_add]; rfl
theorem op_bin (op : Operator) : OpR X (binaryOp op) (rBin X.K op) := by
  intro pins s σ H v w u1 u2 Q I r1 r2 h
  obtain ⟨F, R, x, y, d, fh, rx, ry, hd, k⟩ := h
  cases op with
  | Add =>
    cases rx <;> cases ry <;> simp only [binD, reduceCtorEq, Option.some.injEq] at hd
    case int.int i j => subst hd; exact op_add pins s σ H _ _ _ _ Q I r1 r2 ⟨i, j, rfl, rfl, k _ F H .refl (.int _)⟩
    case str.str a b =>
      split at hd
      · rename_i hl
        cases hd
        exact op_add_str pins s σ H _ _ _ _ Q I r1 r2 ⟨a, b, rfl, rfl, hl, k _ F H .refl (.str _)⟩
      · cases hd
    case tup.tup a xs ds ha ra b ys es hb rb =>
      split at hd
      · rename_i hl
        cases hd
        exact op_catA pins s σ H _ _ _ _ Q I r1 r2 ⟨a, b, xs, ys, rfl, rfl, same_t fh ha, same_t fh hb, by rw [ra.length, rb.length]; exact hl, tup_cat fh ha hb ra rb k⟩
      · cases hd
    case lst.lst a xs ds ha ra b ys es hb rb =>
      split at hd
      · rename_i hl
        cases hd
        refine op_cat pins s σ H _ _ _ _ Q I r1 r2 ⟨a, b, xs, ys, rfl, rfl, fh _ _ ha, fh _ _ hb, by rw [ra.length, rb.length]; exact hl, fun p hp => ?_⟩
        have n : Nw X.K F R H (upd F p (.lst (xs ++ ys))) (upd H p (.lst (xs ++ ys))) := Nw.one hp fh
        exact k _ _ _ n (.lst upd_same ((ra.append rb).mono n.1.f n.1.r))
      · cases hd
  | Sub =>
    cases rx <;> cases ry <;> simp only [binD, reduceCtorEq, Option.some.injEq] at hd
    case int.int i j => subst hd; exact op_sub pins s σ H _ _ _ _ Q I r1 r2 ⟨i, j, rfl, rfl, k _ F H .refl (.int _)⟩
  | Mult =>
    cases rx <;> cases ry <;> simp only [binD, reduceCtorEq, Option.some.injEq] at hd
    case int.int i j =>
      split at hd
      · rename_i hm
        cases hd
        rcases mulOk_of hm with q | q
        · exact op_mul pins s σ H _ _ _ _ Q I r1 r2 ⟨i, j, rfl, rfl, q, k _ F H .refl (.int _)⟩
        · exact op_mulW pins s σ H _ _ _ _ Q I r1 r2 ⟨i, j, rfl, rfl, q, k _ F H .refl (.int _)⟩
      · cases hd
    case str.int a n =>
      split at hd
      · rename_i hm
        cases hd
        unfold repOk at hm
        simp only [Bool.and_eq_true, decide_eq_true_eq] at hm
        obtain ⟨⟨⟨m1, m2⟩, m3⟩, m4⟩ := hm
        obtain ⟨t, rfl⟩ := r1
        obtain ⟨t', rfl⟩ := r2
        have n1 : ¬ n < 1 := by omega
        have e1 : (n == 1) = false := beq_eq_false_iff_ne.mpr (by omega)
        have e2 : (a.length == 0) = false := beq_eq_false_iff_ne.mpr (by omega)
        have small : a.length * n.toNat ≤ 1000000 := Nat.le_trans (Nat.mul_le_mul m4 (show n.toNat ≤ 1000 by omega)) (by decide)
        have fits : PySem.Builtin.Str.tooLong (a.length * n.toNat) = false := by unfold PySem.Builtin.Str.tooLong; exact decide_eq_false (by rw [sizeLine_eq]; omega)
        refine PySem.P.mul_str ?_ (fun _ _ => ?_) (fun _ _ => fits) ?_
        · rw [decide_eq_false (by omega), decide_eq_false (by omega)]; rfl
        · have q : (a.length : Int) ≤ (2 ^ 63 - 1) / n := Int.le_ediv_of_mul_le (by omega) (by
            have : ((a.length * n.toNat : Nat) : Int) ≤ 1000000 := by omega
            rw [Int.natCast_mul, Int.toNat_of_nonneg (by omega)] at this
            omega)
          omega
        · rw [if_neg n1, e1, e2, if_neg (by decide)]
          refine ⟨?_, .str _, H, I.tok _, ⟨_, rfl⟩, k _ F H .refl (.str _)⟩
          rw [rep_size, Nat.mul_comm, sizeLine_eq]
          omega
      · cases hd
    case tup.int a xs ds ha ra n =>
      split at hd
      · rename_i hm
        cases hd
        unfold repOk at hm
        simp only [Bool.and_eq_true, decide_eq_true_eq] at hm
        obtain ⟨⟨⟨m1, m2⟩, m3⟩, m4⟩ := hm
        refine op_repT pins s σ H _ _ _ _ Q I r1 r2 ⟨a, n, xs, rfl, rfl, same_t fh ha, ?_, m2, m3, by rw [ra.length]; exact m4, fun p hp => ?_⟩
        · intro e
          subst e
          cases ra
          exact absurd m1 (by simp)
        · have nn : Nw X.K F R H (upd F p (.tup (List.replicate n.toNat xs).flatten)) (upd H p (.tup (List.replicate n.toNat xs).flatten)) := Nw.one hp fh
          exact k _ _ _ nn (.tup (SqT.of upd_same) ((ra.rep _).mono nn.1.f nn.1.r))
      · cases hd
    case lst.int a xs ds ha ra n =>
      split at hd
      · rename_i hm
        cases hd
        unfold repL at hm
        simp only [Bool.and_eq_true, decide_eq_true_eq] at hm
        obtain ⟨⟨m1, m2⟩, m3⟩ := hm
        refine op_rep pins s σ H _ _ _ _ Q I r1 r2 ⟨a, n, xs, rfl, rfl, fh _ _ ha, by omega, by omega, ?_, fun p hp => ?_⟩
        · rw [ra.length, sizeLine_eq]
          exact Nat.le_trans (Nat.mul_le_mul m3 (show n.toNat ≤ 1000 by omega)) (by decide)
        · have nn : Nw X.K F R H (upd F p (.lst (List.replicate n.toNat xs).flatten)) (upd H p (.lst (List.replicate n.toNat xs).flatten)) := Nw.one hp fh
          exact k _ _ _ nn (.lst upd_same ((ra.rep _).mono nn.1.f nn.1.r))
      · cases hd
  | FloorDiv =>
    cases rx <;> cases ry <;> simp only [binD, reduceCtorEq, Option.some.injEq] at hd
    case int.int i j =>
      split at hd
      · rename_i hm
        cases hd
        exact op_fdivW pins s σ H _ _ _ _ Q I r1 r2 ⟨i, j, rfl, rfl, divOk_of hm, k _ F H .refl (.int _)⟩
      · cases hd
  | Mod =>
    cases rx <;> cases ry <;> simp only [binD, reduceCtorEq, Option.some.injEq] at hd
    case int.int i j =>
      split at hd
      · rename_i hm
        cases hd
        exact op_mod pins s σ H _ _ _ _ Q I r1 r2 ⟨i, j, rfl, rfl, hm, k _ F H .refl (.int _)⟩
      · cases hd
  | Pow =>
    cases rx <;> cases ry <;> simp only [binD, reduceCtorEq, Option.some.injEq] at hd
    case int.int i j =>
      split at hd
      · rename_i hm
        cases hd
        exact op_pow pins s σ H _ _ _ _ Q I r1 r2 ⟨i, j, rfl, rfl, powOk_of hm, k _ F H .refl (.int _)⟩
      · cases hd
  | _ => simp [binD] at hd
def rCmp (K : PySem.W.Frag) (op : CmpOp) : R2 := fun v w H Q => ∃ F R x y b, Same F H ∧ Rep K F R v x ∧ Rep K F R w y ∧ cmpD op x y = some b ∧ Q (.bl b) H
theorem eqD_ok {F H : Hp} {R : List Addr} {v w : V} {x y : D} {b : Bool} (fh : Same F H) (rx : Rep X.K F R v x) (ry : Rep X.K F R w y) (h : eqD x y = some b) :
    ∃ p q, Dp X.K H v p ∧ Dp X.K H w q ∧ SeqAt.shaped p = true ∧ SeqAt.shaped q = true ∧ b = PyData.eqv p q := by
  unfold eqD at h
  cases h1 : x.py with
  | none => rw [h1] at h; cases h
  | some p =>
    cases h2 : y.py with
    | none => rw [h1, h2] at h; cases h
    | some q =>
      rw [h1, h2] at h
      simp only [Bool.and_eq_true] at h
      split at h
      · rename_i hs
        cases h
        exact ⟨p, q, rx.py fh h1, ry.py fh h2, hs.1, hs.2, rfl⟩
      · cases h
theorem Rep.isN {F : Hp} {R : List Addr} {v : V} {x : D} (h : Rep X.K F R v x) : decide (v = .non) = isN x := by
  cases h <;> simp [Mn.isN]
theorem flat_of {K : PySem.W.Frag} {F : Hp} {R : List Addr} {v : V} {x : D} (h : Rep K F R v x) (f : flatD x = true) : flatV v = true := by
  cases h <;> first | rfl | (simp [flatD] at f)
theorem eqF_of {K : PySem.W.Frag} {F : Hp} {R : List Addr} {v w : V} {x y : D} (h : Rep K F R v x) (g : Rep K F R w y) (f1 : flatD x = true) (f2 : flatD y = true) : eqV v w = eqF x y := by
  cases h <;> cases g <;> first | rfl | (simp [flatD] at f1) | (simp [flatD] at f2)
theorem inF_of {K : PySem.W.Frag} {F : Hp} {R : List Addr} {v : V} {x : D} (h : Rep K F R v x) (f1 : flatD x = true) : ∀ {vs : List V} {xs : List D}, RepAll K F R vs xs → xs.all flatD = true →
    vs.all flatV = true ∧ inV v vs = xs.any fun e => eqF e x
  | _, _, .nil, _ => ⟨rfl, rfl⟩
  | _, _, .cons (v := w) (d := y) g t, q => by
    simp only [List.all_cons, Bool.and_eq_true] at q
    obtain ⟨h1, h2⟩ := inF_of h f1 t q.2
    refine ⟨by simp only [List.all_cons, Bool.and_eq_true]; exact ⟨flat_of g q.1, h1⟩, ?_⟩
    unfold inV at h2 ⊢
    rw [List.any_cons, List.any_cons, h2, eqF_of g h q.1 f1]
theorem inD_ok {F H : Hp} {R : List Addr} {v : V} {x : D} {a : Addr} {vs : List V} {xs : List D} {b : Bool} (fh : Same F H) (rx : Rep X.K F R v x) (ha : F a = some (.lst vs)) (ra : RepAll X.K F R vs xs) (h : inD x xs = some b) :
    ∃ p qs, Dp X.K H v p ∧ Dp X.K H (.ref a) (.list qs) ∧ SeqAt.shaped p = true ∧ SeqAt.shaped (.list qs) = true ∧ b = qs.any fun q => PyData.eqv q p := by
  unfold inD at h
  cases h1 : x.py with
  | none => rw [h1] at h; cases h
  | some p =>
    cases h2 : pyAll xs with
    | none => rw [h1, h2] at h; cases h
    | some qs =>
      rw [h1, h2] at h
      simp only [Bool.and_eq_true] at h
      split at h
      · rename_i hs
        cases h
        exact ⟨p, qs, rx.py fh h1, .lst (SqL.of (fh _ _ ha)) (ra.py fh h2), hs.1, hs.2, rfl⟩
      · cases h
theorem scl_of {K : PySem.W.Frag} {F : Hp} {R : List Addr} {v w : V} {x y : D} {b : Bool} (h : Rep K F R v x) (g : Rep K F R w y) (e : sclD x y = some b) : scal v w = true ∧ b = decide (v = w) := by
  cases h <;> cases g <;> simp only [sclD, reduceCtorEq, Option.some.injEq] at e <;> subst e <;> refine ⟨rfl, ?_⟩ <;> simp
theorem tup_nil {pins : List (Addr × Obj)} {σ : St} {F H : Hp} {R : List Addr} {s : Shared} {v w : V} {u1 u2 : Value} {xs : List D} (hu : X.A.units < cLine) (I : L2.Inv X pins σ H s) (fh : Same F H) (rx : Rep X.K F R v (.tup xs)) (ry : Rep X.K F R w (.tup [])) (r1 : RelV v u1) (r2 : RelV w u2) :
    (∀ (Q E : Value → Shared → Prop), Q (.bool xs.isEmpty) s → wpAny (model X.prog X.w) X.A (compareOp .Eq u1 u2) Q E s) ∧ ∀ (Q E : Value → Shared → Prop), Q (.bool (!xs.isEmpty)) s → wpAny (model X.prog X.w) X.A (compareOp .NotEq u1 u2) Q E s := by
  cases rx with
  | tup h ra =>
    cases ry with
    | tup h2 rb =>
      cases rb
      cases r1; cases r2
      obtain ⟨us, q1, p1, _⟩ := I.tuple (same_t fh h)
      obtain ⟨ws, q2, p2, _⟩ := I.tuple (same_t fh h2)
      cases q2
      have e : ((List.range (min us.toArray.size ([] : List Value).toArray.size)).all (fun _ => true) && us.toArray.size == ([] : List Value).toArray.size) = xs.isEmpty := by
        have l1 := q1.length
        have l2 := ra.length
        cases xs with
        | nil =>
          have : us = [] := List.eq_nil_of_length_eq_zero (by rw [← l1, l2]; rfl)
          subst this; rfl
        | cons x xs =>
          have : us.length = xs.length + 1 := by rw [← l1, l2]; rfl
          simp [this]
      refine ⟨fun Q E q => ?_, fun Q E q => ?_⟩
      · exact SeqAt.RcAt.tuples (e := fun _ => true) p1 p2 hu (fun j h1 h2 => absurd h2 (by simp)) X.prog X.w E Q (by rw [e]; exact q)
      · exact SeqAt.RcNeAt.tuples (e := fun _ => true) p1 p2 hu (fun j h1 h2 => absurd h2 (by simp)) X.prog X.w E Q (by rw [e]; exact q)
theorem eqE_two {x y : D} {b : Bool} (h : eqE x y = some b) : (∃ xs, x = .tup xs ∧ y = .tup [] ∧ b = xs.isEmpty) ∨ eqD x y = some b := by
  unfold eqE at h
  split at h
  · cases h; exact .inl ⟨_, rfl, rfl, rfl⟩
  · exact .inr h
theorem op_cmp (hu : X.A.units + 65 < cLine) (op : CmpOp) : OpR X (compareOp op) (rCmp X.K op) := by
  intro pins s σ H v w u1 u2 Q I r1 r2 h
  obtain ⟨F, R, x, y, b, fh, rx, ry, hd, k⟩ := h
  have hu64 : X.A.units + 64 < cLine := by omega
  cases op with
  | Eq =>
    have hd' : eqA x y = some b := by cases x <;> cases y <;> exact hd
    unfold eqA at hd'
    split at hd'
    · rename_i r e
      cases hd'
      obtain ⟨s1, rfl⟩ := scl_of rx ry e
      exact op_eq pins s σ H _ _ _ _ Q I r1 r2 ⟨s1, k⟩
    · rcases eqE_two hd' with ⟨xs, rfl, rfl, rfl⟩ | hd'
      · exact (tup_nil (by omega) I fh rx ry r1 r2).1 _ _ ⟨.bl _, H, I, rfl, k⟩
      obtain ⟨p, q, d1, d2, s1, s2, rfl⟩ := eqD_ok fh rx ry hd'
      exact op_eqD hu64 pins s σ H _ _ _ _ Q I r1 r2 ⟨p, q, d1, d2, s1, s2, k⟩
  | NotEq =>
    have hd' : (eqA x y).map (!·) = some b := by cases x <;> cases y <;> exact hd
    cases e : eqA x y with
    | none => rw [e] at hd'; cases hd'
    | some c =>
      rw [e] at hd'
      cases hd'
      unfold eqA at e
      split at e
      · rename_i r e'
        cases e
        obtain ⟨s1, rfl⟩ := scl_of rx ry e'
        exact op_ne pins s σ H _ _ _ _ Q I r1 r2 ⟨s1, k⟩
      · rcases eqE_two e with ⟨xs, rfl, rfl, rfl⟩ | e
        · exact (tup_nil (by omega) I fh rx ry r1 r2).2 _ _ ⟨.bl _, H, I, rfl, k⟩
        obtain ⟨p, q, d1, d2, s1, s2, rfl⟩ := eqD_ok fh rx ry e
        exact op_neD hu64 pins s σ H _ _ _ _ Q I r1 r2 ⟨p, q, d1, d2, s1, s2, k⟩
  | Lt =>
    cases rx <;> cases ry <;> simp only [cmpD, reduceCtorEq, Option.some.injEq] at hd
    case int.int i j => subst hd; exact op_lt pins s σ H _ _ _ _ Q I r1 r2 ⟨i, j, rfl, rfl, k⟩
  | LtE =>
    cases rx <;> cases ry <;> simp only [cmpD, reduceCtorEq, Option.some.injEq] at hd
    case int.int i j => subst hd; exact op_le pins s σ H _ _ _ _ Q I r1 r2 ⟨i, j, rfl, rfl, k⟩
  | Gt =>
    cases rx <;> cases ry <;> simp only [cmpD, reduceCtorEq, Option.some.injEq] at hd
    case int.int i j => subst hd; exact op_gt pins s σ H _ _ _ _ Q I r1 r2 ⟨i, j, rfl, rfl, k⟩
  | GtE =>
    cases rx <;> cases ry <;> simp only [cmpD, reduceCtorEq, Option.some.injEq] at hd
    case int.int i j => subst hd; exact op_ge pins s σ H _ _ _ _ Q I r1 r2 ⟨i, j, rfl, rfl, k⟩
  | Is =>
    have isn : y = .non → b = isN x → wpAny (model X.prog X.w) X.A (compareOp .Is u1 u2) (EP X pins σ Q) X.xe s := fun e1 e2 => by
      subst e1 e2
      cases ry
      exact op_isN pins s σ H _ _ _ _ Q I r1 r2 ⟨rfl, by rw [rx.isN]; exact k⟩
    cases rx <;> cases ry <;> simp only [cmpD, reduceCtorEq, Option.some.injEq] at hd <;> first
      | exact isn rfl hd.symm
      | (subst hd; exact op_isBl pins s σ H _ _ _ _ Q I r1 r2 ⟨_, _, rfl, rfl, k⟩)
  | IsNot =>
    have isn : y = .non → b = !isN x → wpAny (model X.prog X.w) X.A (compareOp .IsNot u1 u2) (EP X pins σ Q) X.xe s := fun e1 e2 => by
      subst e1 e2
      cases ry
      exact op_notN pins s σ H _ _ _ _ Q I r1 r2 ⟨rfl, by rw [rx.isN]; exact k⟩
    cases rx <;> cases ry <;> simp only [cmpD, reduceCtorEq, Option.some.injEq] at hd <;> first
      | exact isn rfl hd.symm
      | (subst hd; exact op_notBl pins s σ H _ _ _ _ Q I r1 r2 ⟨_, _, rfl, rfl, k⟩)
  | In =>
    cases ry with
    | str z =>
      cases rx <;> simp only [cmpD, reduceCtorEq, Option.some.injEq] at hd
      case str a => subst hd; exact op_in_str pins s σ H _ _ _ _ Q I r1 r2 ⟨a, z, rfl, rfl, k⟩
    | @tup _ _ ds ha ra =>
      have hd' : inF x ds = some b := by cases x <;> exact hd
      unfold inF at hd'
      split at hd'
      · rename_i hf
        simp only [Bool.and_eq_true] at hf
        cases hd'
        obtain ⟨h1, h2⟩ := inF_of rx hf.1 ra hf.2
        exact op_in_seq pins s σ H _ _ _ _ Q I r1 r2 ⟨_, _, rfl, .inr (same_t fh ha), flat_of rx hf.1, h1, by rw [if_neg Bool.false_ne_true, h2]; exact k⟩
      · cases hd'
    | @lst _ _ ds ha ra =>
      have hd' : inD x ds = some b := by cases x <;> exact hd
      obtain ⟨p, qs, d1, d2, s1, s2, rfl⟩ := inD_ok fh rx ha ra hd'
      exact op_inD hu pins s σ H _ _ _ _ Q I r1 r2 ⟨p, qs, d1, d2, s1, s2, k⟩
    | _ => cases x <;> simp [cmpD] at hd
  | NotIn =>
    cases ry with
    | str z =>
      cases rx <;> simp only [cmpD, reduceCtorEq, Option.some.injEq] at hd
      case str a => subst hd; exact op_notIn_str pins s σ H _ _ _ _ Q I r1 r2 ⟨a, z, rfl, rfl, k⟩
    | @tup _ _ ds ha ra =>
      have hd' : (inF x ds).map (!·) = some b := by cases x <;> exact hd
      cases e : inF x ds with
      | none => rw [e] at hd'; cases hd'
      | some c =>
        rw [e] at hd'
        cases hd'
        unfold inF at e
        split at e
        · rename_i hf
          simp only [Bool.and_eq_true] at hf
          cases e
          obtain ⟨h1, h2⟩ := inF_of rx hf.1 ra hf.2
          exact op_notIn_seq pins s σ H _ _ _ _ Q I r1 r2 ⟨_, _, rfl, .inr (same_t fh ha), flat_of rx hf.1, h1, by rw [if_pos rfl, h2]; exact k⟩
        · cases e
    | @lst _ _ ds ha ra =>
      have hd' : (inD x ds).map (!·) = some b := by cases x <;> exact hd
      cases e : inD x ds with
      | none => rw [e] at hd'; cases hd'
      | some c =>
        rw [e] at hd'
        cases hd'
        obtain ⟨p, qs, d1, d2, s1, s2, rfl⟩ := inD_ok fh rx ha ra e
        exact op_notInD hu pins s σ H _ _ _ _ Q I r1 r2 ⟨p, qs, d1, d2, s1, s2, k⟩
    | _ => cases x <;> simp [cmpD] at hd
/-! ### subscripts, slices -/
theorem rdL_ok {K : PySem.W.Frag} {F H : Hp} {R : List Addr} {S : Sto} {v : V} {d : D} {xs : List D} (rs : RelS K F R H S) (r : Rep K F R v d) (h : rdL S d = some xs) :
    ∃ a vs, v = .ref a ∧ SqL K H a vs ∧ RepAll K F R vs xs := by
  cases r with
  | lst ha ra => cases h; exact ⟨_, _, rfl, SqL.of (rs.fh _ _ ha), ra⟩
  | @scr a ns ha => cases h; exact ⟨_, _, rfl, rs.fh.seq ha, RepAll.ints ns⟩
  | @obj a n hn =>
    simp only [rdL] at h
    cases e : S[n]? with
    | none => rw [e] at h; cases h
    | some o =>
      rw [e] at h
      cases o with
      | lst ys =>
        cases h
        obtain ⟨_, vs, h2, h3⟩ := rs.at_ n a _ hn e
        exact ⟨a, vs, rfl, SqL.of h2, h3⟩
      | _ => cases h
  | _ => cases h
theorem at_rep {K : PySem.W.Frag} {F : Hp} {R : List Addr} {vs : List V} {xs : List D} {i : Int} {d : D} (r : RepAll K F R vs xs) (h : atI xs i = some d) : ∃ v, atI vs i = some v ∧ Rep K F R v d := by
  unfold atI at h ⊢
  rw [r.length]
  cases e : ixN xs.length i with
  | none => rw [e] at h; cases h
  | some j =>
    rw [e] at h
    obtain ⟨v, h1, h2⟩ := r.get (show xs[j]? = some d from h)
    exact ⟨v, h1, h2⟩
def rSub (K : PySem.W.Frag) : R2 := fun v w H Q => ∃ F R S x y d, RelS K F R H S ∧ Rep K F R v x ∧ Rep K F R w y ∧ subD S x y = some d ∧ ∀ z, Rep K F R z d → Q z H
theorem ix_sub : IxR X (rSub X.K) := by
  intro value slice pins s σ H v w u1 u2 Q I r1 r2 h hs
  obtain ⟨F, R, S, x, y, d, rs, rx, ry, hd, k⟩ := h
  have go : (∃ xs i, rdL S x = some xs ∧ y = .int i ∧ atI xs i = some d) → wpAny (model X.prog X.w) X.A (PyProof.Rows.subscriptTail value slice u1 u2) (EP X pins σ Q) X.xe s := fun ⟨xs, i, e1, e2, e3⟩ => by
    subst e2
    cases ry
    obtain ⟨a, vs, rfl, h1, h2⟩ := rdL_ok rs rx e1
    obtain ⟨z, h3, h4⟩ := at_rep h2 e3
    exact ix_list value slice pins s σ H _ _ _ _ Q I r1 r2 ⟨a, vs, i, z, rfl, rfl, h1, h3, k z h4⟩ hs
  have lst : (∃ i, y = .int i ∧ (rdL S x).bind (fun xs => atI xs i) = some d) → ∃ xs i, rdL S x = some xs ∧ y = .int i ∧ atI xs i = some d := fun ⟨i, e1, e2⟩ => by
    cases e : rdL S x with
    | none => rw [e] at e2; cases e2
    | some xs => rw [e] at e2; exact ⟨xs, i, rfl, e1, e2⟩
  cases rx with
  | tup ha ra =>
    cases ry <;> simp only [subD, reduceCtorEq] at hd
    case int i =>
      obtain ⟨z, h3, h4⟩ := at_rep ra hd
      exact ix_tup value slice pins s σ H _ _ _ _ Q I r1 r2 ⟨_, _, i, z, rfl, rfl, same_t rs.fh ha, h3, k z h4⟩ hs
  | str z =>
    cases ry <;> simp only [subD, reduceCtorEq] at hd
    case int i =>
      split at hd
      · rename_i hl
        cases e : atI z.cps.toList i with
        | none => rw [e] at hd; cases hd
        | some c =>
          rw [e] at hd
          cases hd
          exact ix_str value slice pins s σ H _ _ _ _ Q I r1 r2 ⟨z, i, c, rfl, rfl, hl, e, k _ (.str _)⟩ hs
      · cases hd
  | lst ha ra => cases ry <;> simp only [subD, reduceCtorEq] at hd; exact go (lst ⟨_, rfl, hd⟩)
  | scr ha => cases ry <;> simp only [subD, reduceCtorEq] at hd; exact go (lst ⟨_, rfl, hd⟩)
  | obj ha => cases ry <;> simp only [subD, reduceCtorEq] at hd; exact go (lst ⟨_, rfl, hd⟩)
  | _ => cases ry <;> simp [subD, rdL] at hd
theorem cut_rep {K : PySem.W.Frag} {F : Hp} {R : List Addr} {vs : List V} {xs : List D} (lo hi : Option Int) (r : RepAll K F R vs xs) : RepAll K F R (cutV vs lo hi) (cutL xs lo hi) := by
  unfold cutV cutL
  rw [r.length]
  exact (r.drop _).take _
def rSl (K : PySem.W.Frag) : V → Option Int → Option Int → Hp → VK → Prop := fun v lo hi H Q => ∃ F R S x d, RelS K F R H S ∧ Rep K F R v x ∧ slD S lo hi x = some d ∧ ∀ z F' H', Nw K F R H F' H' → Rep K F' R z d → Q z H'
theorem cut_all {xs : List V} {lo hi : Option Int} (h1 : HT.sIx xs.length 0 lo = 0) (h2 : HT.sIx xs.length xs.length hi = xs.length) : cutV xs lo hi = xs := by
  unfold cutV
  rw [h1, h2, List.drop_zero, Nat.sub_zero, List.take_length]
theorem sl_ok : SlR X (rSl X.K) := by
  intro pins s σ H v u1 vl vu lo hi sl Q I r1 hs pl pu h
  obtain ⟨F, R, S, x, d, rs, rx, hd, k⟩ := h
  have lst : (rdL S x).map (fun xs => D.lst (cutL xs lo hi)) = some d → (∃ T id, typeLookup (.type T) "__getitem__" = pure (some (.builtin id)) ∧ s.TypeIs u1 T ∧ wpAny (model X.prog X.w) X.A (getItem u1 (.ref sl)) (EP X pins σ Q) X.xe s) := fun e2 => by
    cases e : rdL S x with
    | none => rw [e] at e2; cases e2
    | some xs =>
      rw [e] at e2
      cases e2
      obtain ⟨a, vs, rfl, h1, h2⟩ := rdL_ok rs rx e
      refine sl_list pins s σ H _ _ _ _ _ _ _ Q I r1 hs pl pu ⟨a, vs, rfl, h1, fun p hp => ?_⟩
      have n : Nw X.K F R H (upd F p (.lst (cutV vs lo hi))) (upd H p (.lst (cutV vs lo hi))) := Nw.one hp rs.fh
      exact k _ _ _ n (.lst upd_same ((cut_rep lo hi h2).mono n.1.f n.1.r))
  cases rx with
  | @tup a vs xs ha ra =>
    simp only [slD, Option.some.injEq] at hd
    subst hd
    refine sl_tupA pins s σ H _ _ _ _ _ _ _ Q I r1 hs pl pu ⟨_, _, rfl, same_t rs.fh ha, fun ⟨e1, e2⟩ => ?_, fun _ p hp => ?_⟩
    · refine k _ F H .refl (.tup ha ?_)
      have q := cut_rep lo hi ra
      rw [cut_all e1 e2] at q
      exact q
    · have n : Nw X.K F R H (upd F p (.tup (cutV vs lo hi))) (upd H p (.tup (cutV vs lo hi))) := Nw.one hp rs.fh
      exact k _ _ _ n (.tup (SqT.of upd_same) ((cut_rep lo hi ra).mono n.1.f n.1.r))
  | str z =>
    simp only [slD] at hd
    split at hd
    · rename_i hl
      cases hd
      exact sl_str pins s σ H _ _ _ _ _ _ _ Q I r1 hs pl pu ⟨z, rfl, hl, k _ F H .refl (.str _)⟩
    · cases hd
  | lst ha ra => exact lst hd
  | scr ha => exact lst hd
  | obj ha => exact lst hd
  | _ => simp [slD, rdL] at hd
end
end Mn
/-! built-in functions and methods by values -/
namespace Mn
open PySem L2
variable [CA]
theorem reps1 {K : PySem.W.Frag} {F : Hp} {R : List Addr} {vs : List V} {x : D} (r : RepAll K F R vs [x]) : ∃ v, vs = [v] ∧ Rep K F R v x := by
  cases r with
  | cons h t => cases t; exact ⟨_, rfl, h⟩
theorem reps2 {K : PySem.W.Frag} {F : Hp} {R : List Addr} {vs : List V} {x y : D} (r : RepAll K F R vs [x, y]) : ∃ v w, vs = [v, w] ∧ Rep K F R v x ∧ Rep K F R w y := by
  cases r with
  | cons h t =>
    obtain ⟨w, rfl, h2⟩ := reps1 t
    exact ⟨_, _, rfl, h, h2⟩
theorem ints_of {K : PySem.W.Frag} {F : Hp} {R : List Addr} : ∀ {vs : List V} {xs : List D} {ns : List Int}, RepAll K F R vs xs → intsD xs = some ns → vs = ns.map V.int
  | _, _, _, .nil, h => by cases h; rfl
  | _, _, ns, .cons (ds := ds) q t, h => by
    cases q <;> simp only [intsD, reduceCtorEq] at h
    case int i =>
      cases e : intsD ds with
      | none => rw [e] at h; cases h
      | some ms => rw [e] at h; cases h; rw [ints_of t e]; rfl
theorem bls_of {K : PySem.W.Frag} {F : Hp} {R : List Addr} : ∀ {vs : List V} {xs : List D} {ns : List Bool}, RepAll K F R vs xs → blsD xs = some ns → vs = ns.map V.bl
  | _, _, _, .nil, h => by cases h; rfl
  | _, _, ns, .cons (ds := ds) q t, h => by
    cases q <;> simp only [blsD, reduceCtorEq] at h
    case bl i =>
      cases e : blsD ds with
      | none => rw [e] at h; cases h
      | some ms => rw [e] at h; cases h; rw [bls_of t e]; rfl
section
variable {X : Cx}
def rBlt (K : PySem.W.Frag) (b : Bi) : List V → Hp → VK → Prop := fun vs H Q => ∃ F R S xs d, RelS K F R H S ∧ RepAll K F R vs xs ∧ blD S b xs = some d ∧ ∀ z F' H', Nw K F R H F' H' → Rep K F' R z d → Q z H'
/-- the value that the name stands for -/
def fBi : Bi → Value
  | .len => .builtin "len" | .abs => .builtin "abs" | .int => .type "int" | .str => .type "str" | .repr => .builtin "repr"
  | .all => .builtin "all" | .any => .builtin "any" | .sum => .builtin "sum" | .max => .builtin "max" | .min => .builtin "min"
  | .tuple => .type "tuple" | .list => .type "list" | .divmod => .builtin "divmod" | .sorted => .builtin "sorted" | .isinst => .builtin "isinstance"
  | .range => .type "range"
/-- what of the text a known class must have -/
structure CFacts (K : PySem.W.Frag) (c : Nat) : Prop where
  pl : CA.sl c = false → Cls K (CA.ca c) ∧ ∀ f ∈ CA.fl c, NoAttr K (CA.ca c) (CA.fnm f)
  st : CA.sl c = true → SlX.SCls K (CA.ca c) ∧ ∀ (i f : Nat), (CA.fl c)[i]? = some f → ∃ p, SlX.Slot1 K (CA.ca c) (CA.fnm f) p i
  si : SlX.SIsi K (CA.ca c)
  ot : CA.tc c = true → ∀ c', CA.kc c' = true → c' ≠ c → PySem.W.kitOne K (.ref (CA.ca c')) (.ref (CA.ca c)) = some false
  ne : PySem.W.findIn K (.ref (CA.ca c)) "__ne__" = some (some (.builtin "object.__ne__"))
  ti : CA.tc c = true → ∀ T ∈ (["int", "str", "bool", "tuple", "list", "dict", "NoneType"] : List String), PySem.W.kitOne K (.type T) (.ref (CA.ca c)) = some false
structure BOk (X : Cx) : Prop where
  cf : ∀ c, CA.kc c = true → CFacts X.K c
  tk : ∀ c, CA.tc c = true → CA.kc c = true
  calm : X.calm = true
  un : X.A.units + 65 < cLine
  gd : X.A.guards = some []
theorem fr_of {F H : Hp} {p : Addr} (fh : Same F H) (hp : H p = none) : F p = none := fh.free hp
theorem lenL {S : Sto} {d : D} {r : D} (h : (rdL S d).map (fun xs => D.int (xs.length : Int)) = some r) : ∃ xs, rdL S d = some xs ∧ r = .int (xs.length : Int) := by
  cases e : rdL S d with
  | none => rw [e] at h; cases h
  | some xs => rw [e] at h; cases h; exact ⟨xs, rfl, rfl⟩
theorem bl_len (b : BOk X) : CallR X (.builtin "len") (rBlt X.K .len) := by
  intro pins s σ H vs us Q I r h
  obtain ⟨F, R, S, xs, d, rs, ra, hd, k⟩ := h
  have sq : ∀ (x : D) (v : V), Rep X.K F R v x → vs = [v] → (rdL S x).map (fun xs => D.int (xs.length : Int)) = some d → wpAny (model X.prog X.w) X.A (call (.builtin "len") us) (EP X pins σ Q) X.xe s := fun x v rv ev e => by
    obtain ⟨ys, e1, rfl⟩ := lenL e
    subst ev
    obtain ⟨a, ws, rfl, h1, h2⟩ := rdL_ok rs rv e1
    refine call_len_seq pins s σ H _ us Q I r ⟨a, ws, rfl, .inl h1, ?_⟩
    rw [h2.length]
    exact k _ F H .refl (.int _)
  match xs, hd with
  | [x], hd =>
    obtain ⟨v, rfl, rv⟩ := reps1 ra
    cases rv with
    | str z =>
      simp only [blD] at hd
      split at hd
      · rename_i hl
        cases hd
        exact call_len_str pins s σ H _ us Q I r ⟨z, rfl, hl, k _ F H .refl (.int _)⟩
      · cases hd
    | tup ha rb =>
      cases hd
      refine call_len_seq pins s σ H _ us Q I r ⟨_, _, rfl, .inr (same_t rs.fh ha), ?_⟩
      rw [rb.length]
      exact k _ F H .refl (.int _)
    | lst ha rb => exact sq _ _ (.lst ha rb) rfl hd
    | scr ha => exact sq _ _ (.scr ha) rfl hd
    | obj ha => exact sq _ _ (.obj ha) rfl hd
    | _ => simp [blD, rdL] at hd
  | [], hd => simp [blD] at hd
  | _ :: _ :: _, hd => simp [blD] at hd
theorem bl_abs : CallR X (.builtin "abs") (rBlt X.K .abs) := by
  intro pins s σ H vs us Q I r h
  obtain ⟨F, R, S, xs, d, rs, ra, hd, k⟩ := h
  unfold blD at hd
  split at hd <;> first | contradiction | skip
  rename_i i _
  cases hd
  obtain ⟨v, rfl, rv⟩ := reps1 ra
  cases rv
  exact call_abs pins s σ H _ us Q I r ⟨i, rfl, k _ F H .refl (.int _)⟩
theorem bl_int : CallR X (.type "int") (rBlt X.K .int) := by
  intro pins s σ H vs us Q I r h
  obtain ⟨F, R, S, xs, d, rs, ra, hd, k⟩ := h
  unfold blD at hd
  split at hd <;> first | contradiction | skip
  · cases hd
    obtain ⟨v, rfl, rv⟩ := reps1 ra
    cases rv
    exact call_int1 pins s σ H _ us Q I r (.inl ⟨_, rfl, k _ F H .refl (.int _)⟩)
  · cases hd
    obtain ⟨v, rfl, rv⟩ := reps1 ra
    cases rv
    exact call_int1 pins s σ H _ us Q I r (.inr ⟨_, rfl, k _ F H .refl (.int _)⟩)
  · rename_i a _
    obtain ⟨v, rfl, rv⟩ := reps1 ra
    cases rv
    split at hd
    · rename_i hl
      cases e : intText? a with
      | none => rw [e] at hd; cases hd
      | some n =>
        rw [e] at hd
        cases hd
        exact call_int_str pins s σ H _ us Q I r ⟨a, n, rfl, e, hl, k _ F H .refl (.int _)⟩
    · cases hd
theorem bl_str : CallR X (.type "str") (rBlt X.K .str) := by
  intro pins s σ H vs us Q I r h
  obtain ⟨F, R, S, xs, d, rs, ra, hd, k⟩ := h
  unfold blD at hd
  split at hd <;> first | contradiction | skip
  · obtain ⟨v, rfl, rv⟩ := reps1 ra
    cases rv
    split at hd
    · rename_i hl
      cases hd
      exact call_str_int pins s σ H _ us Q I r ⟨_, rfl, hl, k _ F H .refl (.str _)⟩
    · cases hd
  · cases hd
    obtain ⟨v, rfl, rv⟩ := reps1 ra
    cases rv
    exact SkE.call_str_str pins s σ H _ us Q I r ⟨_, rfl, k _ F H .refl (.str _)⟩
theorem bl_all (b : BOk X) : CallR X (.builtin "all") (rBlt X.K .all) := by
  intro pins s σ H vs us Q I r h
  obtain ⟨F, R, S, xs, d, rs, ra, hd, k⟩ := h
  unfold blD at hd
  split at hd <;> first | contradiction | skip
  rename_i ys _
  obtain ⟨v, rfl, rv⟩ := reps1 ra
  cases e : blsD ys with
  | none => rw [e] at hd; cases hd
  | some bs =>
    rw [e] at hd
    cases hd
    cases rv with
    | lst ha rb =>
      have q := bls_of rb e
      subst q
      exact cr_all b.calm pins s σ H _ us Q I r ⟨_, bs, rfl, SqL.of (rs.fh _ _ ha), k _ F H .refl (.bl _)⟩
theorem bl_any (b : BOk X) : CallR X (.builtin "any") (rBlt X.K .any) := by
  intro pins s σ H vs us Q I r h
  obtain ⟨F, R, S, xs, d, rs, ra, hd, k⟩ := h
  unfold blD at hd
  split at hd <;> first | contradiction | skip
  rename_i ys _
  obtain ⟨v, rfl, rv⟩ := reps1 ra
  cases e : blsD ys with
  | none => rw [e] at hd; cases hd
  | some bs =>
    rw [e] at hd
    cases hd
    cases rv with
    | lst ha rb =>
      have q := bls_of rb e
      subst q
      exact cr_any b.calm pins s σ H _ us Q I r ⟨_, bs, rfl, SqL.of (rs.fh _ _ ha), k _ F H .refl (.bl _)⟩
theorem bl_sum (b : BOk X) : CallR X (.builtin "sum") (rBlt X.K .sum) := by
  intro pins s σ H vs us Q I r h
  obtain ⟨F, R, S, xs, d, rs, ra, hd, k⟩ := h
  unfold blD at hd
  split at hd <;> first | contradiction | skip
  rename_i ys _
  obtain ⟨v, rfl, rv⟩ := reps1 ra
  cases e : intsD ys with
  | none => rw [e] at hd; cases hd
  | some ns =>
    rw [e] at hd
    cases hd
    cases rv with
    | lst ha rb =>
      have q := ints_of rb e
      subst q
      exact cr_sum b.calm pins s σ H _ us Q I r ⟨_, ns, rfl, SqL.of (rs.fh _ _ ha), k _ F H .refl (.int _)⟩
theorem maxO_ok : ∀ (xs : List Int) (x m : Int), maxO (x :: xs) = some m → m ∈ x :: xs ∧ ∀ y ∈ x :: xs, y ≤ m
  | [], x, m, h => by
    simp only [maxO, List.foldl_nil, Option.some.injEq] at h
    subst h
    exact ⟨List.mem_cons_self, fun y hy => by rw [List.mem_singleton] at hy; rw [hy]; exact Int.le_refl _⟩
  | z :: xs, x, m, h => by
    obtain ⟨h1, h2⟩ := maxO_ok xs (if z > x then z else x) m h
    have hz : z ≤ (if z > x then z else x) := by split <;> omega
    have hx : x ≤ (if z > x then z else x) := by split <;> omega
    have hb := h2 _ List.mem_cons_self
    refine ⟨?_, fun y hy => ?_⟩
    · rcases List.mem_cons.mp h1 with e | e
      · rw [e]; split <;> simp
      · exact List.mem_cons_of_mem _ (List.mem_cons_of_mem _ e)
    · rcases List.mem_cons.mp hy with e | hy
      · rw [e]; exact Int.le_trans hx hb
      · rcases List.mem_cons.mp hy with e | hy
        · rw [e]; exact Int.le_trans hz hb
        · exact h2 y (List.mem_cons_of_mem _ hy)
theorem minO_ok : ∀ (xs : List Int) (x m : Int), minO (x :: xs) = some m → m ∈ x :: xs ∧ ∀ y ∈ x :: xs, m ≤ y
  | [], x, m, h => by
    simp only [minO, List.foldl_nil, Option.some.injEq] at h
    subst h
    exact ⟨List.mem_cons_self, fun y hy => by rw [List.mem_singleton] at hy; rw [hy]; exact Int.le_refl _⟩
  | z :: xs, x, m, h => by
    obtain ⟨h1, h2⟩ := minO_ok xs (if z < x then z else x) m h
    have hz : (if z < x then z else x) ≤ z := by split <;> omega
    have hx : (if z < x then z else x) ≤ x := by split <;> omega
    have hb := h2 _ List.mem_cons_self
    refine ⟨?_, fun y hy => ?_⟩
    · rcases List.mem_cons.mp h1 with e | e
      · rw [e]; split <;> simp
      · exact List.mem_cons_of_mem _ (List.mem_cons_of_mem _ e)
    · rcases List.mem_cons.mp hy with e | hy
      · rw [e]; exact Int.le_trans hb hx
      · rcases List.mem_cons.mp hy with e | hy
        · rw [e]; exact Int.le_trans hb hz
        · exact h2 y (List.mem_cons_of_mem _ hy)
theorem bl_max (b : BOk X) : CallR X (.builtin "max") (rBlt X.K .max) := by
  intro pins s σ H vs us Q I r h
  obtain ⟨F, R, S, xs, d, rs, ra, hd, k⟩ := h
  unfold blD at hd
  split at hd <;> first | contradiction | skip
  · rename_i ys _
    obtain ⟨v, rfl, rv⟩ := reps1 ra
    cases e : intsD ys with
    | none => rw [e] at hd; cases hd
    | some ns =>
      rw [e, Option.bind_some] at hd
      cases e2 : maxO ns with
      | none => rw [e2] at hd; cases hd
      | some m =>
        rw [e2] at hd
        cases hd
        cases rv with
        | lst ha rb =>
          have q := ints_of rb e
          subst q
          cases ns with
          | nil => cases e2
          | cons x ns =>
            obtain ⟨g1, g2⟩ := maxO_ok ns x m e2
            exact cr_max b.calm pins s σ H _ us Q I r ⟨_, x :: ns, rfl, SqL.of (rs.fh _ _ ha), by simp, fun m' h1 h2 => by
              have : m' = m := Int.le_antisymm (g2 _ h1) (h2 _ g1)
              subst this
              exact k _ F H .refl (.int _)⟩
  · cases hd
    obtain ⟨v, w, rfl, rv, rw'⟩ := reps2 ra
    cases rv
    cases rw'
    exact call_max2 b.calm pins s σ H _ us Q I r ⟨_, _, rfl, k _ F H .refl (.int _)⟩
theorem bl_min (b : BOk X) : CallR X (.builtin "min") (rBlt X.K .min) := by
  intro pins s σ H vs us Q I r h
  obtain ⟨F, R, S, xs, d, rs, ra, hd, k⟩ := h
  unfold blD at hd
  split at hd <;> first | contradiction | skip
  · rename_i ys _
    obtain ⟨v, rfl, rv⟩ := reps1 ra
    cases e : intsD ys with
    | none => rw [e] at hd; cases hd
    | some ns =>
      rw [e, Option.bind_some] at hd
      cases e2 : minO ns with
      | none => rw [e2] at hd; cases hd
      | some m =>
        rw [e2] at hd
        cases hd
        cases rv with
        | lst ha rb =>
          have q := ints_of rb e
          subst q
          cases ns with
          | nil => cases e2
          | cons x ns =>
            obtain ⟨g1, g2⟩ := minO_ok ns x m e2
            exact cr_min b.calm pins s σ H _ us Q I r ⟨_, x :: ns, rfl, SqL.of (rs.fh _ _ ha), by simp, fun m' h1 h2 => by
              have : m' = m := Int.le_antisymm (h2 _ g1) (g2 _ h1)
              subst this
              exact k _ F H .refl (.int _)⟩
  · cases hd
    obtain ⟨v, w, rfl, rv, rw'⟩ := reps2 ra
    cases rv
    cases rw'
    exact call_min2 b.calm pins s σ H _ us Q I r ⟨_, _, rfl, k _ F H .refl (.int _)⟩
theorem bl_tuple : CallR X (.type "tuple") (rBlt X.K .tuple) := by
  intro pins s σ H vs us Q I r h
  obtain ⟨F, R, S, xs, d, rs, ra, hd, k⟩ := h
  unfold blD at hd
  split at hd <;> first | contradiction | skip
  · cases hd
    obtain ⟨v, rfl, rv⟩ := reps1 ra
    cases rv with
    | tup ha rb => exact call_tuple_of pins s σ H _ us Q I r ⟨_, _, rfl, .inr ⟨same_t rs.fh ha, k _ F H .refl (.tup ha rb)⟩⟩
  · cases hd
    obtain ⟨v, rfl, rv⟩ := reps1 ra
    cases rv with
    | @lst a ws _ ha rb =>
      refine call_tuple_of pins s σ H _ us Q I r ⟨_, _, rfl, .inl ⟨SqL.of (rs.fh _ _ ha), fun p hp => ?_⟩⟩
      have n : Nw X.K F R H (upd F p (.tup ws)) (upd H p (.tup ws)) := Nw.one hp rs.fh
      exact k _ _ _ n (.tup (SqT.of upd_same) (rb.mono n.1.f n.1.r))
theorem bl_list : CallR X (.type "list") (rBlt X.K .list) := by
  intro pins s σ H vs us Q I r h
  obtain ⟨F, R, S, xs, d, rs, ra, hd, k⟩ := h
  unfold blD at hd
  split at hd <;> first | contradiction | skip
  · cases hd
    obtain ⟨v, rfl, rv⟩ := reps1 ra
    cases rv with
    | @tup a ws _ ha rb =>
      refine call_list_of pins s σ H _ us Q I r ⟨_, _, rfl, .inr (same_t rs.fh ha), fun p hp => ?_⟩
      have n : Nw X.K F R H (upd F p (.lst ws)) (upd H p (.lst ws)) := Nw.one hp rs.fh
      exact k _ _ _ n (.lst upd_same (rb.mono n.1.f n.1.r))
  · cases hd
    obtain ⟨v, rfl, rv⟩ := reps1 ra
    cases rv with
    | @lst a ws _ ha rb =>
      refine call_list_of pins s σ H _ us Q I r ⟨_, _, rfl, .inl (SqL.of (rs.fh _ _ ha)), fun p hp => ?_⟩
      have n : Nw X.K F R H (upd F p (.lst ws)) (upd H p (.lst ws)) := Nw.one hp rs.fh
      exact k _ _ _ n (.lst upd_same (rb.mono n.1.f n.1.r))
theorem bl_divmod : CallR X (.builtin "divmod") (rBlt X.K .divmod) := by
  intro pins s σ H vs us Q I r h
  obtain ⟨F, R, S, xs, d, rs, ra, hd, k⟩ := h
  unfold blD at hd
  split at hd <;> first | contradiction | skip
  rename_i i j _
  split at hd
  · rename_i hm
    cases hd
    obtain ⟨v, w, rfl, rv, rw'⟩ := reps2 ra
    cases rv
    cases rw'
    have c : CDivW i j := divOk_of hm
    refine call_divmodW pins s σ H _ us Q I r ⟨i, j, rfl, ⟨c.1, PyProof.noPylong_of_log2 c.2⟩, fun p hp => ?_⟩
    have n : Nw X.K F R H (upd F p (.tup [V.int (i / j), V.int (i % j)])) (upd H p (.tup [V.int (i / j), V.int (i % j)])) := Nw.one hp rs.fh
    exact k _ _ _ n (.tup (SqT.of upd_same) (.cons (.int _) (.cons (.int _) .nil)))
  · cases hd
theorem tup_ty {H : Hp} {a : Addr} {ws : List V} (h : SqT X.K H a ws) : TyX X.K H (.ref a) (.type "tuple") := by
  rcases h with (h | ⟨o, h⟩) | ⟨o, its, n, h1, h2, _⟩
  · exact .base (.tup h)
  · exact .fTuple h
  · exact .kTuple h1 h2
theorem insAt_slt {H : Hp} {a dx : Addr} {c : Nat} {ws : List V} (h : InsAt H a dx c ws) (hs : CA.sl c = true) : SlX.Slt H a (CA.ca c) dx (ws.map some) := by
  obtain ⟨_, ⟨h0, _⟩ | ⟨_, ⟨hw, h1, _⟩ | ⟨h1, h2⟩⟩⟩ := h
  · rw [hs] at h0; cases h0
  · subst hw; exact .inl ⟨h1, rfl⟩
  · exact .inr ⟨h1, h2⟩
theorem insAt_dct {H : Hp} {a dx : Addr} {c : Nat} {ws : List V} (h : InsAt H a dx c ws) (hs : CA.sl c = false) : H a = some (.ins (CA.ca c) dx (((CA.fl c).map CA.fnm).zip ws)) := by
  obtain ⟨_, ⟨_, _, h1, _⟩ | ⟨h0, _⟩⟩ := h
  · exact h1
  · rw [hs] at h0; cases h0
theorem bl_isinst (b : BOk X) : CallR X (.builtin "isinstance") (rBlt X.K .isinst) := by
  intro pins s σ H vs us Q I r h
  obtain ⟨F, R, S, xs, d, rs, ra, hd, k⟩ := h
  unfold blD at hd
  split at hd <;> first | contradiction | skip
  · rename_i x T _
    obtain ⟨v, w, rfl, rv, rw'⟩ := reps2 ra
    cases rw'
    cases e : isTy x T with
    | none => rw [e] at hd; cases hd
    | some b =>
      rw [e] at hd
      cases hd
      have go : ∀ t : String, TyX X.K H v (.type t) → kitB t T = some b → wpAny (model X.prog X.w) X.A (call (.builtin "isinstance") us) (EP X pins σ Q) X.xe s := fun t ty e2 =>
        call_isi pins s σ H _ us Q I r ⟨v, .ty T, .type t, .type T, b, rfl, .ty T, ty, kit_ty e2, k _ F H .refl (.bl _)⟩
      cases rv with
      | non => exact go "NoneType" (.base .non) e
      | bl c => exact go "bool" (.base (.bl c)) e
      | int i => exact go "int" (.base (.int i)) e
      | str z => exact go "str" (.base (.str z)) e
      | tup ha rb => exact go "tuple" (tup_ty (same_t rs.fh ha)) e
      | lst ha rb => exact go "list" (.base (.lst (rs.fh _ _ ha))) e
      | dic ha hl rb => exact go "dict" (.base (.dK (rs.fh _ _ ha))) e
      | _ => simp [isTy] at e
  · rename_i x c _
    obtain ⟨v, w, rfl, rv, rw'⟩ := reps2 ra
    cases rw' with
    | cls _ htc =>
    have cf := b.cf c (b.tk c htc)
    cases e : isC c x with
    | none => rw [e] at hd; cases hd
    | some bb =>
      rw [e] at hd
      cases hd
      have go : ∀ t : String, t ∈ (["int", "str", "bool", "tuple", "list", "dict", "NoneType"] : List String) → TyX X.K H v (.type t) → bb = false → wpAny (model X.prog X.w) X.A (call (.builtin "isinstance") us) (EP X pins σ Q) X.xe s := fun t ht ty e2 => by
        subst e2
        exact call_isi pins s σ H _ us Q I r ⟨v, .ref (CA.ca c), .type t, .ref (CA.ca c), false, rfl, .own _, ty, cf.ti htc t ht, k _ F H .refl (.bl _)⟩
      cases rv with
      | non => cases e; exact go "NoneType" (by simp) (.base .non) rfl
      | bl c => cases e; exact go "bool" (by simp) (.base (.bl c)) rfl
      | int i => cases e; exact go "int" (by simp) (.base (.int i)) rfl
      | str z => cases e; exact go "str" (by simp) (.base (.str z)) rfl
      | tup ha rb => cases e; exact go "tuple" (by simp) (tup_ty (same_t rs.fh ha)) rfl
      | lst ha rb => cases e; exact go "list" (by simp) (.base (.lst (rs.fh _ _ ha))) rfl
      | dic ha hl rb => cases e; exact go "dict" (by simp) (.base (.dK (rs.fh _ _ ha))) rfl
      | @ins a dx c' ws ds hi rb =>
        simp only [isC, Option.some.injEq] at e
        have hi2 := hi.same (rs.fh _) (rs.fh _)
        have cf' := b.cf c' hi.1.2
        have km : PySem.W.kitOne X.K (.ref (CA.ca c')) (.ref (CA.ca c)) = some bb := by
          by_cases ec : c' = c
          · subst ec
            rw [show bb = true by rw [← e]; simp]
            exact if_pos (by simp)
          · rw [show bb = false by rw [← e]; simp [ec]]
            exact cf.ot htc c' hi.1.2 ec
        cases hsl : CA.sl c' with
        | false =>
          have T := cf'.si
          exact call_isi pins s σ H _ us Q I r ⟨.ref a, .ref (CA.ca c), .ref (CA.ca c'), .ref (CA.ca c), bb, rfl, .own _, .base (.ins (insAt_dct hi2 hsl) (cf'.pl hsl).1 T.ca T.cn T.ct T.cm), km, k _ F H .refl (.bl _)⟩
        | true =>
          refine SlX.call_isiSl (.ref (CA.ca c)) pins s σ H _ us Q I r ⟨a, CA.ca c', dx, _, .ref (CA.ca c), bb, rfl, rfl, fun w hw => hw, insAt_slt hi2 hsl, (cf'.st hsl).1, cf'.si, km, k _ F H .refl (.bl _)⟩
      | _ => simp [isC] at e
theorem showD_ok {d : D} {x : Str} (h : showD d = some x) : ∃ p, d.py = some p ∧ p.showable = true ∧ p.depth ≤ 60 ∧ p.hasDict = false ∧ p.shown.length ≤ sizeLine ∧ x = p.shown := by
  unfold showD at h
  cases e : d.py with
  | none => rw [e] at h; cases h
  | some p =>
    rw [e] at h
    simp only [Bool.and_eq_true, decide_eq_true_eq, Bool.not_eq_true'] at h
    split at h
    · rename_i c
      cases h
      exact ⟨p, rfl, c.1.1.1, c.1.1.2, c.1.2, c.2, rfl⟩
    · cases h
/-- a dict of plain things, as it stands -/
def flatV2 : V → Option PyData
  | .non => some .none
  | .bl b => some (.bool b)
  | .int i => some (.int i)
  | .str x => some (.str x)
  | _ => none
def dkP : List (Key × V) → Option (List (PyData × PyData))
  | [] => some []
  | (k, v) :: r => match flatV2 v, dkP r with
    | some p, some ps => some ((keyP k, p) :: ps)
    | _, _ => none
theorem flat_reads {h : Heap} {v : V} {u : Value} {p : PyData} (e : flatV2 v = some p) (r : RelV v u) : Reads h u p [] := by
  cases v with
  | non => cases e; cases r; exact .none
  | bl b => cases e; cases r; exact .bool b
  | int i => cases e; obtain ⟨t, rfl⟩ := r; exact .int i t
  | str x => cases e; obtain ⟨t, rfl⟩ := r; exact .str x t
  | _ => cases e
theorem dk_reads {h : Heap} {prog : Program} {w : World} : ∀ {kvs : List (Key × V)} {vs : List (Key × Value)} {es : List DictEntry} {ps : List (PyData × PyData)}, KV kvs vs → Pairs (mixKind prog w) es vs → dkP kvs = some ps → ReadsAll h (es.map (·.key)) (ps.map (·.1)) [] ∧ ReadsAll h (es.map (·.val)) (ps.map (·.2)) []
  | [], _, _, _, .nil, .nil, e => by cases e; exact ⟨.nil, .nil⟩
  | (k, v) :: r, _, _, ps, .cons hkv hr, .cons (e := en) hk hv hp, e => by
    simp only [dkP] at e
    cases e1 : flatV2 v with
    | none => rw [e1] at e; cases e
    | some p =>
      cases e2 : dkP r with
      | none => rw [e1, e2] at e; cases e
      | some qs =>
        rw [e1, e2] at e
        cases e
        obtain ⟨q1, q2⟩ := dk_reads hr hp e2
        obtain ⟨f1, f2⟩ := hkv
        refine ⟨ReadsAll.cons (as := []) (bs := []) ?_ q1, ReadsAll.cons (as := []) (bs := []) ?_ q2⟩
        · have hk' : keyIs k en.key = true := by rw [show k = _ from f1]; exact hk
          rcases keyIs_shape hk' with ⟨i, t, rfl, e3⟩ | ⟨x, t, rfl, e3⟩
          · show Reads h en.key _ []
            rw [e3]; exact .int i t
          · show Reads h en.key _ []
            rw [e3]; exact .str x t
        · show Reads h en.val p []
          rw [hv]; exact flat_reads e1 f2
theorem flatP_of {K : PySem.W.Frag} {F : Hp} {R : List Addr} {v : V} {d : D} {p : PyData} (r : Rep K F R v d) (e : flatP d = some p) : flatV2 v = some p := by
  cases r <;> first | (cases e; rfl) | (cases e; done)
theorem dicP_ok {K : PySem.W.Frag} {F : Hp} {R : List Addr} : ∀ {ks : List Key} {ws : List V} {ds : List D} {ps : List (PyData × PyData)}, ks.length = ws.length → RepAll K F R ws ds → dicP (ks.zip ds) = some ps → dkP (ks.zip ws) = some ps
  | [], ws, ds, ps, _, _, e => by
    simp only [List.zip_nil_left, dicP] at e ⊢
    cases e; rfl
  | k :: ks, [], ds, ps, hl, _, _ => by simp at hl
  | k :: ks, w :: ws, _, ps, hl, .cons (d := d) (ds := ds) h t, e => by
    simp only [List.zip_cons_cons, dicP] at e
    cases e1 : flatP d with
    | none => rw [e1] at e; cases e
    | some p =>
      cases e2 : dicP (ks.zip ds) with
      | none => rw [e1, e2] at e; cases e
      | some qs =>
        rw [e1, e2] at e
        cases e
        have q := dicP_ok (by simpa using hl) t e2
        simp only [List.zip_cons_cons, dkP, flatP_of h e1, q]
theorem repr_dk {pins : List (Addr × Obj)} {σ : St} {H : Hp} {s : Shared} {a : Addr} {kvs : List (Key × V)} {ps : List (PyData × PyData)} {Q : Value → Shared → Prop} {E : Value → Shared → Prop} (I : L2.Inv X pins σ H s) (gd : X.A.guards = some []) (un : X.A.units + 65 < cLine) (h : H a = some (.dK kvs)) (e : dkP kvs = some ps)
    (h2 : (PyData.dict ps).showable = true) (h3 : (PyData.dict ps).depth ≤ 60) (h5 : (PyData.dict ps).shown.length ≤ sizeLine) (fin : ∀ h' w tk, (∀ b o, s.heap.get? b = some o → h'.get? b = some o) → Q (.str (PyData.dict ps).shown w) { s with heap := h', toks := tk }) :
    wpAny (model X.prog X.w) X.A (call (.builtin "repr") [.ref a]) Q E s := by
  obtain ⟨_, low, vs, kv, o, es, ep, g1, g2, g3, _, g4, _⟩ := I.hok a _ h
  obtain ⟨q1, q2⟩ := dk_reads (h := s.heap) kv g4 e
  have rd : Reads s.heap (.ref a) (.dict ps) (a :: [] ++ []) := .dict g1 g2.1 g3 q1 q2
  refine repr_of_reads' rd h2 (fun _ m => ?_) gd (by omega) (fun _ _ q => q) fin h5
  simp at m
  rw [m] at low
  simp at low
theorem bl_repr (b : BOk X) : CallR X (.builtin "repr") (rBlt X.K .repr) := by
  intro pins s σ H vs us Q I r h
  obtain ⟨F, R, S, xs, d, rs, ra, hd, k⟩ := h
  unfold blD at hd
  split at hd <;> first | contradiction | skip
  rename_i x _
  obtain ⟨v, rfl, rv⟩ := reps1 ra
  have un := b.un
  unfold showX at hd
  cases e : showD x with
  | none =>
    rw [e] at hd
    have hd : (showDic x).map D.str = some d := hd
    cases x <;> first | (cases hd; done) | skip
    rename_i kvs hd0
    unfold showDic at hd
    dsimp only at hd
    cases e2 : dicP kvs with
    | none => rw [e2] at hd; cases hd
    | some ps =>
      rw [e2] at hd
      dsimp only at hd
      split at hd
      · rename_i c
        simp only [Bool.and_eq_true, decide_eq_true_eq] at c
        cases hd
        cases rv with
        | dic hF hl ra2 =>
          obtain ⟨u, rfl, r1⟩ := vals1 r
          cases r1
          have hQ := k _ F H .refl (Rep.str (K := X.K) (F := F) (R := R) (PyData.dict ps).shown)
          exact repr_dk I b.gd (by omega) (rs.fh _ _ hF) (dicP_ok hl ra2 e2) c.1.1 c.1.2 c.2 fun h' w tk hk => ⟨.str _, H, I.kept hk, ⟨_, rfl⟩, hQ⟩
      · cases hd
  | some y =>
    rw [e] at hd
    have hd : some (D.str y) = some d := hd
    cases hd
    obtain ⟨p, h1, h2, h3, h4, h5, rfl⟩ := showD_ok e
    have hQ := k _ F H .refl (Rep.str (K := X.K) (F := F) (R := R) p.shown)
    obtain ⟨u, rfl, r1⟩ := vals1 r
    obtain ⟨as, rd⟩ := Dp.reads I p v u (rv.py rs.fh h1) r1
    have fin : ∀ h' w tk, (∀ b o, s.heap.get? b = some o → h'.get? b = some o) → EP X pins σ Q (.str p.shown w) { s with heap := h', toks := tk } := fun h' w tk hk => ⟨.str p.shown, H, I.kept hk, ⟨_, rfl⟩, hQ⟩
    have big : ∀ a, u = .ref a → wpAny (model X.prog X.w) X.A (call (.builtin "repr") [u]) (EP X pins σ Q) X.xe s := fun a ea => by
      subst ea
      exact repr_of_reads' rd h2 (fun z => by rw [h4] at z; cases z) b.gd (by omega) (fun _ _ q => q) fin h5
    cases rd with
    | none => exact PySem.P.repr_of_none (fin s.heap _ _ fun _ _ q => q)
    | bool c =>
      refine PySem.P.repr_of_bool ?_
      have := fin s.heap s.toks (s.toks + 1) fun _ _ q => q
      cases c <;> exact this
    | int i t => exact PySem.P.repr_of_int (by simpa [PyData.showable] using h2) (fin s.heap _ _ fun _ _ q => q)
    | str z t => exact PySem.P.repr_of_str (fin s.heap _ _ fun _ _ q => q) h5
    | list => exact big _ rfl
    | tuple => exact big _ rfl
    | dict => exact big _ rfl
theorem bi_ok (b : BOk X) : ∀ c : Bi, CallR X (fBi c) (rBlt X.K c)
  | .len => bl_len b
  | .abs => bl_abs
  | .int => bl_int
  | .str => bl_str
  | .repr => bl_repr b
  | .all => bl_all b
  | .any => bl_any b
  | .sum => bl_sum b
  | .max => bl_max b
  | .min => bl_min b
  | .tuple => bl_tuple
  | .list => bl_list
  | .divmod => bl_divmod
  | .isinst => bl_isinst b
  | .sorted => by
    intro pins s σ H vs us Q I r h
    obtain ⟨F, R, S, xs, d, rs, ra, hd, k⟩ := h
    simp [blD] at hd
  | .range => by
    intro pins s σ H vs us Q I r h
    obtain ⟨F, R, S, xs, d, rs, ra, hd, k⟩ := h
    simp [blD] at hd
end
end Mn
/-! how arguments come to parameters; a def that keeps its promise (with nothing being written by repr around it) -/
namespace Mn
open PySem PySem.Spec PyProof.Rows L2
variable [CA]
theorem zip_lookup {α : Type} : ∀ {ps : List Str} {us : List α} {n : Str}, us.length = ps.length → n ∈ ps → ∃ v, (ps.zip us).lookup n = some v
  | p :: ps, [], n, h, _ => by simp at h
  | p :: ps, u :: us, n, h, hn => by
    rw [List.zip_cons_cons, List.lookup_cons]
    by_cases e : n = p
    · subst e; exact ⟨u, by simp⟩
    · have : (n == p) = false := by simpa using e
      rw [this]
      exact zip_lookup (by simpa using h) (by simpa [e] using hn)
theorem fm_congr {α β : Type} {f g : α → Option β} : ∀ {l : List α}, (∀ n ∈ l, f n = g n) → l.filterMap f = l.filterMap g
  | [], _ => rfl
  | a :: l, h => by
    rw [List.filterMap_cons, List.filterMap_cons, h a List.mem_cons_self, fm_congr (l := l) fun n hn => h n (List.mem_cons_of_mem _ hn)]
theorem zip_binds {α : Type} : ∀ {ps : List Str} {us : List α}, us.length = ps.length → ps.Nodup → ps.filterMap (fun n => ((ps.zip us).lookup n).map fun v => (n, v)) = ps.zip us
  | [], us, h, _ => by cases us <;> simp_all
  | p :: ps, [], h, _ => by simp at h
  | p :: ps, u :: us, h, nd => by
    obtain ⟨h1, h2⟩ := List.nodup_cons.mp nd
    rw [List.filterMap_cons]
    simp only [List.zip_cons_cons, List.lookup_cons, beq_self_eq_true, Option.map_some]
    congr 1
    refine Eq.trans ?_ (zip_binds (us := us) (by simpa using h) h2)
    apply fm_congr
    intro n hn
    have e : (n == p) = false := by
      have : n ≠ p := fun z => h1 (z ▸ hn)
      simpa using this
    rw [e]
structure PlainP (a : Arguments) (ps : List Str) : Prop where
  pos : a.posonlyargs = []
  args : a.args.map (·.arg) = ps
  va : a.vararg = none
  ko : a.kwonlyargs = []
  kd : a.kw_defaults = []
  kw : a.kwarg = none
  df : a.defaults = []
theorem bind_plain {fd : FuncData} {ps : List Str} (h : PlainP fd.params ps) (hd : fd.defaults = .none) (nd : ps.Nodup) (us : List Value) (hl : us.length = ps.length) : bindArgs fd ⟨us, []⟩ = pure (ps.zip us) := by
  unfold bindArgs
  have e1 : seqItems? Value.none = pure none := rfl
  have e2 : (ps.filter fun n => ((ps.zip us).lookup n).isNone) = [] := by
    rw [List.filter_eq_nil_iff]
    intro n hn
    obtain ⟨v, hv⟩ := zip_lookup hl hn
    rw [hv]; simp
  simp only [h.pos, h.args, h.va, h.ko, h.kw, hd, e1, List.map_nil, List.nil_append, List.append_nil, pure_bind, Option.getD_none]
  simp [hl, e2, zip_binds hl nd]
theorem lookup_app {α : Type} {n : Str} : ∀ {a b : List (Str × α)}, (a ++ b).lookup n = match a.lookup n with | some v => some v | none => b.lookup n
  | [], b => rfl
  | (k, v) :: a, b => by
    rw [List.cons_append, List.lookup_cons, List.lookup_cons]
    cases n == k with
    | true => rfl
    | false => exact lookup_app
theorem forIn_kw {f : Str × Value → List (Str × Value) × List (Str × Value) → Sem (ForInStep (List (Str × Value) × List (Str × Value)))} : ∀ (kw s0 : List (Str × Value)),
    (∀ q ∈ kw, ∀ sl : List (Str × Value), sl.lookup q.1 = none → f q (sl, []) = pure (.yield (sl ++ [q], []))) → (∀ q ∈ kw, s0.lookup q.1 = none) → (kw.map (·.1)).Nodup → (forIn kw (s0, []) f : Sem _) = pure (s0 ++ kw, [])
  | [], s0, _, _, _ => by rw [List.forIn_nil, List.append_nil]
  | q :: kw, s0, h, hn, nd => by
    rw [List.forIn_cons, h q List.mem_cons_self s0 (hn q List.mem_cons_self), pure_bind]
    have nd2 := List.nodup_cons.mp (show (q.1 :: kw.map (·.1)).Nodup from nd)
    show (forIn kw (s0 ++ [q], []) f : Sem _) = _
    rw [forIn_kw kw (s0 ++ [q]) (fun p hp => h p (List.mem_cons_of_mem _ hp)) (fun p hp => ?_) nd2.2, List.append_assoc]
    · rfl
    · rw [lookup_app, hn p (List.mem_cons_of_mem _ hp)]
      have ne : p.1 ≠ q.1 := fun e => nd2.1 (e ▸ List.mem_map_of_mem hp)
      show List.lookup p.1 [(q.1, q.2)] = none
      rw [List.lookup_cons]
      have : (p.1 == q.1) = false := by simpa using ne
      rw [this]; rfl
theorem bind_kw {fd : FuncData} {ps : List Str} (h : PlainP fd.params ps) (hd : fd.defaults = .none) (us : List Value) (kw : List (Str × Value)) (hp : ∀ q ∈ kw, q.1 ∈ ps) (hl : us.length ≤ ps.length) (ndk : (kw.map (·.1)).Nodup) (hn : ∀ q ∈ kw, ((ps.zip us).lookup q.1) = none)
    (hall : ∀ n ∈ ps, ((ps.zip us ++ kw).lookup n).isSome = true) :
    bindArgs fd ⟨us, kw⟩ = pure (ps.filterMap fun n => ((ps.zip us ++ kw).lookup n).map fun v => (n, v)) := by
  unfold bindArgs
  have e1 : seqItems? Value.none = pure none := rfl
  have e2 : (ps.filter fun n => ((ps.zip us ++ kw).lookup n).isNone) = [] := by
    rw [List.filter_eq_nil_iff]
    intro n hn
    have := hall n hn
    cases e : (ps.zip us ++ kw).lookup n with
    | none => rw [e] at this; cases this
    | some v => simp
  simp only [h.pos, h.args, h.va, h.ko, h.kw, hd, e1, List.map_nil, List.nil_append, List.append_nil, pure_bind, Option.getD_none]
  rw [forIn_kw kw (ps.zip us) (fun q hq sl e => ?_) hn ndk]
  · simp [Nat.not_lt.mpr hl, e2]
  · simp [hp q hq, e]
theorem zip_look {α : Type} : ∀ {ps : List Str} {us : List α} {j : Nat} {n : Str} {u : α}, ps.Nodup → ps[j]? = some n → us[j]? = some u → (ps.zip us).lookup n = some u
  | [], _, _, _, _, _, h, _ => by simp at h
  | _ :: _, [], _, _, _, _, _, h => by simp at h
  | p :: ps, w :: us, 0, n, u, _, h1, h2 => by
    simp at h1 h2
    subst h1 h2
    simp
  | p :: ps, w :: us, j + 1, n, u, nd, h1, h2 => by
    obtain ⟨g1, g2⟩ := List.nodup_cons.mp nd
    have e : (n == p) = false := by
      have : n ≠ p := fun z => g1 (z ▸ List.mem_of_getElem? (by simpa using h1))
      simpa using this
    rw [List.zip_cons_cons, List.lookup_cons, e]
    exact zip_look g2 (by simpa using h1) (by simpa using h2)
theorem zip_look0 {α : Type} : ∀ {ps : List Str} {us : List α} {n : Str}, n ∉ ps.take us.length → (ps.zip us).lookup n = none
  | [], _, _, _ => rfl
  | _ :: _, [], _, _ => rfl
  | p :: ps, w :: us, n, h => by
    simp only [List.length_cons, List.take_succ_cons, List.mem_cons, not_or] at h
    have e : (n == p) = false := by simpa using h.1
    rw [List.zip_cons_cons, List.lookup_cons, e]
    exact zip_look0 h.2
/-- the names kn of the keywords stand for the parameters from the n-th on, in the order ks -/
def kwC (ps : List Str) (n : Nat) (kn : List Str) (ks : List Nat) : Bool :=
  decide (ps.Nodup) && decide (kn.Nodup) && decide (kn.length + n = ps.length) && decide (ps.drop n = ks.map fun k => kn.getD k Str.empty) && ks.all (fun k => decide (k < kn.length)) && kn.all (fun x => decide (x ∈ ps.drop n))
theorem bind_k {fd : FuncData} {ps : List Str} {n : Nat} {kn : List Str} {ks : List Nat} (h : PlainP fd.params ps) (hd : fd.defaults = .none) (c : kwC ps n kn ks = true) (us ws : List Value) (hu : us.length = n) (hw : ws.length = kn.length) :
    bindArgs fd ⟨us, kn.zip ws⟩ = pure (ps.zip (us ++ ks.map fun k => ws.getD k .none)) := by
  unfold kwC at c
  simp only [Bool.and_eq_true, decide_eq_true_eq, List.all_eq_true] at c
  obtain ⟨⟨⟨⟨⟨c1, c2⟩, c3⟩, c4⟩, c5⟩, inD⟩ := c
  have hk : (kn.zip ws).map (·.1) = kn := by rw [List.map_fst_zip (by omega)]
  have hle : us.length ≤ ps.length := by omega
  have nin : ∀ x ∈ kn, x ∉ ps.take n := fun x hx hm => by
    have h2 := inD x hx
    have nd2 : (ps.take n ++ ps.drop n).Nodup := by rw [List.take_append_drop]; exact c1
    exact (List.nodup_append.mp nd2).2.2 x hm x h2 rfl
  have look : ∀ j x, ps[j]? = some x → (ps.zip us ++ kn.zip ws).lookup x = (us ++ ks.map fun k => ws.getD k .none)[j]? := fun j x hj => by
    rw [lookup_app]
    by_cases hjn : j < n
    · have hu' : us[j]? = some us[j] := List.getElem?_eq_getElem (by omega)
      rw [zip_look c1 hj hu', List.getElem?_append_left (by omega), hu']
    · have hx : (ps.drop n)[j - n]? = some x := by rw [List.getElem?_drop]; rw [show n + (j - n) = j by omega]; exact hj
      have hnt : x ∉ ps.take us.length := by
        rw [hu]
        intro hm
        have nd2 : (ps.take n ++ ps.drop n).Nodup := by rw [List.take_append_drop]; exact c1
        exact (List.nodup_append.mp nd2).2.2 x hm x (List.mem_of_getElem? hx) rfl
      rw [zip_look0 hnt]
      rw [c4, List.getElem?_map] at hx
      rw [List.getElem?_append_right (by omega), hu, List.getElem?_map]
      cases e : ks[j - n]? with
      | none => rw [e] at hx; cases hx
      | some k =>
        rw [e] at hx
        have hk2 := c5 k (List.mem_of_getElem? e)
        have ex : kn[k]? = some x := by
          rw [← Option.some.inj hx]
          show kn[k]? = some (kn.getD k Str.empty)
          rw [List.getD_eq_getElem?_getD, List.getElem?_eq_getElem hk2]; rfl
        have ew : ws[k]? = some (ws.getD k .none) := by
          rw [List.getD_eq_getElem?_getD, List.getElem?_eq_getElem (by omega)]; rfl
        show (kn.zip ws).lookup x = some (ws.getD k .none)
        exact zip_look c2 ex ew
  have hlk : ks.length = ps.length - n := by
    have := congrArg List.length c4
    simp at this
    omega
  have hlen2 : (us ++ ks.map fun k => ws.getD k Value.none).length = ps.length := by
    rw [List.length_append, List.length_map]; omega
  rw [bind_kw h hd us (kn.zip ws) (fun q hq => ?_) hle (by rw [hk]; exact c2) (fun q hq => ?_) (fun x hx => ?_)]
  · congr 1
    rw [← zip_binds hlen2 c1]
    apply fm_congr
    intro x hx
    obtain ⟨j, hj⟩ := List.mem_iff_getElem?.mp hx
    have hj2 : (us ++ ks.map fun k => ws.getD k Value.none)[j]? = some ((us ++ ks.map fun k => ws.getD k Value.none)[j]'(by rw [hlen2]; exact (List.getElem?_eq_some_iff.mp hj).1)) := List.getElem?_eq_getElem _
    rw [look j x hj, zip_look c1 hj hj2, hj2]
  · have : q.1 ∈ (kn.zip ws).map (·.1) := List.mem_map_of_mem hq
    rw [hk] at this
    exact List.mem_of_mem_drop (inD _ this)
  · have : q.1 ∈ (kn.zip ws).map (·.1) := List.mem_map_of_mem hq
    rw [hk] at this
    exact zip_look0 (by rw [hu]; exact nin _ this)
  · obtain ⟨j, hj⟩ := List.mem_iff_getElem?.mp hx
    rw [look j x hj, List.getElem?_eq_getElem (by rw [hlen2]; exact (List.getElem?_eq_some_iff.mp hj).1)]
    rfl
/-! ### a def's promise, where no repr is on its way -/
structure RoomG (k : Nat) (A : Around) : Prop where
  rm : Room k A
  gd : A.guards = some []
theorem RoomG.mono {j k : Nat} {A : Around} (r : RoomG k A) (h : j ≤ k) : RoomG j A := ⟨r.rm.mono h, r.gd⟩
/-- what a def promises: the arguments, the heap, what follows -/
abbrev Sq := List V → Hp → VK → XK → Prop
/-- what may be in the air of X -/
def WtX (X : Cx) : WX := fun cls d σ H => ∀ u s', XE X (fun c' d' σ' H' => c' = cls ∧ d' = d ∧ σ' = σ ∧ H' = H) u s' → X.xe u s'
theorem takes_wt {X : Cx} : Takes X (WtX X) := by
  rintro u s' ⟨a, B, sI, pins, σ, H, cls, d, e, I, nb, up, sky, na, os, ag, w⟩
  exact w u s' ⟨a, B, sI, pins, σ, H, cls, d, e, I, nb, up, sky, na, os, ag, rfl, rfl, rfl, rfl⟩
theorem wt_of {X : Cx} {W : WX} {cls : Value} {d : Option Addr} {σ : L2.St} {H : Hp} (t : Takes X W) (h : W cls d σ H) : WtX X cls d σ H := by
  intro u s' x
  refine (t.imp ?_) u s' x
  rintro c' d' σ' H' ⟨rfl, rfl, rfl, rfl⟩
  exact h
def EX (X : Cx) (σ : L2.St) : XK := fun cls d H => WtX X cls d σ H
theorem xe_call {X : Cx} {pins : List (Addr × Obj)} {σ : L2.St} {H : Hp} {s s' : Shared} {e : Value} (I : Inv X pins σ H s) (c : L2.CX X.prog X.w X.stack H s (EX X σ) e s') : X.xe e s' :=
  takes_wt e s' (XE.of_call I (fun _ _ _ h => h) c)
structure FnG (P : Program) (w : World) (K : PySem.W.Frag) (mg : Str → Option Value) (base : Heap) (k : Nat) (f : Addr) (fd : FuncData) (ps : List Str) (sp : Sq) : Prop where
  len : ∀ vs H Q E, sp vs H Q E → vs.length = ps.length
  run : ∀ (A : Around) (outer : List Env) (s : Shared) (H : Hp) (args : Args) (us : List Value) (vs : List V) (Q : VK) (E : XK), RoomG k A → Env0 P w K mg base A outer s H →
    BindsTo s fd args (ps.zip us) → Vals vs us → sp vs H Q E → codeAny (model P w) A (.call (.ref f) args) (CR (L2.CX P w) outer P w H s Q E) s
section
variable {P : Program} {w : World} {K : PySem.W.Frag} {mg : Str → Option Value} {base : Heap} {k : Nat} {f : Addr} {fd : FuncData} {N ps : List Str} {sp : Sq} {x qual : Str} {params : Arguments} {body : List Stmt} {scope : Scope}
theorem FnG.of (F : FunD K x qual params body scope [] [] f fd) (S : FnScope N ps scope) (len : ∀ vs H Q E, sp vs H Q E → vs.length = ps.length)
    (hbody : ∀ (cdv : Value) (A : Around) (outer : List Env) (s : Shared) (H : Hp) (vs : List V) (Q : VK) (E : XK), RoomG k (A.deeper (envOfC qual scope s.heap.objs.size f cdv)) → sp vs H Q E →
      ∃ t, PSs (cxOf (L2.CX P w) P w K mg base N qual scope f cdv A outer s H E) body t ∧ t { nx := fun _ H' => Q .non H', rt := Q } (start N vs) H) : FnG P w K mg base (k + 1) f fd ps sp := by
  obtain ⟨oc, od, dV, kV, doc, pm, an, cdv, ct, osl, e, lk, hcd, _, _⟩ := F.ex
  subst e
  constructor
  · exact len
  intro A outer s H args us vs Q E hr e0 hb r hsp
  have hl := len _ _ _ _ hsp
  have kin := e0.mod.kin.keeps fun b o e => (e0.bs b o e).1
  have lim := e0.mod.nolimit.keeps fun b o e => (e0.bs b o e).1
  have kinds : ∀ y ∈ ps.zip us, scope.names.lookup y.1 = some .local ∨ (scope.names.lookup y.1 = some .cell ∧ ((cellsFrom (s.heap.objs.size + 1) scope.names []).lookup y.1).isSome = true) := by
    rintro ⟨n, v⟩ hy
    exact (S.par n (List.of_mem_zip hy).1).imp id fun q => ⟨q, PySem.W.cellsFrom_some _ _ _ (.inl q)⟩
  refine codeAny_call_function hr.rm.depth (kin _ _ lk) rfl S.co S.gen rfl (PySem.W.codeRec_of kin hcd) (hb _ _ _ _ ?_)
  refine wpAny_newFunctionEnv_cells S.kind kinds fun env he s1 x => ?_
  subst he
  refine ⟨lim.keeps x.toInCall.keep, codeAny_func ?_⟩
  obtain ⟨t, ht, hq⟩ := hbody cdv A outer s H vs Q E ⟨hr.rm.deeper _, hr.gd⟩ hsp
  have I := inv_start (CX := L2.CX P w) (E := E) (cd := cdv) S hr.rm.hd e0 hl r x
  have fin : ∀ {σ' : L2.St} {H' : Hp} {v : V} {u : Value} {s' : Shared}, Inv (cxOf (L2.CX P w) P w K mg base N qual scope f cdv A outer s H E) [] σ' H' s' → RelV v u → Q v H' → CE outer P w H s Q u s' :=
    fun {σ' H' v u s'} J rv q => ⟨v, H', J.os, J.bare, J.base, J.hok, rv, q⟩
  refine wpAny_mono (ht.run [] s1 (start N vs) H _ I hq) (fun fl s' hs => ?_) fun _ _ hs => hs
  cases fl with
  | next =>
    obtain ⟨_, _, J, q⟩ := hs
    exact fin (v := .non) (u := .none) J rfl q
  | ret u =>
    obtain ⟨_, _, _, J, rv, q⟩ := hs
    exact fin J rv q
  | brk =>
    obtain ⟨_, _, _, q⟩ := hs
    exact q.elim
  | cont =>
    obtain ⟨_, _, _, q⟩ := hs
    exact q.elim
theorem FnG.mono {j : Nat} (F : FnG P w K mg base j f fd ps sp) (h : j ≤ k) : FnG P w K mg base k f fd ps sp := ⟨F.len, fun A outer s H args us vs Q E hr => F.run A outer s H args us vs Q E (hr.mono h)⟩
end
section
variable {X : Cx} {k : Nat} {f : Addr} {fd : FuncData} {ps : List Str} {sp : Sq} {pins : List (Addr × Obj)} {σ : L2.St} {H : Hp} {s : Shared} {Q : VK}
/-- the callee runs -/
theorem run_fnG {args : Args} {us : List Value} {vs : List V} (F : FnG X.prog X.w X.K X.mg X.base k f fd ps sp) (hr : RoomG k X.A) (hb : BindsTo s fd args (ps.zip us)) (I : Inv X pins σ H s) (r : Vals vs us) (h : sp vs H Q (EX X σ)) :
    wpAny (model X.prog X.w) X.A (call (.ref f) args.pos args.kw) (EP X pins σ Q) X.xe s := by
  refine wpAny_call (codeAny_mono (F.run X.A X.stack s H args us vs Q (EX X σ) hr I.env0 hb r h) fun r s' hq => ?_)
  match r, hq with
  | .ok (.ret _), hq => exact I.after hq
  | .error _, hq => exact xe_call I hq
/-- the values in the parameters' order -/
def kwV {α : Type} (z : α) (ks : List Nat) (vs zs : List α) : List α := vs ++ ks.map fun k => zs.getD k z
theorem vals_getD {vs : List V} {us : List Value} (r : Vals vs us) (k : Nat) : RelV (vs.getD k .non) (us.getD k .none) := by
  rw [List.getD_eq_getElem?_getD, List.getD_eq_getElem?_getD]
  cases e : vs[k]? with
  | none => rw [r.none_of e]; exact rfl
  | some v =>
    obtain ⟨u, h1, h2⟩ := r.get e
    rw [h1]
    exact h2
theorem vals_kwV {vs zs : List V} {us ws : List Value} (r : Vals vs us) (q : Vals zs ws) (ks : List Nat) : Vals (kwV .non ks vs zs) (kwV .none ks us ws) := by
  unfold kwV
  refine r.append ?_
  induction ks with
  | nil => exact .nil
  | cons k ks ih => exact .cons (vals_getD q k) ih
end
/-! ### what may be called -/
def ArgsTo (ps : List Str) (o : Nat) (us : List Value) (kw : List (Str × Value)) (us' : List Value) : Prop :=
  (kw = [] ∧ us' = us) ∨ ∃ (kn : List Str) (ks : List Nat) (ws : List Value), kwC ps (us.length + o) kn ks = true ∧ kw = kn.zip ws ∧ ws.length = kn.length ∧ us' = us ++ ks.map fun k => ws.getD k .none
/-- u may be called: the parameters ps, of which o ones are given by itself -/
structure CeR (X : Cx) (u : Value) (o : Nat) (ps : List Str) (sp : Sq) : Prop where
  kp : PySem.W.keepIn X.K u = true
  len : ∀ vs H Q E, sp vs H Q E → vs.length + o = ps.length
  run : ∀ {pins : List (Addr × Obj)} {σ : L2.St} {H : Hp} {s : Shared} {Q : VK} {us us' : List Value} {kw : List (Str × Value)} {vs : List V}, Inv X pins σ H s → ArgsTo ps o us kw us' → Vals vs us' → sp vs H Q (EX X σ) →
    wpAny (model X.prog X.w) X.A (call u us kw) (EP X pins σ Q) X.xe s
section
variable {X : Cx} {k : Nat} {f : Addr} {fd : FuncData} {ps : List Str} {sp : Sq}
theorem ce_fn (F : FnG X.prog X.w X.K X.mg X.base k f fd ps sp) (hr : RoomG k X.A) (hk : PySem.W.keepIn X.K (.ref f) = true) (hp : PlainP fd.params ps) (hd : fd.defaults = .none) (nd : ps.Nodup) : CeR X (.ref f) 0 ps sp := by
  refine ⟨hk, F.len, fun {pins σ H s Q us us' kw vs} I ha r h => ?_⟩
  have hl := F.len _ _ _ _ h
  rcases ha with ⟨rfl, rfl⟩ | ⟨kn, ks, ws, hc, rfl, hw, rfl⟩
  · exact run_fnG (args := ⟨_, []⟩) F hr (.of_eq (bind_plain hp hd nd _ (by rw [← r.length]; exact hl))) I r h
  · exact run_fnG (args := ⟨us, kn.zip ws⟩) F hr (.of_eq (bind_k hp hd hc us ws rfl hw)) I r h
theorem RoomG.make {A : Around} (r : RoomG (k + 1) A) (C : Addr) (us : List Value) (kw : List (Str × Value)) : RoomG k (A.under (.builtin "type.__call__" ⟨.ref C :: us, kw⟩)) :=
  ⟨r.rm.make C us kw, by
    have := r.gd
    first | exact this | (simpa [Around.under, Code.isGuard, guardIds, pushGuards] using this)⟩
/-- a class by its __init__ -/
def spMk (C : Addr) (sp : Sq) : Sq := fun vs H Q E => ∀ x dx, H x = none → H dx = none → dx ≠ x → sp (.ref x :: vs) (upd (upd H dx (.own x)) x (.ins C dx [])) (fun v H2 => v = .non ∧ Q (.ref x) H2) E
theorem Env0.make' {P : Program} {w : World} {K : PySem.W.Frag} {mg : Str → Option Value} {base : Heap} {A : Around} {outer : List Env} {s : Shared} {H : Hp} (e : Env0 P w K mg base A outer s H) (C : Addr) (us : List Value) (kw : List (Str × Value)) :
    Env0 P w K mg base (A.under (.builtin "type.__call__" ⟨.ref C :: us, kw⟩)) outer s H := e.make C us kw
theorem fresh_two (H : Hp) (s : Heap) {P : Program} {w : World} (hok : HOk P w H s) : H (s.objs.size + 1) = none ∧ H s.objs.size = none := ⟨hok.fresh (Nat.le_succ _), hok.fresh (Nat.le_refl _)⟩
theorem ce_mk {C : Addr} (M : Mk X.K C f) (F : FnG X.prog X.w X.K X.mg X.base k f fd ps sp) (hr : RoomG (k + 1) X.A) (hp : PlainP fd.params ps) (hd : fd.defaults = .none) (nd : ps.Nodup) {sp' : Sq} (imp : ∀ vs H Q E, sp' vs H Q E → spMk C sp vs H Q E) (hl1 : ∀ vs H Q E, sp' vs H Q E → vs.length + 1 = ps.length) : CeR X (.ref C) 1 ps sp' := by
  refine ⟨M.kp, hl1, fun {pins σ H s Q us us' kw vs} I ha r h0 => ?_⟩
  have h := imp _ _ _ _ h0
  have hq := h (s.heap.objs.size + 1) s.heap.objs.size (I.hok.fresh (Nat.le_succ _)) (I.hok.fresh (Nat.le_refl _)) (Nat.ne_of_lt (Nat.lt_succ_self _))
  have I2 := Inv.made (C := C) I
  have r2 : Vals (V.ref (s.heap.objs.size + 1) :: vs) (Value.ref (s.heap.objs.size + 1) :: us') := .cons rfl r
  have hl : (Value.ref (s.heap.objs.size + 1) :: us').length = ps.length := by
    have e := r2.length
    rw [F.len _ _ _ _ hq] at e
    exact e.symm
  have hb : BindsTo { s with heap := (s.heap.push PySem.W.emptyDict).push (PySem.W.instObj C s.heap.objs.size) } fd ⟨Value.ref (s.heap.objs.size + 1) :: us, kw⟩ (ps.zip (Value.ref (s.heap.objs.size + 1) :: us')) := by
    rcases ha with ⟨rfl, rfl⟩ | ⟨kn, ks, ws, hc, rfl, hw, rfl⟩
    · exact .of_eq (bind_plain hp hd nd _ hl)
    · exact .of_eq (bind_k (us := Value.ref (s.heap.objs.size + 1) :: us) hp hd hc ws (by rw [List.length_cons]) hw)
  refine wpAny_call (make_map (f := f) I.kIn M.makes M.init (beq_iff_eq.mp M.fn) (codeAny_mono (F.run _ X.stack _ _ ⟨Value.ref (s.heap.objs.size + 1) :: us, kw⟩ (Value.ref (s.heap.objs.size + 1) :: us') _ _ _ (hr.make C us kw)
    (I2.env0.make C us kw) hb r2 hq) fun r s' hq' => ?_))
  cases r with
  | error e => exact xe_call I2 hq'
  | ok fl =>
    cases fl with
    | ret u =>
      obtain ⟨v, H', I3, rv, ev, q3⟩ := I2.after hq'
      subst ev
      exact ⟨rv, ⟨V.ref (s.heap.objs.size + 1), H', I3, rfl, q3⟩⟩
    | next => exact False.elim hq'
    | brk => exact False.elim hq'
    | cont => exact False.elim hq'
variable {u : Value} {o : Nat} {x : Str} {p pos apos : Pos} {e oe : Expr} {es : List Expr} {kws : List Keyword} {t tk : TA} {ta : TE}
theorem pe_ce (F : CeR X u o ps sp) (hg : Gl X x) (hm : X.mg x = some u) (ha : PA X (e :: es) t) (hdb : (x == ("__debug__" : Str)) = false) (he : starEach (e :: es) X.env = (false, eval e X.env) :: starEach es X.env) (hpl : (backTo pos (starEach es X.env)).any (·.1) = false) :
    PE X (.Call (.Name x p) (e :: es) [] pos) (fun σ H Q => t σ H fun vs H1 => sp vs H1 Q (EX X σ)) := by
  constructor
  intro pins s σ H Q I h
  refine wpAny_Call_Name_kw (ld_glob I hg hm ?_ hdb)
  refine PySem.W.callWith_K (h₀ := X.base) I.ok.mod.kin F.kp (thn (ha.run pos pins s σ H _ I h) ?_) he hpl
  rintro us s1 ⟨vs, H1, I1, r, q⟩
  exact ⟨I1.kIn, F.run I1 (.inl ⟨rfl, rfl⟩) r q⟩
theorem pe_ce0 (F : CeR X u o ps sp) (hg : Gl X x) (hm : X.mg x = some u) (hdb : (x == ("__debug__" : Str)) = false) : PE X (.Call (.Name x p) [] [] pos) (fun σ H Q => sp [] H Q (EX X σ)) := by
  constructor
  intro pins s σ H Q I h
  refine wpAny_Call_Name_kw (ld_glob I hg hm ?_ hdb)
  exact PySem.W.callWith_K0 I.kIn F.kp (F.run I (.inl ⟨rfl, rfl⟩) .nil h)
theorem pe_ceK {kn : List Str} {ks : List Nat} {n : Nat} (F : CeR X u o ps sp) (hg : Gl X x) (hm : X.mg x = some u)
    (c : kwC ps (n + o) kn ks = true) (hn : ∀ {σ H Q}, t σ H Q → t σ H fun vs H1 => vs.length = n ∧ Q vs H1) (hz : ∀ {σ H Q}, tk σ H Q → tk σ H fun vs H1 => vs.length = kn.length ∧ Q vs H1)
    (ha : PA X (e :: es) t) (hkw : PK X kws tk) (hall : (backToKw pos (keywordEach kws X.env)).all (·.1.isSome) = true) (hks : (backToKw pos (keywordEach kws X.env)).filterMap (·.1) = kn)
    (hdb : (x == ("__debug__" : Str)) = false) (he : starEach (e :: es) X.env = (false, eval e X.env) :: starEach es X.env)
    (hpl : ((backTo pos (starEach (e :: es) X.env)).any (·.1) || (backToKw pos (keywordEach kws X.env)).any (·.1.isNone)) = false) :
    PE X (.Call (.Name x p) (e :: es) kws pos) (fun σ H Q => t σ H fun vs H1 => tk σ H1 fun zs H2 => sp (kwV .non ks vs zs) H2 Q (EX X σ)) := by
  constructor
  intro pins s σ H Q I h
  refine wpAny_Call_Name_kw (ld_glob I hg hm ?_ hdb)
  refine PySem.W.callWith_KW (h₀ := X.base) I.ok.mod.kin F.kp hall (thn (ha.run pos pins s σ H _ I (hn h)) ?_) hpl he
  rintro us s1 ⟨vs, H1, I1, r, l1, q⟩
  refine thn (hkw.run pos pins s1 σ H1 _ I1 (hz q)) ?_
  rintro ws s2 ⟨zs, H2, I2, rz, l2, q2⟩
  refine ⟨I2.kIn, ?_⟩
  rw [hks]
  exact F.run I2 (us := us) (.inr ⟨kn, ks, ws, by rw [show us.length = n by rw [← r.length]; exact l1]; exact c, rfl, by rw [← rz.length]; exact l2, rfl⟩) (vals_kwV r rz ks) q2
theorem pe_ceK0 {kn : List Str} {ks : List Nat} (F : CeR X u o ps sp) (hg : Gl X x) (hm : X.mg x = some u)
    (c : kwC ps (0 + o) kn ks = true) (hz : ∀ {σ H Q}, tk σ H Q → tk σ H fun vs H1 => vs.length = kn.length ∧ Q vs H1)
    (hkw : PK X kws tk) (hall : (backToKw pos (keywordEach kws X.env)).all (·.1.isSome) = true) (hks : (backToKw pos (keywordEach kws X.env)).filterMap (·.1) = kn)
    (hdb : (x == ("__debug__" : Str)) = false) (hpl : ((backTo pos (starEach [] X.env)).any (·.1) || (backToKw pos (keywordEach kws X.env)).any (·.1.isNone)) = false) :
    PE X (.Call (.Name x p) [] kws pos) (fun σ H Q => tk σ H fun zs H2 => sp (kwV .non ks [] zs) H2 Q (EX X σ)) := by
  constructor
  intro pins s σ H Q I h
  refine wpAny_Call_Name_kw (ld_glob I hg hm ?_ hdb)
  refine PySem.W.callWith_KW0 (h₀ := X.base) I.ok.mod.kin F.kp hall (thn (hkw.run pos pins s σ H _ I (hz h)) ?_) hpl
  rintro ws s2 ⟨zs, H2, I2, rz, l2, q2⟩
  refine ⟨I2.kIn, ?_⟩
  rw [hks]
  exact F.run I2 (us := []) (us' := kwV .none ks [] ws) (.inr ⟨kn, ks, ws, c, rfl, by rw [← rz.length]; exact l2, rfl⟩) (vals_kwV .nil rz ks) q2
/-- a method of the instance at a -/
def MethAt (K : PySem.W.Frag) (H : Hp) (a : Addr) (m : Str) (g : Addr) : Prop := (∃ C dx fs, H a = some (.ins C dx fs) ∧ Cls K C ∧ Meth K C m g ∧ fs.lookup m = none) ∨ ∃ C dx vs, SlX.Slt H a C dx vs ∧ SlX.SCls K C ∧ Meth K C m g
theorem getm_ok {pins : List (Addr × Obj)} {σ : L2.St} {H : Hp} {s : Shared} {a g : Addr} {m : Str} {A : Around} {E : Value → Shared → Prop} {pl : Sem Bool} {Q : Value × List Value → Shared → Prop} (I : Inv X pins σ H s) (h : MethAt X.K H a m g) (q : Q (.ref g, [.ref a]) s) :
    wpAny (model X.prog X.w) A (getMethod (.ref a) m pl) Q E s := by
  rcases h with ⟨C, dx, fs, ea, c, k, l⟩ | ⟨C, dx, vs, hs, c, k⟩
  · exact getmeth_ok I ea c k l q
  · exact SlX.getmethsl_ok I hs c k q
theorem pe_vmC {g : Addr} {m : Str} {pl : Sem Bool} (F : CeR X (.ref g) 0 ps sp) (he : PE X oe ta) (ha : PA X (e :: es) t)
    (hst : starEach (e :: es) X.env = (false, eval e X.env) :: starEach es X.env) (hpl : (backTo pos (starEach es X.env)).any (·.1) = false)
    (ht : eval (.Call (.Attribute oe m apos) (e :: es) [] pos) X.env = (do
      let ov ← eval oe X.env
      standAt apos.atName
      let (f, first) ← holding [ov] (getMethod ov m pl)
      callWith pos f first (backTo pos (starEach (e :: es) X.env)) (backToKw pos (keywordEach [] X.env)))) :
    PE X (.Call (.Attribute oe m apos) (e :: es) [] pos) (fun σ H Q => ta σ H fun x H1 => ∃ a, x = .ref a ∧ MethAt X.K H1 a m g ∧ t σ H1 fun vs H2 => sp (x :: vs) H2 Q (EX X σ)) := by
  constructor
  intro pins s σ H Q I h
  refine PySem.W.methodCall_KW (pl := pl) (thn (he.run pins s σ H _ I h) ?_) ht
  rintro u s1 ⟨x, H1, I1, rx, a, ex, hm, q⟩
  subst ex
  obtain rfl : u = Value.ref a := rx
  refine getm_ok I1 hm ?_
  refine PySem.W.callWith_K (first := [.ref a]) (h₀ := X.base) I.ok.mod.kin F.kp (thn (ha.run pos pins s1 σ H1 _ I1 q) ?_) hst hpl
  rintro us s2 ⟨vs, H2, I2, r, q2⟩
  exact ⟨I2.kIn, F.run (us := .ref a :: us) (vs := .ref a :: vs) I2 (.inl ⟨rfl, rfl⟩) (.cons rfl r) q2⟩
theorem pe_vmC0 {g : Addr} {m : Str} {pl : Sem Bool} (F : CeR X (.ref g) 0 ps sp) (he : PE X oe ta)
    (ht : eval (.Call (.Attribute oe m apos) [] [] pos) X.env = (do
      let ov ← eval oe X.env
      standAt apos.atName
      let (f, first) ← holding [ov] (getMethod ov m pl)
      callWith pos f first (backTo pos (starEach [] X.env)) (backToKw pos (keywordEach [] X.env)))) :
    PE X (.Call (.Attribute oe m apos) [] [] pos) (fun σ H Q => ta σ H fun x H1 => ∃ a, x = .ref a ∧ MethAt X.K H1 a m g ∧ sp [x] H1 Q (EX X σ)) := by
  constructor
  intro pins s σ H Q I h
  refine PySem.W.methodCall_KW (pl := pl) (thn (he.run pins s σ H _ I h) ?_) ht
  rintro u s1 ⟨x, H1, I1, rx, a, ex, hm, q⟩
  subst ex
  obtain rfl : u = Value.ref a := rx
  refine getm_ok I1 hm ?_
  exact PySem.W.callWith_K0 (first := [.ref a]) I1.kIn F.kp (F.run (us := [.ref a]) (vs := [.ref a]) I1 (.inl ⟨rfl, rfl⟩) (.cons rfl .nil) q)
theorem evalArgs_two {M : Model} {A : Around} {E : Value → Shared → Prop} {s : Shared} {fv : Value} {a b : Bool × Sem Value} {rest : List (Bool × Sem Value)} {Q : Args → Shared → Prop} (h : wpAny M A (spliced (a :: b :: rest)) (fun vs s' => Q ⟨vs, []⟩ s') E s) : wpAny M A (evalArgs fv true (a :: b :: rest) []) Q E s := by
  obtain ⟨c, x⟩ := a
  cases c with
  | false => exact Calls.evalArgs_plain h
  | true =>
    unfold evalArgs
    show wpAny M A (spliced ((true, x) :: b :: rest) >>= _) Q E s
    refine wpAny_bind (wpAny_mono h (fun vs s' h' => ?_) fun _ _ x => x)
    refine wpAny_holding ?_
    exact wpAny_bind (wpAny_pure (wpAny_bind (wpAny_pure (wpAny_pure h'))))
theorem pe_ceS {e2 : Expr} {b1 b2 : Bool} {x1 x2 : Sem Value} {r : List (Bool × Sem Value)} (F : CeR X u o ps sp) (hg : Gl X x) (hm : X.mg x = some u) (ha : PA X (e :: e2 :: es) t) (hdb : (x == ("__debug__" : Str)) = false)
    (he : starEach (e :: e2 :: es) X.env = (b1, x1) :: (b2, x2) :: r) (hst : (backTo pos (starEach (e :: e2 :: es) X.env)).any (·.1) = true) :
    PE X (.Call (.Name x p) (e :: e2 :: es) [] pos) (fun σ H Q => t σ H fun vs H1 => sp vs H1 Q (EX X σ)) := by
  constructor
  intro pins s σ H Q I h
  refine wpAny_Call_Name_kw (ld_glob I hg hm ?_ hdb)
  refine PySem.W.ks_call hst (PySem.W.keeps_K F.kp) ?_
  have z := thn (ha.run pos pins s σ H _ I h) (Q' := fun us s1 => X.K.In s1.heap ∧ wpAny (model X.prog X.w) X.A (call u ([] ++ us) []) (EP X pins σ Q) X.xe s1) (by
    rintro us s1 ⟨vs, H1, I1, r, q⟩
    exact ⟨I1.kIn, F.run I1 (us := us) (.inl ⟨rfl, rfl⟩) r q⟩)
  rw [he] at z ⊢
  exact evalArgs_two z
theorem pe_ceS1 {te : TE} {sp_ : Pos} (F : CeR X u o ps sp) (hg : Gl X x) (hm : X.mg x = some u) (he : PE X e te) (hdb : (x == ("__debug__" : Str)) = false) (hst : starEach [.Starred e sp_] X.env = [(true, eval e X.env)] := by rfl) :
    PE X (.Call (.Name x p) [.Starred e sp_] [] pos) (fun σ H Q => te σ H fun y H1 => ∃ a xs, y = V.ref a ∧ (SqT X.K H1 a xs ∨ SqL X.K H1 a xs) ∧ sp xs H1 Q (EX X σ)) := by
  constructor
  intro pins s σ H Q I h
  refine wpAny_Call_Name_kw (ld_glob I hg hm ?_ hdb)
  refine PySem.W.callWith_S (h₀ := X.base) I.ok.mod.kin F.kp (thn (he.run pins s σ H _ I h) ?_) hst
  rintro v s1 ⟨y, H1, I1, ry, a, xs, ey, hxs, q⟩
  subst ey
  obtain rfl : v = Value.ref a := ry
  exact StX.star_any I1 hxs fun us s2 I2 rv => ⟨I2.kIn, F.run I2 (us := us) (.inl ⟨rfl, rfl⟩) rv q⟩
end
end Mn
/-! expressions: what the small language reckons is what the text's expressions come to -/
namespace Mn
open PySem PySem.Spec PyProof.Rows L2
variable [CA]
abbrev Stt := L2.St
theorem bind_ok {α β : Type} {o : Out α} {f : α → Sto → Out β} {b : β} {S' : Sto} (h : o.bind f = .ok b S') : ∃ a S, o = .ok a S ∧ f a S = .ok b S' := by
  cases o with
  | ok a S => exact ⟨a, S, rfl, h⟩
  | exc e S => cases h
  | bad => cases h
theorem bindX_ok {α β : Type} {o : Out α} {f : α → Sto → Out β} {b : β} {S' : Sto} (h : o.bindX f = .ok b S') : ∃ a S, o = .ok a S ∧ f a S = .ok b S' := by
  cases o with
  | ok a S => exact ⟨a, S, rfl, h⟩
  | exc e S => cases h
  | bad => cases h
theorem stm_ok {α : Type} {o : Out α} {f : α → Sto → Out Fl} {b : Fl} {S' : Sto} (h : o.stm f = .ok b S') : (∃ a S, o = .ok a S ∧ f a S = .ok b S') ∨ ∃ x, o = .exc x S' ∧ b = .exc x := by
  cases o with
  | ok a S => exact .inl ⟨a, S, rfl, h⟩
  | exc e S => cases h; exact .inr ⟨e, rfl, rfl⟩
  | bad => cases h
theorem bind_exc {α β : Type} {o : Out α} {f : α → Sto → Out β} {x : D} {S' : Sto} (h : o.bind f = .exc x S') : ∃ a S, o = .ok a S ∧ f a S = .exc x S' := by
  cases o with
  | ok a S => exact ⟨a, S, rfl, h⟩
  | exc e S => cases h
  | bad => cases h
theorem bindX_exc {α β : Type} {o : Out α} {f : α → Sto → Out β} {x : D} {S' : Sto} (h : o.bindX f = .exc x S') : (∃ a S, o = .ok a S ∧ f a S = .exc x S') ∨ o = .exc x S' := by
  cases o with
  | ok a S => exact .inl ⟨a, S, rfl, h⟩
  | exc e S => cases h; exact .inr rfl
  | bad => cases h
theorem nox_ok {α : Type} {o : Out α} {a : α} {S' : Sto} (h : o.nox = .ok a S') : o = .ok a S' := by
  cases o with
  | ok a S => exact h
  | exc e S => cases h
  | bad => cases h
theorem nox_nx {α : Type} {o : Out α} {x : D} {S' : Sto} (h : o.nox = .exc x S') : False := by
  cases o <;> cases h
theorem opt_nx {α : Type} {o : Option α} {x : D} {S S' : Sto} (h : opt o S = .exc x S') : False := by
  cases o <;> cases h
theorem opt_ok {α : Type} {o : Option α} {S S' : Sto} {a : α} (h : opt o S = .ok a S') : o = some a ∧ S' = S := by
  cases o with
  | none => cases h
  | some b => cases h; exact ⟨rfl, rfl⟩
/-! ### shapes of the text -/
def noStar : Expr → Bool
  | .Starred .. => false
  | _ => true
theorem star_cons {e : Expr} {es : List Expr} {env : Env} (h : noStar e = true) : starEach (e :: es) env = (false, eval e env) :: starEach es env := by
  cases e <;> first | rfl | (simp [noStar] at h)
theorem star_plain {env : Env} {pos : Pos} : ∀ {es : List Expr}, es.all noStar = true → (backTo pos (starEach es env)).any (·.1) = false
  | [], _ => rfl
  | e :: es, h => by
    simp only [List.all_cons, Bool.and_eq_true] at h
    rw [star_cons h.1]
    show ((backTo pos (starEach es env)).any (·.1)) = false
    exact star_plain h.2
def noSlice : Expr → Bool
  | .Slice .. => false
  | _ => true
theorem plain_ix {b : Expr} (h : noSlice b = true) : PlainIx b := by
  intro o i
  cases b <;> first | rfl | (simp [noSlice] at h)
/-- no test of its own kind -/
def plainT : Expr → Bool
  | .UnaryOp .Not _ _ => false
  | .BoolOp .. => false
  | .IfExp .. => false
  | .Compare .. => false
  | _ => true
theorem plain_test {e : Expr} {env : Env} (h : plainT e = true) (whole : Sem Value) : isTrue e env whole = (do let v ← whole; standAt e.pos; holding [v] (truthy v)) := by
  cases e <;> first | rfl | (simp [plainT] at h)
  case UnaryOp op x p => cases op <;> first | rfl | (simp [plainT] at h)
def noSet : Expr → Bool
  | .Set .. => false
  | _ => true
theorem no_marks {b : Expr} {op : CmpOp} (h : noSet b = true) : behindInMarks op b = false := by
  cases b <;> first | rfl | (simp [noSet] at h)
theorem no_last {b c : Expr} {o1 o2 : CmpOp} (h : noSet c = true) : lastMarks [o1, o2] [b, c] = false := by
  show behindInMarks o2 c = false
  exact no_marks h
theorem no_fold {e : Expr} {env : Env} (h : noSet e = true) (x : Value) : foldedSetIterable e env x = pure x := by
  cases e <;> first | rfl | (simp [noSet] at h)
theorem PE.imp {X : Cx} {e : Expr} {t t' : TE} (h : PE X e t) (w : ∀ σ H Q, t' σ H Q → t σ H Q) : PE X e t' := ⟨fun pins s σ H Q I q => h.run pins s σ H Q I (w σ H Q q)⟩
theorem PT.imp {X : Cx} {e : Expr} {t t' : TT} (h : PT X e t) (w : ∀ σ H Q, t' σ H Q → t σ H Q) : PT X e t' := ⟨fun pins s σ H Q I q => h.run pins s σ H Q I (w σ H Q q)⟩
theorem PW.imp {X : Cx} {e : Expr} {t t' : TT} (h : PW X e t) (w : ∀ σ H Q, t' σ H Q → t σ H Q) : PW X e t' := ⟨fun wh pins s σ H Q I q => h.run wh pins s σ H Q I (w σ H Q q)⟩
theorem PA.imp {X : Cx} {e : List Expr} {t t' : TA} (h : PA X e t) (w : ∀ σ H Q, t' σ H Q → t σ H Q) : PA X e t' := ⟨fun pos pins s σ H Q I q => h.run pos pins s σ H Q I (w σ H Q q)⟩
theorem PO.imp {X : Cx} {e : Option Expr} {t t' : TO} (h : PO X e t) (w : ∀ σ H Q, t' σ H Q → t σ H Q) : PO X e t' := ⟨fun pins s σ H Q I q => h.run pins s σ H Q I (w σ H Q q)⟩
theorem PI.imp {X : Cx} {tg e : Expr} {t t' : TI} (h : PI X tg e t) (w : ∀ σ H R, t' σ H R → t σ H R) : PI X tg e t' := ⟨fun pins s σ H R I q => h.run pins s σ H R I (w σ H R q)⟩
theorem PG.imp {X : Cx} {e : Expr} {t t' : TG} (h : PG X e t) (w : ∀ v σ H Q, t' v σ H Q → t v σ H Q) : PG X e t' := ⟨fun pins s σ H v u Q I r q => h.run pins s σ H v u Q I r (w v σ H Q q)⟩
theorem PGs.imp {X : Cx} {e : List Expr} {t t' : TGs} (h : PGs X e t) (w : ∀ v σ H Q, t' v σ H Q → t v σ H Q) : PGs X e t' := ⟨fun pins s σ H v u Q I r q => h.run pins s σ H v u Q I r (w v σ H Q q)⟩
/-! ### readings -/
section
variable (cl : Nat → List D → Sto → Out D) (gl : GL) (K : PySem.W.Frag)
/-- one step: something is reckoned, what is known of it goes on -/
def Stp {α β : Type} (o : Frm → Sto → Out α) (Rp : Hp → List Addr → β → α → Prop) (σ : Stt) (H : Hp) (Q : β → Hp → Prop) : Prop :=
  ∃ F R fr S a S', RelS K F R H S ∧ RelF K F R H σ fr ∧ o fr S = .ok a S' ∧ ∀ F' R' H' v, Nxt F R H F' R' H' → RelS K F' R' H' S' → Rp F' R' v a → Q v H'
def tE (m : ME) : TE := fun σ H Q => Stp K (fun fr S => ev cl gl fr m S) (fun F R v d => Rep K F R v d) σ H Q
def tEs (ms : List ME) : TA := fun σ H Q => Stp K (fun fr S => evs cl gl fr ms S) (fun F R v d => RepAll K F R v d) σ H Q
def tM (m : MT) : TT := fun σ H Q => Stp K (fun fr S => evT cl gl fr m S) (fun _ _ v d => v = d) σ H Q
def tMs (m : List MT) : TT := fun σ H Q => Stp K (fun fr S => evTs cl gl fr m S) (fun _ _ v d => v = d) σ H Q
def tEo (m : Option ME) : TO := fun σ H Q => Stp K (fun fr S => evO cl gl fr m S) (fun _ _ v d => v = d) σ H Q
end
section
variable {cl : Nat → List D → Sto → Out D} {gl : GL} {X : Cx}
/-- the pattern of all proofs: the parts of a step -/
theorem Stp.bind {K : PySem.W.Frag} {α β α2 β2 : Type} {o : Frm → Sto → Out α} {f : Frm → α → Sto → Out α2} {Rp : Hp → List Addr → β → α → Prop} {Rp2 : Hp → List Addr → β2 → α2 → Prop} {σ : Stt} {H : Hp} {Q : β2 → Hp → Prop}
    (h : Stp K (fun fr S => (o fr S).bind (f fr)) Rp2 σ H Q) :
    Stp K o Rp σ H fun v H1 => ∃ F R fr S a a2 S2, RelS K F R H1 S ∧ RelF K F R H1 σ fr ∧ Rp F R v a ∧ f fr a S = .ok a2 S2 ∧ ∀ F' R' H' w, Nxt F R H1 F' R' H' → RelS K F' R' H' S2 → Rp2 F' R' w a2 → Q w H' := by
  obtain ⟨F, R, fr, S, a2, S2, rs, rf, he, k⟩ := h
  obtain ⟨a, S1, e1, e2⟩ := bind_ok he
  exact ⟨F, R, fr, S, a, S1, rs, rf, e1, fun F1 R1 H1 v n1 rs1 rp => ⟨F1, R1, fr, S1, a, a2, S2, rs1, rf.nxt n1, rp, e2, fun F' R' H' w n rs' rp' => k F' R' H' w (n1.trans n) rs' rp'⟩⟩
theorem snd_bin {a b : Expr} {op : Operator} {ma mb : ME} {pos : Pos} (ha : PE X a (tE cl gl X.K ma)) (hb : PE X b (tE cl gl X.K mb)) : PE X (.BinOp a op b pos) (tE cl gl X.K (.bin op ma mb)) := by
  refine PE.imp (pe_op (op_bin op) ha hb) fun σ H Q h => ?_
  obtain ⟨F, R, fr, S, d, S', rs, rf, he, k⟩ := h
  simp only [ev] at he
  obtain ⟨x, S1, e1, he⟩ := bind_ok he
  obtain ⟨y, S2, e2, he⟩ := bind_ok he
  obtain ⟨e3, rfl⟩ := opt_ok he
  refine ⟨F, R, fr, S, x, S1, rs, rf, e1, fun F1 R1 H1 v n1 rs1 rv => ⟨F1, R1, fr, S1, y, S', rs1, rf.nxt n1, e2, fun F2 R2 H2 w n2 rs2 rw' => ?_⟩⟩
  exact ⟨F2, R2, x, y, d, rs2.fh, rv.mono n2.f n2.r, rw', e3, fun z F3 H3 n3 rz => k F3 R2 H3 z ((n1.trans n2).trans n3.1) (n3.2 _ rs2) rz⟩
theorem snd_neg {a : Expr} {ma : ME} {pos : Pos} (ha : PE X a (tE cl gl X.K ma)) : PE X (.UnaryOp .USub a pos) (tE cl gl X.K (.neg ma)) := by
  refine PE.imp (pe_un un_neg ha) fun σ H Q h => ?_
  obtain ⟨F, R, fr, S, d, S', rs, rf, he, k⟩ := h
  simp only [ev] at he
  obtain ⟨x, S1, e1, he⟩ := bind_ok he
  obtain ⟨e3, rfl⟩ := opt_ok he
  refine ⟨F, R, fr, S, x, S', rs, rf, e1, fun F1 R1 H1 v n1 rs1 rv => ?_⟩
  cases rv <;> simp only [intO, Option.map_some, Option.map_none, Option.some.injEq, reduceCtorEq] at e3
  case int i => subst e3; exact ⟨i, rfl, k F1 R1 H1 _ n1 rs1 (.int _)⟩
theorem snd_cmp {a b : Expr} {op : CmpOp} {ma mb : ME} {pos : Pos} (bo : BOk X) (hm : noSet b = true) (ha : PE X a (tE cl gl X.K ma)) (hb : PE X b (tE cl gl X.K mb)) : PE X (.Compare a [op] [b] pos) (tE cl gl X.K (.cmp op ma mb)) := by
  refine PE.imp (pe_cmpR (op_cmp bo.un op) ha hb (no_marks hm)) fun σ H Q h => ?_
  obtain ⟨F, R, fr, S, d, S', rs, rf, he, k⟩ := h
  simp only [ev] at he
  obtain ⟨x, S1, e1, he⟩ := bind_ok he
  obtain ⟨y, S2, e2, he⟩ := bind_ok he
  obtain ⟨e3, rfl⟩ := opt_ok he
  refine ⟨F, R, fr, S, x, S1, rs, rf, e1, fun F1 R1 H1 v n1 rs1 rv => ⟨F1, R1, fr, S1, y, S', rs1, rf.nxt n1, e2, fun F2 R2 H2 w n2 rs2 rw' => ?_⟩⟩
  cases e4 : cmpD op x y with
  | none => rw [e4] at e3; cases e3
  | some c =>
    rw [e4] at e3
    cases e3
    exact ⟨F2, R2, x, y, c, rs2.fh, rv.mono n2.f n2.r, rw', e4, k F2 R2 H2 _ (n1.trans n2) rs2 (.bl c)⟩
theorem snd_tcmp {a b : Expr} {op : CmpOp} {ma mb : ME} {pos : Pos} (bo : BOk X) (hm : noSet b = true) (ha : PE X a (tE cl gl X.K ma)) (hb : PE X b (tE cl gl X.K mb)) : PT X (.Compare a [op] [b] pos) (tM cl gl X.K (.cmp op ma mb)) := by
  refine PT.imp (pt_cmpR (op_cmp bo.un op) ha hb (no_marks hm)) fun σ H Q h => ?_
  obtain ⟨F, R, fr, S, d, S', rs, rf, he, k⟩ := h
  simp only [evT] at he
  obtain ⟨x, S1, e1, he⟩ := bind_ok he
  obtain ⟨y, S2, e2, he⟩ := bind_ok he
  obtain ⟨e3, rfl⟩ := opt_ok he
  refine ⟨F, R, fr, S, x, S1, rs, rf, e1, fun F1 R1 H1 v n1 rs1 rv => ⟨F1, R1, fr, S1, y, S', rs1, rf.nxt n1, e2, fun F2 R2 H2 w n2 rs2 rw' => ?_⟩⟩
  exact ⟨F2, R2, x, y, d, rs2.fh, rv.mono n2.f n2.r, rw', e3, d, rfl, k F2 R2 H2 _ (n1.trans n2) rs2 rfl⟩
theorem snd_chain {a b c : Expr} {o1 o2 : CmpOp} {ma mb mc : ME} {pos : Pos} (bo : BOk X) (hm : noSet c = true) (ha : PE X a (tE cl gl X.K ma)) (hb : PE X b (tE cl gl X.K mb)) (hc : PE X c (tE cl gl X.K mc)) :
    PE X (.Compare a [o1, o2] [b, c] pos) (tE cl gl X.K (.chain o1 o2 ma mb mc)) := by
  refine PE.imp (pe_chain (op_cmp bo.un o1) (op_cmp bo.un o2) ha hb hc (no_last hm)) fun σ H Q h => ?_
  obtain ⟨F, R, fr, S, d, S', rs, rf, he, k⟩ := h
  simp only [ev] at he
  obtain ⟨x, S1, e1, he⟩ := bind_ok he
  obtain ⟨y, S2, e2, he⟩ := bind_ok he
  obtain ⟨j, S3, e3', he⟩ := bind_ok he
  obtain ⟨e3, rfl⟩ := opt_ok e3'
  refine ⟨F, R, fr, S, x, S1, rs, rf, e1, fun F1 R1 H1 v n1 rs1 rv => ⟨F1, R1, fr, S1, y, _, rs1, rf.nxt n1, e2, fun F2 R2 H2 w n2 rs2 rw' => ?_⟩⟩
  refine ⟨F2, R2, x, y, j, rs2.fh, rv.mono n2.f n2.r, rw', e3, j, rfl, ?_⟩
  cases j with
  | false =>
    rw [if_neg Bool.false_ne_true] at he ⊢
    cases he
    exact k F2 R2 H2 _ (n1.trans n2) rs2 (.bl false)
  | true =>
    rw [if_pos rfl] at he ⊢
    obtain ⟨z, S4, e4, he⟩ := bind_ok he
    obtain ⟨e5, rfl⟩ := opt_ok he
    refine ⟨F2, R2, fr, S3, z, S', rs2, rf.nxt (n1.trans n2), e4, fun F3 R3 H3 u n3 rs3 ru => ?_⟩
    cases e6 : cmpD o2 y z with
    | none => rw [e6] at e5; cases e5
    | some c =>
      rw [e6] at e5
      cases e5
      exact ⟨F3, R3, y, z, c, rs3.fh, rw'.mono n3.f n3.r, ru, e6, k F3 R3 H3 _ ((n1.trans n2).trans n3) rs3 (.bl c)⟩
theorem snd_tchain {a b c : Expr} {o1 o2 : CmpOp} {ma mb mc : ME} {pos : Pos} (bo : BOk X) (hm : noSet c = true) (ha : PE X a (tE cl gl X.K ma)) (hb : PE X b (tE cl gl X.K mb)) (hc : PE X c (tE cl gl X.K mc)) :
    PT X (.Compare a [o1, o2] [b, c] pos) (tM cl gl X.K (.chain o1 o2 ma mb mc)) := by
  refine PT.imp (pt_chain (op_cmp bo.un o1) (op_cmp bo.un o2) ha hb hc (no_last hm)) fun σ H Q h => ?_
  obtain ⟨F, R, fr, S, d, S', rs, rf, he, k⟩ := h
  simp only [evT] at he
  obtain ⟨x, S1, e1, he⟩ := bind_ok he
  obtain ⟨y, S2, e2, he⟩ := bind_ok he
  obtain ⟨j, S3, e3', he⟩ := bind_ok he
  obtain ⟨e3, rfl⟩ := opt_ok e3'
  refine ⟨F, R, fr, S, x, S1, rs, rf, e1, fun F1 R1 H1 v n1 rs1 rv => ⟨F1, R1, fr, S1, y, _, rs1, rf.nxt n1, e2, fun F2 R2 H2 w n2 rs2 rw' => ?_⟩⟩
  refine ⟨F2, R2, x, y, j, rs2.fh, rv.mono n2.f n2.r, rw', e3, j, rfl, ?_⟩
  cases j with
  | false =>
    rw [if_neg Bool.false_ne_true] at he ⊢
    cases he
    exact ⟨false, rfl, k F2 R2 H2 _ (n1.trans n2) rs2 rfl⟩
  | true =>
    rw [if_pos rfl] at he ⊢
    obtain ⟨z, S4, e4, he⟩ := bind_ok he
    obtain ⟨e5, rfl⟩ := opt_ok he
    refine ⟨F2, R2, fr, S3, z, S', rs2, rf.nxt (n1.trans n2), e4, fun F3 R3 H3 u n3 rs3 ru => ?_⟩
    exact ⟨F3, R3, y, z, d, rs3.fh, rw'.mono n3.f n3.r, ru, e5, d, rfl, k F3 R3 H3 _ ((n1.trans n2).trans n3) rs3 rfl⟩
theorem bool_of {K : PySem.W.Frag} {F : Hp} {R : List Addr} {v : V} {x : D} {b : Bool} (r : Rep K F R v x) (h : boolO x = some b) : v = .bl b := by
  cases r <;> simp only [boolO, Option.some.injEq, reduceCtorEq] at h
  case bl c => rw [h]
theorem snd_and {a b : Expr} {rest : List Expr} {ma mb : ME} {pos : Pos} (ha : PE X a (tE cl gl X.K ma)) (hb : PE X (.BoolOp .And (b :: rest) pos) (tE cl gl X.K mb)) : PE X (.BoolOp .And (a :: b :: rest) pos) (tE cl gl X.K (.and ma mb)) := by
  refine PE.imp (pe_and ha hb) fun σ H Q h => ?_
  obtain ⟨F, R, fr, S, d, S', rs, rf, he, k⟩ := h
  simp only [ev] at he
  obtain ⟨x, S1, e1, he⟩ := bind_ok he
  obtain ⟨j, S2, e2', he⟩ := bind_ok he
  obtain ⟨e2, rfl⟩ := opt_ok e2'
  refine ⟨F, R, fr, S, x, S2, rs, rf, e1, fun F1 R1 H1 v n1 rs1 rv => ⟨j, bool_of rv e2, ?_⟩⟩
  cases j with
  | false =>
    rw [if_neg Bool.false_ne_true] at he ⊢
    cases he
    exact k F1 R1 H1 _ n1 rs1 (.bl false)
  | true =>
    rw [if_pos rfl] at he ⊢
    exact ⟨F1, R1, fr, S2, d, S', rs1, rf.nxt n1, nox_ok he, fun F2 R2 H2 w n2 rs2 rw' => k F2 R2 H2 w (n1.trans n2) rs2 rw'⟩
theorem snd_or {a b : Expr} {rest : List Expr} {ma mb : ME} {pos : Pos} (ha : PE X a (tE cl gl X.K ma)) (hb : PE X (.BoolOp .Or (b :: rest) pos) (tE cl gl X.K mb)) : PE X (.BoolOp .Or (a :: b :: rest) pos) (tE cl gl X.K (.or ma mb)) := by
  refine PE.imp (pe_or ha hb) fun σ H Q h => ?_
  obtain ⟨F, R, fr, S, d, S', rs, rf, he, k⟩ := h
  simp only [ev] at he
  obtain ⟨x, S1, e1, he⟩ := bind_ok he
  obtain ⟨j, S2, e2', he⟩ := bind_ok he
  obtain ⟨e2, rfl⟩ := opt_ok e2'
  refine ⟨F, R, fr, S, x, S2, rs, rf, e1, fun F1 R1 H1 v n1 rs1 rv => ⟨j, bool_of rv e2, ?_⟩⟩
  cases j with
  | true =>
    rw [if_pos rfl] at he ⊢
    cases he
    exact k F1 R1 H1 _ n1 rs1 (.bl true)
  | false =>
    rw [if_neg Bool.false_ne_true] at he ⊢
    exact ⟨F1, R1, fr, S2, d, S', rs1, rf.nxt n1, nox_ok he, fun F2 R2 H2 w n2 rs2 rw' => k F2 R2 H2 w (n1.trans n2) rs2 rw'⟩
theorem snd_not {a : Expr} {ma : ME} {pos : Pos} (ha : PE X a (tE cl gl X.K ma)) : PE X (.UnaryOp .Not a pos) (tE cl gl X.K (.not ma)) := by
  refine PE.imp (pe_not ha) fun σ H Q h => ?_
  obtain ⟨F, R, fr, S, d, S', rs, rf, he, k⟩ := h
  simp only [ev] at he
  obtain ⟨x, S1, e1, he⟩ := bind_ok he
  obtain ⟨j, S2, e2', hf⟩ := bind_ok he
  obtain ⟨e2, rfl⟩ := opt_ok e2'
  cases hf
  exact ⟨F, R, fr, S, x, _, rs, rf, e1, fun F1 R1 H1 v n1 rs1 rv => ⟨j, bool_of rv e2, k F1 R1 H1 _ n1 rs1 (.bl _)⟩⟩
theorem snd_ife {c a b : Expr} {mc : MT} {ma mb : ME} {pos : Pos} (hc : PT X c (tM cl gl X.K mc)) (ha : PE X a (tE cl gl X.K ma)) (hb : PE X b (tE cl gl X.K mb)) : PE X (.IfExp c a b pos) (tE cl gl X.K (.ife mc ma mb)) := by
  refine PE.imp (pe_ifExp hc ha hb) fun σ H Q h => ?_
  obtain ⟨F, R, fr, S, d, S', rs, rf, he, k⟩ := h
  simp only [ev] at he
  obtain ⟨x, S1, e1, he⟩ := bind_ok he
  refine ⟨F, R, fr, S, x, S1, rs, rf, e1, fun F1 R1 H1 v n1 rs1 rv => ?_⟩
  subst rv
  cases v with
  | true =>
    rw [if_pos rfl] at he ⊢
    exact ⟨F1, R1, fr, S1, d, S', rs1, rf.nxt n1, he, fun F2 R2 H2 w n2 rs2 rw' => k F2 R2 H2 w (n1.trans n2) rs2 rw'⟩
  | false =>
    rw [if_neg Bool.false_ne_true] at he ⊢
    exact ⟨F1, R1, fr, S1, d, S', rs1, rf.nxt n1, he, fun F2 R2 H2 w n2 rs2 rw' => k F2 R2 H2 w (n1.trans n2) rs2 rw'⟩
/-! tests -/
theorem snd_tval {e : Expr} {m : ME} (h : PE X e (tE cl gl X.K m)) (hp : plainT e = true) : PT X e (tM cl gl X.K (.val m)) := by
  refine PT.imp (pt_val h (plain_test hp)) fun σ H Q h => ?_
  obtain ⟨F, R, fr, S, d, S', rs, rf, he, k⟩ := h
  simp only [evT] at he
  obtain ⟨x, S1, e1, he⟩ := bind_ok he
  obtain ⟨e2, rfl⟩ := opt_ok he
  exact ⟨F, R, fr, S, x, S', rs, rf, e1, fun F1 R1 H1 v n1 rs1 rv => ⟨d, bool_of rv e2, k F1 R1 H1 _ n1 rs1 rfl⟩⟩
theorem tru_of {K : PySem.W.Frag} {F H : Hp} {R : List Addr} {S : Sto} {v : V} {x : D} {b : Bool} (rs : RelS K F R H S) (r : Rep K F R v x) (h : truD S x = some b) : TruV K v H b := by
  have lst : (rdL S x).map (fun xs => !xs.isEmpty) = some b → TruV K v H b := fun e => by
    cases e1 : rdL S x with
    | none => rw [e1] at e; cases e
    | some xs =>
      rw [e1] at e
      cases e
      obtain ⟨a, vs, rfl, h1, h2⟩ := rdL_ok rs r e1
      refine .inl ⟨vs, h1, ?_⟩
      cases h2 <;> rfl
  cases r with
  | non => cases h; rfl
  | bl c => cases h; rfl
  | int i => cases h; rfl
  | str z =>
    simp only [truD] at h
    split at h
    · rename_i hl
      cases h
      exact ⟨hl, rfl⟩
    · cases h
  | tup ha ra =>
    cases h
    refine .inr (.inl ⟨_, same_t rs.fh ha, ?_⟩)
    cases ra <;> rfl
  | lst ha ra => exact lst h
  | scr ha => exact lst h
  | obj ha => exact lst h
  | ty => cases h
  | ins => cases h
  | dic => cases h
  | cls => cases h
  | fnv => cases h
theorem snd_ttru {e : Expr} {m : ME} (h : PE X e (tE cl gl X.K m)) (hp : plainT e = true) : PT X e (tM cl gl X.K (.tru m)) := by
  refine PT.imp (pt_truth h (plain_test hp)) fun σ H Q h => ?_
  obtain ⟨F, R, fr, S, d, S', rs, rf, he, k⟩ := h
  simp only [evT] at he
  obtain ⟨x, S1, e1, he⟩ := bind_ok he
  obtain ⟨e2, rfl⟩ := opt_ok he
  exact ⟨F, R, fr, S, x, S', rs, rf, e1, fun F1 R1 H1 v n1 rs1 rv => ⟨d, tru_of rs1 rv e2, k F1 R1 H1 _ n1 rs1 rfl⟩⟩
-- theorem stp_if {σ : Stt} {H : Hp} {Q : Bool → Hp → Prop} {a b : MT} {c1 c2 : Bool} {u1 u2 : TT} (hf : c1 = true → ∀ fr S, (evT cl gl fr a S).bind (fun k S => if k then evT cl gl fr b S else Out.ok false S) = evT cl gl fr a S) : True := trivial
theorem snd_tand {a b : Expr} {rest : List Expr} {ma mb : MT} {pos : Pos} (ha : PT X a (tM cl gl X.K ma)) (hb : PW X (.BoolOp .And (b :: rest) pos) (tM cl gl X.K mb)) : PW X (.BoolOp .And (a :: b :: rest) pos) (tM cl gl X.K (.and ma mb)) := by
  refine PW.imp (pw_and ha hb) fun σ H Q h => ?_
  obtain ⟨F, R, fr, S, d, S', rs, rf, he, k⟩ := h
  simp only [evT] at he
  obtain ⟨x, S1, e1, he⟩ := bind_ok he
  refine ⟨F, R, fr, S, x, S1, rs, rf, e1, fun F1 R1 H1 v n1 rs1 rv => ?_⟩
  subst rv
  cases v with
  | false =>
    rw [if_neg Bool.false_ne_true] at he ⊢
    cases he
    exact k F1 R1 H1 _ n1 rs1 rfl
  | true =>
    rw [if_pos rfl] at he ⊢
    exact ⟨F1, R1, fr, S1, d, S', rs1, rf.nxt n1, he, fun F2 R2 H2 w n2 rs2 rw' => k F2 R2 H2 w (n1.trans n2) rs2 rw'⟩
theorem snd_tor {a b : Expr} {rest : List Expr} {ma mb : MT} {pos : Pos} (ha : PT X a (tM cl gl X.K ma)) (hb : PW X (.BoolOp .Or (b :: rest) pos) (tM cl gl X.K mb)) : PW X (.BoolOp .Or (a :: b :: rest) pos) (tM cl gl X.K (.or ma mb)) := by
  refine PW.imp (pw_or ha hb) fun σ H Q h => ?_
  obtain ⟨F, R, fr, S, d, S', rs, rf, he, k⟩ := h
  simp only [evT] at he
  obtain ⟨x, S1, e1, he⟩ := bind_ok he
  refine ⟨F, R, fr, S, x, S1, rs, rf, e1, fun F1 R1 H1 v n1 rs1 rv => ?_⟩
  subst rv
  cases v with
  | true =>
    rw [if_pos rfl] at he ⊢
    cases he
    exact k F1 R1 H1 _ n1 rs1 rfl
  | false =>
    rw [if_neg Bool.false_ne_true] at he ⊢
    exact ⟨F1, R1, fr, S1, d, S', rs1, rf.nxt n1, he, fun F2 R2 H2 w n2 rs2 rw' => k F2 R2 H2 w (n1.trans n2) rs2 rw'⟩
theorem snd_tnot {a : Expr} {ma : MT} {pos : Pos} (ha : PT X a (tM cl gl X.K ma)) : PT X (.UnaryOp .Not a pos) (tM cl gl X.K (.not ma)) := by
  refine PT.imp (pt_not ha) fun σ H Q h => ?_
  obtain ⟨F, R, fr, S, d, S', rs, rf, he, k⟩ := h
  simp only [evT] at he
  obtain ⟨x, S1, e1, he⟩ := bind_ok he
  cases he
  refine ⟨F, R, fr, S, x, _, rs, rf, e1, fun F1 R1 H1 v n1 rs1 rv => ?_⟩
  subst rv
  exact k F1 R1 H1 _ n1 rs1 rfl
/-! arguments, displays -/
theorem snd_nil : PA X [] (tEs cl gl X.K []) := by
  refine PA.imp pa_nil fun σ H Q h => ?_
  obtain ⟨F, R, fr, S, d, S', rs, rf, he, k⟩ := h
  simp only [evs] at he
  cases he
  exact k F R H _ .refl rs .nil
theorem snd_cons {e : Expr} {es : List Expr} {m : ME} {ms : List ME} (hs : noStar e = true) (h : PE X e (tE cl gl X.K m)) (t : PA X es (tEs cl gl X.K ms)) : PA X (e :: es) (tEs cl gl X.K (m :: ms)) := by
  refine PA.imp (pa_cons h t (star_cons hs)) fun σ H Q h => ?_
  obtain ⟨F, R, fr, S, d, S', rs, rf, he, k⟩ := h
  simp only [evs] at he
  obtain ⟨x, S1, e1, he⟩ := bindX_ok he
  obtain ⟨xs, S2, e2, he⟩ := bindX_ok he
  cases he
  exact ⟨F, R, fr, S, x, S1, rs, rf, e1, fun F1 R1 H1 v n1 rs1 rv => ⟨F1, R1, fr, S1, xs, _, rs1, rf.nxt n1, e2, fun F2 R2 H2 ws n2 rs2 rw' => k F2 R2 H2 _ (n1.trans n2) rs2 (.cons (rv.mono n2.f n2.r) rw')⟩⟩
theorem evs_len {fr : Frm} : ∀ {ms : List ME} {S S' : Sto} {xs : List D}, evs cl gl fr ms S = .ok xs S' → xs.length = ms.length
  | [], S, S', xs, h => by simp only [evs] at h; cases h; rfl
  | m :: ms, S, S', xs, h => by
    simp only [evs] at h
    obtain ⟨x, S1, e1, h⟩ := bindX_ok h
    obtain ⟨ys, S2, e2, h⟩ := bindX_ok h
    cases h
    rw [List.length_cons, List.length_cons, evs_len e2]
theorem snd_tup {es : List Expr} {ms : List ME} {k1 : Nat} {pos : Pos} (hl : ms.length ≤ 1000) (h : PA X es (tEs cl gl X.K ms)) : PE X (.Tuple es k1 pos) (tE cl gl X.K (.tup ms)) := by
  refine PE.imp (pe_tup h) fun σ H Q h => ?_
  obtain ⟨F, R, fr, S, d, S', rs, rf, he, k⟩ := h
  simp only [ev] at he
  obtain ⟨xs, S1, e1, he⟩ := bind_ok he
  cases he
  refine ⟨F, R, fr, S, xs, _, rs, rf, e1, fun F1 R1 H1 vs n1 rs1 rv => ⟨?_, fun p hp => ?_⟩⟩
  · have h1 := rv.length
    have h2 := evs_len e1
    rw [sizeLine_eq]
    omega
  · have n : Nw X.K F1 R1 H1 (upd F1 p (.tup vs)) (upd H1 p (.tup vs)) := Nw.one hp rs1.fh
    exact k _ R1 _ _ (n1.trans n.1) (n.2 _ rs1) (.tup (SqT.of upd_same) (rv.mono n.1.f n.1.r))
theorem snd_lst {es : List Expr} {ms : List ME} {pos : Pos} (hl : ms.length ≤ 1000) (h : PA X es (tEs cl gl X.K ms)) : PE X (.List es pos) (tE cl gl X.K (.lst ms)) := by
  refine PE.imp (pe_lst h) fun σ H Q h => ?_
  obtain ⟨F, R, fr, S, d, S', rs, rf, he, k⟩ := h
  simp only [ev] at he
  obtain ⟨xs, S1, e1, he⟩ := bind_ok he
  cases he
  refine ⟨F, R, fr, S, xs, _, rs, rf, e1, fun F1 R1 H1 vs n1 rs1 rv => ⟨?_, fun p hp => ?_⟩⟩
  · have h1 := rv.length
    have h2 := evs_len e1
    rw [sizeLine_eq]
    omega
  · have n : Nw X.K F1 R1 H1 (upd F1 p (.lst vs)) (upd H1 p (.lst vs)) := Nw.one hp rs1.fh
    exact k _ R1 _ _ (n1.trans n.1) (n.2 _ rs1) (.lst upd_same (rv.mono n.1.f n.1.r))
/-- a new thing of the store -/
theorem store_new {K : PySem.W.Frag} {F H : Hp} {R : List Addr} {S : Sto} {p : Addr} {vs : List V} {xs : List D} (rs : RelS K F R H S) (hp : H p = none) (rv : RepAll K F R vs xs) :
    Nxt F R H F (R ++ [p]) (upd H p (.lst vs)) ∧ RelS K F (R ++ [p]) (upd H p (.lst vs)) (S ++ [.lst xs]) ∧ (R ++ [p])[S.length]? = some p := by
  have hnR : p ∉ R := fun h => by
    obtain ⟨o, ho⟩ := rs.tr p h
    rw [hp] at ho; cases ho
  have hFp : F p = none := rs.fh.free hp
  have n : Nxt F R H F (R ++ [p]) (upd H p (.lst vs)) := by
    refine ⟨Same.refl _, ⟨[p], rfl⟩, fun _ _ h => .inl h, fun a o h _ _ => ?_, fun a o h _ => ⟨o, ?_⟩, fun a h => ?_⟩
    · rw [upd_ne (ne_of_none h hp)]; exact h
    · rw [upd_ne (ne_of_none h hp)]; exact h
    · rcases List.mem_append.mp h with h | h
      · exact .inl h
      · have e : a = p := by simpa using h
        rw [e]; exact .inr hp
  have at2 : (R ++ [p])[S.length]? = some p := by
    rw [← rs.len, List.getElem?_append_right (Nat.le_refl _), Nat.sub_self]; rfl
  refine ⟨n, ⟨fun a o h => ?_, ⟨(Pln.non hp).tabs rs.tb.1, rs.tb.2⟩, by simp [rs.len], ?_, fun a h => ?_, fun i a o h1 h2 => ?_⟩, at2⟩
  · rw [upd_ne (ne_of_none (rs.fh a o h) hp)]; exact rs.fh a o h
  · exact List.nodup_append.mpr ⟨rs.nd, by simp, fun a ha b hb => by
      have e : b = p := by simpa using hb
      rw [e]; rintro rfl; exact hnR ha⟩
  · by_cases e : a = p
    · subst e; exact ⟨_, upd_same⟩
    · have ha : a ∈ R := by simpa [e] using h
      obtain ⟨o, ho⟩ := rs.tr a ha
      exact ⟨o, by rw [upd_ne e]; exact ho⟩
  · by_cases hi : i < R.length
    · rw [List.getElem?_append_left hi] at h1
      rw [List.getElem?_append_left (by rw [← rs.len]; exact hi)] at h2
      have ha : a ∈ R := List.mem_of_getElem? h1
      have hne : a ≠ p := fun e => hnR (e ▸ ha)
      refine (rs.at_ i a o h1 h2).up (Same.refl _) n.r (fun q => q) (fun b u hb _ => ?_) fun b hb => ?_
      · rw [upd_ne (ne_of_none hb hp)]; exact hb
      · rcases List.mem_append.mp hb with hb | hb
        · exact .inl hb
        · have e : b = p := by simpa using hb
          rw [e]; exact .inr hp
    · have hi2 : i = R.length := by
        have := (List.getElem?_eq_some_iff.mp h1).1
        simp at this; omega
      subst hi2
      have e1 : p = a := by
        rw [rs.len, at2] at h1
        exact Option.some.inj h1
      subst e1
      have e2 : SO.lst xs = o := by
        rw [rs.len, List.getElem?_append_right (Nat.le_refl _), Nat.sub_self] at h2
        exact Option.some.inj h2
      subst e2
      exact ⟨hFp, vs, upd_same, rv.mono (Same.refl _) n.r⟩
theorem snd_ref {es : List Expr} {ms : List ME} {pos : Pos} (hl : ms.length ≤ 1000) (h : PA X es (tEs cl gl X.K ms)) : PE X (.List es pos) (tE cl gl X.K (.ref ms)) := by
  refine PE.imp (pe_lst h) fun σ H Q h => ?_
  obtain ⟨F, R, fr, S, d, S', rs, rf, he, k⟩ := h
  simp only [ev] at he
  obtain ⟨xs, S1, e1, he⟩ := bind_ok he
  cases he
  refine ⟨F, R, fr, S, xs, _, rs, rf, e1, fun F1 R1 H1 vs n1 rs1 rv => ⟨?_, fun p hp => ?_⟩⟩
  · have h1 := rv.length
    have h2 := evs_len e1
    rw [sizeLine_eq]
    omega
  · obtain ⟨n, rs2, at2⟩ := store_new rs1 hp rv
    exact k _ _ _ _ (n1.trans n) rs2 (.obj at2)
end
end Mn
/-! expressions: names, calls, subscripts, targets, what is walked, comprehensions -/
namespace Mn
open PySem PySem.Spec PyProof.Rows L2
variable [CA]
/-- an exception in the air: its class, its dict -/
def RepX (K : PySem.W.Frag) (F : Hp) (R : List Addr) (x : D) (cls : Value) (e : Option Addr) : Prop :=
  ∃ c ds, x = .ins c ds ∧ cls = .ref (CA.ca c) ∧ ((ds = [] ∧ e = none) ∨ ∃ y v dx f, ds = [y] ∧ e = some dx ∧ CA.fl c = [f] ∧ F dx = some (.xd [(CA.fnm f, v)]) ∧ Rep K F R v y)
theorem RepX.mono {K : PySem.W.Frag} {F F' : Hp} {R R' : List Addr} {x : D} {cls : Value} {e : Option Addr} (h : RepX K F R x cls e) (s : Same F F') (p : R <+: R') : RepX K F' R' x cls e := by
  obtain ⟨c, ds, h1, h2, h3⟩ := h
  refine ⟨c, ds, h1, h2, h3.imp id ?_⟩
  rintro ⟨y, v, dx, f, a1, a2, a3, a4, a5⟩
  exact ⟨y, v, dx, f, a1, a2, a3, s _ _ a4, a5.mono s p⟩
/-- what is wanted behind an outcome -/
def OutG {α β : Type} (K : PySem.W.Frag) (F : Hp) (R : List Addr) (H : Hp) (Rp : Hp → List Addr → Hp → β → α → Prop) (Q : β → Hp → Prop) (E : XK) : Out α → Prop
  | .ok a S' => ∀ F' R' H' v, Nxt F R H F' R' H' → RelS K F' R' H' S' → Rp F' R' H' v a → Q v H'
  | .exc x S' => ∀ F' R' H' cls e, Nxt F R H F' R' H' → RelS K F' R' H' S' → RepX K F' R' x cls e → E cls e H'
  | .bad => False
theorem OutG.nxt {α β : Type} {K : PySem.W.Frag} {F F1 H H1 : Hp} {R R1 : List Addr} {Rp : Hp → List Addr → Hp → β → α → Prop} {Q : β → Hp → Prop} {E : XK} {o : Out α} (h : OutG K F R H Rp Q E o) (n : Nxt F R H F1 R1 H1) : OutG K F1 R1 H1 Rp Q E o := by
  cases o with
  | ok a S' => exact fun F' R' H' v n' => h F' R' H' v (n.trans n')
  | exc x S' => exact fun F' R' H' c e n' => h F' R' H' c e (n.trans n')
  | bad => exact h
/-- what a def promises by the interpreter -/
def spF (K : PySem.W.Frag) (cl : Nat → List D → Sto → Out D) (f : Nat) : Sq := fun vs H Q E => ∃ F R S ds, RelS K F R H S ∧ RepAll K F R vs ds ∧ OutG K F R H (fun F R _ v d => Rep K F R v d) Q E (cl f ds S)
theorem spF_ok {K : PySem.W.Frag} {cl : Nat → List D → Sto → Out D} {f : Nat} {F H : Hp} {R : List Addr} {S S' : Sto} {vs : List V} {ds : List D} {d : D} {Q : VK} {E : XK} (rs : RelS K F R H S) (ra : RepAll K F R vs ds) (e : cl f ds S = .ok d S')
    (k : ∀ F' R' H' v, Nxt F R H F' R' H' → RelS K F' R' H' S' → Rep K F' R' v d → Q v H') : spF K cl f vs H Q E := ⟨F, R, S, ds, rs, ra, by rw [e]; exact k⟩
/-- an expression that may raise; several -/
def tX (cl : Nat → List D → Sto → Out D) (gl : GL) (X : Cx) (m : ME) : TE := fun σ H Q => ∃ F R fr S, RelS X.K F R H S ∧ RelF X.K F R H σ fr ∧ OutG X.K F R H (fun F R _ v d => Rep X.K F R v d) Q (EX X σ) (ev cl gl fr m S)
def tXs (cl : Nat → List D → Sto → Out D) (gl : GL) (X : Cx) (m : List ME) : TA := fun σ H Q => ∃ F R fr S, RelS X.K F R H S ∧ RelF X.K F R H σ fr ∧ OutG X.K F R H (fun F R _ v d => RepAll X.K F R v d) Q (EX X σ) (evs cl gl fr m S)
theorem tE_X {cl : Nat → List D → Sto → Out D} {gl : GL} {X : Cx} {m : ME} {σ : L2.St} {H : Hp} {Q : VK} (h : tE cl gl X.K m σ H Q) : tX cl gl X m σ H Q := by
  obtain ⟨F, R, fr, S, a, S', rs, rf, e, k⟩ := h
  exact ⟨F, R, fr, S, rs, rf, by dsimp only at e; rw [e]; exact k⟩
theorem tEs_X {cl : Nat → List D → Sto → Out D} {gl : GL} {X : Cx} {m : List ME} {σ : L2.St} {H : Hp} {Q : List V → Hp → Prop} (h : tEs cl gl X.K m σ H Q) : tXs cl gl X m σ H Q := by
  obtain ⟨F, R, fr, S, a, S', rs, rf, e, k⟩ := h
  exact ⟨F, R, fr, S, rs, rf, by dsimp only at e; rw [e]; exact k⟩
/-- a part is reckoned, then the rest -/
theorem ev_in {cl : Nat → List D → Sto → Out D} {gl : GL} {X : Cx} {m : ME} {σ : L2.St} {F H : Hp} {R : List Addr} {fr : Frm} {S : Sto} {α β : Type} {g : D → Sto → Out α} {Rp : Hp → List Addr → Hp → β → α → Prop} {Q : β → Hp → Prop} {Q2 : VK} (rs : RelS X.K F R H S) (rf : RelF X.K F R H σ fr)
    (k : OutG X.K F R H Rp Q (EX X σ) ((ev cl gl fr m S).bindX g)) (c : ∀ F2 R2 H2 v x S2, Nxt F R H F2 R2 H2 → RelS X.K F2 R2 H2 S2 → Rep X.K F2 R2 v x → OutG X.K F2 R2 H2 Rp Q (EX X σ) (g x S2) → Q2 v H2) : tX cl gl X m σ H Q2 := by
  refine ⟨F, R, fr, S, rs, rf, ?_⟩
  cases e1 : ev cl gl fr m S with
  | ok x S1 =>
    rw [e1] at k
    exact fun F2 R2 H2 v n rs2 rv => c F2 R2 H2 v x S1 n rs2 rv (OutG.nxt k n)
  | exc x S1 => rw [e1] at k; exact k
  | bad => rw [e1] at k; exact k
theorem evs_in {cl : Nat → List D → Sto → Out D} {gl : GL} {X : Cx} {ms : List ME} {σ : L2.St} {F H : Hp} {R : List Addr} {fr : Frm} {S : Sto} {α β : Type} {g : List D → Sto → Out α} {Rp : Hp → List Addr → Hp → β → α → Prop} {Q : β → Hp → Prop} {Q2 : List V → Hp → Prop} (rs : RelS X.K F R H S) (rf : RelF X.K F R H σ fr)
    (k : OutG X.K F R H Rp Q (EX X σ) ((evs cl gl fr ms S).bindX g)) (c : ∀ F2 R2 H2 vs xs S2, Nxt F R H F2 R2 H2 → RelS X.K F2 R2 H2 S2 → RepAll X.K F2 R2 vs xs → xs.length = ms.length → OutG X.K F2 R2 H2 Rp Q (EX X σ) (g xs S2) → Q2 vs H2) : tXs cl gl X ms σ H Q2 := by
  refine ⟨F, R, fr, S, rs, rf, ?_⟩
  cases e1 : evs cl gl fr ms S with
  | ok xs S1 =>
    rw [e1] at k
    exact fun F2 R2 H2 v n rs2 rv => c F2 R2 H2 v xs S1 n rs2 rv (evs_len e1) (OutG.nxt k n)
  | exc x S1 => rw [e1] at k; exact k
  | bad => rw [e1] at k; exact k
/-- what never raises -/
theorem tX_of {cl : Nat → List D → Sto → Out D} {gl : GL} {X : Cx} {m : ME} {e : Expr} (h : PE X e (tE cl gl X.K m)) (nx : ∀ fr S x S', ev cl gl fr m S ≠ .exc x S') : PE X e (tX cl gl X m) := by
  refine PE.imp h fun σ H Q q => ?_
  obtain ⟨F, R, fr, S, rs, rf, k⟩ := q
  cases e1 : ev cl gl fr m S with
  | ok a S' => rw [e1] at k; exact ⟨F, R, fr, S, a, S', rs, rf, e1, k⟩
  | exc x S' => exact (nx _ _ _ _ e1).elim
  | bad => rw [e1] at k; exact k.elim
/-- a class that is made by its __init__ -/
def MkE (X : Cx) (cl : Nat → List D → Sto → Out D) (f c : Nat) (ps : List Str) : Prop :=
  ∃ n fi fd sp, Mk X.K (CA.ca c) fi ∧ FnG X.prog X.w X.K X.mg X.base n fi fd ps sp ∧ RoomG (n + 1) X.A ∧ PlainP fd.params ps ∧ fd.defaults = .none ∧ ps.Nodup ∧ (∀ vs H Q E, spF X.K cl f vs H Q E → spMk (CA.ca c) sp vs H Q E) ∧ ∀ vs H Q E, spF X.K cl f vs H Q E → vs.length + 1 = ps.length
/-- an own class of exceptions with an __init__ that sets one attribute -/
def ExcI (K : PySem.W.Frag) (c : Nat) : Prop := ∃ f fi fd qual params body scope p0 p1 p2 p3, ∃ n1 n2 : Str, CA.fl c = [f] ∧ OexC K (CA.ca c) ∧ PySem.W.findIn K (.ref (CA.ca c)) (CA.fnm f) = some none ∧ PySem.W.findIn K (.ref (CA.ca c)) "__init__" = some (some (.ref fi)) ∧ PySem.W.typeIn K (.ref fi) = some (.type "function") ∧
  FunD K "__init__" qual params body scope [] [] fi fd ∧ FnScope [n1, n2] [n1, n2] scope ∧ PlainP fd.params [n1, n2] ∧ fd.defaults = .none ∧ (n1 == ("__debug__" : Str)) = false ∧ (n1 == ("__classdict__" : Str)) = false ∧ (n2 == ("__debug__" : Str)) = false ∧ (n2 == ("__classdict__" : Str)) = false ∧
  body = [.Assign [.Attribute (.Name n1 p0) (CA.fnm f) p1] (.Name n2 p2) p3]
/-- a def, a method or a class of the table, as it may be called here -/
def FnE (nm : Nat → Str) (cl : Nat → List D → Sto → Out D) (X : Cx) (f : Nat) (m : MF) : Prop :=
  match m.kind with
  | .frz c => X.mg (nm f) = some (.ref (CA.ca c)) ∧ MkE X cl f c (m.names.take m.ps)
  | .sto c => X.mg (nm f) = some (.ref (CA.ca c)) ∧ MkE X cl f c (m.names.take m.ps)
  | .exc c => X.mg (nm f) = some (.ref (CA.ca c)) ∧ ExcI X.K c
  | k => (k.top = true → X.mg (nm f) = some (.ref (CA.fa f))) ∧ ∃ n fd, PySem.W.keepIn X.K (.ref (CA.fa f)) = true ∧ PlainP fd.params (m.names.take m.ps) ∧ fd.defaults = .none ∧ (m.names.take m.ps).Nodup ∧
    RoomG (n + 3) X.A ∧ FnG X.prog X.w X.K X.mg X.base n (CA.fa f) fd (m.names.take m.ps) (spF X.K cl f)
/-- a method -/
structure MtF (K : PySem.W.Frag) (nm : Nat → Str) (c m f : Nat) : Prop where
  kc : CA.kc c = true
  me : Meth K (CA.ca c) (nm m) (CA.fa f)
  no : nm m ∉ (CA.fl c).map CA.fnm
/-- a property -/
structure PpF (K : PySem.W.Frag) (nm : Nat → Str) (c m f : Nat) : Prop where
  kc : CA.kc c = true
  ic : PySem.W.isClsIn K (CA.ca c) = true
  pr : ∃ p, PySem.W.findIn K (.ref (CA.ca c)) (nm m) = some (some (.ref p)) ∧ PySem.W.specialIn K (.ref p) "__get__" = some (some (.builtin "property.__get__")) ∧ PySem.W.takesIn K (.ref p) = some true ∧
    ∃ rest, PySem.W.recIn K p "property" = some (.ref (CA.fa f) :: rest)
/-- a classmethod -/
structure CmF (X : Cx) (nm : Nat → Str) (nc : Nat → Str) (c m f : Nat) : Prop where
  tc : CA.tc c = true
  mg : X.mg (nc c) = some (.ref (CA.ca c))
  cm : ∃ mc p, ClX.CRead X.K (CA.ca c) mc ∧ ClX.CMet X.K (CA.ca c) mc (nm m) p (CA.fa f)
/-- what stands around an expression -/
structure Cxt (nm : Nat → Str) (P : List (Nat × MF)) (cl : Nat → List D → Sto → Out D) (gl : GL) (X : Cx) : Prop where
  b : BOk X
  nd : X.N.Nodup
  bi : ∀ c, X.mg (nBi c) = none
  zip : X.mg "zip" = none
  enu : X.mg "enumerate" = none
  bty : ∀ T ∈ (["bool", "dict"] : List String), X.mg (Str.ofString T) = none
  fl : gl.fl = CA.fl
  fnm : CA.fnm = nm
  fn : ∀ f m, P.lookup f = some m → FnE nm cl X f m
  mt : ∀ c m f, gl.m c m = some f → MtF X.K nm c m f ∧ ∃ mf, P.lookup f = some mf ∧ mf.kind = .met
  pt : ∀ c m f, gl.p c m = some f → PpF X.K nm c m f ∧ ∃ mf, P.lookup f = some mf ∧ mf.kind = .met
  ct : ∀ c m f, gl.c c m = some f → CmF X nm nm c m f ∧ ∃ mf, P.lookup f = some mf ∧ mf.kind = .met
  gb : ∀ x d, gl.g x = some d → ∃ v u, X.mg (nm x) = some u ∧ RelV v u ∧ ∀ F R, Rep X.K F R v d
  px : PassesOwn (model X.prog X.w) X.A X.env X.xe
  rm : Room 3 X.A
  bo : ∀ c, gl.b c = true → PySem.W.findIn X.K (.ref (CA.ca c)) "__bool__" = some none
section
variable {nm : Nat → Str} {P : List (Nat × MF)} {cl : Nat → List D → Sto → Out D} {gl : GL} {X : Cx}
theorem snd_var {i : Nat} {x : Str} {pos : Pos} (hN : X.N[i]? = some x) (hv : Vis X.env.scope x) (hd : (x == ("__debug__" : Str)) = false) (hcd : (x == ("__classdict__" : Str)) = false) : PE X (.Name x pos) (tE cl gl X.K (.var i)) := by
  refine PE.imp (pe_var hN hv hd hcd) fun σ H Q h => ?_
  obtain ⟨F, R, fr, S, d, S', rs, rf, he, k⟩ := h
  simp only [ev] at he
  split at he
  · rename_i d' hfr
    cases he
    obtain ⟨v, h1, h2⟩ := rf.sl i _ hfr
    exact ⟨v, h1, k F R H v .refl rs h2⟩
  · cases he
theorem snd_const {e : Expr} {v : V} {d : D} (h : PE X e (tC v)) (hr : ∀ F R, Rep X.K F R v d) : PE X e (tE cl gl X.K (.cst d)) := by
  refine PE.imp h fun σ H Q h => ?_
  obtain ⟨F, R, fr, S, d', S', rs, rf, he, k⟩ := h
  simp only [ev] at he
  cases he
  exact k F R H v .refl rs (hr F R)
theorem snd_glob {x : Nat} {pos : Pos} (c : Cxt nm P cl gl X) (hg : Gl X (nm x)) (hd : ((nm x) == ("__debug__" : Str)) = false) : PE X (.Name (nm x) pos) (tE cl gl X.K (.glob x)) := by
  refine ⟨fun pins s σ H Q I h => ?_⟩
  obtain ⟨F, R, fr, S, d', S', rs, rf, he, k⟩ := h
  simp only [ev] at he
  obtain ⟨e1, rfl⟩ := opt_ok he
  obtain ⟨v, u, h1, h2, h3⟩ := c.gb x d' e1
  exact ld_glob I hg h1 ⟨v, H, I, h2, k F R H v .refl rs (h3 F R)⟩ hd
theorem FnE.ce {f : Nat} {m : MF} (h : FnE nm cl X f m) (ht : m.kind.top = true) : ∃ u, X.mg (nm f) = some u ∧ CeR X u m.kind.off (m.names.take m.ps) (spF X.K cl f) := by
  unfold FnE at h
  cases hk : m.kind with
  | fn =>
    rw [hk] at h
    obtain ⟨h1, n, fd, h2, h3, h4, h5, hr, F⟩ := h
    exact ⟨_, h1 rfl, ce_fn F (hr.mono (by omega)) h2 h3 h4 h5⟩
  | met => rw [hk] at ht; cases ht
  | exc => rw [hk] at ht; cases ht
  | frz c =>
    rw [hk] at h
    obtain ⟨h1, n, fi, fd, sp, h2, h3, h4, h5, h6, h7, h8, h9⟩ := h
    exact ⟨_, h1, ce_mk h2 h3 h4 h5 h6 h7 h8 h9⟩
  | sto c =>
    rw [hk] at h
    obtain ⟨h1, n, fi, fd, sp, h2, h3, h4, h5, h6, h7, h8, h9⟩ := h
    exact ⟨_, h1, ce_mk h2 h3 h4 h5 h6 h7 h8 h9⟩
theorem snd_call {f : Nat} {m : MF} {e : Expr} {es : List Expr} {ms : List ME} {p pos : Pos} (c : Cxt nm P cl gl X) (hf : P.lookup f = some m) (htp : m.kind.top = true) (hg : Gl X (nm f)) (hdb : ((nm f) == ("__debug__" : Str)) = false) (hs : (e :: es).all noStar = true)
    (ha : PA X (e :: es) (tXs cl gl X ms)) : PE X (.Call (.Name (nm f) p) (e :: es) [] pos) (tX cl gl X (.call f ms)) := by
  obtain ⟨u, h1, F⟩ := (c.fn f m hf).ce htp
  simp only [List.all_cons, Bool.and_eq_true] at hs
  refine PE.imp (pe_ce F hg h1 ha hdb (star_cons hs.1) (star_plain hs.2)) fun σ H Q h => ?_
  obtain ⟨F, R, fr, S, rs, rf, k⟩ := h
  simp only [ev] at k
  exact evs_in rs rf k fun F2 R2 H2 vs xs S2 n rs2 rv _ k2 => ⟨F2, R2, S2, xs, rs2, rv, k2⟩
theorem snd_call0 {f : Nat} {m : MF} {p pos : Pos} (c : Cxt nm P cl gl X) (hf : P.lookup f = some m) (htp : m.kind.top = true) (hg : Gl X (nm f)) (hdb : ((nm f) == ("__debug__" : Str)) = false) : PE X (.Call (.Name (nm f) p) [] [] pos) (tX cl gl X (.call f [])) := by
  obtain ⟨u, h1, F⟩ := (c.fn f m hf).ce htp
  refine PE.imp (pe_ce0 F hg h1 hdb) fun σ H Q h => ?_
  obtain ⟨F, R, fr, S, rs, rf, k⟩ := h
  simp only [ev, evs] at k
  exact ⟨F, R, S, [], rs, .nil, k⟩
theorem rep_kw {K : PySem.W.Frag} {F : Hp} {R : List Addr} {vs zs : List V} {xs ys : List D} (r : RepAll K F R vs xs) (q : RepAll K F R zs ys) (ks : List Nat) : RepAll K F R (kwV .non ks vs zs) (xs ++ ks.map fun k => ys.getD k .non) := by
  unfold kwV
  refine r.append ?_
  induction ks with
  | nil => exact .nil
  | cons k ks ih =>
    refine .cons ?_ ih
    show Rep K F R (zs.getD k .non) (ys.getD k .non)
    rw [List.getD_eq_getElem?_getD, List.getD_eq_getElem?_getD]
    cases e : ys[k]? with
    | none =>
      have : zs[k]? = none := by
        rw [List.getElem?_eq_none_iff] at e ⊢
        rw [q.length]; exact e
      rw [this]
      exact .non
    | some d =>
      obtain ⟨v, h1, h2⟩ := q.get e
      rw [h1]
      exact h2
theorem snd_consX {e : Expr} {es : List Expr} {m : ME} {ms : List ME} (hs : noStar e = true) (h : PE X e (tX cl gl X m)) (t : PA X es (tXs cl gl X ms)) : PA X (e :: es) (tXs cl gl X (m :: ms)) := by
  refine PA.imp (pa_cons h t (star_cons hs)) fun σ H Q q => ?_
  obtain ⟨F, R, fr, S, rs, rf, k⟩ := q
  simp only [evs] at k
  exact ev_in rs rf k fun F1 R1 H1 v x S1 n1 rs1 rv k1 => evs_in rs1 (rf.nxt n1) k1 fun F2 R2 H2 vs xs S2 n2 rs2 rvs _ k2 => k2 F2 R2 H2 _ .refl rs2 (.cons (rv.mono n2.f n2.r) rvs)
theorem snd_nilX : PA X [] (tXs cl gl X []) := by
  refine PA.imp pa_nil fun σ H Q q => ?_
  obtain ⟨F, R, fr, S, rs, rf, k⟩ := q
  simp only [evs] at k
  exact k F R H _ .refl rs .nil
/-- the keywords' values -/
theorem snd_kws : ∀ {kws : List Keyword} {ms : List ME}, (∀ (i : Nat) q m, kws[i]? = some q → ms[i]? = some m → PE X q.value (tX cl gl X m)) → kws.length = ms.length → PK X kws (tXs cl gl X ms)
  | [], [], _, _ => by
    constructor
    intro pos pins s σ H Q I h
    refine pk_nil.run pos pins s σ H Q I ?_
    obtain ⟨F, R, fr, S, rs, rf, k⟩ := h
    simp only [evs] at k
    exact k F R H _ .refl rs .nil
  | ⟨n, e, p⟩ :: kws, m :: ms, h, hl => by
    have t := snd_kws (kws := kws) (ms := ms) (fun i q m' h1 h2 => h (i + 1) q m' (by simpa using h1) (by simpa using h2)) (by simpa using hl)
    have h0 : PE X e (tX cl gl X m) := h 0 ⟨n, e, p⟩ m rfl rfl
    constructor
    intro pos pins s σ H Q I q
    refine (pk_cons h0 t).run pos pins s σ H Q I ?_
    obtain ⟨F, R, fr, S, rs, rf, k⟩ := q
    simp only [evs] at k
    exact ev_in rs rf k fun F1 R1 H1 v x S1 n1 rs1 rv k1 => evs_in rs1 (rf.nxt n1) k1 fun F2 R2 H2 vs xs S2 n2 rs2 rvs _ k2 => k2 F2 R2 H2 _ .refl rs2 (.cons (rv.mono n2.f n2.r) rvs)
theorem tXs_len {ms : List ME} {σ : Stt} {H : Hp} {Q : List V → Hp → Prop} {n : Nat} (hn : ms.length = n) (h : tXs cl gl X ms σ H Q) : tXs cl gl X ms σ H fun vs H1 => vs.length = n ∧ Q vs H1 := by
  obtain ⟨F, R, fr, S, rs, rf, k⟩ := h
  refine ⟨F, R, fr, S, rs, rf, ?_⟩
  cases e1 : evs cl gl fr ms S with
  | ok xs S1 => rw [e1] at k; exact fun F1 R1 H1 v n1 rs1 rv => ⟨by rw [rv.length, evs_len e1, hn], k F1 R1 H1 v n1 rs1 rv⟩
  | exc x S1 => rw [e1] at k; exact k
  | bad => rw [e1] at k; exact k
def kwNames (kws : List Keyword) : List Str := kws.filterMap (·.arg)
theorem kws_some {env : Env} {pos : Pos} : ∀ {kws : List Keyword}, kws.all (·.arg.isSome) = true → (backToKw pos (keywordEach kws env)).all (·.1.isSome) = true ∧ (backToKw pos (keywordEach kws env)).filterMap (·.1) = kwNames kws ∧ (backToKw pos (keywordEach kws env)).any (·.1.isNone) = false
  | [], _ => ⟨rfl, rfl, rfl⟩
  | ⟨some n, e, p⟩ :: kws, h => by
    simp only [List.all_cons, Bool.and_eq_true] at h
    obtain ⟨h1, h2, h3⟩ := kws_some (env := env) (pos := pos) h.2
    refine ⟨h1, ?_, h3⟩
    show n :: (backToKw pos (keywordEach kws env)).filterMap (·.1) = n :: kwNames kws
    rw [h2]
  | ⟨none, e, p⟩ :: kws, h => by simp at h
theorem snd_callK {f : Nat} {m : MF} {es : List Expr} {kws : List Keyword} {ms vs : List ME} {ks : List Nat} {p pos : Pos} (c : Cxt nm P cl gl X) (hf : P.lookup f = some m) (htp : m.kind.top = true) (hg : Gl X (nm f)) (hdb : ((nm f) == ("__debug__" : Str)) = false) (hs : es.all noStar = true)
    (ha : PA X es (tXs cl gl X ms)) (hl : es.length = ms.length) (hk : PK X kws (tXs cl gl X vs)) (hkl : kws.length = vs.length) (hsome : kws.all (·.arg.isSome) = true) (hc : kwC (m.names.take m.ps) (ms.length + m.kind.off) (kwNames kws) ks = true) : PE X (.Call (.Name (nm f) p) es kws pos) (tX cl gl X (.callK f ms ks vs)) := by
  obtain ⟨u, h1, F⟩ := (c.fn f m hf).ce htp
  obtain ⟨g1, g2, g3⟩ := kws_some (env := X.env) (pos := pos) hsome
  have hkn : vs.length = (kwNames kws).length := by
    rw [← hkl]
    clear hc g1 g2 g3 hk hkl
    induction kws with
    | nil => rfl
    | cons q kws ih =>
      simp only [List.all_cons, Bool.and_eq_true] at hsome
      obtain ⟨n, hn⟩ := Option.isSome_iff_exists.mp hsome.1
      show kws.length + 1 = (List.filterMap (·.arg) (q :: kws)).length
      rw [List.filterMap_cons_some (by exact hn), List.length_cons, ih hsome.2]
      rfl
  have read : ∀ σ H Q, tX cl gl X (.callK f ms ks vs) σ H Q → tXs cl gl X ms σ H fun ws H1 => tXs cl gl X vs σ H1 fun zs H2 => spF X.K cl f (kwV .non ks ws zs) H2 Q (EX X σ) := fun σ H Q h => by
    obtain ⟨F, R, fr, S, rs, rf, k⟩ := h
    simp only [ev] at k
    exact evs_in rs rf k fun F1 R1 H1 ws xs S1 n1 rs1 rv _ k1 => evs_in rs1 (rf.nxt n1) k1 fun F2 R2 H2 zs ys S2 n2 rs2 rz _ k2 => ⟨F2, R2, S2, _, rs2, rep_kw (rv.mono n2.f n2.r) rz ks, k2⟩
  cases es with
  | cons e es =>
    have hs' := hs
    simp only [List.all_cons, Bool.and_eq_true] at hs'
    refine PE.imp (pe_ceK F hg h1 hc (tXs_len rfl) (tXs_len hkn) ha hk g1 g2 hdb (star_cons hs'.1) ?_) read
    rw [star_plain hs, g3]; rfl
  | nil =>
    have hm0 : ms = [] := by
      cases ms with
      | nil => rfl
      | cons => simp at hl
    subst hm0
    refine PE.imp (pe_ceK0 F hg h1 hc (tXs_len hkn) hk g1 g2 hdb ?_) fun σ H Q h => ?_
    · rw [g3]; rfl
    · obtain ⟨F, R, fr, S, rs, rf, k⟩ := read σ H Q h
      simp only [evs] at k
      exact k F R H [] .refl rs .nil
theorem snd_blt {b : Bi} {e : Expr} {es : List Expr} {ms : List ME} {p pos : Pos} (c : Cxt nm P cl gl X) (hg : Gl X (nBi b)) (hs : (e :: es).all noStar = true) (ha : PA X (e :: es) (tEs cl gl X.K ms)) :
    PE X (.Call (.Name (nBi b) p) (e :: es) [] pos) (tE cl gl X.K (.blt b ms)) := by
  have r := bi_ok c.b b
  simp only [List.all_cons, Bool.and_eq_true] at hs
  have hs1 := star_cons (es := es) (env := X.env) hs.1
  have hs2 := star_plain (env := X.env) (pos := pos) hs.2
  have go : PE X (.Call (.Name (nBi b) p) (e :: es) [] pos) (tCB (rBlt X.K b) (tEs cl gl X.K ms)) := by
    cases b
    case len => exact pe_callB r hg (c.bi _) boot_len ha (by decide) (by decide) hs1 hs2
    case abs => exact pe_callB r hg (c.bi _) boot_abs ha (by decide) (by decide) hs1 hs2
    case int => exact pe_callTy r hg (c.bi _) PyProof.Rows.boot_int ha (by decide) (by decide) hs1 hs2
    case str => exact pe_callTy r hg (c.bi _) PyProof.Rows.boot_str ha (by decide) (by decide) hs1 hs2
    case repr => exact pe_callB r hg (c.bi _) boot_repr ha (by decide) (by decide) hs1 hs2
    case all => exact pe_callB r hg (c.bi _) boot_all ha (by decide) (by decide) hs1 hs2
    case any => exact pe_callB r hg (c.bi _) boot_any ha (by decide) (by decide) hs1 hs2
    case sum => exact pe_callB r hg (c.bi _) boot_sum ha (by decide) (by decide) hs1 hs2
    case max => exact pe_callB r hg (c.bi _) boot_max ha (by decide) (by decide) hs1 hs2
    case min => exact pe_callB r hg (c.bi _) boot_min ha (by decide) (by decide) hs1 hs2
    case tuple => exact pe_callTy r hg (c.bi _) PyProof.Rows.boot_tuple ha (by decide) (by decide) hs1 hs2
    case list => exact pe_callTy r hg (c.bi _) PyProof.Rows.boot_list ha (by decide) (by decide) hs1 hs2
    case divmod => exact pe_callB r hg (c.bi _) boot_divmod ha (by decide) (by decide) hs1 hs2
    case sorted => exact pe_callB r hg (c.bi _) boot_sorted ha (by decide) (by decide) hs1 hs2
    case isinst => exact pe_callB r hg (c.bi _) boot_isinstance ha (by decide) (by decide) hs1 hs2
    case range => exact pe_callTy r hg (c.bi _) PyProof.Rows.boot_range ha (by decide) (by decide) hs1 hs2
  refine PE.imp go fun σ H Q h => ?_
  obtain ⟨F, R, fr, S, d, S', rs, rf, he, k⟩ := h
  simp only [ev] at he
  obtain ⟨xs, S1, e1, he⟩ := bind_ok he
  obtain ⟨e2, rfl⟩ := opt_ok he
  exact ⟨F, R, fr, S, xs, S', rs, rf, e1, fun F1 R1 H1 vs n1 rs1 rv => ⟨F1, R1, S', xs, d, rs1, rv, e2, fun z F2 H2 n2 rz => k F2 R1 H2 z (n1.trans n2.1) (n2.2 _ rs1) rz⟩⟩
theorem snd_sub {a i : Expr} {ma mi : ME} {pos : Pos} (hs : noSlice i = true) (ha : PE X a (tE cl gl X.K ma)) (hi : PE X i (tE cl gl X.K mi)) : PE X (.Subscript a i pos) (tE cl gl X.K (.sub ma mi)) := by
  refine PE.imp (pe_ix ix_sub ha hi (plain_ix hs)) fun σ H Q h => ?_
  obtain ⟨F, R, fr, S, d, S', rs, rf, he, k⟩ := h
  simp only [ev] at he
  obtain ⟨x, S1, e1, he⟩ := bind_ok he
  obtain ⟨y, S2, e2, he⟩ := bind_ok he
  obtain ⟨e3, rfl⟩ := opt_ok he
  refine ⟨F, R, fr, S, x, S1, rs, rf, e1, fun F1 R1 H1 v n1 rs1 rv => ⟨F1, R1, fr, S1, y, S', rs1, rf.nxt n1, e2, fun F2 R2 H2 w n2 rs2 rw' => ?_⟩⟩
  exact ⟨F2, R2, S', x, y, d, rs2, rv.mono n2.f n2.r, rw', e3, fun z rz => k F2 R2 H2 z (n1.trans n2) rs2 rz⟩
theorem snd_o0 : PO X none (tEo cl gl X.K none) := by
  refine PO.imp po_none fun σ H Q h => ?_
  obtain ⟨F, R, fr, S, d, S', rs, rf, he, k⟩ := h
  simp only [evO] at he
  cases he
  exact k F R H _ .refl rs rfl
theorem snd_o1 {e : Expr} {m : ME} (h : PE X e (tE cl gl X.K m)) : PO X (some e) (tEo cl gl X.K (some m)) := by
  refine PO.imp (po_some h) fun σ H Q h => ?_
  obtain ⟨F, R, fr, S, d, S', rs, rf, he, k⟩ := h
  simp only [evO] at he
  obtain ⟨x, S1, e1, he⟩ := bind_ok he
  obtain ⟨i, S2, e2, hf⟩ := bind_ok he
  obtain ⟨e3, rfl⟩ := opt_ok e2
  cases hf
  refine ⟨F, R, fr, S, x, _, rs, rf, e1, fun F1 R1 H1 v n1 rs1 rv => ?_⟩
  cases rv <;> simp only [intO, Option.some.injEq, reduceCtorEq] at e3
  case int j => subst e3; exact ⟨j, rfl, k F1 R1 H1 _ n1 rs1 rfl⟩
theorem snd_sl {a : Expr} {lo hi : Option Expr} {ma : ME} {ml mh : Option ME} {p2 pos : Pos} (ha : PE X a (tE cl gl X.K ma)) (hl : PO X lo (tEo cl gl X.K ml)) (hh : PO X hi (tEo cl gl X.K mh)) :
    PE X (.Subscript a (.Slice lo hi none p2) pos) (tE cl gl X.K (.sl ma ml mh)) := by
  refine PE.imp (pe_slice sl_ok ha hl hh) fun σ H Q h => ?_
  obtain ⟨F, R, fr, S, d, S', rs, rf, he, k⟩ := h
  simp only [ev] at he
  obtain ⟨x, S1, e1, he⟩ := bind_ok he
  obtain ⟨l, S2, e2, he⟩ := bind_ok he
  obtain ⟨u, S3, e3, he⟩ := bind_ok he
  obtain ⟨e4, rfl⟩ := opt_ok he
  refine ⟨F, R, fr, S, x, S1, rs, rf, e1, fun F1 R1 H1 v n1 rs1 rv => ⟨F1, R1, fr, S1, l, S2, rs1, rf.nxt n1, e2, fun F2 R2 H2 l' n2 rs2 el => ⟨F2, R2, fr, S2, u, S', rs2, rf.nxt (n1.trans n2), e3, fun F3 R3 H3 u' n3 rs3 eu => ?_⟩⟩⟩
  subst el eu
  exact ⟨F3, R3, S', x, d, rs3, (rv.mono n2.f n2.r).mono n3.f n3.r, e4, fun z F4 H4 n4 rz => k F4 R3 H4 z (((n1.trans n2).trans n3).trans n4.1) (n4.2 _ rs3) rz⟩
theorem snd_rev {a : Expr} {ma : ME} {k1 : Nat} {p1 p2 p3 pos : Pos} (ha : PE X a (tE cl gl X.K ma)) : PE X (.Subscript a (.Slice none none (some (.UnaryOp .USub (.Constant (.int 1) k1 p1) p2)) p3) pos) (tE cl gl X.K (.rev ma)) := by
  refine PE.imp (pe_revL ha) fun σ H Q h => ?_
  obtain ⟨F, R, fr, S, d, S', rs, rf, he, k⟩ := h
  simp only [ev] at he
  obtain ⟨x, S1, e1, he⟩ := bind_ok he
  obtain ⟨e2, rfl⟩ := opt_ok he
  refine ⟨F, R, fr, S, x, S', rs, rf, e1, fun F1 R1 H1 v n1 rs1 rv => ?_⟩
  cases e3 : rdL S' x with
  | none => rw [e3] at e2; cases e2
  | some xs =>
    rw [e3] at e2
    cases e2
    obtain ⟨a, vs, rfl, h1, h2⟩ := rdL_ok rs1 rv e3
    refine ⟨a, vs, rfl, h1, fun p hp => ?_⟩
    have n : Nw X.K F1 R1 H1 (upd F1 p (.lst vs.reverse)) (upd H1 p (.lst vs.reverse)) := Nw.one hp rs1.fh
    exact k _ R1 _ _ (n1.trans n.1) (n.2 _ rs1) (.lst upd_same (h2.reverse.mono n.1.f n.1.r))
end
/-! ### targets -/
theorem ownAt_set {σ : L2.St} {fr : Frm} {i l : Nat} {v : V} {sv : SV} {a : Addr} (h : OwnAt (σ.set i (some v)) (fr.set i (some sv)) l a) : (l = i ∧ sv.own = true ∧ v = .ref a) ∨ (l ≠ i ∧ OwnAt σ fr l a) := by
  obtain ⟨sv', q1, q2, q3⟩ := h
  by_cases e : i = l
  · subst e
    left
    have hi : i < fr.length := by
      by_cases hi : i < fr.length
      · exact hi
      · rw [List.getElem?_eq_none (by simp; omega)] at q1; cases q1
    rw [List.getElem?_set_self hi] at q1
    cases q1
    have hs : i < σ.length := by
      by_cases hi : i < σ.length
      · exact hi
      · rw [List.getElem?_eq_none (by simp; omega)] at q3; cases q3
    rw [List.getElem?_set_self hs] at q3
    cases q3
    exact ⟨rfl, q2, rfl⟩
  · right
    rw [List.getElem?_set_ne e] at q1 q3
    exact ⟨fun z => e z.symm, sv', q1, q2, q3⟩
mutual
def gSl : MG → List Nat
  | .name i => [i]
  | .tup gs => gSls gs
  | .sub _ _ => []
def gSls : List MG → List Nat
  | [] => []
  | g :: gs => gSl g ++ gSls gs
end
section
variable (cl : Nat → List D → Sto → Out D) (gl : GL) (K : PySem.W.Frag)
def tG (g : MG) : TG := fun v σ H Q => ∃ F R fr S d fr' S', RelS K F R H S ∧ RelF K F R H σ fr ∧ Rep K F R v d ∧ asg cl gl g fr d S = .ok fr' S' ∧
  ∀ F' R' σ' H', Nxt F R H F' R' H' → RelS K F' R' H' S' → RelF K F' R' H' σ' fr' → σ'.length = σ.length → (∀ j, j ∉ gSl g → σ'[j]? = σ[j]?) → (∀ j a, OwnAt σ' fr' j a → OwnAt σ fr j a) → Q σ' H'
def tGg (gs : List MG) : TGs := fun vs σ H Q => ∃ F R fr S ds fr' S', RelS K F R H S ∧ RelF K F R H σ fr ∧ RepAll K F R vs ds ∧ asgs cl gl gs fr ds S = .ok fr' S' ∧
  ∀ F' R' σ' H', Nxt F R H F' R' H' → RelS K F' R' H' S' → RelF K F' R' H' σ' fr' → σ'.length = σ.length → (∀ j, j ∉ gSls gs → σ'[j]? = σ[j]?) → (∀ j a, OwnAt σ' fr' j a → OwnAt σ fr j a) → Q σ' H'
end
section
variable {nm : Nat → Str} {P : List (Nat × MF)} {cl : Nat → List D → Sto → Out D} {gl : GL} {X : Cx}
theorem RelF.set {K : PySem.W.Frag} {F H : Hp} {R : List Addr} {σ : Stt} {fr : Frm} {i : Nat} {v : V} {d : D} (f : RelF K F R H σ fr) (r : Rep K F R v d) : RelF K F R H (σ.set i (some v)) (fr.set i (some (.val d))) := by
  refine ⟨by simp [f.len], fun j sv h => ?_, fun j l a h1 h2 => ?_⟩
  · by_cases e : i = j
    · subst e
      by_cases hi : i < fr.length
      · rw [List.getElem?_set_self hi] at h
        cases h
        exact ⟨v, List.getElem?_set_self (by rw [← f.len]; exact hi), r⟩
      · rw [List.getElem?_eq_none (by simp; omega)] at h
        cases h
    · rw [List.getElem?_set_ne e] at h ⊢
      exact f.sl j sv h
  · have old : ∀ l, OwnAt (σ.set i (some v)) (fr.set i (some (.val d))) l a → OwnAt σ fr l a ∧ i ≠ l := fun l ⟨sv, q1, q2, q3⟩ => by
      by_cases e : i = l
      · subst e
        by_cases hi : i < fr.length
        · rw [List.getElem?_set_self hi] at q1
          cases q1
          cases q2
        · rw [List.getElem?_eq_none (by simp; omega)] at q1
          cases q1
      · rw [List.getElem?_set_ne e] at q1 q3
        exact ⟨⟨sv, q1, q2, q3⟩, e⟩
    exact f.ap j l a (old j h1).1 (old l h2).1
theorem snd_gname {i : Nat} {x : Str} {pos : Pos} (hN : X.N.Nodup) (hi : X.N[i]? = some x) (hx : Loc X.env.scope x) (hf : X.fn x = true ∨ X.env.scope.names.lookup x = some .local) : PG X (.Name x pos) (tG cl gl X.K (.name i)) := by
  refine PG.imp (pg_name hN hi hx hf) fun v σ H Q h => ?_
  obtain ⟨F, R, fr, S, d, fr', S', rs, rf, rv, he, k⟩ := h
  simp only [asg] at he
  cases he
  refine k F R _ H .refl rs (rf.set rv) (by simp) (fun j hj => ?_) fun j a hj => ?_
  · have : i ≠ j := fun e => hj (by simp [gSl, e])
    rw [List.getElem?_set_ne this]
  · rcases ownAt_set hj with ⟨_, o1, _⟩ | ⟨_, o1⟩
    · cases o1
    · exact o1
theorem snd_gnil : PGs X [] (tGg cl gl X.K []) := by
  refine PGs.imp pgs_nil fun vs σ H Q h => ?_
  obtain ⟨F, R, fr, S, ds, fr', S', rs, rf, rv, he, k⟩ := h
  cases ds with
  | nil =>
    cases rv
    simp only [asgs] at he
    cases he
    exact ⟨rfl, k F R σ H .refl rs rf rfl (fun _ _ => rfl) fun _ _ z => z⟩
  | cons => simp [asgs] at he
theorem assign_cons {e : Expr} {es : List Expr} {env : Env} (h : noStar e = true) : assignEach (e :: es) env = (false, assign e env) :: assignEach es env := by
  cases e <;> first | rfl | (simp [noStar] at h)
theorem assign_plain {env : Env} : ∀ {es : List Expr}, es.all noStar = true → (assignEach es env).length = es.length ∧ (assignEach es env).findIdx? (·.1) = none
  | [], _ => ⟨rfl, rfl⟩
  | e :: es, h => by
    simp only [List.all_cons, Bool.and_eq_true] at h
    obtain ⟨h1, h2⟩ := assign_plain (env := env) h.2
    rw [assign_cons h.1]
    refine ⟨by rw [List.length_cons, List.length_cons, h1], ?_⟩
    rw [List.findIdx?_cons, h2]; rfl
theorem snd_gcons {e : Expr} {es : List Expr} {g : MG} {gs : List MG} (hs : noStar e = true) (h1 : PG X e (tG cl gl X.K g)) (h2 : PGs X es (tGg cl gl X.K gs)) : PGs X (e :: es) (tGg cl gl X.K (g :: gs)) := by
  refine PGs.imp (pgs_cons h1 h2 (by rw [assign_cons hs]; rfl)) fun vs σ H Q h => ?_
  obtain ⟨F, R, fr, S, ds, fr', S', rs, rf, rv, he, k⟩ := h
  cases ds with
  | nil => simp [asgs] at he
  | cons d ds =>
    cases rv with
    | cons r t =>
      simp only [asgs] at he
      obtain ⟨fr1, S1, e1, he⟩ := bind_ok he
      refine ⟨_, _, rfl, F, R, fr, S, d, fr1, S1, rs, rf, r, e1, fun F1 R1 σ1 H1 n1 rs1 rf1 l1 o1 w1 => ?_⟩
      refine ⟨F1, R1, fr1, S1, ds, fr', S', rs1, rf1, t.mono n1.f n1.r, he, fun F2 R2 σ2 H2 n2 rs2 rf2 l2 o2 w2 => k F2 R2 σ2 H2 (n1.trans n2) rs2 rf2 (l2.trans l1) (fun j hj => ?_) fun j a z => w1 j a (w2 j a z)⟩
      simp only [gSls, List.mem_append, not_or] at hj
      rw [o2 j hj.2, o1 j hj.1]
theorem asgs_len {gs : List MG} : ∀ {fr : Frm} {ds : List D} {S S' : Sto} {fr' : Frm}, asgs cl gl gs fr ds S = .ok fr' S' → ds.length = gs.length := by
  induction gs with
  | nil =>
    intro fr ds S S' fr' h
    cases ds with
    | nil => rfl
    | cons => simp [asgs] at h
  | cons g gs ih =>
    intro fr ds S S' fr' h
    cases ds with
    | nil => simp [asgs] at h
    | cons d ds =>
      simp only [asgs] at h
      obtain ⟨a, b, e1, e2⟩ := bind_ok h
      rw [List.length_cons, List.length_cons, ih e2]
theorem PG.or {X : Cx} {e : Expr} {t1 t2 : TG} (h1 : PG X e t1) (h2 : PG X e t2) : PG X e (fun v σ H Q => t1 v σ H Q ∨ t2 v σ H Q) := by
  constructor
  intro pins s σ H v u Q I r h
  rcases h with h | h
  · exact h1.run pins s σ H v u Q I r h
  · exact h2.run pins s σ H v u Q I r h
theorem snd_gtup {es : List Expr} {gs : List MG} {k1 : Nat} {pos : Pos} (c : Cxt nm P cl gl X) (hs : es.all noStar = true) (hl : es.length = gs.length) (h : PGs X es (tGg cl gl X.K gs)) : PG X (.Tuple es k1 pos) (tG cl gl X.K (.tup gs)) := by
  obtain ⟨a1, a2⟩ := assign_plain (env := X.env) hs
  refine PG.imp (PG.or (pg_tup c.b.calm h a1 a2) (pg_unl c.b.calm h a1 a2)) fun v σ H Q h => ?_
  obtain ⟨F, R, fr, S, d, fr', S', rs, rf, rv, he, k⟩ := h
  cases rv <;> simp only [asg, reduceCtorEq] at he
  case lst a xs ds ha ra =>
    refine .inr ⟨a, xs, rfl, SqL.of (rs.fh _ _ ha), by rw [ra.length, asgs_len he, hl], F, R, fr, S, ds, fr', S', rs, rf, ra, he, fun F1 R1 σ1 H1 n1 rs1 rf1 l1 o1 w1 => k F1 R1 σ1 H1 n1 rs1 rf1 l1 (fun j hj => o1 j (by simpa [gSl] using hj)) w1⟩
  case tup a xs ds ha ra =>
    refine .inl ⟨a, xs, rfl, same_t rs.fh ha, by rw [ra.length, asgs_len he, hl], F, R, fr, S, ds, fr', S', rs, rf, ra, he, fun F1 R1 σ1 H1 n1 rs1 rf1 l1 o1 w1 => k F1 R1 σ1 H1 n1 rs1 rf1 l1 (fun j hj => o1 j (by simpa [gSl] using hj)) w1⟩
/-- a thing of the store is changed -/
theorem store_upd {K : PySem.W.Frag} {F H : Hp} {R : List Addr} {S : Sto} {n : Nat} {a : Addr} {so so' : SO} {u : HO} {σ : Stt} {fr : Frm} (rs : RelS K F R H S) (rf : RelF K F R H σ fr) (hn : R[n]? = some a) (hS : S[n]? = some so) (fa : F a = none) (pl : Pln H a) (nw : StoAt K F R (upd H a u) a so') :
    Nxt F R H F R (upd H a u) ∧ RelS K F R (upd H a u) (S.set n so') ∧ RelF K F R (upd H a u) σ fr := by
  have ha : a ∈ R := List.mem_of_getElem? hn
  have nx : Nxt F R H F R (upd H a u) := ⟨Same.refl _, List.prefix_refl _, fun _ _ h => .inl h, fun b o h hb _ => by
    have hne : b ≠ a := fun e => by subst e; exact hb ha
    rw [upd_ne hne]; exact h, fun b o h hb => ⟨o, by
    have hne : b ≠ a := fun e => by subst e; exact hb ha
    rw [upd_ne hne]; exact h⟩, fun _ h => .inl h⟩
  refine ⟨nx, ⟨fun b o h => ?_, ⟨pl.tabs rs.tb.1, rs.tb.2⟩, by simp [rs.len], rs.nd, fun b hb => ?_, fun i b o h1 h2 => ?_⟩, rf.nxt nx⟩
  · rw [upd_ne (fun e => by rw [e, fa] at h; cases h)]; exact rs.fh b o h
  · by_cases e : b = a
    · subst e; exact ⟨_, upd_same⟩
    · obtain ⟨o, ho⟩ := rs.tr b hb
      exact ⟨o, by rw [upd_ne e]; exact ho⟩
  · by_cases e : i = n
    · subst e
      rw [hn] at h1
      cases h1
      have hi : i < S.length := (List.getElem?_eq_some_iff.mp hS).1
      rw [List.getElem?_set_self hi] at h2
      cases h2
      exact nw
    · rw [List.getElem?_set_ne (fun z => e z.symm)] at h2
      have hne : b ≠ a := fun z => by subst z; exact e ((List.getElem_inj rs.nd).mp ((List.getElem?_eq_some_iff.mp h1).2.trans (List.getElem?_eq_some_iff.mp hn).2.symm))
      exact (rs.at_ i b o h1 h2).lay hne (pl.1 b)
theorem store_set {K : PySem.W.Frag} {F H : Hp} {R : List Addr} {S : Sto} {n j : Nat} {a : Addr} {vs : List V} {xs : List D} {v : V} {d : D} {σ : Stt} {fr : Frm} (rs : RelS K F R H S) (rf : RelF K F R H σ fr) (hn : R[n]? = some a) (hS : S[n]? = some (.lst xs)) (hH : H a = some (.lst vs)) (ra : RepAll K F R vs xs) (rv : Rep K F R v d) :
    Nxt F R H F R (upd H a (.lst (vs.set j v))) ∧ RelS K F R (upd H a (.lst (vs.set j v))) (S.set n (.lst (xs.set j d))) ∧ RelF K F R (upd H a (.lst (vs.set j v))) σ fr := by
  have fa : F a = none := (rs.at_ n a _ hn hS).1
  exact store_upd rs rf hn hS fa (Pln.lst hH) ⟨fa, _, upd_same, ra.set rv j⟩
theorem snd_gsub {o i : Expr} {mo mi : ME} {pos : Pos} (hs : noSlice i = true) (ho : PE X o (tE cl gl X.K mo)) (hi : PE X i (tE cl gl X.K mi)) : PG X (.Subscript o i pos) (tG cl gl X.K (.sub mo mi)) := by
  refine PG.imp (pg_sub ho hi set_list (by intro v; cases i <;> first | rfl | (simp [noSlice] at hs))) fun v σ H Q h => ?_
  obtain ⟨F, R, fr, S, d, fr', S', rs, rf, rv, he, k⟩ := h
  simp only [asg] at he
  obtain ⟨x, S1, e1, he⟩ := bind_ok he
  obtain ⟨y, S2, e2, he⟩ := bind_ok he
  refine ⟨F, R, fr, S, x, S1, rs, rf, e1, fun F1 R1 H1 ov n1 rs1 ro => ⟨F1, R1, fr, S1, y, S2, rs1, rf.nxt n1, e2, fun F2 R2 H2 iv n2 rs2 ri => ?_⟩⟩
  have inv : ∃ n j, x = .obj n ∧ y = .int j := by
    cases x <;> cases y <;> first | exact ⟨_, _, rfl, rfl⟩ | (simp only [reduceCtorEq] at he)
  obtain ⟨n, j, rfl, rfl⟩ := inv
  cases ri
  cases ro with
  | obj hn =>
    obtain ⟨S3, S4, e3, hf⟩ := bind_ok he
    obtain ⟨e4, rfl⟩ := opt_ok e3
    cases hf
    have hn2 := ix_pre n2.r hn
    unfold setD at e4
    cases hS : S4[n]? with
    | none => rw [hS] at e4; cases e4
    | some so =>
      rw [hS] at e4
      cases so with
      | lst xs =>
        cases hj : ixN xs.length j with
        | none => simp only [hj] at e4; cases e4
        | some jj =>
          simp only [hj, Option.some.injEq] at e4
          subst e4
          obtain ⟨g1, vs, g2, g3⟩ := rs2.at_ n _ _ hn2 hS
          have rv2 := (rv.mono n1.f n1.r).mono n2.f n2.r
          obtain ⟨q1, q2, q3⟩ := store_set (j := jj) rs2 (rf.nxt (n1.trans n2)) hn2 hS g2 g3 rv2
          exact ⟨_, vs, j, jj, rfl, rfl, g2, by rw [g3.length]; exact hj, k F2 R2 σ _ ((n1.trans n2).trans q1) q2 q3 rfl (fun _ _ => rfl) fun _ _ z => z⟩
      | _ => cases e4
/-- a list of the store is no more changed -/
theorem snd_unst {i : Nat} {x : Str} {pos : Pos} (hN : X.N[i]? = some x) (hv : Vis X.env.scope x) (hd : (x == ("__debug__" : Str)) = false) (hcd : (x == ("__classdict__" : Str)) = false) : PE X (.Name x pos) (tE cl gl X.K (.unst i)) := by
  refine PE.imp (pe_var hN hv hd hcd) fun σ H Q h => ?_
  obtain ⟨F, R, fr, S, d, S', rs, rf, he, k⟩ := h
  simp only [ev] at he
  split at he
  · rename_i n hfr
    split at he
    · rename_i xs hS
      cases he
      obtain ⟨v, h1, h2⟩ := rf.sl i _ hfr
      refine ⟨v, h1, ?_⟩
      have h2 : Rep X.K F R v (.obj n) := h2
      cases h2 with
      | @obj a n hn =>
      obtain ⟨fa, vs, hH, ra⟩ := rs.at_ n a _ hn hS
      have ha : a ∈ R := List.mem_of_getElem? hn
      have f1 : Same F (upd F a (.lst vs)) := fun b u h => by
        rw [upd_ne (fun e => by rw [e, fa] at h; cases h)]; exact h
      have nx : Nxt F R H (upd F a (.lst vs)) R H := ⟨f1, List.prefix_refl _, fun b o h => by
        by_cases e : b = a
        · subst e; exact .inr (.inr ha)
        · rw [upd_ne e] at h; exact .inl h, fun _ _ h _ _ => h, fun _ o h _ => ⟨o, h⟩, fun _ h => .inl h⟩
      refine k (upd F a (.lst vs)) R H _ nx ⟨fun b u h => ?_, ⟨rs.tb.1, fun b ps z => ?_⟩, by simp [rs.len], rs.nd, rs.tr, fun j b so g1 g2 => ?_⟩ (.lst upd_same (ra.mono f1 (List.prefix_refl _)))
      · by_cases e : b = a
        · subst e; rw [upd_same] at h; cases h; exact hH
        · rw [upd_ne e] at h; exact rs.fh b u h
      · by_cases e : b = a
        · subst e; rw [upd_same] at z; cases z
        · rw [upd_ne e] at z; exact rs.tb.2 b ps z
      · by_cases e : j = n
        · subst e
          have hj : j < S.length := (List.getElem?_eq_some_iff.mp hS).1
          rw [List.getElem?_set_self hj] at g2
          cases g2
          trivial
        · rw [List.getElem?_set_ne (fun z => e z.symm)] at g2
          have hne : b ≠ a := fun z => by subst z; exact e ((List.getElem_inj rs.nd).mp ((List.getElem?_eq_some_iff.mp g1).2.trans (List.getElem?_eq_some_iff.mp hn).2.symm))
          exact (rs.at_ j b so g1 g2).up f1 (List.prefix_refl _) (fun q => by rw [upd_ne hne]; exact q) (fun c u hc _ => hc) fun c hc => .inl hc
    · cases he
  · cases he
end
end Mn
/-! what is walked; comprehensions -/
namespace Mn
open PySem PySem.Spec PyProof.Rows L2 RZ
variable [CA]
/-- J walks the items xs, seen from the state F0 R0 H0 on -/
def WalkD (K : PySem.W.Frag) (J : It) (xs : List D) (F0 : Hp) (R0 : List Addr) : Prop :=
  ∃ G Y, L2.Walk J xs.length G Y ∧ (∀ F H, Same F0 F → Same F H → G H) ∧
    ∀ F R H i x H', Same F0 F → R0 <+: R → Same F H → i < xs.length → Y i H x H' → ∃ F' d, xs[i]? = some d ∧ Nw K F R H F' H' ∧ Rep K F' R x d
section
variable {K : PySem.W.Frag} {F0 : Hp} {R0 : List Addr} {a b : Addr} {vs ws : List V} {xs ys : List D}
theorem wd_list (h : SqL K F0 a vs) (ra : RepAll K F0 R0 vs xs) : WalkD K (Itl K a) xs F0 R0 := by
  refine ⟨fun H => SqL K H a vs, YAt vs, ?_, fun F H n fh => fh.seq (n.seq h), fun F R H i x H' n np fh hi y => ?_⟩
  · rw [← ra.length]; exact walk_list
  · obtain ⟨rfl, hx⟩ := y
    obtain ⟨d, h1, h2⟩ := (ra.mono n np).got hx
    exact ⟨F, d, h1, .refl, h2⟩
theorem wd_tup (h : SqT K F0 a vs) (ra : RepAll K F0 R0 vs xs) : WalkD K (Itt K a) xs F0 R0 := by
  refine ⟨fun H => SqT K H a vs, YAt vs, ?_, fun F H n fh => same_t fh (same_t n h), fun F R H i x H' n np fh hi y => ?_⟩
  · rw [← ra.length]; exact walk_tup
  · obtain ⟨rfl, hx⟩ := y
    obtain ⟨d, h1, h2⟩ := (ra.mono n np).got hx
    exact ⟨F, d, h1, .refl, h2⟩
theorem wd_range {lo : Int} {m : Nat} : WalkD K (Itr lo m) ((List.range m).map fun i => D.int (lo + (i : Nat))) F0 R0 := by
  have hl : ((List.range m).map fun i => D.int (lo + (i : Nat))).length = m := by simp
  refine ⟨fun _ => True, YFn fun i => .int (lo + i), ?_, fun F H n fh => trivial, fun F R H i x H' n np fh hi y => ?_⟩
  · rw [hl]; exact walk_range
  · obtain ⟨rfl, rfl⟩ := y
    rw [hl] at hi
    refine ⟨F, .int (lo + i), ?_, .refl, .int _⟩
    rw [List.getElem?_map, List.getElem?_range hi]; rfl
theorem pair_new {F H : Hp} {R : List Addr} {T : Addr} {x y : V} {d e : D} (fh : Same F H) (hT : H T = none) (rx : Rep K F R x d) (ry : Rep K F R y e) :
    Nw K F R H (upd F T (.tup [x, y])) (upd H T (.tup [x, y])) ∧ Rep K (upd F T (.tup [x, y])) R (.ref T) (.tup [d, e]) := by
  have n : Nw K F R H (upd F T (.tup [x, y])) (upd H T (.tup [x, y])) := Nw.one hT fh
  exact ⟨n, .tup (SqT.of upd_same) (.cons (rx.mono n.1.f n.1.r) (.cons (ry.mono n.1.f n.1.r) .nil))⟩
theorem wd_enum (h : SqL K F0 a vs) (ra : RepAll K F0 R0 vs xs) : WalkD K (Ite K a) (enumD xs) F0 R0 := by
  have hl : (enumD xs).length = vs.length := by unfold enumD; simp [ra.length]
  refine ⟨fun H => SqL K H a vs, YPair (fun i => some (.int (i : Nat))) (fun i => vs[i]?), ?_, fun F H n fh => fh.seq (n.seq h), fun F R H i x H' n np fh hi y => ?_⟩
  · rw [hl]; exact walk_enum
  · obtain ⟨T, u, w, rfl, hT, rfl, e1, e2⟩ := y
    cases e1
    obtain ⟨d, h1, h2⟩ := (ra.mono n np).got e2
    obtain ⟨q1, q2⟩ := pair_new fh hT (.int (i : Int)) h2
    refine ⟨_, _, ?_, q1, q2⟩
    unfold enumD
    rw [List.getElem?_map, List.getElem?_zipIdx, h1]
    simp
theorem wd_pair {J : It} {G : Hp → Prop} (hw : ∀ m, m = min vs.length ws.length → L2.Walk J m G (YPair (fun i => vs[i]?) (fun i => ws[i]?))) (hG : ∀ F H, Same F0 F → Same F H → G H)
    (ra : RepAll K F0 R0 vs xs) (rb : RepAll K F0 R0 ws ys) : WalkD K J (zipD xs ys) F0 R0 := by
  have hl : (zipD xs ys).length = min vs.length ws.length := by unfold zipD; simp [ra.length, rb.length]
  refine ⟨G, _, hw _ hl, hG, fun F R H i x H' n np fh hi y => ?_⟩
  obtain ⟨T, u, w, rfl, hT, rfl, e1, e2⟩ := y
  obtain ⟨d, h1, h2⟩ := (ra.mono n np).got e1
  obtain ⟨e, h3, h4⟩ := (rb.mono n np).got e2
  obtain ⟨q1, q2⟩ := pair_new fh hT h2 h4
  refine ⟨_, _, ?_, q1, q2⟩
  unfold zipD
  have hz : (xs.zip ys)[i]? = some (d, e) := List.getElem?_zip_eq_some.mpr ⟨h1, h3⟩
  rw [List.getElem?_map, hz]; rfl
/-- zip of two tuples -/
theorem walk_zipT {m : Nat} (hn : m = min vs.length ws.length) : L2.Walk (ItzT K a b) m (fun H => SqT K H a vs ∧ SqT K H b ws) (YPair (fun i => vs[i]?) (fun i => ws[i]?)) := by
  subst hn
  refine ⟨fun i H hi q => ⟨vs, ws, vs[i]'(by omega), ws[i]'(by omega), q.1, q.2, by simp [show i < vs.length by omega], by simp [show i < ws.length by omega]⟩, fun H q => ⟨vs, ws, q.1, q.2, by omega⟩, fun i H v H' _ q y => ?_⟩
  obtain ⟨T, x, z, h1, h2, h3, h4, h5⟩ := y
  exact ⟨T, x, z, h1, h2, h3, h4 vs q.1, h5 ws q.2⟩
end
section
variable (cl : Nat → List D → Sto → Out D) (gl : GL) (K : PySem.W.Frag)
def tW (m : MI) : TI := fun σ H Rr => ∃ F R fr S xs S', RelS K F R H S ∧ RelF K F R H σ fr ∧ evI cl gl fr m S = .ok xs S' ∧
  ∀ F' R' H' J, Nxt F R H F' R' H' → RelS K F' R' H' S' → WalkD K J xs F' R' → Rr J H'
end
section
variable {nm : Nat → Str} {P : List (Nat × MF)} {cl : Nat → List D → Sto → Out D} {gl : GL} {X : Cx}
theorem rdF_ok {K : PySem.W.Frag} {F : Hp} {R : List Addr} {v : V} {x : D} {xs : List D} (r : Rep K F R v x) (h : rdF x = some xs) : ∃ a vs, v = .ref a ∧ SqL K F a vs ∧ RepAll K F R vs xs := by
  cases r <;> simp only [rdF, Option.some.injEq, reduceCtorEq] at h
  case lst ha ra => subst h; exact ⟨_, _, rfl, SqL.of ha, ra⟩
  case scr a ns ha => subst h; exact ⟨_, _, rfl, ha, RepAll.ints ns⟩
theorem snd_ilst {tg e : Expr} {m : ME} (h : PE X e (tE cl gl X.K m)) : PI X tg e (tW cl gl X.K (.lst m)) := by
  refine PI.imp (pi_list h) fun σ H Rr h => ?_
  obtain ⟨F, R, fr, S, xs, S', rs, rf, he, k⟩ := h
  simp only [evI] at he
  obtain ⟨x, S1, e1, he⟩ := bind_ok he
  obtain ⟨e2, rfl⟩ := opt_ok he
  refine ⟨F, R, fr, S, x, S', rs, rf, e1, fun F1 R1 H1 v n1 rs1 rv => ?_⟩
  obtain ⟨a, vs, rfl, h1, h2⟩ := rdF_ok rv e2
  exact ⟨a, rfl, ⟨vs, rs1.fh.seq h1⟩, k F1 R1 H1 _ n1 rs1 (wd_list h1 h2)⟩
theorem snd_itup {tg e : Expr} {m : ME} (h : PE X e (tE cl gl X.K m)) : PI X tg e (tW cl gl X.K (.tup m)) := by
  refine PI.imp (pi_tup h) fun σ H Rr h => ?_
  obtain ⟨F, R, fr, S, xs, S', rs, rf, he, k⟩ := h
  simp only [evI] at he
  obtain ⟨x, S1, e1, he⟩ := bind_ok he
  cases x <;> simp only [reduceCtorEq] at he
  case tup ys =>
    cases he
    refine ⟨F, R, fr, S, _, _, rs, rf, e1, fun F1 R1 H1 v n1 rs1 rv => ?_⟩
    cases rv with
    | tup ha ra => exact ⟨_, rfl, ⟨_, same_t rs1.fh ha⟩, k F1 R1 H1 _ n1 rs1 (wd_tup ha ra)⟩
theorem int_of {K : PySem.W.Frag} {F : Hp} {R : List Addr} {v : V} {x : D} {i : Int} (r : Rep K F R v x) (h : intO x = some i) : v = .int i := by
  cases r <;> simp only [intO, Option.some.injEq, reduceCtorEq] at h
  case int c => rw [h]
theorem rng_ok {lo hi : Int} {xs : List D} (h : rngD lo hi = some xs) : (-(2 ^ 62) ≤ lo ∧ lo < 2 ^ 62 ∧ -(2 ^ 62) ≤ hi ∧ hi < 2 ^ 62) ∧ xs = (List.range (hi - lo).toNat).map fun i => D.int (lo + (i : Nat)) := by
  unfold rngD at h
  split at h
  · rename_i c; cases h; exact ⟨c, rfl⟩
  · cases h
theorem snd_irng1 {tg a : Expr} {m : ME} {p pos : Pos} (c : Cxt nm P cl gl X) (hg : Gl X "range") (hs : noStar a = true) (h : PE X a (tE cl gl X.K m)) : PI X tg (.Call (.Name "range" p) [a] [] pos) (tW cl gl X.K (.rng1 m)) := by
  have hst : starEach [a] X.env = [(false, eval a X.env)] := star_cons hs
  refine PI.imp (pi_range1 hg (c.bi .range) (pa_cons h pa_nil hst) hst) fun σ H Rr h => ?_
  obtain ⟨F, R, fr, S, xs, S', rs, rf, he, k⟩ := h
  simp only [evI] at he
  obtain ⟨x, S1, e1, he⟩ := bind_ok he
  obtain ⟨e2, rfl⟩ := opt_ok he
  refine ⟨F, R, fr, S, x, S', rs, rf, e1, fun F1 R1 H1 v n1 rs1 rv => ?_⟩
  cases e3 : intO x with
  | none => rw [e3] at e2; cases e2
  | some i =>
    rw [e3] at e2
    obtain ⟨⟨b1, b2, b3, b4⟩, rfl⟩ := rng_ok (show rngD 0 i = some xs from e2)
    refine ⟨i, by rw [int_of rv e3], b3, b4, k F1 R1 H1 _ n1 rs1 ?_⟩
    have e : (i - 0).toNat = i.toNat := by rw [Int.sub_zero]
    rw [e]
    exact wd_range
theorem snd_irng2 {tg a b : Expr} {m m2 : ME} {p pos : Pos} (c : Cxt nm P cl gl X) (hg : Gl X "range") (hs : noStar a = true) (hs2 : noStar b = true) (h : PE X a (tE cl gl X.K m)) (h2 : PE X b (tE cl gl X.K m2)) :
    PI X tg (.Call (.Name "range" p) [a, b] [] pos) (tW cl gl X.K (.rng2 m m2)) := by
  have hst2 : starEach [b] X.env = [(false, eval b X.env)] := star_cons hs2
  have hst : starEach [a, b] X.env = [(false, eval a X.env), (false, eval b X.env)] := by rw [star_cons hs, hst2]
  refine PI.imp (pi_range2 hg (c.bi .range) (pa_cons h (pa_cons h2 pa_nil hst2) (star_cons hs)) hst hst2) fun σ H Rr h => ?_
  obtain ⟨F, R, fr, S, xs, S', rs, rf, he, k⟩ := h
  simp only [evI] at he
  obtain ⟨x, S1, e1, he⟩ := bind_ok he
  obtain ⟨y, S2, e2, he⟩ := bind_ok he
  obtain ⟨e3, rfl⟩ := opt_ok he
  refine ⟨F, R, fr, S, x, S1, rs, rf, e1, fun F1 R1 H1 v n1 rs1 rv => ⟨F1, R1, fr, S1, y, S', rs1, rf.nxt n1, e2, fun F2 R2 H2 w n2 rs2 rw' => ?_⟩⟩
  cases e4 : intO x with
  | none => rw [e4] at e3; cases e3
  | some i =>
    cases e5 : intO y with
    | none => rw [e4, e5] at e3; cases e3
    | some j =>
      rw [e4, e5] at e3
      obtain ⟨bs, rfl⟩ := rng_ok (show rngD i j = some xs from e3)
      exact ⟨i, j, by rw [int_of rv e4, int_of rw' e5], bs, k F2 R2 H2 _ (n1.trans n2) rs2 wd_range⟩
theorem snd_ienum {e : Expr} {m : ME} {elts : List Expr} {kk : Nat} {p pos tpos : Pos} (c : Cxt nm P cl gl X) (hg : Gl X "enumerate") (hs : noStar e = true) (h : PE X e (tE cl gl X.K m)) :
    PI X (.Tuple elts kk tpos) (.Call (.Name "enumerate" p) [e] [] pos) (tW cl gl X.K (.enum m)) := by
  have hst : starEach [e] X.env = [(false, eval e X.env)] := star_cons hs
  refine PI.imp (pi_enum hg c.enu (pa_cons h pa_nil hst) hst) fun σ H Rr h => ?_
  obtain ⟨F, R, fr, S, xs, S', rs, rf, he, k⟩ := h
  simp only [evI] at he
  obtain ⟨x, S1, e1, he⟩ := bind_ok he
  obtain ⟨e2, rfl⟩ := opt_ok he
  refine ⟨F, R, fr, S, x, S', rs, rf, e1, fun F1 R1 H1 v n1 rs1 rv => ?_⟩
  cases e3 : rdF x with
  | none => rw [e3] at e2; cases e2
  | some ys =>
    rw [e3] at e2
    cases e2
    obtain ⟨a, vs, rfl, h1, h2⟩ := rdF_ok rv e3
    exact ⟨a, vs, rfl, rs1.fh.seq h1, k F1 R1 H1 _ n1 rs1 (wd_enum h1 h2)⟩
theorem rdS_ok {K : PySem.W.Frag} {F : Hp} {R : List Addr} {v : V} {x : D} {b : Bool} {xs : List D} (r : Rep K F R v x) (h : rdS x = some (b, xs)) :
    ∃ a vs, v = .ref a ∧ RepAll K F R vs xs ∧ ((b = true ∧ SqL K F a vs) ∨ (b = false ∧ SqT K F a vs)) := by
  cases r <;> simp only [rdS, Option.some.injEq, Prod.mk.injEq, reduceCtorEq] at h
  case lst ha ra => obtain ⟨rfl, rfl⟩ := h; exact ⟨_, _, rfl, ra, .inl ⟨rfl, SqL.of ha⟩⟩
  case scr a ns ha => obtain ⟨rfl, rfl⟩ := h; exact ⟨_, _, rfl, RepAll.ints ns, .inl ⟨rfl, ha⟩⟩
  case tup ha ra => obtain ⟨rfl, rfl⟩ := h; exact ⟨_, _, rfl, ra, .inr ⟨rfl, ha⟩⟩
theorem snd_izip {a b : Expr} {m m2 : ME} {elts : List Expr} {kk : Nat} {p pos tpos : Pos} (c : Cxt nm P cl gl X) (hg : Gl X "zip") (hs : noStar a = true) (hs2 : noStar b = true) (h : PE X a (tE cl gl X.K m)) (h2 : PE X b (tE cl gl X.K m2)) :
    PI X (.Tuple elts kk tpos) (.Call (.Name "zip" p) [a, b] [] pos) (tW cl gl X.K (.zip m m2)) := by
  have hst2 : starEach [b] X.env = [(false, eval b X.env)] := star_cons hs2
  refine PI.imp (pi_zipA hg c.zip (pa_cons h (pa_cons h2 pa_nil hst2) (star_cons hs)) (star_cons hs) (star_plain (by simp [hs2]))) fun σ H Rr h => ?_
  obtain ⟨F, R, fr, S, xs, S', rs, rf, he, k⟩ := h
  simp only [evI] at he
  obtain ⟨x, S1, e1, he⟩ := bind_ok he
  obtain ⟨y, S2, e2, he⟩ := bind_ok he
  obtain ⟨e3, rfl⟩ := opt_ok he
  refine ⟨F, R, fr, S, x, S1, rs, rf, e1, fun F1 R1 H1 v n1 rs1 rv => ⟨F1, R1, fr, S1, y, S', rs1, rf.nxt n1, e2, fun F2 R2 H2 w n2 rs2 rw' => ?_⟩⟩
  unfold zipO at e3
  cases e4 : rdS x with
  | none => rw [e4] at e3; cases e3
  | some p1 =>
    obtain ⟨b1, ys⟩ := p1
    cases e5 : rdS y with
    | none => rw [e4, e5] at e3; cases e3
    | some p2 =>
      obtain ⟨b2, zs⟩ := p2
      rw [e4, e5] at e3
      simp only at e3
      split at e3
      · rename_i hb
        cases e3
        obtain ⟨a1, vs, rfl, r1, q1⟩ := rdS_ok (rv.mono n2.f n2.r) e4
        obtain ⟨a2, ws, rfl, r2, q2⟩ := rdS_ok rw' e5
        rcases q1 with ⟨t1, s1⟩ | ⟨t1, s1⟩ <;> rcases q2 with ⟨t2, s2⟩ | ⟨t2, s2⟩
        · exact ⟨a1, a2, vs, ws, rfl, .inl ⟨rs2.fh.seq s1, rs2.fh.seq s2, k F2 R2 H2 _ (n1.trans n2) rs2 (wd_pair (fun m hm => walk_zip hm) (fun F3 H3 n3 f3 => ⟨f3.seq (n3.seq s1), f3.seq (n3.seq s2)⟩) r1 r2)⟩⟩
        · subst t1 t2; cases hb
        · subst t1 t2; cases hb
        · exact ⟨a1, a2, vs, ws, rfl, .inr ⟨same_t rs2.fh s1, same_t rs2.fh s2, k F2 R2 H2 _ (n1.trans n2) rs2 (wd_pair (fun m hm => walk_zipT hm) (fun F3 H3 n3 f3 => ⟨same_t f3 (same_t n3 s1), same_t f3 (same_t n3 s2)⟩) r1 r2)⟩⟩
      · cases e3
/-! ### comprehensions -/
theorem snd_ts0 : PTs X [] (tMs cl gl X.K []) := by
  constructor
  intro pins s σ H Q I h
  refine pts_nil.run pins s σ H Q I ?_
  obtain ⟨F, R, fr, S, d, S', rs, rf, he, k⟩ := h
  simp only [evTs] at he
  cases he
  exact k F R H _ .refl rs rfl
theorem snd_ts1 {c : Expr} {m : MT} (h : PT X c (tM cl gl X.K m)) : PTs X [c] (tMs cl gl X.K [m]) := by
  constructor
  intro pins s σ H Q I q
  refine (pts_one h).run pins s σ H Q I ?_
  obtain ⟨F, R, fr, S, d, S', rs, rf, he, k⟩ := q
  simp only [evTs] at he
  exact ⟨F, R, fr, S, d, S', rs, rf, he, k⟩
theorem wipeF_length (fr : Frm) : ∀ vs : List Nat, (wipeF fr vs).length = fr.length
  | [] => rfl
  | v :: vs => by unfold wipeF; rw [List.length_set, wipeF_length fr vs]
theorem wipeF_at {fr : Frm} {i : Nat} {sv : SV} : ∀ {vs : List Nat}, (wipeF fr vs)[i]? = some (some sv) → fr[i]? = some (some sv) ∧ i ∉ vs
  | [], h => ⟨h, by simp⟩
  | v :: vs, h => by
    unfold wipeF at h
    by_cases e : v = i
    · subst e
      by_cases hi : v < (wipeF fr vs).length
      · rw [List.getElem?_set_self hi] at h; cases h
      · rw [List.getElem?_eq_none (by simp; omega)] at h; cases h
    · rw [List.getElem?_set_ne e] at h
      obtain ⟨h1, h2⟩ := wipeF_at h
      exact ⟨h1, by simp [h2]; exact fun z => e z.symm⟩
theorem wipe_at {σ : Stt} {i : Nat} : ∀ {vs : List Nat}, i ∉ vs → (wipe σ vs)[i]? = σ[i]?
  | [], _ => rfl
  | v :: vs, h => by
    simp only [List.mem_cons, not_or] at h
    unfold wipe
    rw [List.getElem?_set_ne (fun z => h.1 z.symm)]
    exact wipe_at h.2
theorem wipe_in {σ : Stt} {i : Nat} : ∀ {vs : List Nat}, i ∈ vs → i < σ.length → (wipe σ vs)[i]? = some none
  | v :: vs, h, hi => by
    unfold wipe
    by_cases e : v = i
    · subst e
      rw [List.getElem?_set_self (by rw [wipe_length]; exact hi)]
    · rw [List.getElem?_set_ne e]
      rcases List.mem_cons.mp h with q | q
      · exact (e q.symm).elim
      · exact wipe_in q hi
theorem RelF.wipe {K : PySem.W.Frag} {F H : Hp} {R : List Addr} {σ : Stt} {fr : Frm} (f : RelF K F R H σ fr) (vs : List Nat) : RelF K F R H (L2.wipe σ vs) (wipeF fr vs) := by
  refine ⟨by rw [wipeF_length, wipe_length, f.len], fun i sv h => ?_, fun i j a h1 h2 => ?_⟩
  · obtain ⟨h1, h2⟩ := wipeF_at h
    obtain ⟨v, h3, h4⟩ := f.sl i sv h1
    exact ⟨v, by rw [wipe_at h2]; exact h3, h4⟩
  · have old : ∀ l, OwnAt (L2.wipe σ vs) (wipeF fr vs) l a → OwnAt σ fr l a := fun l ⟨sv, q1, q2, q3⟩ => by
      obtain ⟨g1, g2⟩ := wipeF_at q1
      exact ⟨sv, g1, q2, by rw [wipe_at g2] at q3; exact q3⟩
    exact f.ap i j a (old i h1) (old j h2)
theorem wipe_same {σ σ' : Stt} {vs : List Nat} (hl : σ'.length = (L2.wipe σ vs).length) (h : ∀ j, j ∉ vs → σ'[j]? = (L2.wipe σ vs)[j]?) : L2.wipe σ' vs = L2.wipe σ vs := by
  apply List.ext_getElem?
  intro i
  by_cases hi : i ∈ vs
  · by_cases hlt : i < σ.length
    · rw [wipe_in hi hlt, wipe_in hi (by rw [hl, wipe_length]; exact hlt)]
    · rw [List.getElem?_eq_none (by rw [wipe_length, hl, wipe_length]; omega), List.getElem?_eq_none (by rw [wipe_length]; omega)]
  · rw [wipe_at hi, h i hi]
theorem Nxt.lay {F H : Hp} {R : List Addr} {p : Addr} {o : HO} (hp : H p = none) : Nxt F R H F R (upd H p o) :=
  ⟨Same.refl _, List.prefix_refl _, fun _ _ h => .inl h, fun a u h _ _ => by rw [upd_ne (ne_of_none h hp)]; exact h, fun a u h _ => ⟨u, by rw [upd_ne (ne_of_none h hp)]; exact h⟩, fun _ h => .inl h⟩
theorem Nxt.put {F0 H0 F H : Hp} {R0 R : List Addr} {p : Addr} {o : HO} (n : Nxt F0 R0 H0 F R H) (hp : H0 p = none) : Nxt F0 R0 H0 F R (upd H p o) := by
  refine ⟨n.f, n.r, n.new, fun a u h hR ht => ?_, fun a u h hR => ?_, n.newR⟩
  · rw [upd_ne (ne_of_none h hp)]; exact n.tr a u h hR ht
  · rw [upd_ne (ne_of_none h hp)]; exact n.ax a u h hR
theorem RelS.layT {K : PySem.W.Frag} {F H : Hp} {R : List Addr} {S : Sto} {p : Addr} {o : HO} (r : RelS K F R H S) (hp : F p = none) (hR : p ∉ R) (hq : ∀ a ∈ R, H p ≠ some (.own a)) (ht : PlT H p) : RelS K F R (upd H p o) S := by
  have ne : ∀ a ∈ R, a ≠ p := fun a ha e => hR (e ▸ ha)
  refine ⟨fun a u h => ?_, ⟨ht.tabs r.tb.1, r.tb.2⟩, r.len, r.nd, fun a ha => ?_, fun i a so h1 h2 => ?_⟩
  · rw [upd_ne (fun e => by rw [e, hp] at h; cases h)]; exact r.fh a u h
  · obtain ⟨u, hu⟩ := r.tr a ha
    exact ⟨u, by rw [upd_ne (ne a ha)]; exact hu⟩
  · have ha : a ∈ R := List.mem_of_getElem? h1
    exact (r.at_ i a so h1 h2).lay (ne a ha) (hq a ha)
theorem RelS.lay {K : PySem.W.Frag} {F H : Hp} {R : List Addr} {S : Sto} {p : Addr} {o : HO} (r : RelS K F R H S) (hp : F p = none) (hR : p ∉ R) (hq : Pln H p) : RelS K F R (upd H p o) S := r.layT hp hR (fun a _ => hq.1 a) hq.2
/-- a list of one's own stays it -/
theorem own_nxt {F H F' H' : Hp} {R R' : List Addr} {a : Addr} {o : HO} (n : Nxt F R H F' R' H') (h1 : F a = none) (h2 : a ∉ R) (h3 : H a = some o) (ht : NT o := by intro _ z; cases z) : F' a = none ∧ a ∉ R' ∧ H' a = some o := by
  refine ⟨?_, fun h => ?_, n.tr a o h3 h2 ht⟩
  · cases q : F' a with
    | none => rfl
    | some u =>
      rcases n.new a u q with z | z | z
      · rw [h1] at z; cases z
      · rw [h3] at z; cases z
      · exact (h2 z).elim
  · rcases n.newR a h with z | z
    · exact h2 z
    · rw [h3] at z; cases z
/-- a list of one's own is known from now on -/
theorem own_frz {K : PySem.W.Frag} {F H F0 H0 : Hp} {R R0 : List Addr} {S : Sto} {a : Addr} {vs : List V} {xs : List D} (r : RelS K F R H S) (n : Nxt F0 R0 H0 F R H) (h0 : H0 a = none) (h1 : F a = none) (h2 : a ∉ R) (h3 : H a = some (.lst vs)) (ra : RepAll K F R vs xs) :
    Nxt F0 R0 H0 (upd F a (.lst vs)) R H ∧ RelS K (upd F a (.lst vs)) R H S ∧ Rep K (upd F a (.lst vs)) R (.ref a) (.lst xs) := by
  have f1 : Same F (upd F a (.lst vs)) := fun b u h => by
    rw [upd_ne (fun e => by rw [e, h1] at h; cases h)]; exact h
  refine ⟨⟨n.f.trans f1, n.r, fun b u h => ?_, n.tr, n.ax, n.newR⟩, ⟨fun b u h => ?_, ⟨r.tb.1, fun b ps z => ?_⟩, r.len, r.nd, r.tr, fun i b so g1 g2 => ?_⟩, .lst upd_same (ra.mono f1 (List.prefix_refl _))⟩
  · by_cases e : b = a
    · subst e; exact .inr (.inl h0)
    · rw [upd_ne e] at h; exact n.new b u h
  · by_cases e : b = a
    · subst e; rw [upd_same] at h; cases h; exact h3
    · rw [upd_ne e] at h; exact r.fh b u h
  · by_cases e : b = a
    · subst e; rw [upd_same] at z; cases z
    · rw [upd_ne e] at z; exact r.tb.2 b ps z
  · have hb : b ∈ R := List.mem_of_getElem? g1
    have hne : b ≠ a := fun e => h2 (e ▸ hb)
    exact (r.at_ i b so g1 g2).up f1 (List.prefix_refl _) (fun q => by rw [upd_ne hne]; exact q) (fun c u hc _ => hc) fun c hc => .inl hc
def lcF (cl : Nat → List D → Sto → Out D) (gl : GL) (fr : Frm) (own : List Nat) (g : MG) (tt : List MT) (e : ME) : List D → D → Sto → Out (List D) := fun acc x S => (asg cl gl g (wipeF fr own) x S).bind fun fr2 S => (evTs cl gl fr2 tt S).bind fun k S =>
  if k then (ev cl gl fr2 e S).bind fun d S => if acc.length < sizeLine then .ok (acc ++ [d]) S else .bad else .ok acc S
theorem Nxt.back {K : PySem.W.Frag} {F F' H H' : Hp} {R R' : List Addr} {S' : Sto} {a : Addr} (n : Nxt F R H F' R' H') (r : RelS K F' R' H' S') (h : H' a = none) : H a = none := by
  cases q : H a with
  | none => rfl
  | some o =>
    by_cases ha : a ∈ R
    · obtain ⟨u, hu⟩ := r.tr a (n.r.subset ha)
      rw [h] at hu; cases hu
    · obtain ⟨o', e⟩ := n.ax a o q ha; rw [e] at h; cases h
/-- the reading of a comprehension: a new list of one's own -/
theorem lc_own {K : PySem.W.Frag} {own : List Nat} {g : MG} {src : MI} {tt : List MT} {e : ME} (hsub : ∀ j ∈ gSl g, j ∈ own) (σ : Stt) (H : Hp) (Q : VK)
    (h : ∃ F R fr S xs S1 acc S', RelS K F R H S ∧ RelF K F R H σ fr ∧ evI cl gl fr src S = .ok xs S1 ∧ foldO (lcF cl gl fr own g tt e) [] xs S1 = .ok acc S' ∧
      ∀ F' R' H' Dl vs, Nxt F R H F' R' H' → RelS K F' R' H' S' → H Dl = none → F' Dl = none → Dl ∉ R' → H' Dl = some (.lst vs) → RepAll K F' R' vs acc → Q (.ref Dl) H') :
    tLc (tW cl gl K src) (tG cl gl K g) (tMs cl gl K tt) (tE cl gl K e) own σ H Q := by
  obtain ⟨F, R, fr, S, xs, S1, acc, S', rs, rf, e1, e2, k⟩ := h
  refine ⟨F, R, fr, S, xs, S1, rs, rf, e1, fun F1 R1 H1 J n1 rs1 wd Dl hD => ?_⟩
  obtain ⟨G, Y, w, wG, wY⟩ := wd
  have hF1 : F1 Dl = none := rs1.fh.free hD
  have hR1 : Dl ∉ R1 := fun hm => by
    obtain ⟨o, ho⟩ := rs1.tr Dl hm
    rw [hD] at ho; cases ho
  refine lc_it w (fun i H' => ∃ F' R' Sx pre vs, Nxt F1 R1 H1 F' R' H' ∧ RelS K F' R' H' Sx ∧ F' Dl = none ∧ Dl ∉ R' ∧ H' Dl = some (.lst vs) ∧ RepAll K F' R' vs pre ∧ foldO (lcF cl gl fr own g tt e) pre (xs.drop i) Sx = .ok acc S')
    ⟨F1, R1, S1, [], [], Nxt.lay hD, rs1.lay hF1 hR1 (Pln.non hD), hF1, hR1, upd_same, .nil, e2⟩ ?_ ?_ ?_
  · rintro i H' _ ⟨F', R', S3, pre, vs, n, r, _⟩
    exact wG F' H' n.f r.fh
  · rintro i x H' H'' hi ⟨F', R', S3, pre, vs, n, r, d1, d2, d3, ra, ef⟩ y
    obtain ⟨F2, dx, hx, nw, rx⟩ := wY F' R' H' i x H'' n.f n.r r.fh hi y
    have edrop : xs.drop i = dx :: xs.drop (i + 1) := by
      rw [List.drop_eq_getElem_cons hi]
      congr 1
      rw [List.getElem?_eq_getElem hi] at hx
      exact Option.some.inj hx
    rw [edrop] at ef
    simp only [foldO] at ef
    obtain ⟨pre2, S4, ef1, ef2⟩ := bind_ok ef
    simp only [lcF] at ef1
    obtain ⟨fr2, S5, a1, ef1⟩ := bind_ok ef1
    obtain ⟨b, S6, a2, ef1⟩ := bind_ok ef1
    have r2 := nw.2 _ r
    have n2 := n.trans nw.1
    obtain ⟨d1, d2, d3⟩ := own_nxt nw.1 d1 d2 d3
    have ra2 := ra.mono nw.1.f nw.1.r
    refine ⟨F2, R', wipeF fr own, S3, dx, fr2, S5, r2, ((rf.nxt n1).nxt n2).wipe own, rx, a1, fun F3 R3 σ3 H3 n3 r3 f3 l3 o3 _ => ⟨wipe_same l3 fun j hj => o3 j fun z => hj (hsub j z), ?_⟩⟩
    obtain ⟨d1, d2, d3⟩ := own_nxt n3 d1 d2 d3
    refine ⟨F3, R3, fr2, S5, b, S6, r3, f3, a2, fun F4 R4 H4 b' n4 r4 eb => ?_⟩
    subst eb
    obtain ⟨d1, d2, d3⟩ := own_nxt n4 d1 d2 d3
    have n5 := (n2.trans n3).trans n4
    have ra4 := (ra2.mono n3.f n3.r).mono n4.f n4.r
    cases b' with
    | false =>
      rw [if_neg Bool.false_ne_true] at ef1 ⊢
      cases ef1
      exact ⟨F4, R4, _, pre, vs, n5, r4, d1, d2, d3, ra4, ef2⟩
    | true =>
      rw [if_pos rfl] at ef1 ⊢
      obtain ⟨z, S7, a3, ef1⟩ := bind_ok ef1
      refine ⟨F4, R4, fr2, S6, z, S7, r4, f3.nxt n4, a3, fun F6 R6 H6 v n6 r6 rz => ?_⟩
      obtain ⟨d1, d2, d3⟩ := own_nxt n6 d1 d2 d3
      have ra6 := ra4.mono n6.f n6.r
      split at ef1
      · rename_i hlt
        cases ef1
        refine ⟨vs, d3, by rw [ra.length]; exact hlt, F6, R6, _, _, vs ++ [v], ?_, r6.lay d1 d2 (Pln.lst d3), d1, d2, upd_same, ra6.append (.cons rz .nil), ef2⟩
        exact (n5.trans n6).put hD
      · cases ef1
  · rintro H' ⟨F', R', S3, pre, vs, n, r, d1, d2, d3, ra, ef⟩
    rw [List.drop_length] at ef
    simp only [foldO] at ef
    cases ef
    exact k F' R' H' Dl vs (n1.trans n) r (n1.back rs1 hD) d1 d2 d3 ra
theorem lc_read {K : PySem.W.Frag} {own : List Nat} {g : MG} {src : MI} {tt : List MT} {e : ME} (hsub : ∀ j ∈ gSl g, j ∈ own) (σ : Stt) (H : Hp) (Q : VK) (h : tE cl gl K (.lc own g src tt e) σ H Q) :
    tLc (tW cl gl K src) (tG cl gl K g) (tMs cl gl K tt) (tE cl gl K e) own σ H Q := by
  obtain ⟨F, R, fr, S, d, S', rs, rf, he, k⟩ := h
  simp only [ev] at he
  obtain ⟨xs, S1, e1, he⟩ := bind_ok he
  obtain ⟨acc, S2, e2, hf⟩ := bind_ok he
  cases hf
  refine lc_own hsub σ H Q ⟨F, R, fr, S, xs, S1, acc, _, rs, rf, e1, e2, fun F' R' H' Dl vs n r h0 d1 d2 d3 ra => ?_⟩
  obtain ⟨q1, q2, q3⟩ := own_frz r n h0 d1 d2 d3 ra
  exact k _ R' H' _ q1 q2 q3
theorem snd_lc {elt tg iter : Expr} {ifs : List Expr} {scope : Scope} {own : List (Str × Nat)} {pos : Pos} {g : MG} {src : MI} {tt : List MT} {e : ME} (c : Cxt nm P cl gl X) (hi : PI X tg iter (tW cl gl X.K src)) (ok : BlkOk X.N X.env.scope scope own)
    (hg : ∀ (s : Shared) (H : Hp) (C : Addr) (cl' : List (Str × Addr)) (fp : List Addr), PG (X.blk s H scope (compEnvC scope cl' C X.env) fp) tg (tG cl gl X.K g)) (ht : ∀ (s : Shared) (H : Hp) (C : Addr) (cl' : List (Str × Addr)) (fp : List Addr), PTs (X.blk s H scope (compEnvC scope cl' C X.env) fp) ifs (tMs cl gl X.K tt))
    (he : ∀ (s : Shared) (H : Hp) (C : Addr) (cl' : List (Str × Addr)) (fp : List Addr), PE (X.blk s H scope (compEnvC scope cl' C X.env) fp) elt (tE cl gl X.K e)) (hs : noSet iter = true) (hsub : ∀ j ∈ gSl g, j ∈ own.map (·.2)) :
    PE X (.ListComp elt [⟨tg, iter, ifs, 0⟩] scope pos) (tE cl gl X.K (.lc (own.map (·.2)) g src tt e)) :=
  PE.imp (pe_lc c.b.calm c.nd hi ok hg ht he (fun x => no_fold hs x)) fun σ H Q h => lc_read hsub σ H Q h
end
end Mn
/-! statements -/
namespace Mn
open PySem PySem.Spec PyProof.Rows L2 RZ
variable [CA]
theorem PS.imp {X : Cx} {e : Stmt} {t t' : TS} (h : PS X e t) (w : ∀ D σ H, t' D σ H → t D σ H) : PS X e t' := ⟨fun pins s σ H D I q => h.run pins s σ H D I (w D σ H q)⟩
theorem PSs.imp {X : Cx} {e : List Stmt} {t t' : TS} (h : PSs X e t) (w : ∀ D σ H, t' D σ H → t D σ H) : PSs X e t' := ⟨fun pins s σ H D I q => h.run pins s σ H D I (w D σ H q)⟩
/-- lists of one's own are younger than the entry -/
def Frs (H0 : Hp) (σ : Stt) (fr : Frm) : Prop := ∀ i a, OwnAt σ fr i a → H0 a = none
/-- the state within a def -/
structure Mid (K : PySem.W.Frag) (F0 : Hp) (R0 : List Addr) (H0 F : Hp) (R : List Addr) (H : Hp) (σ : Stt) (fr : Frm) (S : Sto) : Prop where
  s : RelS K F R H S
  f : RelF K F R H σ fr
  n : Nxt F0 R0 H0 F R H
  y : Frs H0 σ fr
theorem Mid.step {K : PySem.W.Frag} {F0 H0 F H F' H' : Hp} {R0 R R' : List Addr} {σ : Stt} {fr : Frm} {S S' : Sto} (m : Mid K F0 R0 H0 F R H σ fr S) (n : Nxt F R H F' R' H') (r : RelS K F' R' H' S') : Mid K F0 R0 H0 F' R' H' σ fr S' :=
  ⟨r, m.f.nxt n, m.n.trans n, m.y⟩
/-- what is wanted behind -/
def EndsOk (X : Cx) (F0 : Hp) (R0 : List Addr) (H0 : Hp) (D : Ends) (S' : Sto) : Fl → Prop
  | .next fr' => ∀ F R H σ, Mid X.K F0 R0 H0 F R H σ fr' S' → D.nx σ H
  | .brk fr' => ∀ F R H σ, Mid X.K F0 R0 H0 F R H σ fr' S' → D.bk σ H
  | .cont fr' => ∀ F R H σ, Mid X.K F0 R0 H0 F R H σ fr' S' → D.ct σ H
  | .ret d => ∀ F R H v, Nxt F0 R0 H0 F R H → RelS X.K F R H S' → Rep X.K F R v d → D.rt v H
  | .exc x => ∀ F R H σ cls e, Nxt F0 R0 H0 F R H → RelS X.K F R H S' → RepX X.K F R x cls e → WtX X cls e σ H
section
variable (cl : Nat → List D → Sto → Out D) (gl : GL) (fuel : Nat) (X : Cx)
def tSt (s : MS) : TS := fun D σ H => ∃ F0 R0 H0 F R fr S fl S', Mid X.K F0 R0 H0 F R H σ fr S ∧ ex cl gl fuel s fr S = .ok fl S' ∧ EndsOk X F0 R0 H0 D S' fl
def tSb (s : List MS) : TS := fun D σ H => ∃ F0 R0 H0 F R fr S fl S', Mid X.K F0 R0 H0 F R H σ fr S ∧ exs cl gl fuel s fr S = .ok fl S' ∧ EndsOk X F0 R0 H0 D S' fl
end
/-- a new value: known, or a new list of one's own -/
def NewSl (K : PySem.W.Frag) (Hb F : Hp) (R : List Addr) (H : Hp) (v : V) : SV → Prop
  | .val d => Rep K F R v d
  | .olst ds => ∃ a xs, v = .ref a ∧ Hb a = none ∧ F a = none ∧ a ∉ R ∧ H a = some (.lst xs) ∧ RepAll K F R xs ds
  | .odct kvs => ∃ a ws, v = .ref a ∧ Hb a = none ∧ F a = none ∧ a ∉ R ∧ ws.length = kvs.length ∧ H a = some (.dK ((kvs.map (·.1)).zip ws)) ∧ RepAll K F R ws (kvs.map (·.2))
theorem NewSl.nxt {K : PySem.W.Frag} {Hb F H F' H' : Hp} {R R' : List Addr} {v : V} {sv : SV} (h : NewSl K Hb F R H v sv) (n : Nxt F R H F' R' H') : NewSl K Hb F' R' H' v sv := by
  cases sv with
  | val d => exact Rep.mono n.f n.r h
  | olst ds =>
    obtain ⟨a, xs, rfl, h0, h1, h2, h3, h4⟩ := h
    obtain ⟨g1, g2, g3⟩ := own_nxt n h1 h2 h3
    exact ⟨a, xs, rfl, h0, g1, g2, g3, h4.mono n.f n.r⟩
  | odct kvs =>
    obtain ⟨a, ws, rfl, h0, h1, h2, hl, h3, h4⟩ := h
    obtain ⟨g1, g2, g3⟩ := own_nxt n h1 h2 h3
    exact ⟨a, ws, rfl, h0, g1, g2, hl, g3, h4.mono n.f n.r⟩
theorem OwnAt.in {K : PySem.W.Frag} {F H : Hp} {R : List Addr} {σ : Stt} {fr : Frm} {i : Nat} {a : Addr} (f : RelF K F R H σ fr) (h : OwnAt σ fr i a) : ∃ o, H a = some o ∧ F a = none ∧ a ∉ R := by
  obtain ⟨sv, h1, h2, h3⟩ := h
  obtain ⟨v, g1, g2⟩ := f.sl i sv h1
  rw [h3] at g1
  cases g1
  cases sv with
  | val => cases h2
  | olst ds =>
    obtain ⟨b, xs, e, q1, q2, q3, _⟩ := g2
    cases e
    exact ⟨_, q3, q1, q2⟩
  | odct kvs =>
      obtain ⟨b, ws, e, q1, q2, hl, q3, _⟩ := g2
      cases e
      exact ⟨_, q3, q1, q2⟩
/-- a slot takes a new value -/
theorem RelF.setN {K : PySem.W.Frag} {F H : Hp} {R : List Addr} {σ : Stt} {fr : Frm} {i : Nat} {v : V} {sv : SV} (f : RelF K F R H σ fr) (h : SlotAt K F R H v sv) (ha : ∀ a, sv.own = true → v = .ref a → ∀ j, ¬ OwnAt σ fr j a) : RelF K F R H (σ.set i (some v)) (fr.set i (some sv)) := by
  refine ⟨by simp [f.len], fun j sv' hj => ?_, fun j l a h1 h2 => ?_⟩
  · by_cases e : i = j
    · subst e
      by_cases hi : i < fr.length
      · rw [List.getElem?_set_self hi] at hj
        cases hj
        exact ⟨v, List.getElem?_set_self (by rw [← f.len]; exact hi), h⟩
      · rw [List.getElem?_eq_none (by simp; omega)] at hj
        cases hj
    · rw [List.getElem?_set_ne e] at hj ⊢
      exact f.sl j sv' hj
  · rcases ownAt_set h1 with ⟨rfl, o1, e1⟩ | ⟨_, o1⟩ <;> rcases ownAt_set h2 with ⟨rfl, o2, e2⟩ | ⟨_, o2⟩
    · rfl
    · exact (ha a o1 e1 l o2).elim
    · exact (ha a o2 e2 j o1).elim
    · exact f.ap j l a o1 o2
theorem NewSl.slot {K : PySem.W.Frag} {Hb F H : Hp} {R : List Addr} {v : V} {sv : SV} (h : NewSl K Hb F R H v sv) : SlotAt K F R H v sv := by
  cases sv with
  | val d => exact h
  | olst ds =>
    obtain ⟨a, xs, rfl, h0, h1, h2, h3, h4⟩ := h
    exact ⟨a, xs, rfl, h1, h2, h3, h4⟩
  | odct kvs =>
    obtain ⟨a, ws, rfl, h0, h1, h2, hl, h3, h4⟩ := h
    exact ⟨a, ws, rfl, h1, h2, hl, h3, h4⟩
theorem NewSl.new {K : PySem.W.Frag} {Hb F H : Hp} {R : List Addr} {v : V} {sv : SV} {a : Addr} (h : NewSl K Hb F R H v sv) (ho : sv.own = true) (e : v = .ref a) : Hb a = none := by
  cases sv with
  | val d => cases ho
  | olst ds =>
    obtain ⟨b, xs, e2, h0, _⟩ := h
    rw [e] at e2; cases e2; exact h0
  | odct kvs =>
    obtain ⟨b, ws, e2, h0, _⟩ := h
    rw [e] at e2; cases e2; exact h0
section
variable {nm : Nat → Str} {P : List (Nat × MF)} {cl : Nat → List D → Sto → Out D} {gl : GL} {fuel : Nat} {X : Cx}
theorem Mid.setN {K : PySem.W.Frag} {F0 H0 F H Fb Hb : Hp} {R0 R Rb : List Addr} {σ : Stt} {fr : Frm} {S Sb : Sto} {i : Nat} {v : V} {sv : SV} (mb : Mid K F0 R0 H0 Fb Rb Hb σ fr Sb) (n : Nxt Fb Rb Hb F R H) (r : RelS K F R H S) (h : NewSl K Hb F R H v sv) :
    Mid K F0 R0 H0 F R H (σ.set i (some v)) (fr.set i (some sv)) S := by
  have m := mb.step n r
  refine ⟨r, m.f.setN h.slot fun a ho e j hj => ?_, m.n, fun j a hj => ?_⟩
  · obtain ⟨o, ho', _⟩ := OwnAt.in mb.f hj
    rw [h.new ho e] at ho'; cases ho'
  · rcases ownAt_set hj with ⟨rfl, o1, e1⟩ | ⟨_, o1⟩
    · have hb := h.new o1 e1
      exact mb.n.back mb.s hb
    · exact m.y j a o1
/-! ### blocks -/
theorem snd_bnil : PSs X [] (tSb cl gl fuel X []) := by
  refine PSs.imp pss_nil fun D σ H h => ?_
  obtain ⟨F0, R0, H0, F, R, fr, S, fl, S', m, he, k⟩ := h
  simp only [exs] at he
  cases he
  exact k F R H σ m
theorem snd_bcons {s : Stmt} {ss : List Stmt} {m : MS} {ms : List MS} (h : PS X s (tSt cl gl fuel X m)) (t : PSs X ss (tSb cl gl fuel X ms)) : PSs X (s :: ss) (tSb cl gl fuel X (m :: ms)) := by
  refine PSs.imp (pss_cons h t) fun D σ H h => ?_
  obtain ⟨F0, R0, H0, F, R, fr, S, fl, S', md, he, k⟩ := h
  simp only [exs] at he
  obtain ⟨f, S1, e1, he⟩ := bind_ok he
  refine ⟨F0, R0, H0, F, R, fr, S, f, S1, md, e1, ?_⟩
  cases f with
  | next fr1 => exact fun F1 R1 H1 σ1 m1 => ⟨F0, R0, H0, F1, R1, fr1, S1, fl, S', m1, he, k⟩
  | brk fr1 => cases he; exact k
  | cont fr1 => cases he; exact k
  | ret d => cases he; exact k
  | exc x => cases he; exact k
/-- an object of one's own is known from now on -/
theorem own_frzG {K : PySem.W.Frag} {F H F0 H0 : Hp} {R R0 : List Addr} {S : Sto} {a : Addr} {u : HO} (r : RelS K F R H S) (n : Nxt F0 R0 H0 F R H) (h0 : H0 a = none) (h1 : F a = none) (h2 : a ∉ R) (h3 : H a = some u) (ht : NT u := by intro _ z; cases z) :
    Nxt F0 R0 H0 (upd F a u) R H ∧ RelS K (upd F a u) R H S ∧ Same F (upd F a u) := by
  have f1 : Same F (upd F a u) := fun b u h => by
    rw [upd_ne (fun e => by rw [e, h1] at h; cases h)]; exact h
  refine ⟨⟨n.f.trans f1, n.r, fun b u' h => ?_, n.tr, n.ax, n.newR⟩, ⟨fun b u' h => ?_, ⟨r.tb.1, fun b ps z => ?_⟩, r.len, r.nd, r.tr, fun i b so g1 g2 => ?_⟩, f1⟩
  · by_cases e : b = a
    · subst e; exact .inr (.inl h0)
    · rw [upd_ne e] at h; exact n.new b u' h
  · by_cases e : b = a
    · subst e; rw [upd_same] at h; cases h; exact h3
    · rw [upd_ne e] at h; exact r.fh b u' h
  · by_cases e : b = a
    · rw [e, upd_same] at z; exact ht ps (Option.some.inj z)
    · rw [upd_ne e] at z; exact r.tb.2 b ps z
  · have hb : b ∈ R := List.mem_of_getElem? g1
    have hne : b ≠ a := fun e => h2 (e ▸ hb)
    exact (r.at_ i b so g1 g2).up f1 (List.prefix_refl _) (fun q => by rw [upd_ne hne]; exact q) (fun c u hc _ => hc) fun c hc => .inl hc
def SV.fz : SV → D
  | .val d => d
  | .olst xs => .lst xs
  | .odct kvs => .dic kvs
theorem zip_self (kvs : List (Key × D)) : (kvs.map (·.1)).zip (kvs.map (·.2)) = kvs := by
  induction kvs with
  | nil => rfl
  | cons x r ih => simp [ih]
/-- the frame in which an object of one's own is known from now on -/
theorem Mid.frz {K : PySem.W.Frag} {F0 H0 F H : Hp} {R0 R : List Addr} {σ : Stt} {fr : Frm} {S : Sto} {i : Nat} {sv : SV} (md : Mid K F0 R0 H0 F R H σ fr S) (hfr : fr[i]? = some (some sv)) (ho : sv.own = true) :
    ∃ F', Mid K F0 R0 H0 F' R H σ (fr.set i (some (.val sv.fz))) S := by
  obtain ⟨v, g1, g2⟩ := md.f.sl i _ hfr
  have key : ∃ a u, v = .ref a ∧ F a = none ∧ a ∉ R ∧ H a = some u ∧ NT u ∧ (∀ F', Same F F' → F' a = some u → Rep K F' R (.ref a) sv.fz) := by
    cases sv with
    | val => cases ho
    | olst ds =>
      obtain ⟨a, xs, rfl, d1, d2, d3, ra⟩ := g2
      exact ⟨a, _, rfl, d1, d2, d3, (fun _ z => by cases z), fun F' f1 e => .lst e (ra.mono f1 (List.prefix_refl _))⟩
    | odct kvs =>
      obtain ⟨a, ws, rfl, d1, d2, hl, d3, ra⟩ := g2
      refine ⟨a, _, rfl, d1, d2, d3, (fun _ z => by cases z), fun F' f1 e => ?_⟩
      have q := Rep.dic (ds := kvs.map (·.2)) e (by rw [hl, List.length_map]) (ra.mono f1 (List.prefix_refl _))
      rw [zip_self] at q
      exact q
  obtain ⟨a, u, rfl, d1, d2, d3, ht, hr⟩ := key
  have own : OwnAt σ fr i a := ⟨_, hfr, ho, g1⟩
  obtain ⟨q1, q2, f1⟩ := own_frzG md.s md.n (md.y i a own) d1 d2 d3 ht
  have q3 := hr _ f1 upd_same
  have σe : σ.set i (some (.ref a)) = σ := by
    apply List.ext_getElem?
    intro j
    by_cases e : i = j
    · subst e
      rw [List.getElem?_set_self (List.getElem?_eq_some_iff.mp g1).1, g1]
    · rw [List.getElem?_set_ne e]
  refine ⟨upd F a u, ⟨q2, ⟨by simp [md.f.len], fun j sv hj => ?_, fun j l b z1 z2 => ?_⟩, q1, fun j b z => ?_⟩⟩
  · by_cases e : i = j
    · subst e
      rw [List.getElem?_set_self (List.getElem?_eq_some_iff.mp hfr).1] at hj
      cases hj
      exact ⟨_, g1, q3⟩
    · rw [List.getElem?_set_ne e] at hj
      obtain ⟨v, p1, p2⟩ := md.f.sl j sv hj
      refine ⟨v, p1, ?_⟩
      cases sv with
      | val d => exact Rep.mono f1 (List.prefix_refl _) p2
      | olst ds =>
        obtain ⟨b, ws, rfl, c1, c2, c3, c4⟩ := p2
        have hne : b ≠ a := fun z => by
          subst z
          exact e (md.f.ap i j b own ⟨_, hj, rfl, p1⟩)
        exact ⟨b, ws, rfl, by rw [upd_ne hne]; exact c1, c2, c3, c4.mono f1 (List.prefix_refl _)⟩
      | odct kvs =>
        obtain ⟨b, ws, rfl, c1, c2, cl, c3, c4⟩ := p2
        have hne : b ≠ a := fun z => by
          subst z
          exact e (md.f.ap i j b own ⟨_, hj, rfl, p1⟩)
        exact ⟨b, ws, rfl, by rw [upd_ne hne]; exact c1, c2, cl, c3, c4.mono f1 (List.prefix_refl _)⟩
  · rw [← σe] at z1 z2
    rcases ownAt_set z1 with ⟨_, o1, _⟩ | ⟨_, o1⟩
    · cases o1
    · rcases ownAt_set z2 with ⟨_, o2, _⟩ | ⟨_, o2⟩
      · cases o2
      · exact md.f.ap j l b o1 o2
  · rw [← σe] at z
    rcases ownAt_set z with ⟨_, o1, _⟩ | ⟨_, o1⟩
    · cases o1
    · exact md.y j b o1
/-- a list is no more one's own: nothing stands in the text -/
theorem snd_bfrz {ss : List Stmt} {i : Nat} {ms : List MS} (t : PSs X ss (tSb cl gl fuel X ms)) : PSs X ss (tSb cl gl fuel X (.freeze i :: ms)) := by
  refine PSs.imp t fun D σ H h => ?_
  obtain ⟨F0, R0, H0, F, R, fr, S, fl, S', md, he, k⟩ := h
  simp only [exs, ex] at he
  obtain ⟨f, S1, e1, he⟩ := bind_ok he
  cases h1 : fr[i]? with
  | none =>
    rw [h1] at e1
    cases e1
    exact ⟨F0, R0, H0, F, R, fr, _, fl, S', md, he, k⟩
  | some o =>
    rw [h1] at e1
    cases o with
    | none => cases e1; exact ⟨F0, R0, H0, F, R, fr, _, fl, S', md, he, k⟩
    | some sv =>
      cases sv with
      | val d => cases e1; exact ⟨F0, R0, H0, F, R, fr, _, fl, S', md, he, k⟩
      | odct d =>
        cases e1
        obtain ⟨F', m'⟩ := md.frz h1 rfl
        exact ⟨F0, R0, H0, F', R, _, _, fl, S', m', he, k⟩
      | olst xs =>
        cases e1
        obtain ⟨F', m'⟩ := md.frz h1 rfl
        exact ⟨F0, R0, H0, F', R, _, _, fl, S', m', he, k⟩
/-! ### small statements -/
def noComp : Expr → Bool
  | .ListComp .. => false
  | .SetComp .. => false
  | .DictComp .. => false
  | _ => true
theorem no_swap {e : Expr} {t : Option Expr} {l : Nat} {env : Env} (h : noComp e = true) : swapsWith e t l env = pure false := by
  cases e <;> first | rfl | (simp [noComp] at h)
theorem snd_expr {e : Expr} {m : ME} {pos : Pos} (hc : noComp e = true) (h : PE X e (tX cl gl X m)) : PS X (.Expr e pos) (tSt cl gl fuel X (.expr m)) := by
  refine PS.imp (ps_expr h (no_swap hc)) fun D σ H h => ?_
  obtain ⟨F0, R0, H0, F, R, fr, S, fl, S', md, he, k⟩ := h
  simp only [ex] at he
  rcases stm_ok he with ⟨d, S1, e1, he⟩ | ⟨x, e1, rfl⟩
  · cases he
    exact ⟨F, R, fr, S, md.s, md.f, by rw [e1]; exact fun F1 R1 H1 v n1 rs1 rv => k F1 R1 H1 σ (md.step n1 rs1)⟩
  · exact ⟨F, R, fr, S, md.s, md.f, by rw [e1]; exact fun F1 R1 H1 c e n1 rs1 rx => k F1 R1 H1 σ c e (md.n.trans n1) rs1 rx⟩
theorem snd_ret {e : Expr} {m : ME} {pos : Pos} (h : PE X e (tX cl gl X m)) : PS X (.Return (some e) pos) (tSt cl gl fuel X (.ret m)) := by
  refine PS.imp (ps_ret h) fun D σ H h => ?_
  obtain ⟨F0, R0, H0, F, R, fr, S, fl, S', md, he, k⟩ := h
  simp only [ex] at he
  rcases stm_ok he with ⟨d, S1, e1, he⟩ | ⟨x, e1, rfl⟩
  · cases he
    exact ⟨F, R, fr, S, md.s, md.f, by rw [e1]; exact fun F1 R1 H1 v n1 rs1 rv => k F1 R1 H1 v (md.n.trans n1) rs1 rv⟩
  · exact ⟨F, R, fr, S, md.s, md.f, by rw [e1]; exact fun F1 R1 H1 c e n1 rs1 rx => k F1 R1 H1 σ c e (md.n.trans n1) rs1 rx⟩
theorem snd_retN {pos : Pos} : PS X (.Return none pos) (tSt cl gl fuel X .retN) := by
  refine PS.imp ps_retN fun D σ H h => ?_
  obtain ⟨F0, R0, H0, F, R, fr, S, fl, S', md, he, k⟩ := h
  simp only [ex] at he
  cases he
  exact k F R H .non md.n md.s .non
theorem snd_pass {pos : Pos} : PS X (.Pass pos) (tSt cl gl fuel X .pass) := by
  refine PS.imp ps_pass fun D σ H h => ?_
  obtain ⟨F0, R0, H0, F, R, fr, S, fl, S', md, he, k⟩ := h
  simp only [ex] at he
  cases he
  exact k F R H σ md
theorem snd_brk {pos : Pos} : PS X (.Break pos) (tSt cl gl fuel X .brk) := by
  refine PS.imp ps_break fun D σ H h => ?_
  obtain ⟨F0, R0, H0, F, R, fr, S, fl, S', md, he, k⟩ := h
  simp only [ex] at he
  cases he
  exact k F R H σ md
theorem snd_cont {pos : Pos} : PS X (.Continue pos) (tSt cl gl fuel X .cont) := by
  refine PS.imp ps_continue fun D σ H h => ?_
  obtain ⟨F0, R0, H0, F, R, fr, S, fl, S', md, he, k⟩ := h
  simp only [ex] at he
  cases he
  exact k F R H σ md
theorem snd_never {s : Stmt} : PS X s (tSt cl gl fuel X .never) := by
  refine PS.imp ps_never fun D σ H h => ?_
  obtain ⟨F0, R0, H0, F, R, fr, S, fl, S', md, he, k⟩ := h
  simp only [ex] at he
  cases he
theorem snd_if {c : Expr} {a b : List Stmt} {mc : MT} {ma mb : List MS} {pos : Pos} (hc : PT X c (tM cl gl X.K mc)) (ha : PSs X a (tSb cl gl fuel X ma)) (hb : PSs X b (tSb cl gl fuel X mb)) : PS X (.If c a b pos) (tSt cl gl fuel X (.ife mc ma mb)) := by
  refine PS.imp (ps_if hc ha hb) fun D σ H h => ?_
  obtain ⟨F0, R0, H0, F, R, fr, S, fl, S', md, he, k⟩ := h
  simp only [ex] at he
  obtain ⟨j, S1, e1, he⟩ := bind_ok he
  refine ⟨F, R, fr, S, j, S1, md.s, md.f, e1, fun F1 R1 H1 v n1 rs1 rv => ?_⟩
  subst rv
  cases v with
  | true =>
    rw [if_pos rfl] at he ⊢
    exact ⟨F0, R0, H0, F1, R1, fr, S1, fl, S', md.step n1 rs1, he, k⟩
  | false =>
    rw [if_neg Bool.false_ne_true] at he ⊢
    exact ⟨F0, R0, H0, F1, R1, fr, S1, fl, S', md.step n1 rs1, he, k⟩
/-! ### assignments -/
def tR (cl : Nat → List D → Sto → Out D) (gl : GL) (K : PySem.W.Frag) (r : MR) : TE := fun σ H Q => ∃ F R fr S sv S', RelS K F R H S ∧ RelF K F R H σ fr ∧ evR cl gl fr r S = .ok sv S' ∧
  ∀ F' R' H' v, Nxt F R H F' R' H' → RelS K F' R' H' S' → NewSl K H F' R' H' v sv → Q v H'
def tRX (cl : Nat → List D → Sto → Out D) (gl : GL) (X : Cx) (r : MR) : TE := fun σ H Q => ∃ F R fr S, RelS X.K F R H S ∧ RelF X.K F R H σ fr ∧ OutG X.K F R H (fun F' R' H' v sv => NewSl X.K H F' R' H' v sv) Q (EX X σ) (evR cl gl fr r S)
theorem tR_X {r : MR} {σ : Stt} {H : Hp} {Q : VK} (h : tR cl gl X.K r σ H Q) : tRX cl gl X r σ H Q := by
  obtain ⟨F, R, fr, S, a, S', rs, rf, e, k⟩ := h
  exact ⟨F, R, fr, S, rs, rf, by rw [e]; exact k⟩
theorem snd_rval {e : Expr} {m : ME} (h : PE X e (tX cl gl X m)) : PE X e (tRX cl gl X (.val m)) := by
  refine PE.imp h fun σ H Q h => ?_
  obtain ⟨F, R, fr, S, rs, rf, k⟩ := h
  simp only [evR] at k
  refine ⟨F, R, fr, S, rs, rf, ?_⟩
  cases e1 : ev cl gl fr m S with
  | ok d S1 => rw [e1] at k; exact k
  | exc x S1 => rw [e1] at k; exact k
  | bad => rw [e1] at k; exact k
theorem snd_rlst {es : List Expr} {ms : List ME} {pos : Pos} (hl : ms.length ≤ 1000) (h : PA X es (tEs cl gl X.K ms)) : PE X (.List es pos) (tR cl gl X.K (.lst ms)) := by
  refine PE.imp (pe_lst h) fun σ H Q h => ?_
  obtain ⟨F, R, fr, S, sv, S', rs, rf, he, k⟩ := h
  simp only [evR] at he
  obtain ⟨xs, S1, e1, he⟩ := bind_ok he
  cases he
  refine ⟨F, R, fr, S, xs, _, rs, rf, e1, fun F1 R1 H1 vs n1 rs1 rv => ⟨?_, fun p hp => ?_⟩⟩
  · have h1 := rv.length
    have h2 := evs_len e1
    rw [sizeLine_eq]
    omega
  · have hR : p ∉ R1 := fun hm => by
      obtain ⟨o, ho⟩ := rs1.tr p hm
      rw [hp] at ho; cases ho
    have hF : F1 p = none := rs1.fh.free hp
    exact k F1 R1 _ _ (n1.trans (Nxt.lay hp)) (rs1.lay hF hR (Pln.non hp)) ⟨p, vs, rfl, n1.back rs1 hp, hF, hR, upd_same, rv⟩
theorem snd_rlstX {es : List Expr} {ms : List ME} {pos : Pos} (hl : ms.length ≤ 1000) (h : PA X es (tEs cl gl X.K ms)) : PE X (.List es pos) (tRX cl gl X (.lst ms)) := by
  refine PE.imp (snd_rlst hl h) fun σ H Q q => ?_
  obtain ⟨F, R, fr, S, rs, rf, k⟩ := q
  cases e1 : evR cl gl fr (.lst ms) S with
  | ok a S' => rw [e1] at k; exact ⟨F, R, fr, S, a, S', rs, rf, e1, k⟩
  | exc x S' =>
    simp only [evR] at e1
    obtain ⟨_, _, _, z⟩ := bind_exc e1
    cases z
  | bad => rw [e1] at k; exact k.elim
theorem snd_set {i : Nat} {x : Str} {e : Expr} {r : MR} {p' pos : Pos} (c : Cxt nm P cl gl X) (hi : X.N[i]? = some x) (hx : Loc X.env.scope x) (hf : X.fn x = true ∨ X.env.scope.names.lookup x = some .local) (hc : swapsWith e (some (.Name x p')) pos.line X.env = pure false) (he : PE X e (tRX cl gl X r)) : PS X (.Assign [.Name x p'] e pos) (tSt cl gl fuel X (.set i r)) := by
  refine PS.imp (ps_set c.nd hi hx he hc hf) fun D σ H h => ?_
  obtain ⟨F0, R0, H0, F, R, fr, S, fl, S', md, he, k⟩ := h
  simp only [ex] at he
  rcases stm_ok he with ⟨sv, S1, e1, he⟩ | ⟨x, e1, rfl⟩
  · cases he
    exact ⟨F, R, fr, S, md.s, md.f, by rw [e1]; exact fun F1 R1 H1 v n1 rs1 rv => k F1 R1 H1 _ (md.setN n1 rs1 rv)⟩
  · exact ⟨F, R, fr, S, md.s, md.f, by rw [e1]; exact fun F1 R1 H1 c e n1 rs1 rx => k F1 R1 H1 σ c e (md.n.trans n1) rs1 rx⟩
end
end Mn
/-! statements: several targets, loops -/
namespace Mn
open PySem PySem.Spec PyProof.Rows L2 RZ
variable [CA]
/-- are the stores of a written tuple to written targets turned round? (none: not told) -/
def swNames (ts : List Expr) (kf : Str → Option NameKind) : List Str :=
  ts.filterMap fun
    | .Name id pos => if kf id == some .local && pos.line == (ts.head?.map (·.pos.line)).getD 0 then some id else none
    | _ => none
def swP (ts vs : List Expr) (kf : Str → Option NameKind) : Option (Option (List Str)) :=
  if !(ts.length == 2 || ts.length == 3) || vs.length != ts.length then some none
  else if vs.any (fun | .Starred .. => true | _ => false) then some none
  else if (swNames ts kf).length != ts.length || (swNames ts kf).eraseDups.length != (swNames ts kf).length then some none
  else if vs.all (foldedForSure 8) then some none
  else if vs.all (constantsAlone 8) then none
  else some (some (swNames ts kf))
theorem swP_ok {ts vs : List Expr} {k1 k2 : Nat} {p1 p2 : Pos} {env : Env} {r : Option (List Str)} (hk : env.scope.kind = .function) (h : swP ts vs env.kindOf = some r) : swappedStores [.Tuple ts k1 p1] (.Tuple vs k2 p2) env = pure r := by
  have hb : env.blockKind = .function := by unfold Env.blockKind; rw [hk]; rfl
  unfold swP at h
  unfold swappedStores
  simp only [hb]
  simp only [bne_self_eq_false, Bool.or_false]
  split at h
  · rename_i c; cases h; exact if_pos c
  · rename_i c1
    refine (if_neg c1).trans ?_
    split at h
    · rename_i c; cases h; exact if_pos c
    · rename_i c2
      refine (if_neg c2).trans ?_
      split at h
      · rename_i c; cases h; exact if_pos c
      · rename_i c3
        refine (if_neg c3).trans ?_
        split at h
        · rename_i c; cases h; exact if_pos c
        · rename_i c4
          refine (if_neg c4).trans ?_
          split at h
          · cases h
          · rename_i c5
            cases h
            exact if_neg c5
section
variable {nm : Nat → Str} {P : List (Nat × MF)} {cl : Nat → List D → Sto → Out D} {gl : GL} {fuel : Nat} {X : Cx}
/-- a general assignment: the value is no comprehension that is stored from within -/
theorem snd_asg {tg e : Expr} {g : MG} {m : ME} {pos : Pos} (he : PE X e (tE cl gl X.K m)) (hg : PG X tg (tG cl gl X.K g)) (hs : swapsWithSole [tg] e pos.line X.env = pure false) (hw : swappedStores [tg] e X.env = pure none) (h1 : noStar tg = true) :
    PS X (.Assign [tg] e pos) (tSt cl gl fuel X (.asg g m)) := by
  refine PS.imp (ps_asg he hg hs hw (by rw [assign_cons h1]; rfl)) fun D σ H h => ?_
  obtain ⟨F0, R0, H0, F, R, fr, S, fl, S', md, he, k⟩ := h
  simp only [ex] at he
  obtain ⟨d, S1, e1, he⟩ := bind_ok he
  obtain ⟨fr2, S2, e2, he⟩ := bind_ok he
  cases he
  refine ⟨F, R, fr, S, d, S1, md.s, md.f, e1, fun F1 R1 H1 v n1 rs1 rv => ?_⟩
  have m1 := md.step n1 rs1
  exact ⟨F1, R1, fr, S1, d, fr2, _, rs1, m1.f, rv, e2, fun F2 R2 σ2 H2 n2 rs2 rf2 _ _ w2 => k F2 R2 H2 σ2 ⟨rs2, rf2, m1.n.trans n2, fun j a z => m1.y j a (w2 j a z)⟩⟩
/-- y = [.. for ..] on one line -/
theorem snd_setLc {i : Nat} {y : Str} {py : Pos} {elt tg iter : Expr} {ifs : List Expr} {scope : Scope} {own : List (Str × Nat)} {pos spos : Pos} {g : MG} {src : MI} {tt : List MT} {e : ME} {o : Bool} (c : Cxt nm P cl gl X) (hy : X.N[i]? = some y) (hyl : X.env.scope.names.lookup y = some .local) {sw : Bool}
    (hsw : swapsWith (.ListComp elt [⟨tg, iter, ifs, 0⟩] scope pos) (some (.Name y py)) spos.line X.env = pure sw) (hi : PI X tg iter (tW cl gl X.K src)) (ok : BlkOk X.N X.env.scope scope own)
    (hg : ∀ (s : Shared) (H : Hp) (C : Addr) (cl' : List (Str × Addr)) (fp : List Addr), PG (X.blk s H scope (compEnvC scope cl' C X.env) fp) tg (tG cl gl X.K g)) (ht : ∀ (s : Shared) (H : Hp) (C : Addr) (cl' : List (Str × Addr)) (fp : List Addr), PTs (X.blk s H scope (compEnvC scope cl' C X.env) fp) ifs (tMs cl gl X.K tt))
    (he : ∀ (s : Shared) (H : Hp) (C : Addr) (cl' : List (Str × Addr)) (fp : List Addr), PE (X.blk s H scope (compEnvC scope cl' C X.env) fp) elt (tE cl gl X.K e)) (hs : noSet iter = true) (hsub : ∀ j ∈ gSl g, j ∈ own.map (·.2)) :
    PS X (.Assign [.Name y py] (.ListComp elt [⟨tg, iter, ifs, 0⟩] scope pos) spos) (tSt cl gl fuel X (.setLc i o (.lc (own.map (·.2)) g src tt e))) := by
  have ps : PS X (.Assign [.Name y py] (.ListComp elt [⟨tg, iter, ifs, 0⟩] scope pos) spos) (tAsg (tLc (tW cl gl X.K src) (tG cl gl X.K g) (tMs cl gl X.K tt) (tE cl gl X.K e) (own.map (·.2))) (gName i)) := by
    cases sw with
    | true => exact ps_setLc c.b.calm c.nd hy hyl hsw hi ok hg ht he (fun x => no_fold hs x)
    | false => exact ps_set c.nd hy (.inl hyl) (pe_lc c.b.calm c.nd hi ok hg ht he (fun x => no_fold hs x)) hsw (.inr hyl)
  refine PS.imp ps fun D σ H h => ?_
  obtain ⟨F0, R0, H0, F, R, fr, S, fl, S', md, he, k⟩ := h
  simp only [ex, ev] at he
  obtain ⟨d, S1, e1, he⟩ := bind_ok he
  obtain ⟨xs, S2, e2, e1⟩ := bind_ok e1
  obtain ⟨acc, S3, e3, e1⟩ := bind_ok e1
  cases e1
  refine lc_own hsub σ H _ ⟨F, R, fr, S, xs, S2, acc, _, md.s, md.f, e2, e3, fun F1 R1 H1 Dl vs n1 r1 h0 d1 d2 d3 ra => ?_⟩
  cases o with
  | false =>
    cases he
    obtain ⟨q1, q2, q3⟩ := own_frz r1 n1 h0 d1 d2 d3 ra
    exact k _ R1 H1 _ (md.setN q1 q2 q3)
  | true =>
    cases he
    exact k F1 R1 H1 _ (md.setN n1 r1 ⟨Dl, vs, rfl, h0, d1, d2, d3, ra⟩)
/-- a list of one's own goes into the store -/
theorem store_own {K : PySem.W.Frag} {F H F0 H0 : Hp} {R R0 : List Addr} {S : Sto} {a : Addr} {vs : List V} {xs : List D} (rs : RelS K F R H S) (n : Nxt F0 R0 H0 F R H) (h0 : H0 a = none) (h1 : F a = none) (h2 : a ∉ R) (h3 : H a = some (.lst vs)) (ra : RepAll K F R vs xs) :
    Nxt F0 R0 H0 F (R ++ [a]) H ∧ RelS K F (R ++ [a]) H (S ++ [.lst xs]) ∧ (R ++ [a])[S.length]? = some a := by
  have at2 : (R ++ [a])[S.length]? = some a := by
    rw [← rs.len, List.getElem?_append_right (Nat.le_refl _), Nat.sub_self]; rfl
  have pre : R <+: R ++ [a] := ⟨[a], rfl⟩
  refine ⟨⟨n.f, n.r.trans pre, n.new, n.tr, n.ax, fun b hb => ?_⟩, ⟨rs.fh, rs.tb, by simp [rs.len], ?_, fun b hb => ?_, fun i b o g1 g2 => ?_⟩, at2⟩
  · rcases List.mem_append.mp hb with hb | hb
    · exact n.newR b hb
    · have e : b = a := by simpa using hb
      rw [e]; exact .inr h0
  · exact List.nodup_append.mpr ⟨rs.nd, by simp, fun x hx y hy => by
      have e : y = a := by simpa using hy
      rw [e]; rintro rfl; exact h2 hx⟩
  · rcases List.mem_append.mp hb with hb | hb
    · exact rs.tr b hb
    · have e : b = a := by simpa using hb
      rw [e]; exact ⟨_, h3⟩
  · by_cases hi : i < R.length
    · rw [List.getElem?_append_left hi] at g1
      rw [List.getElem?_append_left (by rw [← rs.len]; exact hi)] at g2
      have q := rs.at_ i b o g1 g2
      cases o with
      | lst ds => obtain ⟨q1, zs, q2, q3⟩ := q; exact ⟨q1, zs, q2, q3.mono (Same.refl _) pre⟩
      | dct kvs => obtain ⟨q1, zs, ql, q2, q3⟩ := q; exact ⟨q1, zs, ql, q2, q3.mono (Same.refl _) pre⟩
      | dead => trivial
      | ins c ds =>
        obtain ⟨q1, q0, dx, ws, qd, q2, q3⟩ := q
        refine ⟨q1, q0, dx, ws, fun hm => ?_, q2, q3.mono (Same.refl _) pre⟩
        rcases List.mem_append.mp hm with hm | hm
        · exact qd hm
        · have e : dx = a := by simpa using hm
          subst e
          obtain ⟨_, ⟨_, _, _, y⟩ | ⟨_, ⟨_, _, y⟩ | ⟨_, y⟩⟩⟩ := q2 <;> (rw [h3] at y; cases y)
    · have hi2 : i = R.length := by
        have := (List.getElem?_eq_some_iff.mp g1).1
        simp at this; omega
      subst hi2
      rw [rs.len, at2] at g1
      cases g1
      rw [rs.len, List.getElem?_append_right (Nat.le_refl _), Nat.sub_self] at g2
      cases g2
      exact ⟨h1, vs, h3, ra.mono (Same.refl _) pre⟩
theorem snd_setLs {i : Nat} {y : Str} {py : Pos} {elt tg iter : Expr} {ifs : List Expr} {scope : Scope} {own : List (Str × Nat)} {pos spos : Pos} {g : MG} {src : MI} {tt : List MT} {e : ME} (c : Cxt nm P cl gl X) (hy : X.N[i]? = some y) (hyl : X.env.scope.names.lookup y = some .local) {sw : Bool}
    (hsw : swapsWith (.ListComp elt [⟨tg, iter, ifs, 0⟩] scope pos) (some (.Name y py)) spos.line X.env = pure sw) (hi : PI X tg iter (tW cl gl X.K src)) (ok : BlkOk X.N X.env.scope scope own)
    (hg : ∀ (s : Shared) (H : Hp) (C : Addr) (cl' : List (Str × Addr)) (fp : List Addr), PG (X.blk s H scope (compEnvC scope cl' C X.env) fp) tg (tG cl gl X.K g)) (ht : ∀ (s : Shared) (H : Hp) (C : Addr) (cl' : List (Str × Addr)) (fp : List Addr), PTs (X.blk s H scope (compEnvC scope cl' C X.env) fp) ifs (tMs cl gl X.K tt))
    (he : ∀ (s : Shared) (H : Hp) (C : Addr) (cl' : List (Str × Addr)) (fp : List Addr), PE (X.blk s H scope (compEnvC scope cl' C X.env) fp) elt (tE cl gl X.K e)) (hs : noSet iter = true) (hsub : ∀ j ∈ gSl g, j ∈ own.map (·.2)) :
    PS X (.Assign [.Name y py] (.ListComp elt [⟨tg, iter, ifs, 0⟩] scope pos) spos) (tSt cl gl fuel X (.setLs i (.lc (own.map (·.2)) g src tt e))) := by
  have ps : PS X (.Assign [.Name y py] (.ListComp elt [⟨tg, iter, ifs, 0⟩] scope pos) spos) (tAsg (tLc (tW cl gl X.K src) (tG cl gl X.K g) (tMs cl gl X.K tt) (tE cl gl X.K e) (own.map (·.2))) (gName i)) := by
    cases sw with
    | true => exact ps_setLc c.b.calm c.nd hy hyl hsw hi ok hg ht he (fun x => no_fold hs x)
    | false => exact ps_set c.nd hy (.inl hyl) (pe_lc c.b.calm c.nd hi ok hg ht he (fun x => no_fold hs x)) hsw (.inr hyl)
  refine PS.imp ps fun D σ H h => ?_
  obtain ⟨F0, R0, H0, F, R, fr, S, fl, S', md, he, k⟩ := h
  simp only [ex, ev] at he
  obtain ⟨d, S1, e1, he⟩ := bind_ok he
  obtain ⟨xs, S2, e2, e1⟩ := bind_ok e1
  obtain ⟨acc, S3, e3, e1⟩ := bind_ok e1
  cases e1
  cases he
  refine lc_own hsub σ H _ ⟨F, R, fr, S, xs, S2, acc, _, md.s, md.f, e2, e3, fun F1 R1 H1 Dl vs n1 r1 h0 d1 d2 d3 ra => ?_⟩
  obtain ⟨q1, q2, q3⟩ := store_own r1 n1 h0 d1 d2 d3 ra
  exact k _ _ H1 _ (md.setN (sv := .val (.obj _)) q1 q2 (Rep.obj q3))
theorem snd_aug {i : Nat} {x : Str} {e : Expr} {op : Operator} {m : ME} {p' pos : Pos} (c : Cxt nm P cl gl X) (hi : X.N[i]? = some x) (hx : Loc X.env.scope x) (hfn : X.fn x = true ∨ X.env.scope.names.lookup x = some .local) (hop : op = .Add ∨ op = .Sub) (he : PE X e (tE cl gl X.K m)) : PS X (.AugAssign (.Name x p') op e pos) (tSt cl gl fuel X (.aug i op m)) := by
  have go : ∀ f : Int → Int → Int, PIp X op (ipI f) → (∀ x y d, augD op x y = some d → ∃ i j, x = .int i ∧ y = .int j ∧ d = .int (f i j)) → PS X (.AugAssign (.Name x p') op e pos) (tSt cl gl fuel X (.aug i op m)) := fun f hp hf => by
    refine PS.imp (ps_aug c.nd hi hx he hp hfn) fun D σ H h => ?_
    obtain ⟨F0, R0, H0, F, R, fr, S, fl, S', md, he, k⟩ := h
    simp only [ex] at he
    cases hfr : fr[i]? with
    | none => rw [hfr] at he; cases he
    | some o =>
      rw [hfr] at he
      cases o with
      | none => cases he
      | some sv =>
        cases sv with
        | val dx =>
          obtain ⟨y, S1, e1, he⟩ := bind_ok he
          obtain ⟨d, S2, e2, hl⟩ := bind_ok he
          obtain ⟨e3, rfl⟩ := opt_ok e2
          cases hl
          obtain ⟨a, b, rfl, rfl, rfl⟩ := hf _ _ _ e3
          obtain ⟨v, g1, g2⟩ := md.f.sl i _ hfr
          have g3 : Rep X.K F R v (.int a) := g2
          cases g3
          refine ⟨_, g1, F, R, fr, S, _, _, md.s, md.f, e1, fun F1 R1 H1 w n1 rs1 rw' => ?_⟩
          cases rw'
          exact ⟨a, b, rfl, rfl, k F1 R1 H1 _ (md.setN n1 rs1 (Rep.int _))⟩
        | olst => cases he
        | odct => cases he
  rcases hop with rfl | rfl
  · exact go _ ip_add fun x y d h => by
      cases x <;> cases y <;> simp only [augD, reduceCtorEq, Option.some.injEq] at h
      exact ⟨_, _, rfl, rfl, h.symm⟩
  · exact go _ ip_sub fun x y d h => by
      cases x <;> cases y <;> simp only [augD, reduceCtorEq, Option.some.injEq] at h
      exact ⟨_, _, rfl, rfl, h.symm⟩
theorem set_self {σ : Stt} {i : Nat} {v : V} (g1 : σ[i]? = some (some v)) : σ.set i (some v) = σ := by
  apply List.ext_getElem?
  intro j
  by_cases e : i = j
  · subst e
    rw [List.getElem?_set_self (List.getElem?_eq_some_iff.mp g1).1, g1]
  · rw [List.getElem?_set_ne e]
/-- an object of one's own is changed -/
theorem Mid.own {K : PySem.W.Frag} {F0 H0 F H : Hp} {R0 R : List Addr} {σ : Stt} {fr : Frm} {S : Sto} {i : Nat} {a : Addr} {sv sv' : SV} {u : HO} (md : Mid K F0 R0 H0 F R H σ fr S) (hfr : fr[i]? = some (some sv)) (ho : sv.own = true) (ho' : sv'.own = true) (g1 : σ[i]? = some (some (.ref a)))
    (pl : Pln H a) (nw : SlotAt K F R (upd H a u) (.ref a) sv') : Mid K F0 R0 H0 F R (upd H a u) σ (fr.set i (some sv')) S := by
  have own : OwnAt σ fr i a := ⟨_, hfr, ho, g1⟩
  obtain ⟨_, _, d1, d2⟩ := OwnAt.in md.f own
  have h0 := md.y i a own
  have σe := set_self g1
  refine ⟨md.s.lay d1 d2 pl, ⟨by simp [md.f.len], fun j sv hj => ?_, fun j l b z1 z2 => ?_⟩, md.n.put h0, fun j b z => ?_⟩
  · by_cases e : i = j
    · subst e
      rw [List.getElem?_set_self (List.getElem?_eq_some_iff.mp hfr).1] at hj
      cases hj
      exact ⟨_, g1, nw⟩
    · rw [List.getElem?_set_ne e] at hj
      obtain ⟨v, p1, p2⟩ := md.f.sl j sv hj
      refine ⟨v, p1, ?_⟩
      cases sv with
      | val => exact p2
      | odct kvs =>
        obtain ⟨b, us, rfl, c1, c2, cl, c3, c4⟩ := p2
        have hne : b ≠ a := fun z => by
          subst z
          exact e (md.f.ap i j b own ⟨_, hj, rfl, p1⟩)
        exact ⟨b, us, rfl, c1, c2, cl, by rw [upd_ne hne]; exact c3, c4⟩
      | olst ds =>
        obtain ⟨b, us, rfl, c1, c2, c3, c4⟩ := p2
        have hne : b ≠ a := fun z => by
          subst z
          exact e (md.f.ap i j b own ⟨_, hj, rfl, p1⟩)
        exact ⟨b, us, rfl, c1, c2, by rw [upd_ne hne]; exact c3, c4⟩
  · rw [← σe] at z1 z2
    have old : ∀ l b, OwnAt (σ.set i (some (.ref a))) (fr.set i (some sv')) l b → OwnAt σ fr l b := fun l b z => by
      rcases ownAt_set z with ⟨rfl, _, e3⟩ | ⟨_, o1⟩
      · cases e3; exact own
      · exact o1
    exact md.f.ap j l b (old j b z1) (old l b z2)
  · rw [← σe] at z
    rcases ownAt_set z with ⟨rfl, _, e3⟩ | ⟨_, o1⟩
    · cases e3; exact h0
    · exact md.y j b o1
theorem snd_append {i : Nat} {x : Str} {e : Expr} {m : ME} {px apos cpos pos : Pos} (hi : X.N[i]? = some x) (hv : Vis X.env.scope x) (hd : (x == ("__debug__" : Str)) = false) (hcd : (x == ("__classdict__" : Str)) = false) (hs : noStar e = true) (hl : (apos.endLine == cpos.line) = true) (he : PE X e (tE cl gl X.K m)) :
    PS X (.Expr (.Call (.Attribute (.Name x px) "append" apos) [e] [] cpos) pos) (tSt cl gl fuel X (.append i m)) := by
  have hst : starEach [e] X.env = [(false, eval e X.env)] := star_cons hs
  have hp : (backTo cpos (starEach ([] : List Expr) X.env)).any (·.1) = false := rfl
  refine PS.imp (ps_expr (pe_bm PySem.F.plainAttrs_list PySem.F.slot_list_append PySem.F.type_list_append mt_append (pe_var hi hv hd hcd) (pa_cons he pa_nil hst) (hfew := by rw [hst]; rfl) (hline := hl) (hs := star_cons hs)) (by rfl)) fun D σ H h => ?_
  obtain ⟨F0, R0, H0, F, R, fr, S, fl, S', md, he, k⟩ := h
  simp only [ex] at he
  obtain ⟨d, S1, e1, he⟩ := bind_ok he
  split at he
  · rename_i xs hfr
    split at he
    · rename_i hlt
      cases he
      obtain ⟨v, g1, a, vs, rfl, d1, d2, d3, ra⟩ := md.f.sl i _ hfr
      refine ⟨_, g1, .inl ⟨rfl, vs, SqL.of d3⟩, F, R, fr, S, d, _, md.s, md.f, e1, fun F1 R1 H1 w n1 rs1 rv => ?_⟩
      have m1 := md.step n1 rs1
      obtain ⟨d1, d2, d3⟩ := own_nxt n1 d1 d2 d3
      have ra1 := ra.mono n1.f n1.r
      refine ⟨a, vs, w, rfl, rfl, d3, by rw [ra1.length]; exact hlt, ?_⟩
      exact k F1 R1 _ σ (m1.own hfr rfl rfl g1 (.lst d3) ⟨a, _, rfl, d1, d2, upd_same, ra1.append (.cons rv .nil)⟩)
    · cases he
  · cases he
theorem getK_rep {K : PySem.W.Frag} {F : Hp} {R : List Addr} {k : Key} : ∀ {kvs : List (Key × D)} {ws : List V}, RepAll K F R ws (kvs.map (·.2)) → ws.length = kvs.length →
    (getK kvs k = none ∧ valV ((kvs.map (·.1)).zip ws) k = none) ∨ ∃ d v, getK kvs k = some d ∧ valV ((kvs.map (·.1)).zip ws) k = some v ∧ Rep K F R v d
  | [], [], _, _ => .inl ⟨rfl, rfl⟩
  | (k0, d0) :: kvs, w :: ws, .cons h t, hl => by
    by_cases e : k0 = k
    · exact .inr ⟨d0, w, by simp [getK, e], by simp [valV, e], h⟩
    · rcases getK_rep (k := k) (kvs := kvs) t (by simpa using hl) with ⟨h1, h2⟩ | ⟨d, v, h1, h2, h3⟩
      · exact .inl ⟨by simpa [getK, e] using h1, by simpa [valV, e] using h2⟩
      · exact .inr ⟨d, v, by simpa [getK, e] using h1, by simpa [valV, e] using h2, h3⟩
theorem putD_rep {K : PySem.W.Frag} {F : Hp} {R : List Addr} {k : Key} {v : V} {d : D} (rv : Rep K F R v d) {kvs : List (Key × D)} {ws : List V} (r : RepAll K F R ws (kvs.map (·.2))) (hl : ws.length = kvs.length) :
    ∃ ws', ws'.length = (putD kvs k d).length ∧ putK ((kvs.map (·.1)).zip ws) k v = ((putD kvs k d).map (·.1)).zip ws' ∧ RepAll K F R ws' ((putD kvs k d).map (·.2)) := by
  have hany : ∀ (kvs : List (Key × D)) (ws : List V), ws.length = kvs.length → (((kvs.map (·.1)).zip ws).any fun kv => decide (kv.1 = k)) = kvs.any fun kv => decide (kv.1 = k) := by
    intro kvs
    induction kvs with
    | nil => intro ws h; cases ws <;> simp_all
    | cons x r ih =>
      intro ws h
      cases ws with
      | nil => simp at h
      | cons w ws => simp [ih ws (by simpa using h)]
  unfold putK putD
  rw [hany kvs ws hl]
  by_cases hc : (kvs.any fun kv => decide (kv.1 = k)) = true
  · rw [if_pos hc, if_pos hc]
    clear hc hany
    induction kvs generalizing ws with
    | nil =>
      cases ws with
      | nil => exact ⟨[], rfl, rfl, .nil⟩
      | cons => simp at hl
    | cons x kvs ih =>
      obtain ⟨k0, d0⟩ := x
      cases ws with
      | nil => simp at hl
      | cons w ws =>
        cases r with
        | cons h t =>
          obtain ⟨ws', e1, e2, e3⟩ := ih t (by simpa using hl)
          by_cases e : k0 = k
          · subst e
            exact ⟨v :: ws', by simp [e1], by simp [e2], by rw [List.map_cons, List.map_cons, if_pos rfl]; exact .cons rv e3⟩
          · refine ⟨w :: ws', by simp [e1], by simp [e, e2], ?_⟩
            rw [List.map_cons, List.map_cons, if_neg e]
            exact .cons h e3
  · rw [if_neg hc, if_neg hc]
    refine ⟨ws ++ [v], by simp [hl], ?_, ?_⟩
    · rw [List.map_append, List.zip_append (by simp [hl])]
      rfl
    · rw [List.map_append]
      exact r.append (.cons rv .nil)
/-! ### loops -/
theorem Nxt.fin {F0 H0 F H : Hp} {R0 R : List Addr} (n : Nxt F0 R0 H0 F R H) : Nxt F R H0 F R H :=
  ⟨Same.refl _, List.prefix_refl _, fun _ _ h => .inl h, fun a o h hR ht => n.tr a o h (fun h0 => hR (n.r.subset h0)) ht, fun a o h hR => n.ax a o h fun h0 => hR (n.r.subset h0), fun _ h => .inl h⟩
theorem Nxt.join {F0 H0 F3 H3 F4 H4 : Hp} {R0 R3 R4 : List Addr} (n : Nxt F0 R0 H0 F3 R3 H3) (m : Nxt F3 R3 H0 F4 R4 H4) : Nxt F0 R0 H0 F4 R4 H4 := by
  refine ⟨n.f.trans m.f, n.r.trans m.r, fun a o h => ?_, fun a o h hR ht => ?_, fun a o h hR => ?_, fun a h => ?_⟩
  · rcases m.new a o h with q | q | q
    · exact n.new a o q
    · exact .inr (.inl q)
    · rcases n.newR a q with q | q
      · exact .inr (.inr q)
      · exact .inr (.inl q)
  · by_cases h3 : a ∈ R3
    · rcases n.newR a h3 with q | q
      · exact (hR q).elim
      · rw [q] at h; cases h
    · exact m.tr a o h h3 ht
  · by_cases h3 : a ∈ R3
    · rcases n.newR a h3 with q | q
      · exact (hR q).elim
      · rw [q] at h; cases h
    · exact m.ax a o h h3
  · rcases m.newR a h with q | q
    · exact n.newR a q
    · exact .inr q
theorem snd_while {t : Expr} {body : List Stmt} {mt : MT} {mb : List MS} {pos : Pos} (c : Cxt nm P cl gl X) (ht : PT X t (tM cl gl X.K mt)) (hb : PSs X body (tSb cl gl fuel X mb)) : PS X (.While t body [] pos) (tSt cl gl fuel X (.whil mt mb)) := by
  refine PS.imp (ps_while c.px ht hb) fun D σ H h => ?_
  obtain ⟨F0, R0, H0, F, R, fr, S, fl, S', md, he, k⟩ := h
  simp only [ex] at he
  refine ⟨fun n σ H => ∃ F R fr S, Mid X.K F0 R0 H0 F R H σ fr S ∧ whileO (fun fr S => evT cl gl fr mt S) (exs cl gl fuel mb) n fr S = .ok fl S', ⟨fuel, F, R, fr, S, md, he⟩, ?_⟩
  rintro n σ1 H1 ⟨F1, R1, fr1, S1, m1, he1⟩
  cases n with
  | zero => simp [whileO] at he1
  | succ n =>
    simp only [whileO] at he1
    obtain ⟨b, S2, e1, he1⟩ := bind_ok he1
    refine ⟨F1, R1, fr1, S1, b, S2, m1.s, m1.f, e1, fun F2 R2 H2 v n2 rs2 rv => ?_⟩
    subst rv
    cases v with
    | false =>
      rw [if_neg Bool.false_ne_true] at he1 ⊢
      cases he1
      exact k F2 R2 H2 σ1 (m1.step n2 rs2)
    | true =>
      rw [if_pos rfl] at he1 ⊢
      obtain ⟨f, S3, e2, he1⟩ := bind_ok he1
      refine ⟨fun σ' H' => ∃ F R fr S, Mid X.K F0 R0 H0 F R H' σ' fr S ∧ whileO (fun fr S => evT cl gl fr mt S) (exs cl gl fuel mb) n fr S = .ok fl S', fun σ' H' q => ⟨n, Nat.lt_succ_self n, q⟩, F0, R0, H0, F2, R2, fr1, S2, f, S3, m1.step n2 rs2, e2, ?_⟩
      cases f with
      | next fr2 => exact fun F3 R3 H3 σ3 m3 => ⟨F3, R3, fr2, S3, m3, he1⟩
      | cont fr2 => exact fun F3 R3 H3 σ3 m3 => ⟨F3, R3, fr2, S3, m3, he1⟩
      | brk fr2 => cases he1; exact k
      | ret d => cases he1; exact k
      | exc x => cases he1; exact k
theorem snd_for {tg iter : Expr} {body : List Stmt} {g : MG} {src : MI} {mb : List MS} {pos : Pos} (c : Cxt nm P cl gl X) (hi : PI X tg iter (tW cl gl X.K src)) (hg : PG X tg (tG cl gl X.K g)) (hb : PSs X body (tSb cl gl fuel X mb)) (hs : noSet iter = true) : PS X (.For tg iter body [] pos) (tSt cl gl fuel X (.forr g src mb)) := by
  refine PS.imp (ps_for c.px c.b.calm hi hg hb (fun x => no_fold hs x)) fun D σ H h => ?_
  obtain ⟨F0, R0, H0, F, R, fr, S, fl, S', md, he, k⟩ := h
  simp only [ex] at he
  obtain ⟨xs, S1, e1, he⟩ := bind_ok he
  refine ⟨F, R, fr, S, xs, S1, md.s, md.f, e1, fun F1 R1 H1 J n1 rs1 wd => ?_⟩
  obtain ⟨G, Y, w, wG, wY⟩ := wd
  refine for_it w (fun i σ' H' => ∃ F' R' fr' Sx, Mid X.K F0 R0 H0 F' R' H' σ' fr' Sx ∧ Same F1 F' ∧ R1 <+: R' ∧ forO (asg cl gl g) (exs cl gl fuel mb) (xs.drop i) fr' Sx = .ok fl S')
    ⟨F1, R1, fr, S1, md.step n1 rs1, Same.refl _, List.prefix_refl _, he⟩ ?_ ?_ ?_
  · rintro i σ' H' _ ⟨F', R', fr', Sx, m, f1, p1, _⟩
    exact wG F' H' f1 m.s.fh
  · rintro i x σ' H' H'' hi' ⟨F', R', fr', Sx, m, f1, p1, ef⟩ y
    obtain ⟨F2, dx, hx, nw, rx⟩ := wY F' R' H' i x H'' f1 p1 m.s.fh hi' y
    have edrop : xs.drop i = dx :: xs.drop (i + 1) := by
      rw [List.drop_eq_getElem_cons hi']
      congr 1
      rw [List.getElem?_eq_getElem hi'] at hx
      exact Option.some.inj hx
    rw [edrop] at ef
    simp only [forO] at ef
    obtain ⟨fr2, S2, a1, ef⟩ := bind_ok ef
    obtain ⟨f, S3, a2, ef⟩ := bind_ok ef
    have m2 := m.step nw.1 (nw.2 _ m.s)
    refine ⟨F2, R', fr', Sx, dx, fr2, S2, m2.s, m2.f, rx, a1, fun F3 R3 σ3 H3 n3 r3 f3 _ _ w3 => ?_⟩
    have m3 : Mid X.K F0 R0 H0 F3 R3 H3 σ3 fr2 S2 := ⟨r3, f3, m2.n.trans n3, fun j a z => m2.y j a (w3 j a z)⟩
    have f3' : Same F1 F3 := (f1.trans nw.1.f).trans n3.f
    have p3 : R1 <+: R3 := (p1.trans nw.1.r).trans n3.r
    have nj : ∀ {F4 : Hp} {R4 : List Addr} {H4 : Hp}, Nxt F3 R3 H0 F4 R4 H4 → Nxt F0 R0 H0 F4 R4 H4 := fun n => m3.n.join n
    have mj : ∀ {F4 : Hp} {R4 : List Addr} {H4 : Hp} {σ4 : Stt} {fr4 : Frm} {S4 : Sto}, Mid X.K F3 R3 H0 F4 R4 H4 σ4 fr4 S4 → Mid X.K F0 R0 H0 F4 R4 H4 σ4 fr4 S4 := fun q => ⟨q.s, q.f, nj q.n, q.y⟩
    have m4 : Mid X.K F3 R3 H0 F3 R3 H3 σ3 fr2 S2 := ⟨r3, f3, m3.n.fin, m3.y⟩
    refine ⟨F3, R3, H0, F3, R3, fr2, S2, f, S3, m4, a2, ?_⟩
    cases f with
    | next fr4 => exact fun F4 R4 H4 σ4 q => ⟨F4, R4, fr4, S3, mj q, f3'.trans q.n.f, p3.trans q.n.r, ef⟩
    | cont fr4 => exact fun F4 R4 H4 σ4 q => ⟨F4, R4, fr4, S3, mj q, f3'.trans q.n.f, p3.trans q.n.r, ef⟩
    | brk fr4 => cases ef; exact fun F4 R4 H4 σ4 q => k F4 R4 H4 σ4 (mj q)
    | ret d => cases ef; exact fun F4 R4 H4 v n4 => k F4 R4 H4 v (nj n4)
    | exc x => cases ef; exact fun F4 R4 H4 σ4 c e n4 => k F4 R4 H4 σ4 c e (nj n4)
  · rintro σ' H' ⟨F', R', fr', Sx, m, f1, p1, ef⟩
    rw [List.drop_length] at ef
    simp only [forO] at ef
    cases ef
    exact k F' R' H' σ' m
/-! ### several names at once -/
def OwnIn (vs : List V) (svs : List SV) (a : Addr) : Prop := ∃ (j : Nat) (sv : SV), svs[j]? = some sv ∧ sv.own = true ∧ vs[j]? = some (.ref a)
inductive NewAll (K : PySem.W.Frag) (Hb F : Hp) (R : List Addr) (H : Hp) : List V → List SV → Prop
  | nil : NewAll K Hb F R H [] []
  | cons {v : V} {sv : SV} {vs : List V} {svs : List SV} : NewSl K Hb F R H v sv → NewAll K Hb F R H vs svs → (∀ a, sv.own = true → v = .ref a → ¬ OwnIn vs svs a) → NewAll K Hb F R H (v :: vs) (sv :: svs)
theorem NewSl.base {K : PySem.W.Frag} {Hb Hc F H : Hp} {R : List Addr} {v : V} {sv : SV} (h : NewSl K Hb F R H v sv) (b : ∀ a, Hb a = none → Hc a = none) : NewSl K Hc F R H v sv := by
  cases sv with
  | val d => exact h
  | olst ds => obtain ⟨a, xs, e, h0, r⟩ := h; exact ⟨a, xs, e, b a h0, r⟩
  | odct kvs => obtain ⟨a, xs, e, h0, r⟩ := h; exact ⟨a, xs, e, b a h0, r⟩
theorem NewAll.base {K : PySem.W.Frag} {Hb Hc F H : Hp} {R : List Addr} {vs : List V} {svs : List SV} (h : NewAll K Hb F R H vs svs) (b : ∀ a, Hb a = none → Hc a = none) : NewAll K Hc F R H vs svs := by
  induction h with
  | nil => exact .nil
  | cons h _ d ih => exact .cons (h.base b) ih d
theorem NewAll.isNew {K : PySem.W.Frag} {Hb F H : Hp} {R : List Addr} {vs : List V} {svs : List SV} (h : NewAll K Hb F R H vs svs) {a : Addr} (o : OwnIn vs svs a) : Hb a = none := by
  induction h with
  | nil => obtain ⟨j, sv, h1, _⟩ := o; simp at h1
  | cons h _ d ih =>
    obtain ⟨j, sv, h1, h2, h3⟩ := o
    cases j with
    | zero => cases h1; cases h3; exact h.new h2 rfl
    | succ j => exact ih ⟨j, sv, h1, h2, h3⟩
def tRs (cl : Nat → List D → Sto → Out D) (gl : GL) (K : PySem.W.Frag) (r : List MR) : TA := fun σ H Q => ∃ F R fr S svs S', RelS K F R H S ∧ RelF K F R H σ fr ∧ evRs cl gl fr r S = .ok svs S' ∧
  ∀ F' R' H' vs, Nxt F R H F' R' H' → RelS K F' R' H' S' → NewAll K H F' R' H' vs svs → Q vs H'
theorem evRs_len {fr : Frm} : ∀ {ms : List MR} {S S' : Sto} {xs : List SV}, evRs cl gl fr ms S = .ok xs S' → xs.length = ms.length
  | [], S, S', xs, h => by simp only [evRs] at h; cases h; rfl
  | m :: ms, S, S', xs, h => by
    simp only [evRs] at h
    obtain ⟨x, S1, e1, h⟩ := bind_ok h
    obtain ⟨ys, S2, e2, h⟩ := bind_ok h
    cases h
    simp [evRs_len e2]
theorem snd_rnil : PA X [] (tRs cl gl X.K []) := by
  refine PA.imp pa_nil fun σ H Q h => ?_
  obtain ⟨F, R, fr, S, d, S', rs, rf, he, k⟩ := h
  simp only [evRs] at he
  cases he
  exact k F R H _ .refl rs .nil
theorem snd_rcons {e : Expr} {es : List Expr} {m : MR} {ms : List MR} (hs : noStar e = true) (h : PE X e (tR cl gl X.K m)) (t : PA X es (tRs cl gl X.K ms)) : PA X (e :: es) (tRs cl gl X.K (m :: ms)) := by
  refine PA.imp (pa_cons h t (star_cons hs)) fun σ H Q h => ?_
  obtain ⟨F, R, fr, S, d, S', rs, rf, he, k⟩ := h
  simp only [evRs] at he
  obtain ⟨x, S1, e1, he⟩ := bind_ok he
  obtain ⟨xs, S2, e2, he⟩ := bind_ok he
  cases he
  refine ⟨F, R, fr, S, x, S1, rs, rf, e1, fun F1 R1 H1 v n1 rs1 rv => ⟨F1, R1, fr, S1, xs, _, rs1, rf.nxt n1, e2, fun F2 R2 H2 ws n2 rs2 rw' => k F2 R2 H2 _ (n1.trans n2) rs2 (.cons (rv.nxt n2) (rw'.base fun a h => n1.back rs1 h) fun a (ho : x.own = true) (e2 : v = .ref a) hi => ?_)⟩⟩
  have h1 := rw'.isNew hi
  cases x with
  | val => cases ho
  | olst ds =>
    obtain ⟨b, us, e3, _, _, _, h3, _⟩ := rv
    rw [e2] at e3; cases e3
    rw [h1] at h3; cases h3
  | odct kvs =>
    obtain ⟨b, us, e3, _, _, _, _, h3, _⟩ := rv
    rw [e2] at e3; cases e3
    rw [h1] at h3; cases h3
theorem Mid.setG {K : PySem.W.Frag} {F0 H0 F H : Hp} {R0 R : List Addr} {σ : Stt} {fr : Frm} {S : Sto} {i : Nat} {v : V} {sv : SV} (m : Mid K F0 R0 H0 F R H σ fr S) (h : SlotAt K F R H v sv) (ha : ∀ a, sv.own = true → v = .ref a → H0 a = none ∧ ∀ j, ¬ OwnAt σ fr j a) :
    Mid K F0 R0 H0 F R H (σ.set i (some v)) (fr.set i (some sv)) S := by
  refine ⟨m.s, m.f.setN h fun a ho e j hj => (ha a ho e).2 j hj, m.n, fun j a hj => ?_⟩
  rcases ownAt_set hj with ⟨rfl, o1, e1⟩ | ⟨_, o1⟩
  · exact (ha a o1 e1).1
  · exact m.y j a o1
theorem not_own {σ : Stt} {fr : Frm} {K : PySem.W.Frag} {Hb : Hp} {Fb : Hp} {Rb : List Addr} (f : RelF K Fb Rb Hb σ fr) {a : Addr} (h : Hb a = none) (j : Nat) : ¬ OwnAt σ fr j a := fun hj => by
  obtain ⟨o, ho, _⟩ := OwnAt.in f hj
  rw [h] at ho; cases ho
theorem snd_par2 {i j : Nat} {x y : Str} {a b : Expr} {px py pt pos : Pos} {kt k2 pt2} {rs : List MR} (c : Cxt nm P cl gl X) (hi : X.N[i]? = some x) (hj : X.N[j]? = some y) (hij : i ≠ j) (hx : X.env.scope.names.lookup x = some .local) (hy : X.env.scope.names.lookup y = some .local)
    (hw : swappedStores [.Tuple [.Name x px, .Name y py] kt pt] (.Tuple [a, b] k2 pt2) X.env = pure (some [x, y])) (hr : rs.length = 2) (ha : PA X [a, b] (tRs cl gl X.K rs)) :
    PS X (.Assign [.Tuple [.Name x px, .Name y py] kt pt] (.Tuple [a, b] k2 pt2) pos) (tSt cl gl fuel X (.par [i, j] rs)) := by
  refine PS.imp (ps_par c.b.calm c.nd hi hj hij hx hy ha hw) fun D σ H h => ?_
  obtain ⟨F0, R0, H0, F, R, fr, S, fl, S', md, he, k⟩ := h
  simp only [ex] at he
  obtain ⟨svs, S1, e1, he⟩ := bind_ok he
  cases he
  refine ⟨F, R, fr, S, svs, _, md.s, md.f, e1, fun F1 R1 H1 vs n1 rs1 rv => ?_⟩
  have hl := (evRs_len e1).trans hr
  cases rv with
  | nil => simp at hl
  | @cons v1 s1 vs svs h1 rv d1 =>
    cases rv with
    | nil => simp at hl
    | @cons v2 s2 vs svs h2 rv d2 =>
      cases rv with
      | cons => simp at hl
      | nil =>
        refine ⟨v1, v2, rfl, ?_⟩
        have nb : ∀ a, H a = none → H0 a = none := fun a h => md.n.back md.s h
        have m1 := (md.step n1 rs1).setG (i := i) h1.slot fun a o e => ⟨nb a (h1.new o e), not_own md.f (h1.new o e)⟩
        refine k F1 R1 H1 _ (m1.setG (i := j) h2.slot fun a o e => ⟨nb a (h2.new o e), fun l hl => ?_⟩)
        rcases ownAt_set hl with ⟨rfl, o1, e1⟩ | ⟨_, o1⟩
        · exact d1 a o1 e1 ⟨0, _, rfl, o, by rw [e]; rfl⟩
        · exact not_own md.f (h2.new o e) l o1
theorem snd_par3 {i j l : Nat} {x y z : Str} {a b e : Expr} {px py pz pt pos : Pos} {kt k2 pt2} {rs : List MR} (c : Cxt nm P cl gl X) (hi : X.N[i]? = some x) (hj : X.N[j]? = some y) (hl : X.N[l]? = some z) (hij : i ≠ j) (hil : i ≠ l) (hjl : j ≠ l) (hx : X.env.scope.names.lookup x = some .local) (hy : X.env.scope.names.lookup y = some .local) (hz : X.env.scope.names.lookup z = some .local)
    (hw : swappedStores [.Tuple [.Name x px, .Name y py, .Name z pz] kt pt] (.Tuple [a, b, e] k2 pt2) X.env = pure (some [x, y, z])) (hr : rs.length = 3) (ha : PA X [a, b, e] (tRs cl gl X.K rs)) :
    PS X (.Assign [.Tuple [.Name x px, .Name y py, .Name z pz] kt pt] (.Tuple [a, b, e] k2 pt2) pos) (tSt cl gl fuel X (.par [i, j, l] rs)) := by
  refine PS.imp (ps_par3 c.b.calm c.nd hi hj hl hij hil hjl hx hy hz ha hw) fun D σ H h => ?_
  obtain ⟨F0, R0, H0, F, R, fr, S, fl, S', md, he, k⟩ := h
  simp only [ex] at he
  obtain ⟨svs, S1, e1, he⟩ := bind_ok he
  cases he
  refine ⟨F, R, fr, S, svs, _, md.s, md.f, e1, fun F1 R1 H1 vs n1 rs1 rv => ?_⟩
  have hl := (evRs_len e1).trans hr
  cases rv with
  | nil => simp at hl
  | @cons v1 s1 vs svs h1 rv d1 =>
    cases rv with
    | nil => simp at hl
    | @cons v2 s2 vs svs h2 rv d2 =>
      cases rv with
      | nil => simp at hl
      | @cons v3 s3 vs svs h3 rv d3 =>
        cases rv with
        | cons => simp at hl
        | nil =>
          refine ⟨v1, v2, v3, rfl, ?_⟩
          have nb : ∀ a, H a = none → H0 a = none := fun a h => md.n.back md.s h
          have m1 := (md.step n1 rs1).setG (i := i) h1.slot fun a o e => ⟨nb a (h1.new o e), not_own md.f (h1.new o e)⟩
          have o1 : ∀ {a : Addr} {u : V} {w : SV} (l : Nat), u = .ref a → H a = none → (s1.own = true → v1 = .ref a → False) → ¬ OwnAt (σ.set i (some v1)) (fr.set i (some s1)) l a := fun l _ h nd hl => by
            rcases ownAt_set hl with ⟨rfl, p1, e1⟩ | ⟨_, p1⟩
            · exact nd p1 e1
            · exact not_own md.f h l p1
          have m2 := m1.setG (i := j) h2.slot fun a o e => ⟨nb a (h2.new o e), fun l => o1 (w := s2) l e (h2.new o e) fun p q => d1 a p q ⟨0, _, rfl, o, by rw [e]; rfl⟩⟩
          refine k F1 R1 H1 _ (m2.setG (i := l) h3.slot fun a o e => ⟨nb a (h3.new o e), fun l hl => ?_⟩)
          rcases ownAt_set hl with ⟨rfl, p1, q1⟩ | ⟨_, p1⟩
          · exact d2 a p1 q1 ⟨0, _, rfl, o, by rw [e]; rfl⟩
          · exact o1 (w := s3) l e (h3.new o e) (fun p q => d1 a p q ⟨1, _, rfl, o, by rw [e]; rfl⟩) p1
end
end Mn
/-! enumerate over a tuple -/
namespace EnT
open PySem PySem.Spec PyProof.Rows PySem.W
theorem meets1 {v : Value} {o : Obj} {H : Heap → Prop} (B : Begins v o H) :
    Meets (Builtin.«enumerate.__new__» ⟨[.type "enumerate", v], []⟩) (fun _ R s => H s.heap ∧
      R (.ok (.ret (.ref (s.heap.push o).objs.size))) { s with heap := (s.heap.push o).push { cls := .type "enumerate", data := .fields #[.none, .bool false, .ref s.heap.objs.size, rawInt 0, .none, .none] } }) :=
  .of_wp fun prog w A R s h => by
    obtain ⟨hp, g, d, tk, os⟩ := s; obtain ⟨h1, h⟩ := h
    have hsub := sub_enumerate
    have q1 : ∀ {A' : Around} {E : Value → Shared → Prop} {Q : Value → Shared → Prop}, Q (.ref hp.objs.size) ⟨hp.push o, g, d, tk, os⟩ → wpAny (model prog w) A' (pyIter v) Q E ⟨hp, g, d, tk, os⟩ :=
      fun q => B.iter prog w _ _ ⟨hp, g, d, tk, os⟩ _ h1 q
    wp_walk using q1
    refine wpAny_stack_any fun st => wpAny_pure ?_
    split
    · rename_i c _ _ _ _ _
      cases (c == Value.type "enumerate")
      · wp_walk using q1
        exact ⟨_, rfl, h⟩
      · wp_walk using q1
        exact ⟨_, rfl, h⟩
    · wp_walk using q1
      exact ⟨_, rfl, h⟩
theorem isT {h : Heap} {a : Addr} {items : Array Value} (p : IsTup h a items) : h.IsTuple a items := by
  obtain ⟨o, h1, h2, h3⟩ := p
  exact ⟨o, h1, h2, h3⟩
open L2
/-- the tuple at a as it stands at each turn, each item in a new pair -/
def IteT (K : PySem.W.Frag) (a : Addr) : It :=
  ⟨fun i H => ∃ (xs : List V) (x : V), SqT K H a xs ∧ xs[i]? = some x, fun i H v H' => ∃ T x, v = .ref T ∧ H T = none ∧ H' = upd H T (.tup [.int (i : Nat), x]) ∧ ∀ xs, SqT K H a xs → xs[i]? = some x, fun i H => ∃ xs : List V, SqT K H a xs ∧ xs.length ≤ i⟩
theorem turn_enumT {P : Program} {w : World} {K : PySem.W.Frag} {elts : List Expr} {kk : Nat} {tpos : Pos} (a e it : Addr) :
    Turn P w K (.Tuple elts kk tpos) (IteT K a) [e, it] e (fun i h => (∃ old, IsEnum h e it ((i : Nat) : Int) old) ∧ h.IsTupleIter it a i ∧ e ≠ it ∧ e ≠ a ∧ it ≠ a) where
  mem := by simp
  obj := fun i h st b hb => by
    obtain ⟨⟨old, he⟩, ⟨o, ho, hc, hd⟩, _⟩ := st
    have e' : b = e ∨ b = it := by simpa using hb
    rcases e' with z | z
    · rw [z]; exact ⟨_, he, fun v q => nomatch q⟩
    · rw [z]; exact ⟨o, ho, fun v q => by rw [hd] at q; cases q⟩
  keep := fun i h h' st k => let ⟨⟨old, he⟩, hi, hne⟩ := st; ⟨⟨old, k e (by simp) _ he⟩, hi.at fun o q => k it (by simp) o q, hne⟩
  item := by
    intro X hP hw hK hc i pins s σ H E I hf st hg
    subst hP hw hK
    obtain ⟨⟨old, he⟩, hit, hne, hea, hia⟩ := st
    obtain ⟨xs, x, hq, hx⟩ := hg
    obtain ⟨its, rv, p, hz⟩ := I.tuple hq
    obtain ⟨u, hu, ru⟩ := rv.get hx
    have hel : e < s.heap.objs.size := Heap.lt_size he
    have hil : it < s.heap.objs.size := by obtain ⟨_, q, _⟩ := hit; exact Heap.lt_size q
    have hh : X.A.in1.handled = none := I.ok.hd hc
    have D := Draws.tuple (prog := X.prog) (w := X.w) hh it a (Ne.symm hia) its.toArray
    have hlt : i < its.toArray.size := by
      have := (List.getElem?_eq_some_iff.mp hu).1
      simpa using this
    refine wpAny_pyNext_enum_itemD D he ⟨hit, isT p⟩ hlt hne (by simp [hne, hea]) fun x' h' tk hP' ho hs' hT hsz hk => ?_
    have ex : x' = u := by
      have q : its.toArray[i]? = some x' := hP'
      rw [show its.toArray[i]? = some u by simpa using hu] at q
      exact (Option.some.inj q).symm
    subst ex
    refine ⟨_, rfl, wpAny_letOwnedTupleGo_enum (s := { s with heap := h', toks := tk + 1 }) ho fun h'' he' sb => ?_⟩
    have hT2 : h''.get? s.heap.objs.size = some { cls := .type "tuple", data := .seq #[.int i tk, x'] } := (sb.2 _ (Nat.ne_of_gt hel)).trans hT
    have new : ObjOk X.prog X.w (upd H s.heap.objs.size (.tup [.int (i : Nat), x])) h'' s.heap.objs.size (.tup [.int (i : Nat), x]) :=
      ⟨by show 2 ≤ sizeLine; decide, [.int i tk, x'], .cons ⟨_, rfl⟩ (.cons ru .nil), ⟨_, hT2, rfl, _, rfl⟩⟩
    have I1 : Inv X pins σ (upd H s.heap.objs.size (.tup [.int (i : Nat), x])) { s with heap := h'', toks := tk + 1 } :=
      I.turnedNew (ch := [e, it]) (fun b ob hb q => (sb.2 b (fun z => hb (by simp [z]))).trans (hk b ob (fun z => hb (by simp [z])) (fun z => hb (by simp [z])) q)) hf (Nat.le_refl _) new
    refine ⟨.ref s.heap.objs.size, _, I1, rfl, ⟨_, x, rfl, I.hok.fresh (Nat.le_refl _), rfl, fun ys hy => by rw [I.tuple_inj hy hq]; exact hx⟩, ⟨⟨x', ?_⟩, hs'.1.at fun o q => (sb.2 it (Ne.symm hne)).trans q, hne, hea, hia⟩, fun b hb => ?_⟩
    · have e1 : ((i + 1 : Nat) : Int) = (i : Int) + 1 := by omega
      rw [e1]; exact he'
    · have hb' : b < s.heap.objs.size := by
        have e' : b = e ∨ b = it := by simpa using hb
        rcases e' with z | z
        · rw [z]; exact hel
        · rw [z]; exact hil
      rw [upd_ne (Nat.ne_of_lt hb')]
      exact (hf b hb).1
  done := by
    intro X hP hw hK hc i pins s σ H E I hf st hg
    subst hP hw hK
    obtain ⟨⟨old, he⟩, hit, hne, hea, hia⟩ := st
    obtain ⟨xs, hq, hx⟩ := hg
    obtain ⟨its, rv, p, hz⟩ := I.tuple hq
    obtain ⟨f0, f1, f2, f3, f4, f5⟩ := hf it (by simp)
    have hl := rv.length
    have hh : X.A.in1.handled = none := I.ok.hd hc
    have hT : s.TypeIs (.ref e) "enumerate" := ⟨_, he, rfl⟩
    have hnone : its.toArray[i]? = none := by simp; omega
    unfold pyNext
    refine wpAny_bind (wpAny_attempt (wpAny_callSpecial?_slot (name := Str.ofString "__next__") hT F.slot_enumerate_next
      (wpAny_call_entry F.slot_enumerate_next hT F.entry_enumerate_next ?_ (F.args_enumerate_next_1 _))))
    show wpAny _ _ (field (.ref e) 2 >>= _) _ _ _
    refine wpAny_bind (wpAny_field he rfl (x := .ref it) rfl ?_)
    refine wpAny_bind (wpAny_nextOf_tuple_end hh hit (isT p) hnone fun h' x he' hx' => ?_)
    obtain ⟨o, ho, hc'⟩ := hx'
    refine wpAny_bind (wpAny_isInstance (T := "StopIteration") (b := true) ⟨o, ho, hc'⟩ isSubtype_stop ?_)
    exact wpAny_pure ⟨rfl, I.turned (t' := s.toks) (fun b o hb q => he' b o hb q) f0 f1 f3 f4 f5⟩
  self := fun A i s Q E st h => let ⟨⟨_, he⟩, _⟩ := st; wpAny_pyIter_enum he h
def iEnumT (K : PySem.W.Frag) (ta : TA) : TI := fun σ H R => ta σ H fun vs H1 => ∃ a xs, vs = [.ref a] ∧ SqT K H1 a xs ∧ R (IteT K a) H1
theorem pi_enumT {X : Cx} {e : Expr} {ta : TA} {p pos tpos : Pos} {elts : List Expr} {kk : Nat} (hg : Gl X "enumerate") (hm : X.mg "enumerate" = none) (ha : PA X [e] ta) (hs : starEach [e] X.env = [(false, eval e X.env)] := by rfl) :
    PI X (.Tuple elts kk tpos) (.Call (.Name "enumerate" p) [e] [] pos) (iEnumT X.K ta) := by
  refine ⟨fun pins s σ H R I h => ?_⟩
  refine Call_ (ld_blt I hg hm boot_enumerate (PyProof.Rows.callWith_type1 (thn (ha.run pos pins s σ H _ I h) fun us s1 ⟨vs, H1, I1, r1, q1⟩ => ?_) hs rfl))
  obtain ⟨a, xs, ex, hq, q⟩ := q1
  subst ex
  cases r1 with
  | cons r rr =>
    cases rr
    cases r
    obtain ⟨its, rv, p', hz⟩ := I1.tuple hq
    have hlt : a < s1.heap.objs.size := by obtain ⟨o, ho, _⟩ := p'; exact Heap.lt_size ho
    refine callType_new F.called_enumerate (by decide) (F.typeCall_enumerate_1 _) (F.newCall_enumerate_1 _) (fun obj => F.args_object_init_2 obj _) F.entry_enumerate_new
      (meets1 (begins_tuple a its.toArray)) ⟨isT p', ?_⟩
    have hz : (s1.heap.push { cls := .type "tuple_iterator", data := .fields #[.ref a, .int 0 0] }).objs.size = s1.heap.objs.size + 1 := Heap.size_push ..
    show _ ∧ _
    rw [hz]
    have he : IsEnum ((s1.heap.push { cls := .type "tuple_iterator", data := .fields #[.ref a, .int 0 0] }).push
        { cls := .type "enumerate", data := .fields #[.none, .bool false, .ref s1.heap.objs.size, rawInt 0, .none, .none] }) (s1.heap.objs.size + 1) s1.heap.objs.size 0 .none := by
      have := Heap.get?_push_size (s1.heap.push { cls := .type "tuple_iterator", data := .fields #[.ref a, .int 0 0] })
        (o := { cls := .type "enumerate", data := .fields #[.none, .bool false, .ref s1.heap.objs.size, rawInt 0, .none, .none] }) rfl
      rw [hz] at this; exact this
    have hk : ∀ b o, s1.heap.get? b = some o → ((s1.heap.push { cls := .type "tuple_iterator", data := .fields #[.ref a, .int 0 0] }).push
        { cls := .type "enumerate", data := .fields #[.none, .bool false, .ref s1.heap.objs.size, rawInt 0, .none, .none] }).get? b = some o := fun b o x => Heap.get?_push_of_some _ (Heap.get?_push_of_some _ x)
    refine ⟨⟨_, he, rfl⟩, wpAny_pyIter_enum he ?_⟩
    have I2 : Inv X pins σ H1 { s1 with heap := (s1.heap.push { cls := .type "tuple_iterator", data := .fields #[.ref a, .int 0 0] }).push { cls := .type "enumerate", data := .fields #[.none, .bool false, .ref s1.heap.objs.size, rawInt 0, .none, .none] } } := I1.kept (t' := s1.toks) hk
    refine ⟨s1.heap.objs.size + 1, [s1.heap.objs.size + 1, s1.heap.objs.size], _, _, H1, rfl, I2, turn_enumT a (s1.heap.objs.size + 1) s1.heap.objs.size, ⟨⟨.none, he⟩, ⟨_, Heap.get?_push_of_some _ (Heap.get?_push_size _ rfl), rfl, rfl⟩, Nat.succ_ne_self _, Nat.ne_of_gt (Nat.lt_succ_of_lt hlt), Nat.ne_of_gt hlt⟩, fun b hb => ?_, q⟩
    have e' : b = s1.heap.objs.size + 1 ∨ b = s1.heap.objs.size := by simpa using hb
    have hle : s1.heap.objs.size ≤ b := by
      rcases e' with z | z
      · rw [z]; exact Nat.le_add_right _ _
      · rw [z]; exact Nat.le_refl _
    exact I1.fpOk hle (I1.hok.fresh hle)
theorem walk_enumT {K : PySem.W.Frag} {a : Addr} {xs : List V} : L2.Walk (IteT K a) xs.length (fun H => SqT K H a xs) (YPair (fun i => some (.int (i : Nat))) (fun i => xs[i]?)) := by
  refine ⟨fun i H hi q => ⟨xs, xs[i], q, by simp [hi]⟩, fun H q => ⟨xs, q, Nat.le_refl _⟩, fun i H v H' _ q y => ?_⟩
  obtain ⟨T, x, h1, h2, h3, h4⟩ := y
  exact ⟨T, _, x, h1, h2, h3, rfl, h4 xs q⟩
end EnT
/-! expressions: instances, methods, stars, texts -/
namespace Mn
open PySem PySem.Spec PyProof.Rows L2 RZ
variable [CA]
theorem PE.any {X : Cx} {e : Expr} {ι : Type} {t : ι → TE} (h : ∀ i, PE X e (t i)) : PE X e (fun σ H Q => ∃ i, t i σ H Q) := ⟨fun pins s σ H Q I q => by obtain ⟨i, q⟩ := q; exact (h i).run pins s σ H Q I q⟩
theorem PE.or {X : Cx} {e : Expr} {t1 t2 : TE} (h1 : PE X e t1) (h2 : PE X e t2) : PE X e (fun σ H Q => t1 σ H Q ∨ t2 σ H Q) := ⟨fun pins s σ H Q I q => q.elim (h1.run pins s σ H Q I) (h2.run pins s σ H Q I)⟩
theorem PE.never {X : Cx} {e : Expr} : PE X e (fun _ _ _ => False) := ⟨fun _ _ _ _ _ _ q => q.elim⟩
/-- no call of super -/
def noSup : Expr → Bool
  | .Call (.Name _ _) [] [] _ => false
  | _ => true
theorem base_eq {o : Expr} {f : Str} {env : Env} {w : Sem Value} (h : noSup o = true) : attributeBase o f env w = w := by
  unfold attributeBase
  split
  · simp [noSup] at h
  · rfl
theorem meth_eval {o : Expr} {m : Str} {args : List Expr} {apos pos : Pos} {env : Env} (h1 : noSup o = true) (h2 : args.all noStar = true) (h3 : args.length < 30) (h4 : (apos.endLine == pos.line) = true) :
    eval (.Call (.Attribute o m apos) args [] pos) env = (do
      let ov ← eval o env
      standAt apos.atName
      let (f, first) ← holding [ov] (getMethod ov m (do return (← importBound o env).getD true))
      callWith pos f first (backTo pos (starEach args env)) (backToKw pos (keywordEach [] env))) := by
  rw [arm_eval_Call, base_eq h1]
  have hs : ∀ (l : List Expr), l.all noStar = true → (backTo pos (starEach l env)).all (fun x => !x.1) = true := by
    intro l
    induction l with
    | nil => intro _; rfl
    | cons e es ih =>
      intro h
      simp only [List.all_cons, Bool.and_eq_true] at h
      rw [star_cons h.1]
      show ((!false) && (backTo pos (starEach es env)).all (fun x => !x.1)) = true
      rw [ih h.2]; rfl
  have hform : methodCallForm (args.length + ([] : List Keyword).length) (backTo pos (starEach args env)) (backToKw pos (keywordEach [] env)) = true := by
    unfold methodCallForm
    rw [hs args h2]
    simp only [Bool.true_and, List.length_nil, Nat.add_zero]
    show (true && decide (args.length + 0 < 30)) = true
    simp [h3]
  unfold methodCall
  rw [hform]
  have hpos : methodCallPos true o env apos pos = pure pos := by
    unfold methodCallPos
    rw [h4]; rfl
  rw [hpos]
  simp only [pure_bind]
  rfl
section
variable {nm : Nat → Str} {P : List (Nat × MF)} {cl : Nat → List D → Sto → Out D} {gl : GL} {X : Cx}
/-! ### attributes -/
theorem fget_ix {ns : List Nat} {ds : List D} {f : Nat} {d : D} (h : fget ns ds f = some d) : ∃ i : Nat, ns[i]? = some f ∧ ds[i]? = some d := by
  unfold fget at h
  induction ns generalizing ds with
  | nil => simp at h
  | cons n ns ih =>
    cases ds with
    | nil => simp at h
    | cons x ds =>
      rw [List.zip_cons_cons, List.lookup_cons] at h
      by_cases e : f = n
      · subst e
        rw [beq_self_eq_true] at h
        cases h
        exact ⟨0, rfl, rfl⟩
      · rw [beq_eq_false_iff_ne.mpr e] at h
        obtain ⟨i, h1, h2⟩ := ih h
        exact ⟨i + 1, by simpa using h1, by simpa using h2⟩
theorem look_zip {c f i : Nat} {ws : List V} {v : V} (h1 : (CA.fl c)[i]? = some f) (h2 : ws[i]? = some v) : (((CA.fl c).map CA.fnm).zip ws).lookup (CA.fnm f) = some v :=
  zip_look (CA.nd c) (by rw [List.getElem?_map, h1]; rfl) h2
/-- what the attribute f of the instance at a is -/
def tFS (K : PySem.W.Frag) (ta : TE) (f : Str) : TE := fun σ H Q => tFld K ta f σ H Q ∨ SlX.tSl K ta f σ H Q
theorem fld_ok {a dx : Addr} {c f : Nat} {ws : List V} {ds : List D} {d : D} {K : PySem.W.Frag} {F H : Hp} {R : List Addr} (cf : CFacts K c) (hi : InsAt H a dx c ws) (r : RepAll K F R ws ds) (h : fget (CA.fl c) ds f = some d) :
    ∃ v, Rep K F R v d ∧ ((∃ C dx fs, H a = some (.ins C dx fs) ∧ Cls K C ∧ NoAttr K C (CA.fnm f) ∧ fs.lookup (CA.fnm f) = some v) ∨ ∃ C dx p vs, ∃ i : Nat, SlX.Slt H a C dx vs ∧ SlX.SCls K C ∧ SlX.Slot1 K C (CA.fnm f) p i ∧ vs[i]? = some (some v)) := by
  obtain ⟨i, h1, h2⟩ := fget_ix h
  obtain ⟨v, h3, h4⟩ := r.get h2
  refine ⟨v, h4, ?_⟩
  cases hsl : CA.sl c with
  | false =>
    obtain ⟨q1, q2⟩ := cf.pl hsl
    exact .inl ⟨_, _, _, insAt_dct hi hsl, q1, q2 f (List.mem_of_getElem? h1), look_zip h1 h3⟩
  | true =>
    obtain ⟨q1, q2⟩ := cf.st hsl
    obtain ⟨p, q3⟩ := q2 i f h1
    exact .inr ⟨_, _, p, _, i, insAt_slt hi hsl, q1, q3, by rw [List.getElem?_map, h3]; rfl⟩
theorem ins_of {K : PySem.W.Frag} {F H : Hp} {R : List Addr} {S : Sto} {v : V} {x : D} {c : Nat} (rs : RelS K F R H S) (r : Rep K F R v x) (h : clsO S x = some c) :
    ∃ a dx ws ds, v = .ref a ∧ InsAt H a dx c ws ∧ RepAll K F R ws ds ∧ CA.kc c = true ∧ ∀ (gl : GL) f, fldD gl S f x = fget (gl.fl c) ds f := by
  cases r with
  | @ins a dx c' ws ds hi ra =>
    cases h
    have hi2 := hi.same (rs.fh _) (rs.fh _)
    exact ⟨a, dx, ws, ds, rfl, hi2, ra, hi2.1.2, fun gl f => rfl⟩
  | @obj a n hn =>
    simp only [clsO] at h
    cases e : S[n]? with
    | none => rw [e] at h; cases h
    | some o =>
      rw [e] at h
      cases o with
      | ins c' ds =>
        cases h
        obtain ⟨_, _, dx, ws, _, h2, h3⟩ := rs.at_ n a _ hn e
        exact ⟨a, dx, ws, ds, rfl, h2, h3, h2.1.2, fun gl f => by simp only [fldD, e]⟩
      | _ => cases h
  | _ => cases h
theorem snd_fld {e : Expr} {a : ME} {f : Nat} {pos : Pos} (c : Cxt nm P cl gl X) (hn : noSup e = true) (he : PE X e (tE cl gl X.K a)) : PE X (.Attribute e (CA.fnm f) pos) (tE cl gl X.K (.fld a f)) := by
  refine PE.imp (PE.or (pe_fld he (base_eq hn)) (SlX.pe_sl he (base_eq hn))) fun σ H Q h => ?_
  obtain ⟨F, R, fr, S, d, S', rs, rf, he, k⟩ := h
  simp only [ev] at he
  obtain ⟨x, S1, e1, he⟩ := bind_ok he
  obtain ⟨e2, rfl⟩ := opt_ok he
  have hc : ∃ c0, clsO S' x = some c0 := by
    unfold fldD at e2
    split at e2
    · exact ⟨_, rfl⟩
    · rename_i n
      split at e2
      · rename_i c1 ds1 q
        exact ⟨c1, by simp only [clsO, q]⟩
      · cases e2
    · cases e2
  obtain ⟨c0, hc⟩ := hc
  by_cases hsl : CA.sl c0 = true
  · right
    refine ⟨F, R, fr, S, x, S', rs, rf, e1, fun F1 R1 H1 v n1 rs1 rv => ?_⟩
    obtain ⟨a, dx, ws, ds, rfl, h1, h2, h3, h4⟩ := ins_of rs1 rv hc
    rw [h4, c.fl] at e2
    obtain ⟨v, q1, q2⟩ := fld_ok (c.b.cf _ h3) h1 h2 e2
    rcases q2 with ⟨C, dx', fs, z1, z2, z3, z4⟩ | ⟨C, dx', p, vs, i, z1, z2, z3, z4⟩
    · exfalso
      obtain ⟨i, g1, g2⟩ := fget_ix e2
      obtain ⟨w, g3, _⟩ := h2.get g2
      have := insAt_slt h1 hsl
      rcases this with ⟨y1, y2⟩ | ⟨y1, y2⟩
      · rw [List.map_eq_nil_iff] at y2
        subst y2; simp at g3
      · rw [z1] at y1; cases y1
    · exact ⟨_, C, dx', p, vs, i, v, rfl, z1, z2, z3, z4, k F1 R1 H1 v n1 rs1 q1⟩
  · left
    refine ⟨F, R, fr, S, x, S', rs, rf, e1, fun F1 R1 H1 v n1 rs1 rv => ?_⟩
    obtain ⟨a, dx, ws, ds, rfl, h1, h2, h3, h4⟩ := ins_of rs1 rv hc
    rw [h4, c.fl] at e2
    obtain ⟨i, g1, g2⟩ := fget_ix e2
    obtain ⟨w, g3, g4⟩ := h2.get g2
    have hsl' : CA.sl c0 = false := by simpa using hsl
    obtain ⟨q1, q2⟩ := (c.b.cf _ h3).pl hsl'
    exact ⟨_, _, _, _, w, rfl, insAt_dct h1 hsl', q1, q2 f (List.mem_of_getElem? g1), look_zip g1 g3, k F1 R1 H1 w n1 rs1 g4⟩
/-! ### methods -/
theorem meth_at {K : PySem.W.Frag} {H : Hp} {a dx : Addr} {c m f : Nat} {ws : List V} (cf : CFacts K c) (mt : MtF K nm c m f) (hi : InsAt H a dx c ws) : MethAt K H a (nm m) (CA.fa f) := by
  cases hsl : CA.sl c with
  | false =>
    refine .inl ⟨_, _, _, insAt_dct hi hsl, (cf.pl hsl).1, mt.me, ?_⟩
    apply zip_look0
    intro hm
    exact mt.no (List.mem_of_mem_take hm)
  | true => exact .inr ⟨_, _, _, insAt_slt hi hsl, (cf.st hsl).1, mt.me⟩
theorem FnE.met {f : Nat} {m : MF} (h : FnE nm cl X f m) (hk : m.kind = .met) : ∃ n fd, PySem.W.keepIn X.K (.ref (CA.fa f)) = true ∧ PlainP fd.params (m.names.take m.ps) ∧ fd.defaults = .none ∧ (m.names.take m.ps).Nodup ∧
    RoomG (n + 3) X.A ∧ FnG X.prog X.w X.K X.mg X.base n (CA.fa f) fd (m.names.take m.ps) (spF X.K cl f) := by
  unfold FnE at h
  rw [hk] at h
  exact h.2
/-- the receiver raises -/
theorem recv_raises {oe : Expr} {es : List Expr} {kws : List Keyword} {ta : TE} {m : Str} {apos pos : Pos} {pl : Sem Bool} (he : PE X oe ta) (ht : eval (.Call (.Attribute oe m apos) es kws pos) X.env = (do
      let ov ← eval oe X.env
      standAt apos.atName
      let (f, first) ← holding [ov] (getMethod ov m pl)
      callWith pos f first (backTo pos (starEach es X.env)) (backToKw pos (keywordEach kws X.env)))) : PE X (.Call (.Attribute oe m apos) es kws pos) (fun σ H Q => ta σ H fun _ _ => False) := by
  constructor
  intro pins s σ H Q I h
  refine PySem.W.methodCall_KW (pl := pl) (thn (he.run pins s σ H _ I h) ?_) ht
  rintro u s1 ⟨v, H1, I1, rv, z⟩
  exact z.elim
theorem snd_vm {oe : Expr} {es : List Expr} {a : ME} {ms : List ME} {m : Nat} {apos pos : Pos} (c : Cxt nm P cl gl X) (hn : noSup oe = true) (hs : es.all noStar = true) (hl : es.length < 30) (hml : es.length = ms.length) (hp : (apos.endLine == pos.line) = true)
    (he : PE X oe (tX cl gl X a)) (ha : PA X es (tXs cl gl X ms)) : PE X (.Call (.Attribute oe (nm m) apos) es [] pos) (tX cl gl X (.vm m a ms)) := by
  have ht := meth_eval (m := nm m) (env := X.env) hn hs hl hp
  let ι := { f : Nat // ∃ mf, P.lookup f = some mf ∧ mf.kind = .met }
  have key : ∀ i : ι, PE X (.Call (.Attribute oe (nm m) apos) es [] pos) (fun σ H Q => tX cl gl X a σ H fun x H1 => ∃ ad, x = .ref ad ∧ MethAt X.K H1 ad (nm m) (CA.fa i.1) ∧ tXs cl gl X ms σ H1 fun vs H2 => spF X.K cl i.1 (x :: vs) H2 Q (EX X σ)) := by
    rintro ⟨f, mf, hf, hk⟩
    obtain ⟨n, fd, h2, h3, h4, h5, hr, F⟩ := (c.fn f mf hf).met hk
    have ce := ce_fn F (hr.mono (by omega)) h2 h3 h4 h5
    cases es with
    | nil =>
      refine PE.imp (pe_vmC0 ce he ht) fun σ H Q h => ?_
      obtain ⟨F, R, fr, S, rs, rf, k⟩ := h
      refine ⟨F, R, fr, S, rs, rf, ?_⟩
      cases e1 : ev cl gl fr a S with
      | ok d S1 =>
        rw [e1] at k
        refine fun F1 R1 H1 v n1 rs1 rv => ?_
        obtain ⟨ad, e2, e3, q⟩ := k F1 R1 H1 v n1 rs1 rv
        refine ⟨ad, e2, e3, ?_⟩
        obtain ⟨F2, R2, fr2, S2, rs2, rf2, k2⟩ := q
        cases ms with
        | nil => simp only [evs] at k2; exact k2 F2 R2 H1 [] .refl rs2 .nil
        | cons => simp at hml
      | exc x S1 => rw [e1] at k; exact k
      | bad => rw [e1] at k; exact k
    | cons e es =>
      have hs' := hs
      simp only [List.all_cons, Bool.and_eq_true] at hs'
      exact pe_vmC ce he ha (star_cons hs'.1) (star_plain hs'.2) ht
  have key0 := recv_raises (pl := _) he ht
  constructor
  intro pins s σ H Q I h
  obtain ⟨F, R, fr, S, rs, rf, k⟩ := h
  simp only [ev] at k
  cases e1 : ev cl gl fr a S with
  | exc x S1 =>
    rw [e1] at k
    exact key0.run pins s σ H Q I ⟨F, R, fr, S, rs, rf, by rw [e1]; exact k⟩
  | bad => rw [e1] at k; exact k.elim
  | ok x S2 =>
    rw [e1] at k
    have k : OutG X.K F R H (fun F R _ v d => Rep X.K F R v d) Q (EX X σ) ((opt ((clsO S2 x).bind fun c => gl.m c m) S2).bind fun f S => (evs cl gl fr ms S).bindX fun xs S => cl f (x :: xs) S) := k
    cases hc : clsO S2 x with
    | none => rw [hc] at k; exact k.elim
    | some c0 =>
      rw [hc] at k
      cases e3 : gl.m c0 m with
      | none => rw [Option.bind_some, e3] at k; exact k.elim
      | some f =>
        rw [Option.bind_some, e3] at k
        obtain ⟨mt, mf, hf, hk⟩ := c.mt c0 m f e3
        refine (key ⟨f, mf, hf, hk⟩).run pins s σ H Q I ⟨F, R, fr, S, rs, rf, ?_⟩
        rw [e1]
        intro F1 R1 H1 v n1 rs1 rv
        obtain ⟨a, dx, ws, ds, rfl, h1, h2, h3, h4⟩ := ins_of rs1 rv hc
        refine ⟨a, rfl, meth_at (c.b.cf _ h3) mt h1, ?_⟩
        have kk : OutG X.K F1 R1 H1 (fun F R _ v d => Rep X.K F R v d) Q (EX X σ) ((evs cl gl fr ms S2).bindX fun xs S => cl f (x :: xs) S) := OutG.nxt k n1
        exact evs_in rs1 (rf.nxt n1) kk fun F2 R2 H2 vs xs S3 n2 rs2 rvs _ k2 => ⟨F2, R2, S3, x :: xs, rs2, .cons (rv.mono n2.f n2.r) rvs, k2⟩
/-! ### properties -/
theorem getprop_C {c m f : Nat} {a dx : Addr} {ws : List V} {b : Bool} {n : Nat} {fd : FuncData} {ps : List Str} {sp : Sq} {pins : List (Addr × Obj)} {σ : L2.St} {H : Hp} {s : Shared} {Q : VK} (I : L2.Inv X pins σ H s) (hi : InsAt H a dx c ws) (cf : CFacts X.K c) (pp : PpF X.K nm c m f)
    (F : FnG X.prog X.w X.K X.mg X.base n (CA.fa f) fd ps sp) (hr : RoomG (n + 1) X.A) (hp : PlainP fd.params ps) (hd : fd.defaults = .none) (nd : ps.Nodup) (q : sp [.ref a] H Q (fun _ _ _ => False)) : wpAny (model X.prog X.w) X.A (getAttr (.ref a) (nm m) b) (EP X pins σ Q) X.xe s := by
  obtain ⟨p, h1, h2, h3, rest, hrec⟩ := pp.pr
  have I1 : L2.Inv X pins σ H { s with toks := s.toks + 1 } := I.tok (s.toks + 1)
  have hl : ([.ref a] : List Value).length = ps.length := F.len _ _ _ _ q
  have hr1 : RoomG n X.A.in1 := ⟨hr.rm.in1, hr.gd⟩
  have run : codeAny (model X.prog X.w) X.A.in1 (.call (.ref (CA.fa f)) ⟨[.ref a], []⟩) (CR (L2.CX X.prog X.w) X.stack X.prog X.w H { s with toks := s.toks + 1 } Q (fun _ _ _ => False)) { s with toks := s.toks + 1 } :=
    F.run X.A.in1 X.stack { s with toks := s.toks + 1 } H ⟨[.ref a], []⟩ [.ref a] [.ref a] Q (fun _ _ _ => False) hr1 I1.env0.in1 (.of_eq (bind_plain hp hd nd [.ref a] hl)) (.cons rfl .nil) q
  have fin : ∀ (C : Addr) (ox od : Obj), CA.ca c = C → PySem.W.plainGet X.K C Str.empty = true → PySem.W.InstAt s.heap a ox C (some od) → wpAny (model X.prog X.w) X.A (getAttr (.ref a) (nm m) b) (EP X pins σ Q) X.xe s := fun C ox od eC pg J => by
    subst eC
    have pg' : PySem.W.plainGet X.K (CA.ca c) (nm m) = true := pg
    refine PySem.W.get_bind I.kIn J (PySem.W.plainGet_of pg').1 (PySem.W.findObj_data pp.ic h1 h2 h3) (PySem.W.plainGet_of pg').2 (wpAny_call (PySem.W.prop_get (s := { s with toks := s.toks + 1 }) I.kIn hrec ?_))
    refine codeAny_mono run fun r s' hq => ?_
    cases r with
    | error e =>
      obtain ⟨_, _, _, _, _, _, _, _, _, _, _, _, z⟩ := hq
      exact z.elim
    | ok fl =>
      cases fl with
      | ret u =>
        obtain ⟨v, H', I2, rv, q⟩ := I1.after hq
        exact wpAny_of_eq (PySem.W.handedOut_of (handed_of rv)) ⟨v, H', I2, rv, q⟩
      | next => exact False.elim hq
      | brk => exact False.elim hq
      | cont => exact False.elim hq
  cases hsl : CA.sl c with
  | false =>
    obtain ⟨mA, O, _⟩ := ins_get I.hok (insAt_dct hi hsl)
    obtain ⟨od, J, _⟩ := O.look
    exact fin _ _ _ rfl (cf.pl hsl).1.pg J
  | true =>
    obtain ⟨sl, od, _, J, _⟩ := SlX.slt_inst I (insAt_slt hi hsl)
    exact fin _ _ _ rfl (cf.st hsl).1.pg J
theorem snd_vp {e : Expr} {a : ME} {m : Nat} {pos : Pos} (c : Cxt nm P cl gl X) (hn : noSup e = true) (he : PE X e (tX cl gl X a)) : PE X (.Attribute e (nm m) pos) (tX cl gl X (.vp m a)) := by
  constructor
  intro pins s σ H Q I h
  obtain ⟨F, R, fr, S, rs, rf, k⟩ := h
  simp only [ev] at k
  cases e1 : ev cl gl fr a S with
  | bad => rw [e1] at k; exact k.elim
  | exc x S1 =>
    rw [e1] at k
    refine attr_of (base_eq hn) (thn (he.run pins s σ H (fun _ _ => False) I ⟨F, R, fr, S, rs, rf, by rw [e1]; exact k⟩) ?_)
    rintro u s1 ⟨v, H1, I1, rv0, q⟩
    exact q.elim
  | ok x S2 =>
    rw [e1] at k
    have k : OutG X.K F R H (fun F R _ v d => Rep X.K F R v d) Q (EX X σ) ((opt ((clsO S2 x).bind fun c => gl.p c m) S2).bind fun f S => (cl f [x] S).nox) := k
    cases hb : ((opt ((clsO S2 x).bind fun c => gl.p c m) S2).bind fun f S => (cl f [x] S).nox) with
    | bad => rw [hb] at k; exact k.elim
    | exc x' S' =>
      obtain ⟨a', S3, _, e4⟩ := bind_exc hb
      exact (nox_nx e4).elim
    | ok d S' =>
      rw [hb] at k
      have kk : ∀ F' R' H' v, Nxt F R H F' R' H' → RelS X.K F' R' H' S' → Rep X.K F' R' v d → Q v H' := k
      obtain ⟨f, S2', e2, hev2⟩ := bind_ok hb
      obtain ⟨e3, eS⟩ := opt_ok e2
      subst eS
      cases hc : clsO S2' x with
      | none => rw [hc] at e3; cases e3
      | some c0 =>
        rw [hc] at e3
        obtain ⟨pp, mf, hf, hk⟩ := c.pt c0 m f e3
        obtain ⟨n, fd, h2, h3, h4, h5, hr, FF⟩ := (c.fn f mf hf).met hk
        refine attr_of (base_eq hn) (thn (he.run pins s σ H (fun v H1 => ∃ F1 R1, Nxt F R H F1 R1 H1 ∧ RelS X.K F1 R1 H1 S2' ∧ Rep X.K F1 R1 v x) I ⟨F, R, fr, S, rs, rf, by rw [e1]; exact fun F1 R1 H1 v n1 rs1 rv => ⟨F1, R1, n1, rs1, rv⟩⟩) ?_)
        rintro u s1 ⟨v, H1, I1, rv0, F1, R1, n1, rs1, rv⟩
        obtain ⟨ad, dx, ws, ds, rfl, g1, g2, g3, g4⟩ := ins_of rs1 rv hc
        obtain rfl : u = Value.ref ad := rv0
        refine getprop_C I1 g1 (c.b.cf _ g3) pp FF (hr.mono (by omega)) h3 h4 h5 ?_
        exact spF_ok rs1 (.cons rv .nil) (nox_ok hev2) (fun F2 R2 H2 w n2 rs2 rw2 => kk F2 R2 H2 w (n1.trans n2) rs2 rw2)
/-! ### classmethods -/
theorem run_codeG {k : Nat} {f : Addr} {fd : FuncData} {ps : List Str} {sp : Sq} {pins : List (Addr × Obj)} {σ : L2.St} {H : Hp} {s : Shared} {Q : VK} {us : List Value} {vs : List V} (F : FnG X.prog X.w X.K X.mg X.base k f fd ps sp) (hr : RoomG k X.A) (hp : PlainP fd.params ps) (hd : fd.defaults = .none) (nd : ps.Nodup) (I : L2.Inv X pins σ H s) (r : Vals vs us) (h : sp vs H Q (EX X σ)) :
    codeAny (model X.prog X.w) X.A (.call (.ref f) ⟨us, []⟩) (fun r s' => match r with | .ok (.ret v) => EP X pins σ Q v s' | .ok _ => False | .error e => X.xe e s') s := by
  have hl : us.length = ps.length := by rw [← r.length]; exact F.len _ _ _ _ h
  refine codeAny_mono (F.run X.A X.stack s H ⟨us, []⟩ us vs Q (EX X σ) hr I.env0 (.of_eq (bind_plain hp hd nd us hl)) r h) fun r s' hq => ?_
  cases r with
  | error e => exact xe_call I hq
  | ok fl =>
    cases fl with
    | ret u => exact I.after hq
    | next => exact False.elim hq
    | brk => exact False.elim hq
    | cont => exact False.elim hq
theorem snd_cm {e : Expr} {es : List Expr} {ms : List ME} {c0 m : Nat} {p apos pos : Pos} (c : Cxt nm P cl gl X) (hk : (gl.c c0 m).isSome = true) (hg : Gl X (nm c0)) (hdb : ((nm c0) == ("__debug__" : Str)) = false) (hs : (e :: es).all noStar = true) (hl : (e :: es).length < 30) (hp : (apos.endLine == pos.line) = true)
    (ha : PA X (e :: es) (tXs cl gl X ms)) : PE X (.Call (.Attribute (.Name (nm c0) p) (nm m) apos) (e :: es) [] pos) (tX cl gl X (.cm c0 m ms)) := by
  obtain ⟨f, hf0⟩ := Option.isSome_iff_exists.mp hk
  obtain ⟨ct, mf, hf, hkd⟩ := c.ct c0 m f hf0
  obtain ⟨n, fd, h2, h3, h4, h5, hr, F⟩ := (c.fn f mf hf).met hkd
  obtain ⟨mc, pa, cr, cmm⟩ := ct.cm
  have ht := meth_eval (o := .Name (nm c0) p) (m := nm m) (env := X.env) rfl hs hl hp
  have hs' := hs
  simp only [List.all_cons, Bool.and_eq_true] at hs'
  constructor
  intro pins s σ H Q I h
  obtain ⟨F0, R, fr, S, rs, rf, k⟩ := h
  simp only [ev, hf0] at k
  have k : OutG X.K F0 R H (fun F R _ v d => Rep X.K F R v d) Q (EX X σ) ((evs cl gl fr ms S).bindX fun xs S => cl f (.cls c0 :: xs) S) := k
  refine PySem.W.methodCall_KW (pl := _) (ld_glob I hg ct.mg ?_ hdb) ht
  refine ClX.getmethcm_ok I cr cmm fun s2 I2 => ?_
  refine ClX.callwith_cm I2 (ClX.base_none I (Nat.le_refl _)) cmm.fi (thn (ha.run pos _ s2 σ H (fun vs H2 => spF X.K cl f (.ref (CA.ca c0) :: vs) H2 Q (EX X σ)) I2 (evs_in rs rf k fun F2 R2 H2 vs xs S3 n2 rs2 rvs _ k2 => ⟨F2, R2, S3, .cls c0 :: xs, rs2, .cons (.cls c0 ct.tc) rvs, k2⟩)) ?_) (star_cons hs'.1) (star_plain hs'.2)
  rintro us s3 ⟨vs, H2, I3, rv, q⟩
  refine ⟨⟨ClX.pin_at I3, I3.kIn⟩, ?_⟩
  have z : wpAny (model X.prog X.w) X.A (call (.ref s.heap.objs.size) us) (EP X ((s.heap.objs.size, PySem.W.methodObj (.ref (CA.fa f)) (.ref (CA.ca c0))) :: pins) σ Q) X.xe s3 :=
    wpAny_call (PySem.W.method_call (ClX.pin_at I3) (run_codeG (us := .ref (CA.ca c0) :: us) (vs := .ref (CA.ca c0) :: vs) F (hr.mono (by omega)) h3 h4 h5 I3 (.cons rfl rv) q))
  exact thn z fun _ _ y => ClX.unpinE y
/-! ### keywords -/
theorem meth_evalK {o : Expr} {m : Str} {args : List Expr} {kws : List Keyword} {apos pos : Pos} {env : Env} (h1 : noSup o = true) (h2 : args.all noStar = true) (hk : (backToKw pos (keywordEach kws env)).all (·.1.isSome) = true) (h3 : args.length + kws.length + 1 < 30) (h4 : (apos.endLine == pos.line) = true) :
    eval (.Call (.Attribute o m apos) args kws pos) env = (do
      let ov ← eval o env
      standAt apos.atName
      let (f, first) ← holding [ov] (getMethod ov m (do return (← importBound o env).getD true))
      callWith pos f first (backTo pos (starEach args env)) (backToKw pos (keywordEach kws env))) := by
  rw [arm_eval_Call, base_eq h1]
  have hs : ∀ (l : List Expr), l.all noStar = true → (backTo pos (starEach l env)).all (fun x => !x.1) = true := by
    intro l
    induction l with
    | nil => intro _; rfl
    | cons e es ih =>
      intro h
      simp only [List.all_cons, Bool.and_eq_true] at h
      rw [star_cons h.1]
      show ((!false) && (backTo pos (starEach es env)).all (fun x => !x.1)) = true
      rw [ih h.2]; rfl
  have hform : methodCallForm (args.length + kws.length) (backTo pos (starEach args env)) (backToKw pos (keywordEach kws env)) = true := by
    unfold methodCallForm
    rw [hs args h2, hk]
    simp only [Bool.true_and, decide_eq_true_eq]
    split <;> omega
  unfold methodCall
  rw [hform]
  have hpos : methodCallPos true o env apos pos = pure pos := by
    unfold methodCallPos
    rw [h4]; rfl
  rw [hpos]
  simp only [pure_bind]
  rfl
theorem kw_len : ∀ {kws : List Keyword}, kws.all (·.arg.isSome) = true → kws.length = (kwNames kws).length
  | [], _ => rfl
  | q :: kws, h => by
    simp only [List.all_cons, Bool.and_eq_true] at h
    obtain ⟨n, hn⟩ := Option.isSome_iff_exists.mp h.1
    show kws.length + 1 = (List.filterMap (·.arg) (q :: kws)).length
    rw [List.filterMap_cons_some (by exact hn), List.length_cons, kw_len h.2]
    rfl
/-- the arguments, then the keywords -/
theorem run_kw {pins : List (Addr × Obj)} {σ : L2.St} {H : Hp} {s : Shared} {es : List Expr} {kws : List Keyword} {t : TA} {pos : Pos} {g : Value} {Q : Args → Shared → Prop} {Q0 : List V → Hp → Prop} (ha : PA X es t) (hs : es.all noStar = true) (hall : (backToKw pos (keywordEach kws X.env)).all (·.1.isSome) = true) (h : t σ H Q0) (h0 : es = [] → Q0 [] H) (I : Inv X pins σ H s)
    (k : ∀ us s1 vs H1, Inv X pins σ H1 s1 → Vals vs us → Q0 vs H1 → wpAny (model X.prog X.w) X.A (evalAll ((backToKw pos (keywordEach kws X.env)).map (·.2))) (fun ks s₂ => Q ⟨us, ((backToKw pos (keywordEach kws X.env)).filterMap (·.1)).zip ks⟩ s₂) X.xe s1) :
    wpAny (model X.prog X.w) X.A (evalArgs g true (backTo pos (starEach es X.env)) (backToKw pos (keywordEach kws X.env))) Q X.xe s := by
  cases es with
  | nil => exact PyProof.Rows.evalArgs_kw2_nil hall (k [] s [] H I .nil (h0 rfl))
  | cons e es =>
    simp only [List.all_cons, Bool.and_eq_true] at hs
    refine PyProof.Rows.evalArgs_kw2 hall (thn (ha.run pos pins s σ H _ I h) ?_) (star_cons hs.1)
    rintro us s1 ⟨vs, H1, I1, r, q⟩
    exact k us s1 vs H1 I1 r q
theorem tXs_nil {σ : L2.St} {H : Hp} {ms : List ME} {Q : List V → Hp → Prop} (hm : ms = []) (h : tXs cl gl X ms σ H Q) : Q [] H := by
  subst hm
  obtain ⟨F, R, fr, S, rs, rf, k⟩ := h
  simp only [evs] at k
  exact k F R H [] .refl rs .nil
theorem len_nil {α β : Type} {es : List α} {ms : List β} (h : es.length = ms.length) (e : es = []) : ms = [] := by
  subst e
  cases ms with
  | nil => rfl
  | cons => simp at h
theorem kw_hpl {es : List Expr} {kws : List Keyword} {pos : Pos} (h2 : es.all noStar = true) (g3 : (backToKw pos (keywordEach kws X.env)).any (·.1.isNone) = false) : ((backTo pos (starEach es X.env)).any (·.1) || (backToKw pos (keywordEach kws X.env)).any (·.1.isNone)) = false := by
  rw [star_plain h2, g3]; rfl
theorem snd_vmK {oe : Expr} {es : List Expr} {kws : List Keyword} {a : ME} {ms vs : List ME} {ks : List Nat} {f m : Nat} {mf : MF} {apos pos : Pos} (c : Cxt nm P cl gl X) (hf : P.lookup f = some mf) (hn : noSup oe = true) (hs : es.all noStar = true) (hl : es.length + kws.length + 1 < 30) (hml : es.length = ms.length) (hp : (apos.endLine == pos.line) = true)
    (he : PE X oe (tX cl gl X a)) (ha : PA X es (tXs cl gl X ms)) (hk : PK X kws (tXs cl gl X vs)) (hkl : kws.length = vs.length) (hsome : kws.all (·.arg.isSome) = true) (hc : kwC (mf.names.take mf.ps) (ms.length + 1) (kwNames kws) ks = true) :
    PE X (.Call (.Attribute oe (nm m) apos) es kws pos) (tX cl gl X (.vmK f m a ms ks vs)) := by
  obtain ⟨g1, g2, g3⟩ := kws_some (env := X.env) (pos := pos) hsome
  have ht := meth_evalK (m := nm m) (env := X.env) hn hs g1 hl hp
  have key0 := recv_raises (pl := _) he ht
  constructor
  intro pins s σ H Q I h
  obtain ⟨F0, R, fr, S, rs, rf, k⟩ := h
  simp only [ev] at k
  cases e1 : ev cl gl fr a S with
  | exc x S1 =>
    rw [e1] at k
    exact key0.run pins s σ H Q I ⟨F0, R, fr, S, rs, rf, by rw [e1]; exact k⟩
  | bad => rw [e1] at k; exact k.elim
  | ok x S2 =>
    rw [e1] at k
    have k : OutG X.K F0 R H (fun F R _ v d => Rep X.K F R v d) Q (EX X σ) ((opt ((clsO S2 x).bind fun c => gl.m c m) S2).bind fun f' S => if f' = f then (evs cl gl fr ms S).bindX fun xs S => (evs cl gl fr vs S).bindX fun ys S => cl f (x :: (xs ++ ks.map fun k => ys.getD k .non)) S else .bad) := k
    cases hcc : clsO S2 x with
    | none => rw [hcc] at k; exact k.elim
    | some c0 =>
      rw [hcc] at k
      cases e3 : gl.m c0 m with
      | none => rw [Option.bind_some, e3] at k; exact k.elim
      | some f' =>
        rw [Option.bind_some, e3] at k
        have k : OutG X.K F0 R H (fun F R _ v d => Rep X.K F R v d) Q (EX X σ) (if f' = f then (evs cl gl fr ms S2).bindX fun xs S => (evs cl gl fr vs S).bindX fun ys S => cl f (x :: (xs ++ ks.map fun k => ys.getD k .non)) S else .bad) := k
        by_cases hff : f' = f
        · subst hff
          rw [if_pos rfl] at k
          obtain ⟨mt, mf', hf', hkd⟩ := c.mt c0 m f' e3
          rw [hf] at hf'; cases hf'
          obtain ⟨n, fd, h2, h3, h4, h5, hr, F⟩ := (c.fn f' mf hf).met hkd
          have ce := ce_fn F (hr.mono (by omega)) h2 h3 h4 h5
          refine PySem.W.methodCall_KW (pl := _) (thn (he.run pins s σ H (fun v H1 => ∃ F1 R1, Nxt F0 R H F1 R1 H1 ∧ RelS X.K F1 R1 H1 S2 ∧ Rep X.K F1 R1 v x) I ⟨F0, R, fr, S, rs, rf, by rw [e1]; exact fun F1 R1 H1 v n1 rs1 rv => ⟨F1, R1, n1, rs1, rv⟩⟩) ?_) ht
          rintro u s1 ⟨v, H1, I1, rx, F1, R1, n1, rs1, rv⟩
          obtain ⟨ad, dx, ws, ds, rfl, i1, i2, i3, i4⟩ := ins_of rs1 rv hcc
          obtain rfl : u = Value.ref ad := rx
          refine getm_ok I1 (meth_at (c.b.cf _ i3) mt i1) ?_
          have kk : OutG X.K F1 R1 H1 (fun F R _ v d => Rep X.K F R v d) Q (EX X σ) ((evs cl gl fr ms S2).bindX fun xs S => (evs cl gl fr vs S).bindX fun ys S => cl f' (x :: (xs ++ ks.map fun k => ys.getD k .non)) S) := OutG.nxt k n1
          have hin : tXs cl gl X ms σ H1 (fun vs2 H2 => vs2.length = ms.length ∧ tXs cl gl X vs σ H2 fun zs H3 => zs.length = vs.length ∧ spF X.K cl f' (.ref ad :: kwV .non ks vs2 zs) H3 Q (EX X σ)) :=
            evs_in rs1 (rf.nxt n1) kk fun F2 R2 H2 vs2 xs S3 n2 rs2 ra hl2 k2 => ⟨by rw [ra.length, hl2], evs_in rs2 ((rf.nxt n1).nxt n2) k2 fun F3 R3 H3 zs ys S4 n3 rs3 rz hl3 k3 => ⟨by rw [rz.length, hl3], F3, R3, S4, x :: (xs ++ ks.map fun k => ys.getD k .non), rs3, .cons ((rv.mono n2.f n2.r).mono n3.f n3.r) (rep_kw (ra.mono n3.f n3.r) rz ks), k3⟩⟩
          refine PySem.W.callWith_of (P := fun h => X.K.In h) (kw_hpl hs g3) (PySem.W.keeps_K ce.kp) (run_kw ha hs g1 hin (fun e => tXs_nil (len_nil hml e) hin) I1 ?_)
          rintro us s2 vs2 H2 I2 rvs ⟨hlx, hin2⟩
          refine thn (hk.run pos pins s2 σ H2 _ I2 hin2) ?_
          rintro ks2 s3 ⟨zs, H3, I3, rzs, hlz0, q⟩
          refine ⟨I3.kIn, ?_⟩
          rw [g2]
          have hlz : ks2.length = (kwNames kws).length := by rw [← rzs.length, hlz0, ← hkl]; exact kw_len hsome
          refine ce.run I3 (us := .ref ad :: us) (.inr ⟨kwNames kws, ks, ks2, ?_, rfl, hlz, rfl⟩) (vs := .ref ad :: kwV .non ks vs2 zs) (.cons rfl (vals_kwV rvs rzs ks)) q
          rw [List.length_cons, ← rvs.length, hlx]; exact hc
        · rw [if_neg hff] at k; exact k.elim
theorem snd_cmK {es : List Expr} {kws : List Keyword} {ms vs : List ME} {ks : List Nat} {c0 m f : Nat} {mf : MF} {p apos pos : Pos} (c : Cxt nm P cl gl X) (hf0 : gl.c c0 m = some f) (hf : P.lookup f = some mf) (hg : Gl X (nm c0)) (hdb : ((nm c0) == ("__debug__" : Str)) = false) (hs : es.all noStar = true) (hl : es.length + kws.length + 1 < 30) (hml : es.length = ms.length) (hp : (apos.endLine == pos.line) = true)
    (ha : PA X es (tXs cl gl X ms)) (hk : PK X kws (tXs cl gl X vs)) (hkl : kws.length = vs.length) (hsome : kws.all (·.arg.isSome) = true) (hc : kwC (mf.names.take mf.ps) (ms.length + 1) (kwNames kws) ks = true) :
    PE X (.Call (.Attribute (.Name (nm c0) p) (nm m) apos) es kws pos) (tX cl gl X (.cmK c0 m ms ks vs)) := by
  obtain ⟨ct, mf', hf', hkd⟩ := c.ct c0 m f hf0
  rw [hf] at hf'; cases hf'
  obtain ⟨n, fd, h2, h3, h4, h5, hr, F⟩ := (c.fn f mf hf).met hkd
  obtain ⟨mc, pa, cr, cmm⟩ := ct.cm
  obtain ⟨g1, g2, g3⟩ := kws_some (env := X.env) (pos := pos) hsome
  have ht := meth_evalK (o := .Name (nm c0) p) (m := nm m) (env := X.env) rfl hs g1 hl hp
  constructor
  intro pins s σ H Q I h
  obtain ⟨F0, R, fr, S, rs, rf, k⟩ := h
  simp only [ev, hf0] at k
  have k : OutG X.K F0 R H (fun F R _ v d => Rep X.K F R v d) Q (EX X σ) ((evs cl gl fr ms S).bindX fun xs S => (evs cl gl fr vs S).bindX fun ys S => cl f (.cls c0 :: (xs ++ ks.map fun k => ys.getD k .non)) S) := k
  refine PySem.W.methodCall_KW (pl := _) (ld_glob I hg ct.mg ?_ hdb) ht
  refine ClX.getmethcm_ok I cr cmm fun s2 I2 => ?_
  have hin : tXs cl gl X ms σ H (fun vs2 H2 => vs2.length = ms.length ∧ tXs cl gl X vs σ H2 fun zs H3 => zs.length = vs.length ∧ spF X.K cl f (.ref (CA.ca c0) :: kwV .non ks vs2 zs) H3 Q (EX X σ)) :=
    evs_in (g := fun xs S => (evs cl gl fr vs S).bindX fun ys S => cl f (.cls c0 :: (xs ++ ks.map fun k => ys.getD k .non)) S) rs rf k fun F2 R2 H2 vs2 xs S3 n2 rs2 ra hl2 k2 => ⟨by rw [ra.length, hl2], evs_in rs2 (rf.nxt n2) k2 fun F3 R3 H3 zs ys S4 n3 rs3 rz hl3 k3 => ⟨by rw [rz.length, hl3], F3, R3, S4, .cls c0 :: (xs ++ ks.map fun k => ys.getD k .non), rs3, .cons (.cls c0 ct.tc) (rep_kw (ra.mono n3.f n3.r) rz ks), k3⟩⟩
  refine PySem.W.callWith_of (P := PySem.W.MethP X.K s.heap.objs.size (CA.fa f) (.ref (CA.ca c0))) (kw_hpl hs g3) (PySem.W.keeps_M cmm.fi) (run_kw ha hs g1 hin (fun e => tXs_nil (len_nil hml e) hin) I2 ?_)
  rintro us s3 vs2 H2 I3 rvs ⟨hlx, hin2⟩
  refine thn (hk.run pos _ s3 σ H2 _ I3 hin2) ?_
  rintro ks2 s4 ⟨zs, H3, I4, rzs, hlz0, q⟩
  refine ⟨⟨ClX.pin_at I4, I4.kIn⟩, ?_⟩
  rw [g2]
  have hlz : ks2.length = (kwNames kws).length := by rw [← rzs.length, hlz0, ← hkl]; exact kw_len hsome
  have z : wpAny (model X.prog X.w) X.A (call (.ref s.heap.objs.size) us ((kwNames kws).zip ks2)) (EP X ((s.heap.objs.size, PySem.W.methodObj (.ref (CA.fa f)) (.ref (CA.ca c0))) :: pins) σ Q) X.xe s4 := by
    have hb := bind_k (us := Value.ref (CA.ca c0) :: us) (fd := fd) h3 h4 hc ks2 (by rw [List.length_cons, ← rvs.length, hlx]) hlz
    refine wpAny_call (PySem.W.method_call (ClX.pin_at I4) (codeAny_mono (F.run X.A X.stack s4 H3 ⟨Value.ref (CA.ca c0) :: us, (kwNames kws).zip ks2⟩ (Value.ref (CA.ca c0) :: kwV .none ks us ks2) (.ref (CA.ca c0) :: kwV .non ks vs2 zs) Q (EX X σ) (hr.mono (by omega)) I4.env0 (.of_eq hb) (.cons rfl (vals_kwV rvs rzs ks)) q) fun r s' hq => ?_))
    match r, hq with
    | .error e, hq => exact xe_call I4 hq
    | .ok (.ret u), hq => exact I4.after hq
  exact thn z fun _ _ y => ClX.unpinE y
/-! ### stars -/
def tEv (cl : Nat → List D → Sto → Out D) (gl : GL) (K : PySem.W.Frag) (bs : List Bool) (ms : List ME) : TA := fun σ H Q => Stp K (fun fr S => evS cl gl fr bs ms S) (fun F R v d => RepAll K F R v d) σ H Q
theorem snd_s0 : PA X [] (tEv cl gl X.K [] []) := by
  refine PA.imp pa_nil fun σ H Q h => ?_
  obtain ⟨F, R, fr, S, d, S', rs, rf, he, k⟩ := h
  simp only [evS] at he
  cases he
  exact k F R H _ .refl rs .nil
theorem snd_sp {e : Expr} {es : List Expr} {m : ME} {bs : List Bool} {ms : List ME} (hs : noStar e = true) (h : PE X e (tE cl gl X.K m)) (t : PA X es (tEv cl gl X.K bs ms)) : PA X (e :: es) (tEv cl gl X.K (false :: bs) (m :: ms)) := by
  refine PA.imp (pa_cons h t (star_cons hs)) fun σ H Q h => ?_
  obtain ⟨F, R, fr, S, d, S', rs, rf, he, k⟩ := h
  simp only [evS] at he
  obtain ⟨x, S1, e1, he1⟩ := bind_ok he
  obtain ⟨ys, S2, e2, he2⟩ := bind_ok he1
  cases e2
  obtain ⟨xs, S3, e3, he3⟩ := bind_ok he2
  cases he3
  exact ⟨F, R, fr, S, x, _, rs, rf, e1, fun F1 R1 H1 v n1 rs1 rv => ⟨F1, R1, fr, _, xs, _, rs1, rf.nxt n1, e3, fun F2 R2 H2 ws n2 rs2 rw' => k F2 R2 H2 _ (n1.trans n2) rs2 (.cons (rv.mono n2.f n2.r) rw')⟩⟩
theorem rdA_ok {K : PySem.W.Frag} {F H : Hp} {R : List Addr} {S : Sto} {v : V} {d : D} {xs : List D} (rs : RelS K F R H S) (r : Rep K F R v d) (h : rdA S d = some xs) :
    ∃ a vs, v = .ref a ∧ (SqT K H a vs ∨ SqL K H a vs) ∧ RepAll K F R vs xs := by
  cases r with
  | tup ha ra => cases h; exact ⟨_, _, rfl, .inl (same_t rs.fh ha), ra⟩
  | lst ha ra =>
    obtain ⟨a, vs, e, h1, h2⟩ := rdL_ok rs (.lst ha ra) h
    exact ⟨a, vs, e, .inr h1, h2⟩
  | scr ha =>
    obtain ⟨a, vs, e, h1, h2⟩ := rdL_ok rs (.scr ha) h
    exact ⟨a, vs, e, .inr h1, h2⟩
  | obj ha =>
    obtain ⟨a, vs, e, h1, h2⟩ := rdL_ok rs (.obj ha) h
    exact ⟨a, vs, e, .inr h1, h2⟩
  | _ => cases h
theorem snd_ss {e : Expr} {es : List Expr} {m : ME} {bs : List Bool} {ms : List ME} {p : Pos} (h : PE X e (tE cl gl X.K m)) (t : PA X es (tEv cl gl X.K bs ms)) : PA X (.Starred e p :: es) (tEv cl gl X.K (true :: bs) (m :: ms)) := by
  refine PA.imp (StX.pa_star h t) fun σ H Q h => ?_
  obtain ⟨F, R, fr, S, d, S', rs, rf, he, k⟩ := h
  simp only [evS] at he
  obtain ⟨x, S1, e1, he1⟩ := bind_ok he
  obtain ⟨ys, S2, e2, he2⟩ := bind_ok he1
  obtain ⟨e2', eS⟩ := opt_ok e2
  subst eS
  obtain ⟨xs, S3, e3, he3⟩ := bind_ok he2
  cases he3
  refine ⟨F, R, fr, S, x, _, rs, rf, e1, fun F1 R1 H1 v n1 rs1 rv => ?_⟩
  obtain ⟨a, vs, rfl, h1, h2⟩ := rdA_ok rs1 rv e2'
  exact ⟨a, vs, rfl, h1, F1, R1, fr, _, xs, _, rs1, rf.nxt n1, e3, fun F2 R2 H2 ws n2 rs2 rw' => k F2 R2 H2 _ (n1.trans n2) rs2 ((h2.mono n2.f n2.r).append rw')⟩
theorem snd_tupS {es : List Expr} {bs : List Bool} {ms : List ME} {k1 : Nat} {pos : Pos} (h : PA X es (tEv cl gl X.K bs ms)) : PE X (.Tuple es k1 pos) (tE cl gl X.K (.tupS bs ms)) := by
  refine PE.imp (pe_tup h) fun σ H Q h => ?_
  obtain ⟨F, R, fr, S, d, S', rs, rf, he, k⟩ := h
  simp only [ev] at he
  obtain ⟨xs, S1, e1, he1⟩ := bind_ok he
  split at he1
  · rename_i hl
    cases he1
    refine ⟨F, R, fr, S, xs, _, rs, rf, e1, fun F1 R1 H1 vs n1 rs1 rv => ⟨by rw [rv.length]; exact hl, fun p hp => ?_⟩⟩
    have n : Nw X.K F1 R1 H1 (upd F1 p (.tup vs)) (upd H1 p (.tup vs)) := Nw.one hp rs1.fh
    exact k _ R1 _ _ (n1.trans n.1) (n.2 _ rs1) (.tup (SqT.of upd_same) (rv.mono n.1.f n.1.r))
  · cases he1
theorem snd_lstS {es : List Expr} {bs : List Bool} {ms : List ME} {pos : Pos} (h : PA X es (tEv cl gl X.K bs ms)) : PE X (.List es pos) (tE cl gl X.K (.lstS bs ms)) := by
  refine PE.imp (pe_lst h) fun σ H Q h => ?_
  obtain ⟨F, R, fr, S, d, S', rs, rf, he, k⟩ := h
  simp only [ev] at he
  obtain ⟨xs, S1, e1, he1⟩ := bind_ok he
  split at he1
  · rename_i hl
    cases he1
    refine ⟨F, R, fr, S, xs, _, rs, rf, e1, fun F1 R1 H1 vs n1 rs1 rv => ⟨by rw [rv.length]; exact hl, fun p hp => ?_⟩⟩
    have n : Nw X.K F1 R1 H1 (upd F1 p (.lst vs)) (upd H1 p (.lst vs)) := Nw.one hp rs1.fh
    exact k _ R1 _ _ (n1.trans n.1) (n.2 _ rs1) (.lst upd_same (rv.mono n.1.f n.1.r))
  · cases he1
theorem evS_len {fr : Frm} : ∀ {bs : List Bool} {ms : List ME} {S S' : Sto} {xs : List D}, evS cl gl fr bs ms S = .ok xs S' → bs.length = ms.length
  | [], [], _, _, _, _ => rfl
  | [], _ :: _, _, _, _, h => by simp [evS] at h
  | _ :: _, [], _, _, _, h => by simp [evS] at h
  | b :: bs, m :: ms, _, _, _, h => by
    simp only [evS] at h
    obtain ⟨x, S1, e1, he1⟩ := bind_ok h
    obtain ⟨ys, S2, e2, he2⟩ := bind_ok he1
    obtain ⟨xs, S3, e3, he3⟩ := bind_ok he2
    rw [List.length_cons, List.length_cons, evS_len e3]
/-- two arguments at least -/
theorem snd_callS {f : Nat} {mf : MF} {e e2 : Expr} {es : List Expr} {bs : List Bool} {ms : List ME} {b1 b2 : Bool} {x1 x2 : Sem Value} {r : List (Bool × Sem Value)} {p pos : Pos} (c : Cxt nm P cl gl X) (hf : P.lookup f = some mf) (htp : mf.kind.top = true) (hg : Gl X (nm f)) (hdb : ((nm f) == ("__debug__" : Str)) = false)
    (ha : PA X (e :: e2 :: es) (tEv cl gl X.K bs ms)) (he : starEach (e :: e2 :: es) X.env = (b1, x1) :: (b2, x2) :: r) (hst : (backTo pos (starEach (e :: e2 :: es) X.env)).any (·.1) = true) : PE X (.Call (.Name (nm f) p) (e :: e2 :: es) [] pos) (tE cl gl X.K (.callS f bs ms)) := by
  obtain ⟨u, h1, F⟩ := (c.fn f mf hf).ce htp
  refine PE.imp (pe_ceS F hg h1 ha hdb he hst) fun σ H Q h => ?_
  obtain ⟨F, R, fr, S, d, S', rs, rf, he, k⟩ := h
  simp only [ev] at he
  obtain ⟨xs, S1, e1, he1⟩ := bind_ok he
  exact ⟨F, R, fr, S, xs, S1, rs, rf, e1, fun F1 R1 H1 vs n1 rs1 rv => spF_ok rs1 rv (nox_ok he1) fun F2 R2 H2 v n2 rs2 rv2 => k F2 R2 H2 v (n1.trans n2) rs2 rv2⟩
theorem snd_callS1 {f : Nat} {mf : MF} {e : Expr} {m : ME} {p p2 pos : Pos} (c : Cxt nm P cl gl X) (hf : P.lookup f = some mf) (htp : mf.kind.top = true) (hg : Gl X (nm f)) (hdb : ((nm f) == ("__debug__" : Str)) = false)
    (he : PE X e (tE cl gl X.K m)) : PE X (.Call (.Name (nm f) p) [.Starred e p2] [] pos) (tE cl gl X.K (.callS f [true] [m])) := by
  obtain ⟨u, h1, F⟩ := (c.fn f mf hf).ce htp
  refine PE.imp (pe_ceS1 F hg h1 he hdb) fun σ H Q h => ?_
  obtain ⟨F, R, fr, S, d, S', rs, rf, he, k⟩ := h
  simp only [ev, evS] at he
  obtain ⟨zs, S1, e1, he1⟩ := bind_ok he
  obtain ⟨x, S2, e2, e1'⟩ := bind_ok e1
  obtain ⟨ys, S3, e3, e1''⟩ := bind_ok e1'
  obtain ⟨e4, eS⟩ := opt_ok e3
  subst eS
  cases e1''
  refine ⟨F, R, fr, S, x, _, rs, rf, e2, fun F1 R1 H1 v n1 rs1 rv => ?_⟩
  obtain ⟨a, vs, rfl, h1, h2⟩ := rdA_ok rs1 rv e4
  rw [List.append_nil] at he1
  exact ⟨a, vs, rfl, h1, spF_ok rs1 h2 (nox_ok he1) fun F2 R2 H2 v n2 rs2 rv2 => k F2 R2 H2 v (n1.trans n2) rs2 rv2⟩
end
end Mn
/-! special methods, texts, walks, the bodies of __init__ -/
namespace Mn
open PySem PySem.Spec PyProof.Rows L2 RZ
variable [CA]
section
variable {nm : Nat → Str} {P : List (Nat × MF)} {cl : Nat → List D → Sto → Out D} {gl : GL} {X : Cx} {fuel : Nat}
/-! ### len, str, repr of an instance -/
theorem run_in {A' : Around} {k : Nat} {f : Addr} {fd : FuncData} {ps : List Str} {sp : Sq} {pins : List (Addr × Obj)} {σ : L2.St} {H : Hp} {s : Shared} {Q : VK} {E : Value → Shared → Prop} {us : List Value} {vs : List V} (F : FnG X.prog X.w X.K X.mg X.base k f fd ps sp) (hr : RoomG k A') (hp : PlainP fd.params ps) (hd : fd.defaults = .none) (nd : ps.Nodup)
    (I : L2.Inv X pins σ H s) (e0 : Env0 X.prog X.w X.K X.mg X.base A' X.stack s H) (r : Vals vs us) (h : sp vs H Q fun _ _ _ => False) : wpAny (model X.prog X.w) A' (call (.ref f) us) (EP X pins σ Q) E s := by
  have hl : us.length = ps.length := by rw [← r.length]; exact F.len _ _ _ _ h
  refine wpAny_call (codeAny_mono (F.run A' X.stack s H ⟨us, []⟩ us vs Q _ hr e0 (.of_eq (bind_plain hp hd nd us hl)) r h) fun r s' hq => ?_)
  cases r with
  | error e =>
    obtain ⟨_, _, _, _, _, _, _, _, _, _, _, _, z⟩ := hq
    exact z.elim
  | ok fl =>
    cases fl with
    | ret u => exact I.after hq
    | next => exact False.elim hq
    | brk => exact False.elim hq
    | cont => exact False.elim hq
theorem insAt_inst {pins : List (Addr × Obj)} {σ : L2.St} {H : Hp} {s : Shared} {a dx : Addr} {c : Nat} {ws : List V} (I : L2.Inv X pins σ H s) (hi : InsAt H a dx c ws) : ∃ ox od, PySem.W.InstAt s.heap a ox (CA.ca c) (some od) := by
  cases hsl : CA.sl c with
  | false =>
    obtain ⟨mA, O, _⟩ := ins_get I.hok (insAt_dct hi hsl)
    obtain ⟨od, J, _⟩ := O.look
    exact ⟨_, od, J⟩
  | true =>
    obtain ⟨sl, od, _, J, _⟩ := SlX.slt_inst I (insAt_slt hi hsl)
    exact ⟨_, od, J⟩
theorem snd_dun {b : Bi} {e : Expr} {a : ME} {m : Nat} {p pos : Pos} (c : Cxt nm P cl gl X) (hb : (b = .len ∧ nm m = "__len__") ∨ (b = .str ∧ nm m = "__str__") ∨ (b = .repr ∧ nm m = "__repr__")) (hg : Gl X (nBi b)) (hs : noStar e = true) (he : PE X e (tE cl gl X.K a)) :
    PE X (.Call (.Name (nBi b) p) [e] [] pos) (tE cl gl X.K (.dun m b a)) := by
  have hst : starEach [e] X.env = [(false, eval e X.env)] := star_cons hs
  have ha : PA X [e] (tEs cl gl X.K [a]) := snd_cons hs he snd_nil
  constructor
  intro pins s σ H Q I h
  obtain ⟨F, R, fr, S, d, S', rs, rf, hev, k⟩ := h
  simp only [ev] at hev
  obtain ⟨x, S1, e1, hev1⟩ := bind_ok hev
  have e1s : evs cl gl fr [a] S = .ok [x] S1 := by simp only [evs, e1]; rfl
  cases hc : clsO S1 x with
  | none =>
    simp only [hc] at hev1
    refine (snd_blt c hg (by simp [hs]) ha).run pins s σ H Q I ⟨F, R, fr, S, d, S', rs, rf, ?_, k⟩
    simp only [ev, e1s]
    exact hev1
  | some c0 =>
    simp only [hc] at hev1
    obtain ⟨f, S2, e2, hev2⟩ := bind_ok hev1
    obtain ⟨e3, eS⟩ := opt_ok e2
    subst eS
    obtain ⟨r, S3, e4, hev3⟩ := bind_ok hev2
    split at hev3
    · rename_i hok
      cases hev3
      obtain ⟨mt, mf, hf, hk⟩ := c.mt c0 m f e3
      obtain ⟨n, fd, h2, h3, h4, h5, hr, FF⟩ := (c.fn f mf hf).met hk
      have run := (ha.run pos pins s σ H (fun vs H1 => ∃ F1 R1 v, vs = [v] ∧ Nxt F R H F1 R1 H1 ∧ RelS X.K F1 R1 H1 S2 ∧ Rep X.K F1 R1 v x) I ⟨F, R, fr, S, [x], S2, rs, rf, e1s, fun F1 R1 H1 v n1 rs1 rv => by
        obtain ⟨w, rfl, rw1⟩ := reps1 rv
        exact ⟨F1, R1, w, rfl, n1, rs1, rw1⟩⟩)
      have go : ∀ (A' : Around), A' = X.A.in1 ∨ A' = X.A.in1.in1 → ∀ (us : List Value) (s1 : Shared) (vs : List V) (H1 : Hp), L2.Inv X pins σ H1 s1 → Vals vs us → (∃ F1 R1 v, vs = [v] ∧ Nxt F R H F1 R1 H1 ∧ RelS X.K F1 R1 H1 S2 ∧ Rep X.K F1 R1 v x) →
          ∃ ad ox od, us = [.ref ad] ∧ PySem.W.InstAt s1.heap ad ox (CA.ca c0) (some od) ∧ wpAny (model X.prog X.w) A' (call (.ref (CA.fa f)) us) (EP X pins σ fun v H2 => (∃ w, v = w ∧ Q v H2) ∧ ∃ F2 R2, Rep X.K F2 R2 v d) X.xe s1 := by
        rintro A' hA us s1 vs H1 I1 rvs ⟨F1, R1, v, rfl, n1, rs1, rv⟩
        obtain ⟨ad, dx, ws, ds, rfl, g1, g2, g3, g4⟩ := ins_of rs1 rv hc
        obtain ⟨u, rfl, ru⟩ := rvs.one
        obtain rfl : u = Value.ref ad := ru
        obtain ⟨ox, od, J⟩ := insAt_inst I1 g1
        refine ⟨ad, ox, od, rfl, J, ?_⟩
        have hr1 : RoomG (n + 2) X.A.in1 := ⟨hr.rm.in1, hr.gd⟩
        have hr2 : RoomG (n + 1) X.A.in1.in1 := ⟨hr1.rm.in1, hr.gd⟩
        have q : spF X.K cl f [.ref ad] H1 (fun v H2 => (∃ w, v = w ∧ Q v H2) ∧ ∃ F2 R2, Rep X.K F2 R2 v d) (fun _ _ _ => False) := spF_ok rs1 (.cons rv .nil) e4 fun F2 R2 H2 w n2 rs2 rw2 => ⟨⟨w, rfl, k F2 R2 H2 w (n1.trans n2) rs2 rw2⟩, F2, R2, rw2⟩
        rcases hA with rfl | rfl
        · exact run_in (vs := [V.ref ad]) FF (hr1.mono (by omega)) h3 h4 h5 I1 I1.env0.in1 (.cons rfl .nil) q
        · exact run_in (vs := [V.ref ad]) FF (hr2.mono (by omega)) h3 h4 h5 I1 I1.env0.in1.in1 (.cons rfl .nil) q
      have hun := hr.rm.un
      rcases hb with ⟨rfl, hm⟩ | ⟨rfl, hm⟩ | ⟨rfl, hm⟩
      · refine wpAny_Call_Name_kw (ld_blt I hg (c.bi _) boot_len ?_ (by decide) (by decide))
        refine PyProof.Rows.callWith_builtin1 (thn run ?_) hst rfl
        rintro us s1 ⟨vs, H1, I1, rvs, q⟩
        obtain ⟨ad, ox, od, rfl, J, z⟩ := go _ (.inl rfl) us s1 vs H1 I1 rvs q
        obtain ⟨m', hF⟩ := I1.fr
        have hs1 := mt.me.at_
        rw [hm] at hs1
        refine PySem.W.len_K hF I1.ok.mod.kin J hs1 mt.me.fn (wpAny_mono z ?_ fun _ _ y => y)
        rintro v s2 ⟨w, H2, I2, rw2, ⟨w', _, q2⟩, F2, R2, rr⟩
        obtain ⟨i, ed, ew⟩ : ∃ i : Int, d = .int i ∧ w = .int i := by cases rr <;> first | exact ⟨_, rfl, rfl⟩ | (simp [dunOk] at hok; done)
        subst ed ew
        simp only [dunOk, Bool.and_eq_true, decide_eq_true_eq] at hok
        obtain ⟨t, rfl⟩ := rw2
        exact ⟨⟨hok.1, by omega⟩, V.int i, H2, I2.tok _, ⟨_, rfl⟩, q2⟩
      · refine wpAny_Call_Name_kw (ld_blt I hg (c.bi _) PyProof.Rows.boot_str ?_ (by decide) (by decide))
        refine PyProof.Rows.callWith_type1 (thn run ?_) hst rfl
        rintro us s1 ⟨vs, H1, I1, rvs, q⟩
        obtain ⟨ad, ox, od, rfl, J, z⟩ := go _ (.inr rfl) us s1 vs H1 I1 rvs q
        have hs1 := mt.me.at_
        rw [hm] at hs1
        refine PySem.W.kso_call (by show X.A.units + 1 + 1 < cLine; omega) I1.kIn J hs1 mt.me.fn (wpAny_mono z ?_ fun _ _ y => y)
        rintro v s2 ⟨w, H2, I2, rw2, ⟨w', _, q2⟩, F2, R2, rr⟩
        obtain ⟨y, ed, ew⟩ : ∃ y : Str, d = .str y ∧ w = .str y := by cases rr <;> first | exact ⟨_, rfl, rfl⟩ | (simp [dunOk] at hok; done)
        subst ed ew
        obtain ⟨t, rfl⟩ := rw2
        exact ⟨V.str y, H2, I2, ⟨_, rfl⟩, q2⟩
      · refine wpAny_Call_Name_kw (ld_blt I hg (c.bi _) boot_repr ?_ (by decide) (by decide))
        refine PyProof.Rows.callWith_builtin1 (thn run ?_) hst rfl
        rintro us s1 ⟨vs, H1, I1, rvs, q⟩
        obtain ⟨ad, ox, od, rfl, J, z⟩ := go _ (.inl rfl) us s1 vs H1 I1 rvs q
        obtain ⟨m', hF⟩ := I1.fr
        have hs1 := mt.me.at_
        rw [hm] at hs1
        refine PySem.W.repr_K (by show X.A.units + 1 < cLine; omega) hF I1.ok.mod.kin J hs1 mt.me.fn (wpAny_mono z ?_ fun _ _ y => y)
        rintro v s2 ⟨w, H2, I2, rw2, ⟨w', _, q2⟩, F2, R2, rr⟩
        obtain ⟨y, ed, ew⟩ : ∃ y : Str, d = .str y ∧ w = .str y := by cases rr <;> first | exact ⟨_, rfl, rfl⟩ | (simp [dunOk] at hok; done)
        subst ed ew
        obtain ⟨t, rfl⟩ := rw2
        exact ⟨V.str y, H2, I2, ⟨_, rfl⟩, q2⟩
    · cases hev3
/-! ### methods of texts and dicts -/
def nMe : Me → Str
  | .split => "split" | .join => "join" | .get => "get" | .index => "index" | .count => "count" | .upper => "upper" | .replace => "replace" | .partition => "partition"
theorem strs_of {K : PySem.W.Frag} {F : Hp} {R : List Addr} : ∀ {vs : List V} {xs : List D} {ns : List Str}, RepAll K F R vs xs → strsD xs = some ns → vs = ns.map V.str
  | _, _, _, .nil, h => by cases h; rfl
  | _, _, ns, .cons (ds := ds) q t, h => by
    cases q <;> simp only [strsD, reduceCtorEq] at h
    case str i =>
      cases e : strsD ds with
      | none => rw [e] at h; cases h
      | some ms => rw [e] at h; cases h; rw [strs_of t e]; rfl
theorem strs_rep {K : PySem.W.Frag} {F : Hp} {R : List Addr} : ∀ (ns : List Str), RepAll K F R (ns.map V.str) (ns.map D.str)
  | [] => .nil
  | n :: r => .cons (.str n) (strs_rep r)
def rMe (K : PySem.W.Frag) (m : Me) : V → List V → Hp → VK → Prop := fun v vs H Q => ∃ F R S x xs d, RelS K F R H S ∧ Rep K F R v x ∧ RepAll K F R vs xs ∧ meD m x xs = some d ∧ ∀ z F' H', Nw K F R H F' H' → Rep K F' R z d → Q z H'
theorem me_split : MtR X "str.split" (rMe X.K .split) := by
  intro pins s σ H v vs u us Q I r rr h
  obtain ⟨F, R, S, x, xs, d, rs, rx, rxs, hd, k⟩ := h
  unfold meD at hd
  split at hd <;> first | contradiction | skip
  rename_i a b _
  cases rx
  obtain ⟨w, rfl, rw1⟩ := reps1 rxs
  cases rw1
  split at hd
  · rename_i hl
    cases hd
    refine mt_split pins s σ H _ _ _ _ Q I r rr ⟨a, b, rfl, rfl, hl.1, hl.2, fun p hp => ?_⟩
    have n : Nw X.K F R H (upd F p (.lst ((Txt.split a b).map V.str))) (upd H p (.lst ((Txt.split a b).map V.str))) := Nw.one hp rs.fh
    exact k _ _ _ n (.lst upd_same (strs_rep _))
  · cases hd
theorem me_join : MtR X "str.join" (rMe X.K .join) := by
  intro pins s σ H v vs u us Q I r rr h
  obtain ⟨F, R, S, x, xs, d, rs, rx, rxs, hd, k⟩ := h
  have go : ∀ a ys, x = .str a → joinD a ys = some d → (∃ p ws, vs = [.ref p] ∧ (SqL X.K H p ws ∨ SqT X.K H p ws) ∧ RepAll X.K F R ws ys) → wpAny (model X.prog X.w) X.A (call (.builtin "str.join") (u :: us)) (EP X pins σ Q) X.xe s := fun a ys ex e ⟨p, ws, ev, hs, ra⟩ => by
    subst ex ev
    cases rx
    unfold joinD at e
    cases e2 : strsD ys with
    | none => rw [e2] at e; cases e
    | some zs =>
      rw [e2] at e
      simp only [Option.bind_some] at e
      split at e
      · rename_i hl
        cases e
        rw [strs_of ra e2] at hs
        exact mt_join pins s σ H _ _ _ _ Q I r rr ⟨a, p, zs, rfl, rfl, hs, hl, k _ F H .refl (.str _)⟩
      · cases e
  unfold meD at hd
  split at hd <;> first | contradiction | skip
  · rename_i a ys _
    obtain ⟨w, rfl, rw1⟩ := reps1 rxs
    cases rw1 with
    | lst ha ra => exact go a ys rfl hd ⟨_, _, rfl, .inl (SqL.of (rs.fh _ _ ha)), ra⟩
  · rename_i a ys _
    obtain ⟨w, rfl, rw1⟩ := reps1 rxs
    cases rw1 with
    | tup ha ra => exact go a ys rfl hd ⟨_, _, rfl, .inr (same_t rs.fh ha), ra⟩
theorem me_partition : MtR X "str.partition" (rMe X.K .partition) := by
  intro pins s σ H v vs u us Q I r rr h
  obtain ⟨F, R, S, x, xs, d, rs, rx, rxs, hd, k⟩ := h
  unfold meD at hd
  split at hd <;> first | contradiction | skip
  rename_i a b _
  cases rx
  obtain ⟨w, rfl, rw1⟩ := reps1 rxs
  cases rw1
  split at hd
  · rename_i hl
    cases hd
    refine mt_partition pins s σ H _ _ _ _ Q I r rr ⟨a, b, rfl, rfl, hl.1, hl.2, fun p hp => ?_⟩
    have n : Nw X.K F R H (upd F p (.tup [.str (Txt.partition a b).1, .str (Txt.partition a b).2.1, .str (Txt.partition a b).2.2])) (upd H p (.tup [.str (Txt.partition a b).1, .str (Txt.partition a b).2.1, .str (Txt.partition a b).2.2])) := Nw.one hp rs.fh
    exact k _ _ _ n (.tup (SqT.of upd_same) (.cons (.str _) (.cons (.str _) (.cons (.str _) .nil))))
  · cases hd
theorem me_upper : MtR X "str.upper" (rMe X.K .upper) := by
  intro pins s σ H v vs u us Q I r rr h
  obtain ⟨F, R, S, x, xs, d, rs, rx, rxs, hd, k⟩ := h
  unfold meD at hd
  split at hd <;> first | contradiction | skip
  rename_i a _
  cases rx
  cases rxs
  split at hd
  · rename_i hl
    cases hd
    exact mt_upper pins s σ H _ _ _ _ Q I r rr ⟨a, rfl, rfl, hl, k _ F H .refl (.str _)⟩
  · cases hd
theorem snd_meT {T : String} (pa : PlainAttrs T) {m : Me} {id : String} {o : Expr} {es : List Expr} {a : ME} {ms : List ME} {apos pos : Pos} (hn : noSup o = true) (hs : es.all noStar = true) (hl : es.length < 30) (hml : es.length = ms.length) (hp : (apos.endLine == pos.line) = true)
    (slot : Slot T (nMe m) id) (ty : typeOf (.builtin id) = pure (.type "method_descriptor")) (hm : MtR X id (rMe X.K m)) (hx : ∀ x xs d F R H v, meD m x xs = some d → Same F H → Rep X.K F R v x → tyV X.K T v H)
    (ho : PE X o (tE cl gl X.K a)) (ha : PA X es (tEs cl gl X.K ms)) : PE X (.Call (.Attribute o (nMe m) apos) es [] pos) (tE cl gl X.K (.meth m a ms)) := by
  have rd : ∀ σ H Q, tE cl gl X.K (.meth m a ms) σ H Q → tE cl gl X.K a σ H fun x H1 => tyV X.K T x H1 ∧ tEs cl gl X.K ms σ H1 fun xs H2 => rMe X.K m x xs H2 Q := fun σ H Q h => by
    obtain ⟨F, R, fr, S, d, S', rs, rf, he, k⟩ := h
    simp only [ev] at he
    obtain ⟨x, S1, e1, he1⟩ := bind_ok he
    obtain ⟨xs, S2, e2, he2⟩ := bind_ok he1
    obtain ⟨e3, eS⟩ := opt_ok he2
    subst eS
    refine ⟨F, R, fr, S, x, S1, rs, rf, e1, fun F1 R1 H1 v n1 rs1 rv => ⟨?_, F1, R1, fr, S1, xs, S', rs1, rf.nxt n1, e2, fun F2 R2 H2 ws n2 rs2 rws => ?_⟩⟩
    · exact hx x xs d F1 R1 H1 v e3 rs1.fh rv
    · exact ⟨F2, R2, S', x, xs, d, rs2, rv.mono n2.f n2.r, rws, e3, fun z F3 H3 n3 rz => k F3 R2 H3 z ((n1.trans n2).trans n3.1) (n3.2 _ rs2) rz⟩
  cases es with
  | nil =>
    have hm0 : ms = [] := by
      cases ms with
      | nil => rfl
      | cons => simp at hml
    subst hm0
    refine PE.imp (pe_bm0 pa slot ty hm ho (base_eq hn) hp) fun σ H Q h => ?_
    obtain ⟨F, R, fr, S, x, S', rs, rf, he, k⟩ := rd σ H Q h
    refine ⟨F, R, fr, S, x, S', rs, rf, he, fun F1 R1 H1 v n1 rs1 rv => ?_⟩
    obtain ⟨h1, F2, R2, fr2, S2, ys, S3, rs2, rf2, e4, k2⟩ := k F1 R1 H1 v n1 rs1 rv
    simp only [evs] at e4
    cases e4
    exact ⟨h1, k2 F2 R2 H1 [] .refl rs2 .nil⟩
  | cons e es =>
    have hs' := hs
    simp only [List.all_cons, Bool.and_eq_true] at hs'
    have hfew : ∀ (l : List Expr), l.all noStar = true → (backTo pos (starEach l X.env)).all (fun x => !x.1) = true := by
      intro l
      induction l with
      | nil => intro _; rfl
      | cons e es ih =>
        intro h
        simp only [List.all_cons, Bool.and_eq_true] at h
        rw [star_cons h.1]
        show ((!false) && (backTo pos (starEach es X.env)).all (fun x => !x.1)) = true
        rw [ih h.2]; rfl
    exact PE.imp (pe_bm pa slot ty hm ho ha (base_eq hn) (by
      rw [hfew _ hs]
      simp only [Bool.true_and]
      show (true && decide ((e :: es).length + 0 + 0 < 30)) = true
      simp only [Bool.true_and, decide_eq_true_eq]
      simpa using hl) hp (star_cons hs'.1) (star_plain hs'.2)) rd
theorem snd_meStr {m : Me} {id : String} {o : Expr} {es : List Expr} {a : ME} {ms : List ME} {apos pos : Pos} (hn : noSup o = true) (hs : es.all noStar = true) (hl : es.length < 30) (hml : es.length = ms.length) (hp : (apos.endLine == pos.line) = true)
    (slot : Slot "str" (nMe m) id) (ty : typeOf (.builtin id) = pure (.type "method_descriptor")) (hm : MtR X id (rMe X.K m)) (hx : ∀ x xs, (∀ z, x ≠ .str z) → meD m x xs = none)
    (ho : PE X o (tE cl gl X.K a)) (ha : PA X es (tEs cl gl X.K ms)) : PE X (.Call (.Attribute o (nMe m) apos) es [] pos) (tE cl gl X.K (.meth m a ms)) :=
  snd_meT PySem.F.plainAttrs_str hn hs hl hml hp slot ty hm (fun x xs d F R H v e _ r => by
    have : ∃ z, x = .str z := by
      apply Classical.byContradiction
      intro hno
      rw [hx x xs (fun z e => hno ⟨z, e⟩)] at e
      cases e
    obtain ⟨z, rfl⟩ := this
    cases r
    exact rfl) ho ha
/-! ### list.count, list.index over plain things -/
theorem count_flat {y : V} : ∀ {us : List Value} {ys : List V}, Vals ys us → ys.all flatV = true → us.countP (eqU y) = ys.countP fun z => eqV z y
  | _, _, .nil, _ => rfl
  | _, _, .cons r rs, f => by
    rw [List.all_cons, Bool.and_eq_true] at f
    rw [List.countP_cons, List.countP_cons, count_flat rs f.2, eqU_of r f.1]
def rCountF (K : PySem.W.Frag) : V → List V → Hp → VK → Prop := fun x xs H Q => ∃ a ys y, x = .ref a ∧ xs = [y] ∧ SqL K H a ys ∧ flatV y = true ∧ ys.all flatV = true ∧ Q (.int ((ys.countP fun z => eqV z y : Nat) : Int)) H
theorem mt_countF : MtR X "list.count" (rCountF X.K) := by
  rintro pins s σ H x xs v us Q I r1 r2 ⟨a, ys, y, rfl, rfl, sq, fy, fys, q⟩
  cases r1
  obtain ⟨u, rfl, ru⟩ := r2.one
  obtain ⟨its, rv, ⟨⟨c, dd, dt, sl⟩, n, at_, e1, _, e2⟩, _⟩ := I.list sq
  dsimp only at e1 e2
  subst e1 e2
  refine call_meets PySem.F.slot_list_count ⟨_, at_, rfl⟩ PySem.F.entry_list_count (PySem.F.args_list_count_2 _ _) (SeqAt.list_countAt a its.toArray n dd sl u (eqU y)) ⟨at_, fun w hw => mem_eqAt ru fy rv fys w (by simpa using hw), ?_⟩
  exact ⟨.int ((ys.countP fun z => eqV z y : Nat) : Int), H, I.tok _, ⟨s.toks, by show Value.int _ _ = _; rw [← count_flat rv fys]⟩, q⟩
theorem flats_of {F : Hp} {R : List Addr} {v : V} {x : D} (h : Rep X.K F R v x) (f1 : flatD x = true) : ∀ {vs : List V} {xs : List D}, RepAll X.K F R vs xs → xs.all flatD = true →
    vs.all flatV = true ∧ (vs.countP fun z => eqV z v) = xs.countP fun e => eqF e x
  | _, _, .nil, _ => ⟨rfl, rfl⟩
  | _, _, .cons g t, q => by
    rw [List.all_cons, Bool.and_eq_true] at q
    obtain ⟨h1, h2⟩ := flats_of h f1 t q.2
    refine ⟨by rw [List.all_cons, flat_of g q.1, h1]; rfl, ?_⟩
    rw [List.countP_cons, List.countP_cons, h2, eqF_of g h q.1 f1]
theorem me_count : MtR X "list.count" (rMe X.K .count) := by
  intro pins s σ H v vs u us Q I r rr h
  obtain ⟨F, R, S, x, xs, d, rs, rx, rxs, hd, k⟩ := h
  unfold meD at hd
  split at hd <;> first | contradiction | skip
  rename_i ds e _
  cases rx with
  | lst ha ra =>
  obtain ⟨w, rfl, rw1⟩ := reps1 rxs
  split at hd
  · rename_i hf
    cases hd
    rw [Bool.and_eq_true] at hf
    obtain ⟨f1, f2⟩ := flats_of rw1 hf.1 ra hf.2
    exact mt_countF pins s σ H _ _ _ _ Q I r rr ⟨_, _, w, rfl, rfl, SqL.of (rs.fh _ _ ha), flat_of rw1 hf.1, f1, by rw [f2]; exact k _ F H .refl (.int _)⟩
  · cases hd
theorem me_index : MtR X "list.index" (rMe X.K .index) := by
  intro pins s σ H v vs u us Q I r rr h
  obtain ⟨F, R, S, x, xs, d, rs, rx, rxs, hd, k⟩ := h
  unfold meD at hd
  split at hd <;> first | contradiction | skip
  rename_i ds e _
  cases rx with
  | lst ha ra =>
  obtain ⟨w, rfl, rw1⟩ := reps1 rxs
  split at hd
  · rename_i hf
    rw [Bool.and_eq_true] at hf
    obtain ⟨f1, _⟩ := flats_of rw1 hf.1 ra hf.2
    rcases q : ds.findIdx? fun z => eqF z e with _ | j
    · rw [q] at hd; cases hd
    rw [q] at hd
    cases hd
    obtain ⟨lt, yes, no⟩ := List.findIdx?_eq_some_iff_getElem.mp q
    have fl : ∀ i (hi : i < ds.length), flatD ds[i] = true := fun i hi => List.all_eq_true.mp hf.2 _ (List.getElem_mem hi)
    obtain ⟨z, z1, z2⟩ := ra.get (List.getElem?_eq_getElem lt)
    refine mt_index pins s σ H _ _ _ _ Q I r rr ⟨_, _, w, j, z, rfl, rfl, SqL.of (rs.fh _ _ ha), flat_of rw1 hf.1, f1, z1, by rw [eqF_of z2 rw1 (fl j lt) hf.1]; exact yes, fun m z' hm e' => ?_, k _ F H .refl (.int _)⟩
    have hm' : m < ds.length := by omega
    obtain ⟨y, y1, y2⟩ := ra.get (List.getElem?_eq_getElem hm')
    rw [y1] at e'
    cases e'
    rw [eqF_of y2 rw1 (fl m hm') hf.1]
    exact Bool.eq_false_iff.mpr (no m hm)
  · cases hd
theorem lst_ty {m : Me} (only : ∀ x xs d, meD m x xs = some d → ∃ ds, x = .lst ds) : ∀ x xs d F R H v, meD m x xs = some d → Same F H → Rep X.K F R v x → tyV X.K "list" v H := by
  intro x xs d F R H v e fh r
  obtain ⟨ds, rfl⟩ := only x xs d e
  cases r with
  | lst ha ra => exact .inl ⟨rfl, _, SqL.of (fh _ _ ha)⟩
theorem snd_count {o : Expr} {es : List Expr} {a : ME} {ms : List ME} {apos pos : Pos} (hn : noSup o = true) (hs : es.all noStar = true) (hl : es.length < 30) (hml : es.length = ms.length) (hp : (apos.endLine == pos.line) = true) (ho : PE X o (tE cl gl X.K a)) (ha : PA X es (tEs cl gl X.K ms)) :
    PE X (.Call (.Attribute o "count" apos) es [] pos) (tE cl gl X.K (.meth .count a ms)) :=
  snd_meT (m := .count) PySem.F.plainAttrs_list hn hs hl hml hp PySem.F.slot_list_count PySem.F.type_list_count me_count (lst_ty fun x xs d e => by cases x <;> first | exact ⟨_, rfl⟩ | (cases e)) ho ha
theorem snd_index {o : Expr} {es : List Expr} {a : ME} {ms : List ME} {apos pos : Pos} (hn : noSup o = true) (hs : es.all noStar = true) (hl : es.length < 30) (hml : es.length = ms.length) (hp : (apos.endLine == pos.line) = true) (ho : PE X o (tE cl gl X.K a)) (ha : PA X es (tEs cl gl X.K ms)) :
    PE X (.Call (.Attribute o "index" apos) es [] pos) (tE cl gl X.K (.meth .index a ms)) :=
  snd_meT (m := .index) PySem.F.plainAttrs_list hn hs hl hml hp PySem.F.slot_list_index PySem.F.type_list_index me_index (lst_ty fun x xs d e => by cases x <;> first | exact ⟨_, rfl⟩ | (cases e)) ho ha
theorem snd_split {o : Expr} {es : List Expr} {a : ME} {ms : List ME} {apos pos : Pos} (hn : noSup o = true) (hs : es.all noStar = true) (hl : es.length < 30) (hml : es.length = ms.length) (hp : (apos.endLine == pos.line) = true) (ho : PE X o (tE cl gl X.K a)) (ha : PA X es (tEs cl gl X.K ms)) :
    PE X (.Call (.Attribute o "split" apos) es [] pos) (tE cl gl X.K (.meth .split a ms)) :=
  snd_meStr (m := .split) hn hs hl hml hp PySem.F.slot_str_split PySem.F.type_str_split me_split (fun x xs h => by cases x <;> first | rfl | exact (h _ rfl).elim) ho ha
theorem snd_join {o : Expr} {es : List Expr} {a : ME} {ms : List ME} {apos pos : Pos} (hn : noSup o = true) (hs : es.all noStar = true) (hl : es.length < 30) (hml : es.length = ms.length) (hp : (apos.endLine == pos.line) = true) (ho : PE X o (tE cl gl X.K a)) (ha : PA X es (tEs cl gl X.K ms)) :
    PE X (.Call (.Attribute o "join" apos) es [] pos) (tE cl gl X.K (.meth .join a ms)) :=
  snd_meStr (m := .join) hn hs hl hml hp PySem.F.slot_str_join PySem.F.type_str_join me_join (fun x xs h => by cases x <;> first | rfl | exact (h _ rfl).elim) ho ha
theorem snd_partition {o : Expr} {es : List Expr} {a : ME} {ms : List ME} {apos pos : Pos} (hn : noSup o = true) (hs : es.all noStar = true) (hl : es.length < 30) (hml : es.length = ms.length) (hp : (apos.endLine == pos.line) = true) (ho : PE X o (tE cl gl X.K a)) (ha : PA X es (tEs cl gl X.K ms)) :
    PE X (.Call (.Attribute o "partition" apos) es [] pos) (tE cl gl X.K (.meth .partition a ms)) :=
  snd_meStr (m := .partition) hn hs hl hml hp PySem.F.slot_str_partition PySem.F.type_str_partition me_partition (fun x xs h => by cases x <;> first | rfl | exact (h _ rfl).elim) ho ha
theorem snd_upper {o : Expr} {es : List Expr} {a : ME} {ms : List ME} {apos pos : Pos} (hn : noSup o = true) (hs : es.all noStar = true) (hl : es.length < 30) (hml : es.length = ms.length) (hp : (apos.endLine == pos.line) = true) (ho : PE X o (tE cl gl X.K a)) (ha : PA X es (tEs cl gl X.K ms)) :
    PE X (.Call (.Attribute o "upper" apos) es [] pos) (tE cl gl X.K (.meth .upper a ms)) :=
  snd_meStr (m := .upper) hn hs hl hml hp PySem.F.slot_str_upper PySem.F.type_str_upper me_upper (fun x xs h => by cases x <;> first | rfl | exact (h _ rfl).elim) ho ha
/-! ### walks -/
theorem snd_istr {tg e : Expr} {m : ME} (h : PE X e (tE cl gl X.K m)) : PI X tg e (tW cl gl X.K (.str m)) := by
  refine PI.imp (pi_str h) fun σ H Rr h => ?_
  obtain ⟨F, R, fr, S, xs, S', rs, rf, he, k⟩ := h
  simp only [evI] at he
  obtain ⟨x, S1, e1, he1⟩ := bind_ok he
  cases x <;> simp only [reduceCtorEq] at he1
  case str z =>
    split at he1
    · cases he1
      refine ⟨F, R, fr, S, _, _, rs, rf, e1, fun F1 R1 H1 v n1 rs1 rv => ?_⟩
      cases rv
      refine ⟨z, rfl, k F1 R1 H1 _ n1 rs1 ?_⟩
      have hl : (z.cps.toList.map fun c => D.str ⟨#[c]⟩).length = z.cps.size := by simp
      refine ⟨fun _ => True, _, by rw [hl]; exact walk_str, fun _ _ _ _ => trivial, fun F R H i x H' n np fh hi y => ?_⟩
      obtain ⟨rfl, ch, hc, rfl⟩ := y
      refine ⟨F, .str ⟨#[ch]⟩, ?_, .refl, .str _⟩
      rw [List.getElem?_map, Array.getElem?_toList, hc]; rfl
    · cases he1
theorem snd_ienumT {e : Expr} {m : ME} {elts : List Expr} {kk : Nat} {p pos tpos : Pos} (c : Cxt nm P cl gl X) (hg : Gl X "enumerate") (hs : noStar e = true) (h : PE X e (tE cl gl X.K m)) :
    PI X (.Tuple elts kk tpos) (.Call (.Name "enumerate" p) [e] [] pos) (tW cl gl X.K (.enumT m)) := by
  have hst : starEach [e] X.env = [(false, eval e X.env)] := star_cons hs
  refine PI.imp (EnT.pi_enumT hg c.enu (pa_cons h pa_nil hst) hst) fun σ H Rr h => ?_
  obtain ⟨F, R, fr, S, xs, S', rs, rf, he, k⟩ := h
  simp only [evI] at he
  obtain ⟨x, S1, e1, he1⟩ := bind_ok he
  cases x <;> simp only [reduceCtorEq] at he1
  case tup ys =>
    cases he1
    refine ⟨F, R, fr, S, _, _, rs, rf, e1, fun F1 R1 H1 v n1 rs1 rv => ?_⟩
    cases rv with
    | @tup a vs _ ha ra =>
      refine ⟨a, vs, rfl, same_t rs1.fh ha, k F1 R1 H1 _ n1 rs1 ?_⟩
      have hl : (enumD ys).length = vs.length := by unfold enumD; simp [ra.length]
      refine ⟨fun H => SqT X.K H a vs, YPair (fun i => some (.int (i : Nat))) (fun i => vs[i]?), by rw [hl]; exact EnT.walk_enumT, fun F H n fh => same_t fh (same_t n ha), fun F R H i x H' n np fh hi y => ?_⟩
      obtain ⟨T, u, w, rfl, hT, rfl, e1, e2⟩ := y
      cases e1
      obtain ⟨d, h1, h2⟩ := (ra.mono n np).got e2
      obtain ⟨q1, q2⟩ := pair_new fh hT (.int (i : Int)) h2
      refine ⟨_, _, ?_, q1, q2⟩
      unfold enumD
      rw [List.getElem?_map, List.getElem?_zipIdx, h1]
      simp
end
end Mn
/-! what instances answer to != and to bool -/
namespace Mn
open PySem PySem.W PySem.Calls PyProof.Rows
section
variable {prog : Program} {w : World} {A : Around} {E : Value → Shared → Prop} {s : Shared} {K : Frag} {x C L f : Addr} {h₀ : Heap} {m : Str → Option Value} {ox : Obj} {od : Option Obj} {b tb : Value}
/-- object.__ne__ by the own __eq__ -/
theorem ne_own {Q : Value → Shared → Prop} (hu : A.units + 1 < cLine) (F : Fr h₀ L s.heap m) (X₀ : K.In h₀) (I : InstAt s.heap x ox C od) (hb : Looks (model prog w) s.heap (typeOf b) tb) (hn : notFirst K C tb = true)
    (hs : findIn K (.ref C) "__eq__" = some (some (.ref f))) (hf : isFn K (.ref f) = true) (hne : findIn K (.ref C) "__ne__" = some (some (.builtin "object.__ne__"))) (hm : mroIn K C (.type "object") = some true)
    (h : wpAny (model prog w) A.in1 (call (.ref f) [.ref x, b]) (fun v s' => ∃ r, v = .bool r ∧ Q (.bool (!r)) s') E s) : wpAny (model prog w) A (richCompare .NotEq (.ref x) b) Q E s := by
  have X := X₀.keeps F.keep
  have sub : Looks (model prog w) s.heap (isInstance (.ref x) (.type "object")) true := I.type.andThen (looks_mroIn X hm)
  have entry : wpAny (model prog w) A.in1 (Builtin.«object.__ne__» ⟨[.ref x, b], []⟩) (fun fin s' => ∃ r, fin = .done (.ret (.bool (!r))) ∧ Q (.bool (!r)) s') E s := by
    unfold Builtin.«object.__ne__»
    refine wpAny_bind (wpAny_of_eq (a := ((Value.ref x : Value), [b])) (by first | rfl | (simp only [slotArgs]; rfl)) ?_)
    refine wpAny_bind (wpAny_cRoomFor (by show A.units + 1 < cLine; exact hu) ?_)
    refine wpAny_bind (ifBound_K X I hs hf (wpAny_mono h (fun v s' hv => ?_) fun _ _ e => e))
    obtain ⟨r, rfl, hq⟩ := hv
    exact wpAny_bind (wpAny_bind (wpAny_truthy_bool (wpAny_pure (wpAny_pure ⟨r, rfl, hq⟩))))
  have one : wpAny (model prog w) A (tryCompare (.ref x) (cmpInfo .NotEq).2.1 b) (fun r s' => ∃ v, r = some v ∧ Q v s') E s := by
    unfold tryCompare
    refine wpAny_bind ?_
    simp only [callSpecialIfBound?, bindSpecialIfBound?]
    have hne' : findIn K (.ref C) (cmpInfo .NotEq).2.1 = some (some (.builtin "object.__ne__")) := hne
    refine wpAny_holding (wpAny_bind (wpAny_bind (wpAny_bind (I.type.here ((looks_findIn X hne').here ?_)))))
    refine wpAny_bind (wpAny_askSetting (wpAny_ite ?_))
    have fin : ∀ Q' : Option Value → Shared → Prop, (∀ r s', Q (.bool (!r)) s' → Q' (some (.bool (!r))) s') → wpAny (model prog w) A (call (.builtin "object.__ne__") ([.ref x] ++ [b]) >>= fun v => pure (some v)) Q' E s := fun Q' k => by
      refine wpAny_bind (wpAny_call (codeAny_call_builtin PySem.F.cmp_object.ne.plain PySem.F.cmpEntry_ne (check_slot PySem.F.cmpKind_ne PySem.F.cmpSplit_ne sub (PySem.F.cmpArgs_ne _ _) (wpAny_mono entry (fun fn s' hv => ?_) fun _ _ e => e))))
      obtain ⟨r, rfl, hq⟩ := hv
      first
        | exact wpAny_pure (k r s' hq)
        | exact ⟨_, rfl, wpAny_pure (k r s' hq)⟩
    split
    · exact wpAny_bind (wpAny_of_eq (PySem.F.cmp_object.ne.bind (.ref x)) (wpAny_pure (by exact fin _ fun r s' q => wpAny_pure ⟨_, rfl, q⟩)))
    · exact wpAny_tryCatch (wpAny_bind (wpAny_of_eq (PySem.F.cmp_object.ne.bind (.ref x)) (wpAny_pure (by exact fin _ fun r s' q => wpAny_pure ⟨_, rfl, q⟩))))
  unfold richCompare
  simp only [oneThing_ref]
  refine wpAny_holding (wpAny_bind (wpAny_cRoomFor (by omega) ?_))
  refine wpAny_bind (I.type.here (wpAny_bind (hb.here ?_)))
  split
  · rename_i q
    have e : subIn K tb (.ref C) = some false := by
      rcases Bool.or_eq_true_iff.mp hn with e | e
      · rw [beq_iff_eq.mp e] at q; simp at q
      · exact beq_iff_eq.mp e
    refine wpAny_bind ((looks_subIn X e).here ?_)
    simp only [Bool.false_eq_true, if_false]
    refine wpAny_bind (wpAny_mono one (fun r s' z => ?_) fun _ _ e => e)
    obtain ⟨v, rfl, hq⟩ := z
    exact wpAny_pure hq
  · refine wpAny_bind (wpAny_pure ?_)
    simp only [Bool.false_eq_true, if_false]
    refine wpAny_bind (wpAny_mono one (fun r s' z => ?_) fun _ _ e => e)
    obtain ⟨v, rfl, hq⟩ := z
    exact wpAny_pure hq
end
end Mn
namespace Mn
open PySem PySem.W PySem.Calls PyProof.Rows
section
variable {prog : Program} {w : World} {A : Around} {E : Value → Shared → Prop} {s : Shared} {K : Frag} {x C L f : Addr} {h₀ : Heap} {m : Str → Option Value} {ox : Obj} {od : Option Obj}
/-- the truth of an instance that has a length alone -/
theorem tru_len {Q : Bool → Shared → Prop} (F : Fr h₀ L s.heap m) (X₀ : K.In h₀) (I : InstAt s.heap x ox C od) (hb : findIn K (.ref C) "__bool__" = some none) (hs : findIn K (.ref C) "__len__" = some (some (.ref f))) (hf : isFn K (.ref f) = true)
    (h : wpAny (model prog w) A.in1 (call (.ref f) [.ref x]) (fun v s' => ∃ n t, v = .int n t ∧ 0 ≤ n ∧ n < 2 ^ 62 ∧ Q (n != 0) { s' with toks := s'.toks + 1 }) E s) : wpAny (model prog w) A (truthy (.ref x)) Q E s := by
  have X := X₀.keeps F.keep
  have key : wpAny (model prog w) A (runValue (.builtin "len" ⟨[.ref x], []⟩)) (fun r s' => ∃ n t, r = .int n t ∧ Q (n != 0) s') E s := by
    refine wpAny_runValue (codeAny_builtin entry_len ?_)
    rw [Around.under_plainId plain_len _]
    unfold Builtin.«len»
    refine wpAny_bind (m := oneArg "len" _) (wpAny_pure ?_)
    refine wpAny_bind (m := callSpecial? (.ref x) (Str.ofString "__len__")) (special_fn X I hs (beq_iff_eq.mp hf) (wpAny_mono h (fun r s' hr => ?_) fun _ _ y => y))
    obtain ⟨n, t, rfl, h0, h1, hq⟩ := hr
    refine wpAny_bind (wpAny_holding (wpAny_pure ?_))
    refine wpAny_bind (wpAny_letGo ?_)
    show wpAny _ _ (if n < 0 then _ else _) _ _ _
    rw [if_neg (by omega)]
    show wpAny _ _ (if n ≥ 2 ^ 63 then _ else _) _ _ _
    rw [if_neg (by omega)]
    exact wpAny_bind (wpAny_mkInt (wpAny_pure ⟨_, _, rfl, hq⟩))
  unfold truthy
  refine wpAny_bind (m := callSpecial? (.ref x) (Str.ofString "__bool__")) (wpAny_bind (wpAny_bind (I.type.here ((looks_findIn X hb).here (wpAny_pure ?_)))))
  refine wpAny_bind (wpAny_bind (I.type.here ((looks_findIn X hs).here ?_)))
  show wpAny _ _ (if (some (Value.ref f)).isNone = true then _ else _) _ _ _
  rw [if_neg (by simp)]
  refine wpAny_bind (wpAny_mono key (fun r s' h' => ?_) fun _ _ e => e)
  obtain ⟨n, t, rfl, hq⟩ := h'
  exact wpAny_pure hq
theorem call_bool_own {Q : Value → Shared → Prop} (h : wpAny (model prog w) A.in1.in1 (truthy (.ref x)) (fun b s' => Q (.bool b) s') E s) : wpAny (model prog w) A (call (.type "bool") [.ref x]) Q E s := by
  have g : MeetsIn prog w (Builtin.«bool.__new__» ⟨[.type "bool", .ref x], []⟩) (fun A R s => wpAny (model prog w) A.in1 (truthy (.ref x)) (fun b s' => R (.ok (.ret (.bool b))) s') (fun e s' => R (.error e) s') s) := by
    refine MeetsIn.of_wp fun A R s hs => ?_
    have f1 := F.conv_sub_bool
    obtain ⟨hp, g, d, tk, os⟩ := s
    repeat (any_goals (first | assumption | (with_reducible refine wpAny_bind (m := truthy (.ref x)) (wpAny_mono hs (fun b s' hb => ?_) fun _ _ e => e)) | wp_step))
    all_goals first | exact ⟨_, rfl, hb⟩ | exact hb | skip
  exact callType_newIn F.called_bool F.newNe_bool (F.typeCall_bool_1 _) (F.newCall_bool_1 _) (fun obj => F.args_object_init_2 obj _) F.entry_bool_new g (wpAny_mono h (fun b s' q => ⟨rfl, q⟩) fun _ _ e => e)
end
end Mn
/-! the body of an __init__ whose instance is frozen at its end -/
namespace Mn
open PySem PySem.Spec PyProof.Rows L2 RZ
variable [CA]
theorem PS.or {X : Cx} {e : Stmt} {t1 t2 : TS} (h1 : PS X e t1) (h2 : PS X e t2) : PS X e (fun D σ H => t1 D σ H ∨ t2 D σ H) := ⟨fun pins s σ H D I q => q.elim (h1.run pins s σ H D I) (h2.run pins s σ H D I)⟩
theorem fput_ix {ns : List Nat} : ∀ {ds ds' : List D} {f : Nat} {d : D}, fput ns ds f d = some ds' → ∃ i : Nat, ns[i]? = some f ∧ ((i < ds.length ∧ ds' = ds.set i d) ∨ (i = ds.length ∧ ds' = ds ++ [d])) := by
  induction ns with
  | nil => intro ds ds' f d h; cases ds <;> simp [fput] at h
  | cons n ns ih =>
    intro ds ds' f d h
    cases ds with
    | nil =>
      simp only [fput] at h
      split at h
      · rename_i e
        cases h
        exact ⟨0, by simp [e], .inr ⟨rfl, rfl⟩⟩
      · cases h
    | cons x ds =>
      simp only [fput] at h
      split at h
      · rename_i e
        cases h
        exact ⟨0, by simp [e], .inl ⟨by simp, rfl⟩⟩
      · cases e : fput ns ds f d with
        | none => rw [e] at h; cases h
        | some es =>
          rw [e] at h
          cases h
          obtain ⟨i, h1, h2⟩ := ih e
          refine ⟨i + 1, by simpa using h1, ?_⟩
          rcases h2 with ⟨h2, rfl⟩ | ⟨h2, rfl⟩
          · exact .inl ⟨by simpa using h2, rfl⟩
          · exact .inr ⟨by simp [h2], rfl⟩
theorem putF_zip {ks : List Str} : ∀ {ws : List V} {i : Nat} {f : Str} {y : V}, ks.Nodup → ks[i]? = some f → (i < ws.length → putF f y (ks.zip ws) = ks.zip (ws.set i y)) ∧ (i = ws.length → putF f y (ks.zip ws) = ks.zip (ws ++ [y])) := by
  induction ks with
  | nil => intro ws i f y _ h; simp at h
  | cons k ks ih =>
    intro ws i f y nd h
    obtain ⟨n1, n2⟩ := List.nodup_cons.mp nd
    cases i with
    | zero =>
      obtain rfl : k = f := by simpa using h
      refine ⟨fun hl => ?_, fun hl => ?_⟩
      · cases ws with
        | nil => simp at hl
        | cons w ws => simp [putF]
      · cases ws with
        | nil => simp [putF]
        | cons => simp at hl
    | succ i =>
      have h' : ks[i]? = some f := by simpa using h
      have ne : k ≠ f := fun e => n1 (e ▸ List.mem_of_getElem? h')
      refine ⟨fun hl => ?_, fun hl => ?_⟩
      · cases ws with
        | nil => simp at hl
        | cons w ws =>
          rw [List.zip_cons_cons, List.set_cons_succ, List.zip_cons_cons]
          show (if k = f then _ else _) = _
          rw [if_neg ne, (ih n2 h').1 (by simpa using hl)]
      · cases ws with
        | nil => simp at hl
        | cons w ws =>
          rw [List.zip_cons_cons, List.cons_append, List.zip_cons_cons]
          show (if k = f then _ else _) = _
          rw [if_neg ne, (ih n2 h').2 (by simpa using hl)]
theorem putS_map {ws : List V} {i : Nat} {y : V} : (i < ws.length → SlX.putS i y (ws.map some) = (ws.set i y).map some) ∧ (i = ws.length → SlX.putS i y (ws.map some) = (ws ++ [y]).map some) := by
  refine ⟨fun h => ?_, fun h => ?_⟩
  · unfold SlX.putS
    have e : i + 1 - (ws.map some).length = 0 := by simp; omega
    rw [e, List.replicate_zero, List.append_nil, List.map_set]
  · unfold SlX.putS
    have e : i + 1 - (ws.map some).length = 1 := by simp; omega
    rw [e]
    subst h
    rw [List.map_append]
    have : (List.map some ws ++ List.replicate 1 none).set (List.map some ws).length (some y) = List.map some ws ++ [some y] := by
      rw [List.set_append_right _ _ (Nat.le_refl _), Nat.sub_self]; rfl
    simpa using this
section
variable {nm : Nat → Str} {P : List (Nat × MF)} {cl : Nat → List D → Sto → Out D} {gl : GL} {X : Cx} {fuel : Nat}
/-- the instance that is made: known to its __init__ alone -/
structure Mkg (K : PySem.W.Frag) (c0 : Nat) (F : Hp) (R : List Addr) (H0 H : Hp) (σ : Stt) (x dx : Addr) (ds : List D) : Prop where
  s0 : σ[0]? = some (some (.ref x))
  fx : F x = none
  fd : F dx = none
  rx : x ∉ R
  rd : dx ∉ R
  hx : H0 x = none
  hd : H0 dx = none
  at_ : ∃ ws, InsAt H x dx c0 ws ∧ RepAll K F R ws ds
theorem Mkg.nxt {K : PySem.W.Frag} {c0 : Nat} {F F' : Hp} {R R' : List Addr} {H0 H H' : Hp} {σ : Stt} {x dx : Addr} {ds : List D} (m : Mkg K c0 F R H0 H σ x dx ds) (n : Nxt F R H F' R' H') : Mkg K c0 F' R' H0 H' σ x dx ds := by
  obtain ⟨ws, h1, h2⟩ := m.at_
  obtain ⟨⟨o1, g1, t1⟩, o2, g2, t2⟩ := h1.here
  obtain ⟨a1, a2, a3⟩ := own_nxt n m.fx m.rx g1 t1
  obtain ⟨b1, b2, b3⟩ := own_nxt n m.fd m.rd g2 t2
  exact ⟨m.s0, a1, b1, a2, b2, m.hx, m.hd, ws, h1.same (fun o ho => by rw [g1] at ho; cases ho; exact a3) (fun o ho => by rw [g2] at ho; cases ho; exact b3), h2.mono n.f n.r⟩
/-- what is wanted behind the body of an __init__ -/
def EndI (X : Cx) (F0 : Hp) (R0 : List Addr) (H0 : Hp) (D : Ends) (x : Addr) (c0 : Nat) : Out (List Mn.D) → Prop
  | .ok fs S' => ∀ F' R' H' σ', Nxt F0 R0 H0 F' R' H' → RelS X.K F' R' H' S' → Rep X.K F' R' (.ref x) (.ins c0 fs) → D.nx σ' H'
  | .exc y S' => ∀ F' R' H' σ cls e, Nxt F0 R0 H0 F' R' H' → RelS X.K F' R' H' S' → RepX X.K F' R' y cls e → WtX X cls e σ H'
  | .bad => False
theorem EndI.bind {X : Cx} {F0 H0 : Hp} {R0 : List Addr} {D : Ends} {x : Addr} {c0 : Nat} {α : Type} {o : Out α} {g : α → Sto → Out (List Mn.D)} (k : EndI X F0 R0 H0 D x c0 (o.bind g)) : ∃ a S1, o = .ok a S1 ∧ EndI X F0 R0 H0 D x c0 (g a S1) := by
  cases o with
  | ok a S1 => exact ⟨a, S1, rfl, k⟩
  | exc y S1 => exact k.elim
  | bad => exact k.elim
def tSi (cl : Nat → List D → Sto → Out D) (gl : GL) (fuel : Nat) (X : Cx) (c0 : Nat) (s : List MS) : TS := fun D σ H => ∃ F0 R0 H0 F R fr S x dx ds, Mid X.K F0 R0 H0 F R H σ fr S ∧ (∀ i a, ¬ OwnAt σ fr i a) ∧ Mkg X.K c0 F R H0 H σ x dx ds ∧ EndI X F0 R0 H0 D x c0 (exI cl gl c0 s fr ds S)
theorem snd_inil {c0 : Nat} : PSs X [] (tSi cl gl fuel X c0 []) := by
  refine PSs.imp pss_nil fun D σ H h => ?_
  obtain ⟨F0, R0, H0, F, R, fr, S, x, dx, ds, md, no, mk, he⟩ := h
  simp only [exI] at he
  have k := he
  obtain ⟨ws, h1, h2⟩ := mk.at_
  obtain ⟨⟨o1, g1, t1⟩, o2, g2, t2⟩ := h1.here
  obtain ⟨n1, r1, f1⟩ := own_frzG md.s md.n mk.hx mk.fx mk.rx g1 t1
  have hne := h1.1.1
  obtain ⟨n2, r2, f2⟩ := own_frzG r1 n1 mk.hd (by rw [upd_ne hne]; exact mk.fd) mk.rd g2 t2
  refine k _ R H σ n2 r2 (.ins (h1.same (fun o ho => ?_) fun o ho => ?_) (h2.mono (f1.trans f2) (List.prefix_refl _)))
  · rw [g1] at ho; cases ho
    rw [upd_ne (Ne.symm hne)]; exact upd_same
  · rw [g2] at ho; cases ho
    exact upd_same
theorem no_own_set {σ : Stt} {fr : Frm} {i : Nat} {v : V} {d : D} (no : ∀ i a, ¬ OwnAt σ fr i a) : ∀ j a, ¬ OwnAt (σ.set i (some v)) (fr.set i (some (.val d))) j a := fun j a h => by
  rcases ownAt_set h with ⟨_, o1, _⟩ | ⟨_, o1⟩
  · cases o1
  · exact no j a o1
theorem snd_iset {i c0 : Nat} {m : ME} {ms : List MS} {st : Stmt} {ss : List Stmt} {s : MS} (c : Cxt nm P cl gl X) (hs : s = .set i (.val m) ∨ s = .setLc i false m) (h : PS X st (fun D σ H => tE cl gl X.K m σ H fun v H1 => D.nx (σ.set i (some v)) H1)) (t : PSs X ss (tSi cl gl fuel X c0 ms)) : PSs X (st :: ss) (tSi cl gl fuel X c0 (s :: ms)) := by
  refine PSs.imp (pss_cons h t) fun D σ H h => ?_
  obtain ⟨F0, R0, H0, F, R, fr, S, x, dx, ds, md, no, mk, he⟩ := h
  have he' : EndI X F0 R0 H0 D x c0 (if i = 0 then Out.bad else (ev cl gl fr m S).bind fun d S => exI cl gl c0 ms (fr.set i (some (.val d))) ds S) := by
    rcases hs with rfl | rfl <;> simpa only [exI] using he
  by_cases hi : i = 0
  · rw [if_pos hi] at he'; exact he'.elim
  · rw [if_neg hi] at he'
    obtain ⟨d, S1, e1, he1⟩ := he'.bind
    refine ⟨F, R, fr, S, d, S1, md.s, md.f, e1, fun F1 R1 H1 v n1 rs1 rv => ?_⟩
    have mk1 := mk.nxt n1
    exact ⟨F0, R0, H0, F1, R1, _, S1, x, dx, ds, md.setN (sv := .val d) n1 rs1 rv, no_own_set no, ⟨by rw [List.getElem?_set_ne (fun z => hi z)]; exact mk1.s0, mk1.fx, mk1.fd, mk1.rx, mk1.rd, mk1.hx, mk1.hd, mk1.at_⟩, he1⟩
theorem snd_iexpr {c0 : Nat} {m : ME} {ms : List MS} {e : Expr} {pos : Pos} {ss : List Stmt} (hc : noComp e = true) (h : PE X e (tX cl gl X m)) (t : PSs X ss (tSi cl gl fuel X c0 ms)) : PSs X (.Expr e pos :: ss) (tSi cl gl fuel X c0 (.expr m :: ms)) := by
  refine PSs.imp (pss_cons (ps_expr h (no_swap hc)) t) fun D σ H h => ?_
  obtain ⟨F0, R0, H0, F, R, fr, S, x, dx, ds, md, no, mk, he⟩ := h
  simp only [exI] at he
  refine ⟨F, R, fr, S, md.s, md.f, ?_⟩
  cases e1 : ev cl gl fr m S with
  | ok d S1 =>
    rw [e1] at he
    exact fun F1 R1 H1 v n1 rs1 rv => ⟨F0, R0, H0, F1, R1, fr, S1, x, dx, ds, md.step n1 rs1, no, mk.nxt n1, he⟩
  | exc y S1 =>
    rw [e1] at he
    exact fun F1 R1 H1 c e n1 rs1 rx => he F1 R1 H1 σ c e (md.n.trans n1) rs1 rx
  | bad => rw [e1] at he; exact he
/-- self.f = e -/
theorem snd_isetO {c0 f : Nat} {m : ME} {ms : List MS} {e : Expr} {y : Str} {p p' pos : Pos} {ss : List Stmt} (c : Cxt nm P cl gl X) (hkc : CA.kc c0 = true) (hfl : (CA.fl c0).length < 900) (hN : X.N[0]? = some y) (hv : Vis X.env.scope y) (hd : (y == ("__debug__" : Str)) = false) (hcd : (y == ("__classdict__" : Str)) = false)
    (hs : swapsWith e (some (.Attribute (.Name y p) (CA.fnm f) p')) pos.line X.env = pure false) (h : PE X e (tE cl gl X.K m)) (t : PSs X ss (tSi cl gl fuel X c0 ms)) : PSs X (.Assign [.Attribute (.Name y p) (CA.fnm f) p'] e pos :: ss) (tSi cl gl fuel X c0 (.setO f m :: ms)) := by
  have pv : PE X (.Name y p) (tVar 0) := pe_var hN hv hd hcd
  refine PSs.imp (pss_cons (PS.or (ps_fld pv h hs) (SlX.ps_sl pv h hs)) t) fun D σ H h => ?_
  obtain ⟨F0, R0, H0, F, R, fr, S, x, dx, ds, md, no, mk, he⟩ := h
  simp only [exI] at he
  obtain ⟨d, S1, e1, he1⟩ := he.bind
  obtain ⟨ds', S2, e2, he2⟩ := he1.bind
  obtain ⟨e3, eS⟩ := opt_ok e2
  subst eS
  rw [c.fl] at e3
  obtain ⟨i, q1, q2⟩ := fput_ix e3
  have cf := c.b.cf c0 hkc
  -- the instance behind the store
  have fin : ∀ {F1 : Hp} {R1 : List Addr} {H1 H2 : Hp} {ws' : List V}, Nxt F R H F1 R1 H1 → Mkg X.K c0 F1 R1 H0 H1 σ x dx ds → RelS X.K F1 R1 H2 S2 → (∀ b, b ≠ x → b ≠ dx → H2 b = H1 b) → RelS X.K F1 R1 H1 S2 → InsAt H2 x dx c0 ws' → RepAll X.K F1 R1 ws' ds' →
      tSi cl gl fuel X c0 ms D σ H2 := fun {F1 R1 H1 H2 ws'} n1 mk1 rs2 hk rs1 hi hr => by
    have m1 := md.step n1 rs1
    refine ⟨F0, R0, H0, F1, R1, fr, S2, x, dx, ds', ⟨rs2, ⟨m1.f.len, fun j sv hj => ?_, m1.f.ap⟩, ⟨m1.n.f, m1.n.r, m1.n.new, fun b o hb hR ht => ?_, fun b o hb hR => ?_, m1.n.newR⟩, fun j a hj => (no j a hj).elim⟩, no, ⟨mk1.s0, mk1.fx, mk1.fd, mk1.rx, mk1.rd, mk1.hx, mk1.hd, ws', hi, hr⟩, he2⟩
    · obtain ⟨v, p1, p2⟩ := m1.f.sl j sv hj
      refine ⟨v, p1, ?_⟩
      cases sv with
      | val => exact p2
      | olst es =>
        obtain ⟨b, us, rfl, _⟩ := p2
        exact (no j b ⟨_, hj, rfl, p1⟩).elim
      | odct kvs =>
        obtain ⟨b, us, rfl, _⟩ := p2
        exact (no j b ⟨_, hj, rfl, p1⟩).elim
    · have n1 : b ≠ x := fun e => by rw [e, mk.hx] at hb; cases hb
      have n2 : b ≠ dx := fun e => by rw [e, mk.hd] at hb; cases hb
      rw [hk b n1 n2]
      exact m1.n.tr b o hb hR ht
    · have n1 : b ≠ x := fun e => by rw [e, mk.hx] at hb; cases hb
      have n2 : b ≠ dx := fun e => by rw [e, mk.hd] at hb; cases hb
      rw [hk b n1 n2]
      exact m1.n.ax b o hb hR
  have wsl : ∀ {F1 : Hp} {R1 : List Addr} {H1 : Hp} {v : V}, Mkg X.K c0 F1 R1 H0 H1 σ x dx ds → Rep X.K F1 R1 v d → ∃ ws ws', InsAt H1 x dx c0 ws ∧ RepAll X.K F1 R1 ws ds ∧ RepAll X.K F1 R1 ws' ds' ∧ ((i < ws.length ∧ ws' = ws.set i v) ∨ (i = ws.length ∧ ws' = ws ++ [v])) := fun {F1 R1 H1 v} mk1 rv => by
    obtain ⟨ws, j1, j2⟩ := mk1.at_
    rcases q2 with ⟨z1, rfl⟩ | ⟨z1, rfl⟩
    · exact ⟨ws, _, j1, j2, j2.set rv i, .inl ⟨by rw [j2.length]; exact z1, rfl⟩⟩
    · exact ⟨ws, _, j1, j2, j2.append (.cons rv .nil), .inr ⟨by rw [j2.length]; exact z1, rfl⟩⟩
  have hil : i < (CA.fl c0).length := (List.getElem?_eq_some_iff.mp q1).1
  cases hsl : CA.sl c0 with
  | false =>
    left
    refine ⟨F, R, fr, S, d, S2, md.s, md.f, e1, fun F1 R1 H1 v n1 rs1 rv => ⟨_, mk.s0, ?_⟩⟩
    have mk1 := mk.nxt n1
    obtain ⟨ws, ws', j1, j2, j3, j4⟩ := wsl mk1 rv
    have hH := insAt_dct j1 hsl
    obtain ⟨cl1, cl2⟩ := cf.pl hsl
    have hne := j1.1.1
    have hlw : ws.length ≤ (CA.fl c0).length := by
      obtain ⟨_, ⟨_, y, _⟩ | ⟨y, _⟩⟩ := j1
      · exact y
      · rw [hsl] at y; cases y
    have hdx : H1 dx = some (.own x) := by
      obtain ⟨_, ⟨_, _, _, y⟩ | ⟨y, _⟩⟩ := j1
      · exact y
      · rw [hsl] at y; cases y
    have hput : putF (CA.fnm f) v (((CA.fl c0).map CA.fnm).zip ws) = ((CA.fl c0).map CA.fnm).zip ws' := by
      obtain ⟨g1, g2⟩ := putF_zip (ws := ws) (y := v) (CA.nd c0) (show ((CA.fl c0).map CA.fnm)[i]? = some (CA.fnm f) by rw [List.getElem?_map, q1]; rfl)
      rcases j4 with ⟨z1, z2⟩ | ⟨z1, z2⟩
      · rw [g1 z1, z2]
      · rw [g2 z1, z2]
    have hlw' : ws'.length ≤ (CA.fl c0).length := by
      rcases j4 with ⟨z1, z2⟩ | ⟨z1, z2⟩
      · rw [z2, List.length_set]; exact hlw
      · rw [z2, List.length_append, List.length_singleton]; omega
    refine ⟨x, _, dx, _, rfl, hH, cl1, cl2 f (List.mem_of_getElem? q1), ?_, ?_⟩
    · rw [List.length_zip]; have := hfl; have : (((CA.fl c0).map CA.fnm)).length = (CA.fl c0).length := List.length_map ..; omega
    · rw [hput]
      refine fin (ws' := ws') n1 mk1 (rs1.lay mk1.fx mk1.rx (Pln.ins hH)) (fun b hb _ => upd_ne hb) rs1 ⟨j1.1, .inl ⟨hsl, hlw', upd_same, ?_⟩⟩ j3
      rw [upd_ne hne]; exact hdx
  | true =>
    right
    refine ⟨F, R, fr, S, d, S2, md.s, md.f, e1, fun F1 R1 H1 v n1 rs1 rv => ⟨_, mk.s0, ?_⟩⟩
    have mk1 := mk.nxt n1
    obtain ⟨ws, ws', j1, j2, j3, j4⟩ := wsl mk1 rv
    have hH := insAt_slt j1 hsl
    obtain ⟨sc, sf⟩ := cf.st hsl
    obtain ⟨pp, sl⟩ := sf i f q1
    have hne := j1.1.1
    have hput : SlX.putS i v (ws.map some) = ws'.map some := by
      obtain ⟨g1, g2⟩ := putS_map (ws := ws) (i := i) (y := v)
      rcases j4 with ⟨z1, z2⟩ | ⟨z1, z2⟩
      · rw [g1 z1, z2]
      · rw [g2 z1, z2]
    refine ⟨x, _, dx, pp, _, i, rfl, hH, sc, sl, ?_⟩
    rw [hput]
    have odx : ∀ a ∈ R1, H1 dx ≠ some (.own a) := fun a ha e => by
      have : a = x := by
        obtain ⟨_, ⟨y, _⟩ | ⟨_, ⟨_, _, y3⟩ | ⟨y3, y4⟩⟩⟩ := j1
        · rw [hsl] at y; cases y
        · rw [e] at y3; simpa using y3
        · rw [e] at y4; cases y4
      exact mk1.rx (this ▸ ha)
    have r1 := rs1.layT (o := .xd []) mk1.fd mk1.rd odx j1.plain.2
    have ex : (upd H1 dx (.xd [])) x = H1 x := upd_ne (Ne.symm hne)
    have px : Pln (upd H1 dx (.xd [])) x := by
      refine ⟨fun z e => ?_, ?_⟩
      · rw [ex] at e
        rcases hH with ⟨y1, _⟩ | ⟨y1, _⟩
        · rw [y1] at e; cases e
        · rw [y1] at e; simp [SlX.SlO] at e
      · have q := j1.plain.1
        refine ⟨fun z e => q.1 z (ex ▸ e), fun z e => q.2 z (ex ▸ e)⟩
    have r2 := r1.lay (o := SlX.SlO x (CA.ca c0) dx (ws'.map some)) mk1.fx mk1.rx px
    refine fin (ws' := ws') n1 mk1 r2 (fun b hb hb2 => ?_) rs1 ⟨j1.1, .inr ⟨hsl, .inr ⟨upd_same, ?_⟩⟩⟩ j3
    · show upd (upd H1 dx (.xd [])) x _ b = _
      rw [upd_ne hb, upd_ne hb2]
    · show upd (upd H1 dx (.xd [])) x _ dx = _
      rw [upd_ne hne, upd_same]
end
end Mn
/-! raise of an own exception -/
namespace Mn
open PySem PySem.Spec PyProof.Rows L2 RZ
variable [CA]
/-- what the __init__ of an exception with one attribute does -/
def spExc (K : PySem.W.Frag) (c : Nat) (f : Str) : Sp := fun vs H Q _ => ∃ a y, vs = [.ref a, y] ∧ OexC K (CA.ca c) ∧ PySem.W.findIn K (.ref (CA.ca c)) f = some none ∧ H a = some (exo a (CA.ca c) none) ∧
  ∀ dx, H dx = none → dx ≠ a → Q .non (upd (upd H dx (exd dx [(f, y)])) a (exo a (CA.ca c) (some dx)))
section
variable {nm : Nat → Str} {P : List (Nat × MF)} {cl : Nat → List D → Sto → Out D} {gl : GL} {X : Cx} {fuel : Nat}
theorem excI_fn {K : PySem.W.Frag} {c : Nat} (h : ExcI K c) {pr : Program} {w : World} {mg : Str → Option Value} {base : Heap} :
    ∃ f fi fd ps, CA.fl c = [f] ∧ OexC K (CA.ca c) ∧ PySem.W.findIn K (.ref (CA.ca c)) "__init__" = some (some (.ref fi)) ∧ PySem.W.typeIn K (.ref fi) = some (.type "function") ∧ PySem.W.findIn K (.ref (CA.ca c)) (CA.fnm f) = some none ∧
      FnOk pr w K mg base C8.CX0 2 fi fd ps (spExc K c (CA.fnm f)) ∧ Binds K fd ps [] := by
  obtain ⟨f, fi, fd, qual, params, body, scope, p0, p1, p2, p3, n1, n2, h1, h2, h3, h4, h5, h6, h7, h8, h9, g1, g2, g3, g4, rfl⟩ := h
  refine ⟨f, fi, fd, [n1, n2], h1, h2, h4, h5, h3, ?_, Binds.all fun us hl => bind_plain h8 h9 h7.nd us hl⟩
  refine FunD.ok (k := 1) (N := [n1, n2]) h6 h7 (fun vs H Q E q => ?_) fun cdv A outer s H vs Q E hr hsp => ?_
  · obtain ⟨a, y, rfl, _⟩ := q; rfl
  · obtain ⟨a, y, rfl, q1, q2, q3, q4⟩ := hsp
    have v1 : PE (cxOf C8.CX0 pr w K mg base [n1, n2] qual scope fi cdv A outer s H E) (.Name n1 p0) (tVar 0) := pe_var (X := cxOf C8.CX0 pr w K mg base [n1, n2] qual scope fi cdv A outer s H E) rfl ((h7.par n1 (by simp)).elim (fun z => .inl z) fun z => .inr (.inl z)) g1 g2
    have v2 : PE (cxOf C8.CX0 pr w K mg base [n1, n2] qual scope fi cdv A outer s H E) (.Name n2 p2) (tVar 1) := pe_var (X := cxOf C8.CX0 pr w K mg base [n1, n2] qual scope fi cdv A outer s H E) rfl ((h7.par n2 (by simp)).elim (fun z => .inl z) fun z => .inr (.inl z)) g3 g4
    refine ⟨_, pss_one (ps_ost v1 v2), ?_⟩
    exact ⟨y, rfl, .ref a, rfl, a, CA.ca c, rfl, q1, q2, .inl ⟨q3, fun dx hd hne => q4 dx hd hne⟩⟩
theorem snd_raise {f c : Nat} {mf : MF} {e : Expr} {m : ME} {p pos pos2 : Pos} (cx : Cxt nm P cl gl X) (hf : P.lookup f = some mf) (hk : mf.kind = .exc c) (hg : Gl X (nm f)) (hdb : ((nm f) == ("__debug__" : Str)) = false) (hs : noStar e = true) (he : PE X e (tE cl gl X.K m)) :
    PS X (.Raise (some (.Call (.Name (nm f) p) [e] [] pos)) none pos2) (tSt cl gl fuel X (.raise c f [m])) := by
  have F := cx.fn f mf hf
  unfold FnE at F
  rw [hk] at F
  obtain ⟨hm, hx⟩ := F
  obtain ⟨fl, fi, fd, ps, h1, h2, h3, h4, h5, h6, h7⟩ := excI_fn hx (pr := X.prog) (w := X.w) (mg := X.mg) (base := X.base)
  have hr : Room 3 X.A := cx.rm
  have pk := pmk_oex (p := p) (pos := pos) h2 h3 h4 h6 hr h7 (dvs := []) .nil (fun _ _ _ _ _ _ _ z => z.elim) hg hm (pa_cons he pa_nil (star_cons hs)) hdb (star_cons hs)
  refine PS.imp (ps_raise cx.b.calm takes_wt pk) fun D σ H h => ?_
  obtain ⟨F0, R0, H0, F, R, fr, S, fl', S', md, hev, k⟩ := h
  simp only [ex, evs] at hev
  obtain ⟨xs, S1, e1, hev⟩ := bind_ok hev
  cases hev
  obtain ⟨x, S2, e2, e3⟩ := bindX_ok e1
  cases e3
  refine ⟨F, R, fr, S, x, _, md.s, md.f, e2, fun F1 R1 H1 v n1 rs1 rv => ⟨by simp, fun a ha => ⟨a, v, rfl, h2, h5, upd_same, fun dx hdx hne => ⟨rfl, dx, [(CA.fnm fl, v)], upd_same, ?_, ?_, ?_⟩⟩⟩⟩
  · rw [upd_ne hne, upd_same]
  · rw [upd_ne hne] at hdx; exact hdx
  · rw [upd_ne hne] at hdx
    have eH : upd (del (upd (upd (upd H1 a (exo a (CA.ca c) none)) dx (exd dx [(CA.fnm fl, v)])) a (exo a (CA.ca c) (some dx))) a) dx (.xd [(CA.fnm fl, v)]) = upd H1 dx (.xd [(CA.fnm fl, v)]) := by
      funext b
      by_cases hb : b = dx
      · subst hb; rw [upd_same, upd_same]
      · rw [upd_ne hb, upd_ne hb]
        by_cases hb2 : b = a
        · subst hb2; rw [del_same, ha]
        · rw [del_ne hb2, upd_ne hb2, upd_ne hb, upd_ne hb2]
    show WtX X (.ref (CA.ca c)) (some dx) σ (upd (del (upd (upd (upd H1 a (exo a (CA.ca c) none)) dx (exd dx [(CA.fnm fl, v)])) a (exo a (CA.ca c) (some dx))) a) dx (.xd [(CA.fnm fl, v)]))
    rw [eH]
    have n : Nw X.K F1 R1 H1 (upd F1 dx (.xd [(CA.fnm fl, v)])) (upd H1 dx (.xd [(CA.fnm fl, v)])) := Nw.one hdx rs1.fh
    exact k _ R1 _ σ _ _ ((md.n.trans n1).trans n.1) (n.2 _ rs1) ⟨c, [x], rfl, rfl, .inr ⟨x, v, dx, fl, rfl, rfl, h1, upd_same, rv.mono n.1.f n.1.r⟩⟩
end
end Mn
/-! dict displays, get -/
namespace Mn
open PySem PySem.Spec PyProof.Rows L2 RZ
variable [CA]
section
variable {nm : Nat → Str} {P : List (Nat × MF)} {cl : Nat → List D → Sto → Out D} {gl : GL} {X : Cx} {fuel : Nat}
/-! ### dict displays -/
def pairT (cl : Nat → List D → Sto → Out D) (gl : GL) (K : PySem.W.Frag) : List ME → List (TE × TE)
  | k :: v :: r => (tE cl gl K k, tE cl gl K v) :: pairT cl gl K r
  | _ => []
def pairV : List V → List (V × V)
  | k :: v :: r => (k, v) :: pairV r
  | _ => []
theorem run_pairs {σ : Stt} {fr : Frm} : ∀ (n : Nat) {ms : List ME} {F : Hp} {R : List Addr} {H : Hp} {S S' : Sto} {xs : List D} {Q : List (V × V) → Hp → Prop}, ms.length = 2 * n → RelS X.K F R H S → RelF X.K F R H σ fr → evs cl gl fr ms S = .ok xs S' →
    (∀ F' R' H' vs, Nxt F R H F' R' H' → RelS X.K F' R' H' S' → RepAll X.K F' R' vs xs → Q (pairV vs) H') → tPairs (pairT cl gl X.K ms) σ H Q
  | 0, ms, F, R, H, S, S', xs, Q, hl, rs, rf, he, k => by
    have : ms = [] := List.eq_nil_of_length_eq_zero hl
    subst this
    simp only [evs] at he
    cases he
    exact k F R H [] .refl rs .nil
  | n + 1, [], F, R, H, S, S', xs, Q, hl, rs, rf, he, k => by simp at hl
  | n + 1, [a], F, R, H, S, S', xs, Q, hl, rs, rf, he, k => by simp at hl; omega
  | n + 1, a :: b :: ms, F, R, H, S, S', xs, Q, hl, rs, rf, he, k => by
    simp only [evs] at he
    obtain ⟨x, S1, e1, he1⟩ := bindX_ok he
    obtain ⟨zs, S2, e2, he2⟩ := bindX_ok he1
    cases he2
    obtain ⟨y, S3, e3, he3⟩ := bindX_ok e2
    obtain ⟨ys, S4, e4, he4⟩ := bindX_ok he3
    cases he4
    refine ⟨F, R, fr, S, x, S1, rs, rf, e1, fun F1 R1 H1 v n1 rs1 rv => ⟨F1, R1, fr, S1, y, S3, rs1, rf.nxt n1, e3, fun F2 R2 H2 w n2 rs2 rw' => ?_⟩⟩
    refine run_pairs n (by simp at hl; omega) rs2 ((rf.nxt n1).nxt n2) e4 fun F3 R3 H3 vs n3 rs3 rvs => ?_
    exact k F3 R3 H3 (v :: w :: vs) ((n1.trans n2).trans n3) rs3 (.cons ((rv.mono n2.f n2.r).mono n3.f n3.r) (.cons (rw'.mono n3.f n3.r) rvs))
/-- the pairs' keys -/
theorem pairs_rep {K : PySem.W.Frag} {F : Hp} {R : List Addr} : ∀ (n : Nat) {vs : List V} {xs : List D} {kvs : List (Key × D)}, xs.length = 2 * n → RepAll K F R vs xs → pairsD xs = some kvs →
    ∃ ws : List V, ws.length = kvs.length ∧ pairV vs = ((kvs.map (·.1)).zip ws).map (fun kv => (kV kv.1, kv.2)) ∧ RepAll K F R ws (kvs.map (·.2)) ∧ kvs.length = n
  | 0, vs, xs, kvs, hl, r, h => by
    have : xs = [] := List.eq_nil_of_length_eq_zero hl
    subst this
    cases r
    cases h
    exact ⟨[], rfl, rfl, .nil, rfl⟩
  | n + 1, _, [], kvs, hl, r, h => by simp at hl
  | n + 1, _, [a], kvs, hl, r, h => by simp at hl; omega
  | n + 1, _, a :: b :: xs, kvs, hl, r, h => by
    cases r with
    | @cons v _ vs _ r1 t =>
      cases t with
      | @cons w _ ws _ r2 t =>
        simp only [pairsD] at h
        cases hk : keyD a with
        | none => rw [hk] at h; cases h
        | some k =>
          rw [hk] at h
          cases hp : pairsD xs with
          | none => rw [hp] at h; cases h
          | some kvs' =>
            rw [hp] at h
            cases h
            obtain ⟨us, e1, e2, e3, e4⟩ := pairs_rep n (by simp at hl; omega) t hp
            refine ⟨w :: us, by simp [e1], ?_, .cons r2 e3, by simp [e4]⟩
            have kv : v = kV k := by
              cases a <;> simp only [keyD, reduceCtorEq, Option.some.injEq] at hk
              · subst hk; cases r1; rfl
              · subst hk; cases r1; rfl
            rw [pairV, e2, kv]
            rfl
theorem merge_rep {K : PySem.W.Frag} {F : Hp} {R : List Addr} : ∀ (more : List (Key × D)) (us : List V) (kvs : List (Key × D)) (ws : List V), us.length = more.length → RepAll K F R us (more.map (·.2)) → ws.length = kvs.length → RepAll K F R ws (kvs.map (·.2)) →
    ∃ ws', ws'.length = (mergeD kvs more).length ∧ mergeK ((kvs.map (·.1)).zip ws) ((more.map (·.1)).zip us) = ((mergeD kvs more).map (·.1)).zip ws' ∧ RepAll K F R ws' ((mergeD kvs more).map (·.2))
  | [], us, kvs, ws, hu, ru, hw, rw' => by
    cases us with
    | nil => exact ⟨ws, hw, rfl, rw'⟩
    | cons => simp at hu
  | (k, d) :: more, [], kvs, ws, hu, ru, hw, rw' => by simp at hu
  | (k, d) :: more, u :: us, kvs, ws, hu, ru, hw, rw' => by
    cases ru with
    | cons r1 t =>
      obtain ⟨ws1, e1, e2, e3⟩ := putD_rep (k := k) r1 rw' hw
      obtain ⟨ws2, f1, f2, f3⟩ := merge_rep more us (putD kvs k d) ws1 (by simpa using hu) t e1 e3
      refine ⟨ws2, f1, ?_, f3⟩
      have e2' : putK ((kvs.map (·.1)).zip ws) k u = ((putD kvs k d).map (·.1)).zip ws1 := e2
      refine Eq.trans ?_ f2
      show mergeK (putK ((kvs.map (·.1)).zip ws) k u) ((more.map (·.1)).zip us) = _
      rw [e2']
theorem snd_dct {keys : List (Option Expr)} {values : List Expr} {ms : List ME} {pos : Pos} (h : PPs X pos keys values (pairT cl gl X.K ms)) (hall : keys.all (·.isSome) = true) (hl : keys.length = values.length) (h0 : keys ≠ []) (h15 : keys.length ≤ 15) (hm : ms.length = 2 * keys.length) :
    PE X (.Dict keys values pos) (tE cl gl X.K (.dct ms)) := by
  refine PE.imp (pe_disp h hall hl h0 h15) fun σ H Q h => ?_
  obtain ⟨F, R, fr, S, d, S', rs, rf, he, k⟩ := h
  simp only [ev] at he
  obtain ⟨xs, S1, e1, he1⟩ := bind_ok he
  obtain ⟨e2, rfl⟩ := opt_ok he1
  intro p hp
  have fp : F p = none := rs.fh.free hp
  have nR : p ∉ R := fun hm => by
    obtain ⟨o, ho⟩ := rs.tr p hm
    rw [hp] at ho; cases ho
  have n0 : Nxt F R H F R (upd H p (.dK [])) := Nxt.lay hp
  refine run_pairs keys.length hm (rs.lay fp nR (Pln.non hp)) (rf.nxt n0) e1 fun F1 R1 H1 vs n1 rs1 rvs => ?_
  have pH : H1 p = some (.dK []) := n1.tr p _ upd_same nR (fun _ z => by cases z)
  have pF : F1 p = none := by
    cases q : F1 p with
    | none => rfl
    | some o =>
      rcases n1.new p o q with z | z | z
      · rw [fp] at z; cases z
      · rw [upd_same] at z; cases z
      · exact (nR z).elim
  have pR : p ∉ R1 := fun hm => by
    rcases n1.newR p hm with z | z
    · exact nR z
    · rw [upd_same] at z; cases z
  have hx : xs.length = 2 * keys.length := by rw [evs_len e1, hm]
  cases hpd : pairsD xs with
  | none => rw [hpd] at e2; cases e2
  | some kvs =>
    rw [hpd] at e2
    cases e2
    obtain ⟨ws, g1, g2, g3, g4⟩ := pairs_rep keys.length hx rvs hpd
    obtain ⟨ws', f1, f2, f3⟩ := merge_rep (K := X.K) (F := F1) (R := R1) kvs ws [] [] g1 g3 rfl .nil
    refine ⟨pH, (kvs.map (·.1)).zip ws, g2, by rw [List.length_zip, List.length_map, g1, Nat.min_self, g4]; exact h15, ?_⟩
    have f2' : mergeK [] ((kvs.map (·.1)).zip ws) = ((mergeD [] kvs).map (·.1)).zip ws' := f2
    rw [f2']
    have n01 : Nxt F R H F1 R1 H1 := n0.trans n1
    have n2 : Nxt F R H F1 R1 (upd H1 p (.dK (((mergeD [] kvs).map (·.1)).zip ws'))) := n01.put hp
    have rs2 : RelS X.K F1 R1 (upd H1 p (.dK (((mergeD [] kvs).map (·.1)).zip ws'))) S' := rs1.lay pF pR (Pln.dK pH)
    obtain ⟨n3, rs3, f1s⟩ := own_frzG rs2 n2 hp pF pR upd_same
    have q := Rep.dic (K := X.K) (R := R1) (ks := (mergeD [] kvs).map (·.1)) (ws := ws') (ds := (mergeD [] kvs).map (·.2)) (a := p) (F := upd F1 p (.dK (((mergeD [] kvs).map (·.1)).zip ws'))) upd_same (by rw [f1, List.length_map]) (f3.mono f1s (List.prefix_refl _))
    rw [zip_self] at q
    exact k _ R1 _ _ n3 rs3 q
theorem snd_dct0 {pos : Pos} : PE X (.Dict [] [] pos) (tE cl gl X.K (.dct [])) := by
  refine PE.imp pe_dnewK fun σ H Q h => ?_
  obtain ⟨F, R, fr, S, d, S', rs, rf, he, k⟩ := h
  simp only [ev, evs] at he
  obtain ⟨xs, S1, e1, he1⟩ := bind_ok he
  cases e1
  obtain ⟨e2, rfl⟩ := opt_ok he1
  cases e2
  intro p hp
  have n : Nw X.K F R H (upd F p (.dK [])) (upd H p (.dK [])) := Nw.one hp rs.fh
  exact k _ R _ _ n.1 (n.2 _ rs) (Rep.dic (ks := []) (ws := []) (ds := []) upd_same rfl .nil)
/-! ### get -/
theorem m1_of {o e : Expr} {m : Str} {apos cpos : Pos} (h1 : noSup o = true) (h2 : noStar e = true) (h4 : (apos.endLine == cpos.line) = true) : M1 X o m apos e cpos := by
  have s := star_cons (es := []) (env := X.env) h2
  exact ⟨base_eq h1, by rw [s]; rfl, h4, by rw [s]; rfl⟩
theorem m2_of {o e f : Expr} {m : Str} {apos cpos : Pos} (h1 : noSup o = true) (h2 : noStar e = true) (h3 : noStar f = true) (h4 : (apos.endLine == cpos.line) = true) : M2 X o m apos e f cpos := by
  have s := star_cons (es := [f]) (env := X.env) h2
  have s2 := star_cons (es := []) (env := X.env) h3
  rw [s2] at s
  exact ⟨base_eq h1, by rw [s]; rfl, h4, by rw [s]; rfl⟩
theorem key_rep {K : PySem.W.Frag} {F : Hp} {R : List Addr} {v : V} {d : D} {k : Key} (r : Rep K F R v d) (h : keyD d = some k) : v = kV k := by
  cases d <;> simp only [keyD, reduceCtorEq, Option.some.injEq] at h
  · subst h; cases r; rfl
  · subst h; cases r; rfl
theorem dic_rep {K : PySem.W.Frag} {F : Hp} {R : List Addr} {v : V} {kvs : List (Key × D)} (r : Rep K F R v (.dic kvs)) : ∃ a ws, v = .ref a ∧ F a = some (.dK ((kvs.map (·.1)).zip ws)) ∧ ws.length = kvs.length ∧ RepAll K F R ws (kvs.map (·.2)) := by
  generalize hd : D.dic kvs = d at r
  cases r <;> first | cases hd | skip
  case dic a ks ws ds h hl r =>
    have hd2 : ds.length = ks.length := by rw [hl, r.length]
    refine ⟨a, ws, rfl, ?_, ?_, ?_⟩
    · rw [List.map_fst_zip (by omega)]; exact h
    · rw [List.length_zip]; omega
    · rw [List.map_snd_zip (by omega)]; exact r
theorem snd_get2 {o e f : Expr} {a b c : ME} {apos pos : Pos} (cx : Cxt nm P cl gl X) (hn : noSup o = true) (h2 : noStar e = true) (h3 : noStar f = true) (hp : (apos.endLine == pos.line) = true) (ho : PE X o (tE cl gl X.K a)) (he : PE X e (tE cl gl X.K b)) (hf : PE X f (tE cl gl X.K c)) :
    PE X (.Call (.Attribute o "get" apos) [e, f] [] pos) (tE cl gl X.K (.get2 a b c)) := by
  refine PE.imp (pe_dget2 (by have := cx.b.un; omega) ho he hf (m2_of hn h2 h3 hp)) fun σ H Q h => ?_
  obtain ⟨F, R, fr, S, d, S', rs, rf, hev, k⟩ := h
  simp only [ev] at hev
  obtain ⟨x, S1, e1, h1⟩ := bind_ok hev
  obtain ⟨y, S3, e3, h5⟩ := bind_ok h1
  obtain ⟨z, S5, e5, h6⟩ := bind_ok h5
  obtain ⟨e6, rfl⟩ := opt_ok h6
  refine ⟨F, R, fr, S, x, S1, rs, rf, e1, fun F1 R1 H1 v n1 rs1 rv => ?_⟩
  cases x <;> simp only [meD, reduceCtorEq] at e6
  case dic kvs =>
    obtain ⟨ad, ws, rfl, g1, g2, g3⟩ := dic_rep rv
    refine ⟨ad, rfl, .inl ⟨_, .inl (rs1.fh _ _ g1)⟩, F1, R1, fr, S1, y, S3, rs1, rf.nxt n1, e3, fun F2 R2 H2 w n2 rs2 rw' => ⟨F2, R2, fr, S3, z, S', rs2, (rf.nxt n1).nxt n2, e5, fun F3 R3 H3 u n3 rs3 ru => ?_⟩⟩
    have g4 : H3 ad = some (.dK ((kvs.map (·.1)).zip ws)) := rs3.fh _ _ (n3.f _ _ (n2.f _ _ g1))
    cases hk : keyD y with
    | none => rw [hk] at e6; cases e6
    | some kk =>
      rw [hk] at e6
      cases e6
      have wk := key_rep rw' hk
      refine ⟨valV ((kvs.map (·.1)).zip ws) kk, .inl ⟨_, kk, .inl g4, wk, rfl⟩, ?_⟩
      rcases getK_rep (k := kk) ((g3.mono n2.f n2.r).mono n3.f n3.r) g2 with ⟨q1, q2⟩ | ⟨d1, v1, q1, q2, q3⟩
      · rw [q2]
        refine k F3 R3 H3 u ((n1.trans n2).trans n3) rs3 ?_
        show Rep X.K F3 R3 u ((getK kvs kk).getD z)
        rw [q1]
        exact ru
      · rw [q2]
        refine k F3 R3 H3 v1 ((n1.trans n2).trans n3) rs3 ?_
        show Rep X.K F3 R3 v1 ((getK kvs kk).getD z)
        rw [q1]
        exact q3
theorem snd_get1 {o e : Expr} {a b : ME} {apos pos : Pos} (cx : Cxt nm P cl gl X) (hn : noSup o = true) (h2 : noStar e = true) (hp : (apos.endLine == pos.line) = true) (ho : PE X o (tE cl gl X.K a)) (he : PE X e (tE cl gl X.K b)) :
    PE X (.Call (.Attribute o "get" apos) [e] [] pos) (tE cl gl X.K (.get1 a b)) := by
  refine PE.imp (pe_dget1 (by have := cx.b.un; omega) ho he (m1_of hn h2 hp)) fun σ H Q h => ?_
  obtain ⟨F, R, fr, S, d, S', rs, rf, hev, k⟩ := h
  simp only [ev] at hev
  obtain ⟨x, S1, e1, h1⟩ := bind_ok hev
  obtain ⟨y, S3, e3, h5⟩ := bind_ok h1
  obtain ⟨e6, rfl⟩ := opt_ok h5
  refine ⟨F, R, fr, S, x, S1, rs, rf, e1, fun F1 R1 H1 v n1 rs1 rv => ?_⟩
  cases x <;> simp only [meD, reduceCtorEq] at e6
  case dic kvs =>
    obtain ⟨ad, ws, rfl, g1, g2, g3⟩ := dic_rep rv
    refine ⟨ad, rfl, .inl ⟨_, .inl (rs1.fh _ _ g1)⟩, F1, R1, fr, S1, y, S', rs1, rf.nxt n1, e3, fun F2 R2 H2 w n2 rs2 rw' => ?_⟩
    have g4 : H2 ad = some (.dK ((kvs.map (·.1)).zip ws)) := rs2.fh _ _ (n2.f _ _ g1)
    cases hk : keyD y with
    | none => rw [hk] at e6; cases e6
    | some kk =>
      rw [hk] at e6
      cases e6
      have wk := key_rep rw' hk
      refine ⟨valV ((kvs.map (·.1)).zip ws) kk, .inl ⟨_, kk, .inl g4, wk, rfl⟩, ?_⟩
      rcases getK_rep (k := kk) (g3.mono n2.f n2.r) g2 with ⟨q1, q2⟩ | ⟨d1, v1, q1, q2, q3⟩
      · rw [q2]
        refine k F2 R2 H2 .non (n1.trans n2) rs2 ?_
        show Rep X.K F2 R2 .non ((getK kvs kk).getD .non)
        rw [q1]
        exact .non
      · rw [q2]
        refine k F2 R2 H2 v1 (n1.trans n2) rs2 ?_
        show Rep X.K F2 R2 v1 ((getK kvs kk).getD .non)
        rw [q1]
        exact q3
end
end Mn
/-! lists of the store: walked, changed; == by __eq__ -/
namespace Mn
open PySem PySem.Spec PyProof.Rows L2 RZ
variable [CA]
section
variable {nm : Nat → Str} {P : List (Nat × MF)} {cl : Nat → List D → Sto → Out D} {gl : GL} {X : Cx} {fuel : Nat}
/-! ### walks over a list of the store -/
theorem live_at {K : PySem.W.Frag} {F H : Hp} {R : List Addr} {S : Sto} {n : Nat} {a : Addr} {xs : List D} (rs : RelS K F R H S) (hn : R[n]? = some a) (h : S[n]? = some (.lst xs)) : F a = none ∧ ∃ vs, H a = some (.lst vs) ∧ RepAll K F R vs xs := rs.at_ n a _ hn h
theorem wk_its {x : D} {xs : List D} (h : wkD x = some (.its xs)) : rdF x = some xs := by
  cases x <;> simp only [wkD, Option.some.injEq, Wk.its.injEq, reduceCtorEq] at h <;> (subst h; rfl)
theorem wk_live {x : D} {n : Nat} (h : wkD x = some (.live n)) : x = .obj n := by
  cases x <;> simp only [wkD, Option.some.injEq, Wk.live.injEq, reduceCtorEq] at h
  subst h; rfl
theorem snd_forL {tg iter : Expr} {body : List Stmt} {g : MG} {src : ME} {mb : List MS} {pos : Pos} (c : Cxt nm P cl gl X) (hi : PE X iter (tE cl gl X.K src)) (hw : PI X tg iter (tW cl gl X.K (.lst src))) (hg : PG X tg (tG cl gl X.K g)) (hb : PSs X body (tSb cl gl fuel X mb)) (hs : noSet iter = true) : PS X (.For tg iter body [] pos) (tSt cl gl fuel X (.forL g src mb)) := by
  have A := snd_for (pos := pos) c hw hg hb hs
  have B := ps_for (pos := pos) c.px c.b.calm (pi_list hi) hg hb (fun x => no_fold hs x)
  refine ⟨fun pins s σ H D I h => ?_⟩
  obtain ⟨F0, R0, H0, F, R, fr, S, fl, S', md, he, k⟩ := h
  simp only [ex] at he
  obtain ⟨x, S1, e1, he⟩ := bind_ok he
  obtain ⟨w, S2, e2, he⟩ := bind_ok he
  obtain ⟨e3, rfl⟩ := opt_ok e2
  cases w with
  | its xs =>
    refine A.run pins s σ H D I ⟨F0, R0, H0, F, R, fr, S, fl, S', md, ?_, k⟩
    simp only [ex, evI, e1, Out.bind, wk_its e3, opt]
    exact he
  | live n =>
    have ex' := wk_live e3
    subst ex'
    refine B.run pins s σ H D I ?_
    refine ⟨F, R, fr, S, .obj n, S2, md.s, md.f, e1, fun F1 R1 H1 v n1 rs1 rv => ?_⟩
    cases rv with
    | @obj a _ hn =>
    have m1 := md.step n1 rs1
    have sq : ∃ vs, SqL X.K H1 a vs := by
      have he2 : forLv n (asg cl gl g) (exs cl gl fuel mb) (999999 + 1) 0 fr S2 = .ok fl S' := he
      rw [forLv] at he2
      clear he
      have he := he2
      cases q : S2[n]? with
      | none => rw [q] at he; cases he
      | some so =>
        rw [q] at he
        cases so with
        | lst xs =>
          obtain ⟨_, vs, g1, _⟩ := live_at rs1 hn q
          exact ⟨vs, SqL.of g1⟩
        | _ => cases he
    refine ⟨a, rfl, sq, fun i m σ' H' => ∃ F' R' fr' Sx, Mid X.K F0 R0 H0 F' R' H' σ' fr' Sx ∧ R'[n]? = some a ∧ forLv n (asg cl gl g) (exs cl gl fuel mb) m i fr' Sx = .ok fl S', ⟨LF, F1, R1, fr, S2, m1, hn, he⟩, ?_⟩
    rintro i m σ1 H1' ⟨F', R', fr', Sx, m', hn', ef⟩
    cases m with
    | zero => simp only [forLv] at ef; cases ef
    | succ m =>
      simp only [forLv] at ef
      cases q : Sx[n]? with
      | none => rw [q] at ef; cases ef
      | some so =>
        rw [q] at ef
        cases so with
        | lst xs =>
          simp only [] at ef
          obtain ⟨_, vs, g1, g2⟩ := live_at m'.s hn' q
          cases hx : xs[i]? with
          | none =>
            rw [hx] at ef
            cases ef
            exact .inl ⟨⟨vs, SqL.of g1, by rw [g2.length]; exact List.getElem?_eq_none_iff.mp hx⟩, k F' R' H1' σ1 m'⟩
          | some dx =>
            rw [hx] at ef
            obtain ⟨v, v1, v2⟩ := g2.get hx
            refine .inr ⟨⟨vs, v, SqL.of g1, v1⟩, fun σ' H' => ∃ F' R' fr' Sx, Mid X.K F0 R0 H0 F' R' H' σ' fr' Sx ∧ R'[n]? = some a ∧ forLv n (asg cl gl g) (exs cl gl fuel mb) m (i + 1) fr' Sx = .ok fl S', fun σ' H' q => ⟨m, Nat.lt_succ_self m, q⟩, fun v' H'' y => ?_⟩
            obtain ⟨rfl, y⟩ := y
            have hv := y vs (SqL.of g1)
            rw [v1] at hv
            cases hv
            obtain ⟨fr2, S3, a1, ef⟩ := bind_ok ef
            obtain ⟨f, S4, a2, ef⟩ := bind_ok ef
            refine ⟨F', R', fr', Sx, dx, fr2, S3, m'.s, m'.f, v2, a1, fun F3 R3 σ3 H3 n3 r3 f3 _ _ w3 => ?_⟩
            have m3 : Mid X.K F0 R0 H0 F3 R3 H3 σ3 fr2 S3 := ⟨r3, f3, m'.n.trans n3, fun j a z => m'.y j a (w3 j a z)⟩
            have hn3 : R3[n]? = some a := ix_pre n3.r hn'
            have nj : ∀ {F4 : Hp} {R4 : List Addr} {H4 : Hp}, Nxt F3 R3 H0 F4 R4 H4 → Nxt F0 R0 H0 F4 R4 H4 := fun n => m3.n.join n
            have mj : ∀ {F4 : Hp} {R4 : List Addr} {H4 : Hp} {σ4 : Stt} {fr4 : Frm} {S4 : Sto}, Mid X.K F3 R3 H0 F4 R4 H4 σ4 fr4 S4 → Mid X.K F0 R0 H0 F4 R4 H4 σ4 fr4 S4 := fun q => ⟨q.s, q.f, nj q.n, q.y⟩
            have m4 : Mid X.K F3 R3 H0 F3 R3 H3 σ3 fr2 S3 := ⟨r3, f3, m3.n.fin, m3.y⟩
            refine ⟨F3, R3, H0, F3, R3, fr2, S3, f, S4, m4, a2, ?_⟩
            cases f with
            | next fr4 => exact fun F4 R4 H4 σ4 q => ⟨F4, R4, fr4, S4, mj q, ix_pre q.n.r hn3, ef⟩
            | cont fr4 => exact fun F4 R4 H4 σ4 q => ⟨F4, R4, fr4, S4, mj q, ix_pre q.n.r hn3, ef⟩
            | brk fr4 => cases ef; exact fun F4 R4 H4 σ4 q => k F4 R4 H4 σ4 (mj q)
            | ret d => cases ef; exact fun F4 R4 H4 v n4 => k F4 R4 H4 v (nj n4)
            | exc x => cases ef; exact fun F4 R4 H4 σ4 c e n4 => k F4 R4 H4 σ4 c e (nj n4)
        | _ => cases ef
theorem its_ev {own : List Nat} {g : MG} {src : ME} {tt : List MT} {e : ME} {fr : Frm} {S S1 : Sto} {x : D} {xs : List D} (e1 : ev cl gl fr src S = .ok x S1) (e3 : wkD x = some (.its xs)) : ev cl gl fr (.lcL own g src tt e) S = ev cl gl fr (.lc own g (.lst src) tt e) S := by
  simp only [ev, evI, e1, Out.bind, wk_its e3, e3, opt, foldW]
theorem snd_lcL {elt tg iter : Expr} {ifs : List Expr} {scope : Scope} {own : List (Str × Nat)} {pos : Pos} {g : MG} {src : ME} {tt : List MT} {e : ME} (c : Cxt nm P cl gl X) (hi : PE X iter (tE cl gl X.K src)) (hw : PI X tg iter (tW cl gl X.K (.lst src))) (ok : BlkOk X.N X.env.scope scope own)
    (hg : ∀ (s : Shared) (H : Hp) (C : Addr) (cl' : List (Str × Addr)) (fp : List Addr), PG (X.blk s H scope (compEnvC scope cl' C X.env) fp) tg (tG cl gl X.K g)) (ht : ∀ (s : Shared) (H : Hp) (C : Addr) (cl' : List (Str × Addr)) (fp : List Addr), PTs (X.blk s H scope (compEnvC scope cl' C X.env) fp) ifs (tMs cl gl X.K tt))
    (he : ∀ (s : Shared) (H : Hp) (C : Addr) (cl' : List (Str × Addr)) (fp : List Addr), PE (X.blk s H scope (compEnvC scope cl' C X.env) fp) elt (tE cl gl X.K e)) (hs : noSet iter = true) (hsub : ∀ j ∈ gSl g, j ∈ own.map (·.2)) :
    PE X (.ListComp elt [⟨tg, iter, ifs, 0⟩] scope pos) (tE cl gl X.K (.lcL (own.map (·.2)) g src tt e)) := by
  have A := snd_lc (pos := pos) c hw ok hg ht he hs hsub
  have B := pe_lc (pos := pos) c.b.calm c.nd (pi_list hi) ok hg ht he (fun x => no_fold hs x)
  refine ⟨fun pins s σ H Q I h => ?_⟩
  obtain ⟨F, R, fr, S, d, S', rs, rf, hev, k⟩ := h
  have hev0 : ev cl gl fr (.lcL (own.map (·.2)) g src tt e) S = .ok d S' := hev
  simp only [ev] at hev
  obtain ⟨x, S1, e1, hev1⟩ := bind_ok hev
  obtain ⟨w, S2, e2, hev2⟩ := bind_ok hev1
  obtain ⟨e3, rfl⟩ := opt_ok e2
  cases w with
  | its xs =>
    rw [its_ev e1 e3] at hev0
    exact A.run pins s σ H Q I ⟨F, R, fr, S, d, S', rs, rf, hev0, k⟩
  | live n =>
    have exo := wk_live e3
    subst exo
    obtain ⟨acc, S3, e4, e5⟩ := bind_ok hev2
    cases e5
    refine B.run pins s σ H Q I ?_
    refine ⟨F, R, fr, S, .obj n, S2, rs, rf, e1, fun F1 R1 H1 v n1 rs1 rv => ?_⟩
    cases rv with
    | @obj a _ hn =>
    have e4' : foldL n (lcF cl gl fr (own.map (·.2)) g tt e) (999999 + 1) 0 [] S2 = .ok acc S' := e4
    have sq : ∃ vs, SqL X.K H1 a vs := by
      have he2 := e4'
      rw [foldL] at he2
      cases q : S2[n]? with
      | none => rw [q] at he2; cases he2
      | some so =>
        rw [q] at he2
        cases so with
        | lst xs =>
          obtain ⟨_, vs, g1, _⟩ := live_at rs1 hn q
          exact ⟨vs, SqL.of g1⟩
        | _ => cases he2
    refine ⟨a, rfl, sq, fun Dl hD => ?_⟩
    have hF1 : F1 Dl = none := rs1.fh.free hD
    have hR1 : Dl ∉ R1 := fun hm => by
      obtain ⟨o, ho⟩ := rs1.tr Dl hm
      rw [hD] at ho; cases ho
    refine ⟨fun i m H' => ∃ F' R' Sx pre vs, Nxt F1 R1 H1 F' R' H' ∧ RelS X.K F' R' H' Sx ∧ F' Dl = none ∧ Dl ∉ R' ∧ H' Dl = some (.lst vs) ∧ RepAll X.K F' R' vs pre ∧ foldL n (lcF cl gl fr (own.map (·.2)) g tt e) m i pre Sx = .ok acc S',
      ⟨999999 + 1, F1, R1, S2, [], [], Nxt.lay hD, rs1.lay hF1 hR1 (Pln.non hD), hF1, hR1, upd_same, .nil, e4'⟩, ?_⟩
    rintro i m H' ⟨F', R', Sx, pre, us, nx, r, d1, d2, d3, ra, ef⟩
    have hn' : R'[n]? = some a := ix_pre nx.r hn
    cases m with
    | zero => simp only [foldL] at ef; cases ef
    | succ m =>
      rw [foldL] at ef
      cases q : Sx[n]? with
      | none => rw [q] at ef; cases ef
      | some so =>
        rw [q] at ef
        cases so with
        | lst xs =>
          simp only [] at ef
          obtain ⟨_, vs, g1, g2⟩ := live_at r hn' q
          cases hx : xs[i]? with
          | none =>
            rw [hx] at ef
            cases ef
            refine .inl ⟨⟨vs, SqL.of g1, by rw [g2.length]; exact List.getElem?_eq_none_iff.mp hx⟩, ?_⟩
            obtain ⟨q1, q2, q3⟩ := own_frz r (n1.trans nx) (n1.back rs1 hD) d1 d2 d3 ra
            exact k _ R' H' _ q1 q2 q3
          | some dx =>
            rw [hx] at ef
            obtain ⟨v, v1, v2⟩ := g2.get hx
            refine .inr ⟨⟨vs, v, SqL.of g1, v1⟩, fun H' => ∃ F' R' Sx pre vs, Nxt F1 R1 H1 F' R' H' ∧ RelS X.K F' R' H' Sx ∧ F' Dl = none ∧ Dl ∉ R' ∧ H' Dl = some (.lst vs) ∧ RepAll X.K F' R' vs pre ∧ foldL n (lcF cl gl fr (own.map (·.2)) g tt e) m (i + 1) pre Sx = .ok acc S', fun H' q => ⟨m, Nat.lt_succ_self m, q⟩, fun v' H'' y => ?_⟩
            obtain ⟨rfl, y⟩ := y
            have hv := y vs (SqL.of g1)
            rw [v1] at hv
            cases hv
            obtain ⟨pre2, S4, ef1, ef2⟩ := bind_ok ef
            simp only [lcF] at ef1
            obtain ⟨fr2, S5, a1, ef3⟩ := bind_ok ef1
            obtain ⟨b, S6, a2, ef4⟩ := bind_ok ef3
            clear ef1 ef3
            refine ⟨F', R', wipeF fr (own.map (·.2)), Sx, dx, fr2, S5, r, ((rf.nxt n1).nxt nx).wipe _, v2, a1, fun F3 R3 σ3 H3 n3 r3 f3 l3 o3 _ => ⟨wipe_same l3 fun j hj => o3 j fun z => hj (hsub j z), ?_⟩⟩
            obtain ⟨d1, d2, d3⟩ := own_nxt n3 d1 d2 d3
            refine ⟨F3, R3, fr2, S5, b, S6, r3, f3, a2, fun F4 R4 H4 b' n4 r4 eb => ?_⟩
            subst eb
            obtain ⟨d1, d2, d3⟩ := own_nxt n4 d1 d2 d3
            have n5 := (nx.trans n3).trans n4
            have ra4 := (ra.mono n3.f n3.r).mono n4.f n4.r
            cases b' with
            | false =>
              rw [if_neg Bool.false_ne_true] at ef4 ⊢
              cases ef4
              exact ⟨F4, R4, _, _, us, n5, r4, d1, d2, d3, ra4, ef2⟩
            | true =>
              rw [if_pos rfl] at ef4 ⊢
              obtain ⟨z, S7, a3, ef5⟩ := bind_ok ef4
              refine ⟨F4, R4, fr2, S6, z, S7, r4, f3.nxt n4, a3, fun F6 R6 H6 v6 n6 r6 rz => ?_⟩
              obtain ⟨d1, d2, d3⟩ := own_nxt n6 d1 d2 d3
              have ra6 := ra4.mono n6.f n6.r
              split at ef5
              · rename_i hlt
                cases ef5
                refine ⟨us, d3, by rw [ra.length]; exact hlt, F6, R6, _, _, us ++ [v6], ?_, r6.lay d1 d2 (Pln.lst d3), d1, d2, upd_same, ra6.append (.cons rz .nil), ef2⟩
                exact (n5.trans n6).put hD
              · cases ef5
        | _ => cases ef
/-! ### a list of the store is changed -/
theorem snd_mutA {o e : Expr} {a b : ME} {apos pos : Pos} (hn : noSup o = true) (hs : noStar e = true) (hl : (apos.endLine == pos.line) = true) (ho : PE X o (tE cl gl X.K a)) (he : PE X e (tE cl gl X.K b)) :
    PE X (.Call (.Attribute o "append" apos) [e] [] pos) (tE cl gl X.K (.app a b)) := by
  have hst : starEach [e] X.env = [(false, eval e X.env)] := star_cons hs
  refine PE.imp (pe_bm PySem.F.plainAttrs_list PySem.F.slot_list_append PySem.F.type_list_append mt_append ho (pa_cons he pa_nil hst) (base_eq hn) (hfew := by rw [hst]; rfl) (hline := hl) (hs := star_cons hs)) fun σ H Q h => ?_
  obtain ⟨F, R, fr, S, d, S', rs, rf, hev, k⟩ := h
  simp only [ev] at hev
  obtain ⟨x, S1, e1, h0⟩ := bind_ok hev
  obtain ⟨zs, S1', e0, h1⟩ := bind_ok h0
  obtain ⟨r0, rfl⟩ := opt_ok e0
  obtain ⟨y, S2, e3, h5⟩ := bind_ok h1
  obtain ⟨S4, S5, e4, h6⟩ := bind_ok h5
  obtain ⟨e5, rfl⟩ := opt_ok e4
  cases h6
  cases x <;> simp only [appD, reduceCtorEq] at e5
  case obj n =>
    refine ⟨F, R, fr, S, _, S1', rs, rf, e1, fun F1 R1 H1 v n1 rs1 rv => ?_⟩
    cases rv with
    | @obj ad _ hn =>
    have ty : ∃ us, SqL X.K H1 ad us := by
      simp only [rdL] at r0
      cases q : S1'[n]? with
      | none => rw [q] at r0; cases r0
      | some so =>
        rw [q] at r0
        cases so with
        | lst xs =>
          obtain ⟨_, vs, g1, _⟩ := live_at rs1 hn q
          exact ⟨vs, SqL.of g1⟩
        | _ => cases r0
    obtain ⟨us, hus⟩ := ty
    refine ⟨.inl ⟨rfl, us, hus⟩, F1, R1, fr, S1', y, S5, rs1, rf.nxt n1, e3, fun F2 R2 H2 w n2 rs2 rw' => ?_⟩
    have hn2 : R2[n]? = some ad := ix_pre n2.r hn
    cases q : S5[n]? with
    | none => rw [q] at e5; cases e5
    | some so =>
      rw [q] at e5
      cases so with
      | lst xs =>
        simp only [] at e5
        by_cases hlt : xs.length < sizeLine
        · rw [if_pos hlt] at e5
          cases e5
          obtain ⟨fa, vs, g1, g2⟩ := live_at rs2 hn2 q
          obtain ⟨q1, q2, q3⟩ := store_upd (u := .lst (vs ++ [w])) (so' := .lst (xs ++ [y])) rs2 ((rf.nxt n1).nxt n2) hn2 q fa (Pln.lst g1) ⟨fa, _, upd_same, g2.append (.cons rw' .nil)⟩
          exact ⟨ad, vs, w, rfl, rfl, g1, by rw [g2.length]; exact hlt, k F2 R2 _ .non ((n1.trans n2).trans q1) q2 .non⟩
        · rw [if_neg hlt] at e5
          cases e5
      | _ => simp at e5
/-! ### == by the class's own __eq__ -/
def InsH (H : Hp) (a C : Addr) : Prop := (∃ dx fs, H a = some (.ins C dx fs)) ∨ ∃ dx vs, SlX.Slt H a C dx vs
theorem insH_at {pins : List (Addr × Obj)} {σ : L2.St} {H : Hp} {s : Shared} {a C : Addr} (I : L2.Inv X pins σ H s) (h : InsH H a C) : ∃ ox od, PySem.W.InstAt s.heap a ox C od := by
  rcases h with ⟨dx, fs, h⟩ | ⟨dx, vs, h⟩
  · obtain ⟨mA, O, _⟩ := ins_get I.hok h
    obtain ⟨od, J, _⟩ := O.look
    exact ⟨_, _, J⟩
  · obtain ⟨sl, od, _, J, _⟩ := SlX.slt_inst I h
    exact ⟨_, _, J⟩
theorem op_eqm (hu : X.A.units < cLine) : OpR X (compareOp .Eq) (fun x y H Q => ∃ a b C g ps sp, x = .ref a ∧ y = .ref b ∧ InsH H a C ∧ InsH H b C ∧ PySem.W.findIn X.K (.ref C) "__eq__" = some (some (.ref g)) ∧ PySem.W.isFn X.K (.ref g) = true ∧ CeR X (.ref g) 0 ps sp ∧ ∀ E, sp [x, y] H Q E) := by
  intro pins s σ H x y v u Q I rx ry h
  obtain ⟨a, b, C, g, ps, sp, rfl, rfl, ha, hb, hs, hf, ce, q⟩ := h
  cases (show v = Value.ref a from rx)
  cases (show u = Value.ref b from ry)
  obtain ⟨ox, od, J⟩ := insH_at I ha
  obtain ⟨ox', od', J'⟩ := insH_at I hb
  obtain ⟨m, hF⟩ := I.fr
  show wpAny _ _ (richCompare .Eq (.ref a) (.ref b)) _ _ _
  have nf : PySem.W.notFirst X.K C (.ref C) = true := by
    unfold PySem.W.notFirst
    simp
  refine PySem.W.cmp_K (op := .Eq) (tb := .ref C) hu hF I.ok.mod.kin J J'.type nf hs hf ?_
  refine wpAny_mono (ce.run I (us := [.ref a, .ref b]) (us' := [.ref a, .ref b]) (kw := []) (vs := [.ref a, .ref b]) (.inl ⟨rfl, rfl⟩) (.cons rfl (.cons rfl .nil)) (q _)) (fun w s' z => ?_) fun _ _ x => x
  obtain ⟨z', H', I', rz, qz⟩ := z
  exact SlX.cmpback rz ⟨z', H', I', rz, qz⟩
theorem insAt_h {H : Hp} {a dx : Addr} {c : Nat} {ws : List V} (h : InsAt H a dx c ws) : InsH H a (CA.ca c) := by
  cases hsl : CA.sl c with
  | false => exact .inl ⟨_, _, insAt_dct h hsl⟩
  | true => exact .inr ⟨_, _, insAt_slt h hsl⟩
theorem snd_eqm {a b : Expr} {ma mb : ME} {m : Nat} {pos : Pos} (c : Cxt nm P cl gl X) (hm : nm m = "__eq__") (hmk : noSet b = true) (ha : PE X a (tE cl gl X.K ma)) (hb : PE X b (tE cl gl X.K mb)) : PE X (.Compare a [.Eq] [b] pos) (tE cl gl X.K (.eqm m ma mb)) := by
  have A := pe_cmpR (pos := pos) (op_cmp (by have := c.b.un; omega) .Eq) ha hb (no_marks hmk)
  have B := pe_cmpR (pos := pos) (op_eqm (X := X) (by have := c.b.un; omega)) ha hb (no_marks hmk)
  refine PE.imp (PE.or A B) fun σ H Q h => ?_
  obtain ⟨F, R, fr, S, d, S', rs, rf, he, k⟩ := h
  simp only [ev] at he
  obtain ⟨x, S1, e1, he1⟩ := bind_ok he
  obtain ⟨y, S2, e2, he2⟩ := bind_ok he1
  cases hc : clsO S2 x with
  | none =>
    rw [hc] at he2
    obtain ⟨e3, rfl⟩ := opt_ok he2
    refine .inl ⟨F, R, fr, S, x, S1, rs, rf, e1, fun F1 R1 H1 v n1 rs1 rv => ⟨F1, R1, fr, S1, y, S', rs1, rf.nxt n1, e2, fun F2 R2 H2 w n2 rs2 rw' => ?_⟩⟩
    cases e4 : cmpD .Eq x y with
    | none => rw [e4] at e3; cases e3
    | some r =>
      rw [e4] at e3
      cases e3
      exact ⟨F2, R2, x, y, r, rs2.fh, rv.mono n2.f n2.r, rw', e4, k F2 R2 H2 _ (n1.trans n2) rs2 (.bl r)⟩
  | some c0 =>
    rw [hc] at he2
    simp only [] at he2
    split at he2
    · rename_i hy
      obtain ⟨f, S3, e3, he3⟩ := bind_ok he2
      obtain ⟨e4, rfl⟩ := opt_ok e3
      obtain ⟨mt, mf, hf, hkd⟩ := c.mt c0 m f e4
      obtain ⟨n, fd, h2, h3, h4, h5, hr, Fg⟩ := (c.fn f mf hf).met hkd
      have ce := ce_fn Fg (hr.mono (by omega)) h2 h3 h4 h5
      refine .inr ⟨F, R, fr, S, x, S1, rs, rf, e1, fun F1 R1 H1 v n1 rs1 rv => ⟨F1, R1, fr, S1, y, S3, rs1, rf.nxt n1, e2, fun F2 R2 H2 w n2 rs2 rw' => ?_⟩⟩
      have rv2 := rv.mono n2.f n2.r
      obtain ⟨a1, dx1, ws1, ds1, rfl, i1, _⟩ := ins_of rs2 rv2 hc
      obtain ⟨a2, dx2, ws2, ds2, rfl, i2, _⟩ := ins_of rs2 rw' hy
      have at_ := mt.me.at_
      rw [hm] at at_
      exact ⟨a1, a2, CA.ca c0, CA.fa f, _, _, rfl, rfl, insAt_h i1, insAt_h i2, at_, mt.me.fn, ce, fun E => spF_ok rs2 (.cons rv2 (.cons rw' .nil)) (nox_ok he3) fun F3 R3 H3 z n3 rs3 rz => k F3 R3 H3 z ((n1.trans n2).trans n3) rs3 rz⟩
    · cases he2
/-! ### == and != with things of any kind -/
theorem op_eqx (hu : X.A.units + 1 < cLine) (neg : Bool) : OpR X (compareOp (if neg then .NotEq else .Eq)) (fun x y H Q => ∃ a C g n fd ps sp t, x = .ref a ∧ InsH H a C ∧ (∀ pins σ s u, L2.Inv X pins σ H s → L2.RelV y u → PySem.W.Looks (model X.prog X.w) s.heap (typeOf u) t) ∧
    PySem.W.notFirst X.K C t = true ∧ PySem.W.findIn X.K (.ref C) "__eq__" = some (some (.ref g)) ∧ PySem.W.isFn X.K (.ref g) = true ∧ PySem.W.findIn X.K (.ref C) "__ne__" = some (some (.builtin "object.__ne__")) ∧ PySem.W.mroIn X.K C (.type "object") = some true ∧
    FnG X.prog X.w X.K X.mg X.base n g fd ps sp ∧ RoomG (n + 1) X.A ∧ PlainP fd.params ps ∧ fd.defaults = .none ∧ ps.Nodup ∧ sp [x, y] H (fun v H2 => ∃ r, v = .bl r ∧ Q (.bl (if neg then !r else r)) H2) fun _ _ _ => False) := by
  intro pins s σ H x y v u Q I rx ry h
  obtain ⟨a, C, g, n, fd, ps, sp, t, rfl, ha, ty, nf, hs, hf, hne, hm, F, hr, hp, hd, nd, q⟩ := h
  cases (show v = Value.ref a from rx)
  obtain ⟨ox, od, J⟩ := insH_at I ha
  obtain ⟨m, hF⟩ := I.fr
  have L := ty pins σ s u I ry
  cases neg with
  | false =>
    show wpAny _ _ (richCompare .Eq (.ref a) u) _ _ _
    refine PySem.W.cmp_K (op := .Eq) (by omega) hF I.ok.mod.kin J L nf hs hf ?_
    refine wpAny_mono (run_in (E := X.xe) (us := [.ref a, u]) (vs := [.ref a, y]) F (hr.mono (by omega)) hp hd nd I I.env0 (.cons rfl (.cons ry .nil)) q) (fun w s' z => ?_) fun _ _ x => x
    obtain ⟨z', H', I', rz, r, rfl, qz⟩ := z
    exact SlX.cmpback rz ⟨_, H', I', rz, qz⟩
  | true =>
    show wpAny _ _ (richCompare .NotEq (.ref a) u) _ _ _
    refine ne_own hu hF I.ok.mod.kin J L nf hs hf hne hm ?_
    have hr1 : RoomG n X.A.in1 := ⟨hr.rm.in1, hr.gd⟩
    refine wpAny_mono (run_in (E := X.xe) (us := [.ref a, u]) (vs := [.ref a, y]) F hr1 hp hd nd I I.env0.in1 (.cons rfl (.cons ry .nil)) q) (fun w s' z => ?_) fun _ _ x => x
    obtain ⟨z', H', I', rz, r, rfl, qz⟩ := z
    obtain rfl : w = Value.bool r := rz
    exact ⟨r, rfl, .bl (!r), H', I', rfl, qz⟩
theorem ty_oth {K : PySem.W.Frag} {F H : Hp} {R : List Addr} {S : Sto} {v : V} {y : D} {c : Nat} (b : BOk X) (hK : K = X.K) (htc : CA.tc c = true) (rs : RelS K F R H S) (r : Rep K F R v y) (h : othD y = true) :
    ∃ t, (∀ pins σ s u, L2.Inv X pins σ H s → L2.RelV v u → PySem.W.Looks (model X.prog X.w) s.heap (typeOf u) t) ∧ PySem.W.notFirst X.K (CA.ca c) t = true := by
  subst hK
  have cf := b.cf c (b.tk c htc)
  have nfT : ∀ t : String, t ∈ (["int", "str", "bool", "tuple", "list", "dict", "NoneType"] : List String) → PySem.W.notFirst X.K (CA.ca c) (.type t) = true := fun t ht => by
    have q := cf.ti htc t ht
    unfold PySem.W.kitOne at q
    rw [if_neg (by simp)] at q
    unfold PySem.W.kitCls at q
    simp only at q
    split at q
    · unfold PySem.W.notFirst
      rw [q]; simp
    · cases q
  have go : ∀ t : String, t ∈ (["int", "str", "bool", "tuple", "list", "dict", "NoneType"] : List String) → TyX X.K H v (.type t) → ∃ t, (∀ pins σ s u, L2.Inv X pins σ H s → L2.RelV v u → PySem.W.Looks (model X.prog X.w) s.heap (typeOf u) t) ∧ PySem.W.notFirst X.K (CA.ca c) t = true := fun t ht ty =>
    ⟨.type t, fun pins σ s u I rx => by
      obtain ⟨P, kx, hP, _⟩ := kit_of I rx ty
      exact kx.ty _ _ I.kIn hP, nfT t ht⟩
  cases r with
  | non => exact go "NoneType" (by simp) (.base .non)
  | bl _ => exact go "bool" (by simp) (.base (.bl _))
  | int _ => exact go "int" (by simp) (.base (.int _))
  | str _ => exact go "str" (by simp) (.base (.str _))
  | tup ha rb => exact go "tuple" (by simp) (tup_ty (same_t rs.fh ha))
  | lst ha rb => exact go "list" (by simp) (.base (.lst (rs.fh _ _ ha)))
  | dic ha hl rb => exact go "dict" (by simp) (.base (.dK (rs.fh _ _ ha)))
  | @ins a dx c' ws ds hi rb =>
    have hi2 := hi.same (rs.fh _) (rs.fh _)
    refine ⟨.ref (CA.ca c'), fun pins σ s u I rx => ?_, ?_⟩
    · obtain rfl : u = Value.ref a := rx
      obtain ⟨ox, od, J⟩ := insAt_inst I hi2
      exact J.type
    · by_cases ec : c' = c
      · subst ec
        unfold PySem.W.notFirst
        simp
      · have q := cf.ot htc c' hi.1.2 ec
        unfold PySem.W.kitOne at q
        split at q
        · cases q
        · unfold PySem.W.kitCls at q
          simp only at q
          split at q
          · unfold PySem.W.notFirst
            rw [q]; simp
          · cases q
  | _ => cases h
theorem snd_eqx {a b : Expr} {ma mb : ME} {c0 m : Nat} {neg : Bool} {op : CmpOp} {pos : Pos} (c : Cxt nm P cl gl X) (hop : op = if neg then .NotEq else .Eq) (htc : CA.tc c0 = true) (hm : nm m = "__eq__") (hmk : noSet b = true) (ha : PE X a (tE cl gl X.K ma)) (hb : PE X b (tE cl gl X.K mb)) :
    PE X (.Compare a [op] [b] pos) (tE cl gl X.K (.eqx c0 m neg ma mb)) := by
  subst hop
  have B := pe_cmpR (pos := pos) (op_eqx (X := X) (by have := c.b.un; omega) neg) ha hb (no_marks hmk)
  refine PE.imp B fun σ H Q h => ?_
  obtain ⟨F, R, fr, S, d, S', rs, rf, he, k⟩ := h
  simp only [ev] at he
  obtain ⟨x, S1, e1, he1⟩ := bind_ok he
  obtain ⟨y, S2, e2, he2⟩ := bind_ok he1
  split at he2
  · rename_i hxy
    obtain ⟨hc, hy⟩ := hxy
    obtain ⟨f, S3, e3, he3⟩ := bind_ok he2
    obtain ⟨e4, rfl⟩ := opt_ok e3
    obtain ⟨dd, S4, e5, he4⟩ := bind_ok he3
    obtain ⟨e6, rfl⟩ := opt_ok he4
    obtain ⟨mt, mf, hf, hkd⟩ := c.mt c0 m f e4
    obtain ⟨n, fd, h2, h3, h4, h5, hr, Fg⟩ := (c.fn f mf hf).met hkd
    refine ⟨F, R, fr, S, x, S1, rs, rf, e1, fun F1 R1 H1 v n1 rs1 rv => ⟨F1, R1, fr, S1, y, S3, rs1, rf.nxt n1, e2, fun F2 R2 H2 w n2 rs2 rw' => ?_⟩⟩
    have rv2 := rv.mono n2.f n2.r
    have hc2 : clsO S3 x = some c0 := hc
    obtain ⟨a1, dx1, ws1, ds1, rfl, i1, _⟩ := ins_of rs2 rv2 hc2
    have at_ := mt.me.at_
    rw [hm] at at_
    obtain ⟨t, ty, nf⟩ := ty_oth c.b rfl htc rs2 rw' hy
    have cf := c.b.cf c0 (c.b.tk c0 htc)
    refine ⟨a1, CA.ca c0, CA.fa f, n, fd, _, _, t, rfl, insAt_h i1, ty, nf, at_, mt.me.fn, cf.ne, cf.si.cm, Fg, hr.mono (by omega), h3, h4, h5, spF_ok rs2 (.cons rv2 (.cons rw' .nil)) e5 fun F3 R3 H3 z n3 rs3 rz => ?_⟩
    cases rz <;> simp only [boolO, Option.map_some, Option.map_none, Option.some.injEq, reduceCtorEq] at e6
    case bl r => subst e6; exact ⟨r, rfl, k F3 R3 H3 _ ((n1.trans n2).trans n3) rs3 (.bl _)⟩
  · cases he2
/-! ### bool of an instance that has a length -/
theorem snd_tln {e : Expr} {me : ME} {m : Nat} {p pos : Pos} (c : Cxt nm P cl gl X) (hm : nm m = "__len__") (hg : Gl X "bool") (hs : noStar e = true) (he : PE X e (tE cl gl X.K me)) :
    PE X (.Call (.Name "bool" p) [e] [] pos) (tE cl gl X.K (.tln m me)) := by
  constructor
  intro pins s σ H Q I h
  obtain ⟨F, R, fr, S, d, S', rs, rf, hev, k⟩ := h
  simp only [ev] at hev
  obtain ⟨x, S1, e1, hev1⟩ := bind_ok hev
  cases hc : clsO S1 x with
  | none => rw [hc] at hev1; cases hev1
  | some c0 =>
    rw [hc] at hev1
    simp only [] at hev1
    split at hev1
    · cases hev1
    rename_i hgb
    have hgb : gl.b c0 = true := by cases q : gl.b c0 with
      | true => rfl
      | false => exact (hgb q).elim
    obtain ⟨f, S2, e2, hev2⟩ := bind_ok hev1
    obtain ⟨e3, rfl⟩ := opt_ok e2
    obtain ⟨dd, S3, e4, hev3⟩ := bind_ok hev2
    split at hev3
    · rename_i n
      split at hev3
      · rename_i hok
        cases hev3
        obtain ⟨mt, mf, hf, hk⟩ := c.mt c0 m f e3
        obtain ⟨n0, fd, h2, h3, h4, h5, hr, FF⟩ := (c.fn f mf hf).met hk
        have hb0 : X.mg "bool" = none := c.bty "bool" (by simp)
        refine wpAny_Call_Name_kw (ld_blt I hg hb0 PyProof.Rows.Boot.«bool» ?_ (by decide) (by decide))
        refine PyProof.Rows.callWith_type1 (thn ((pa_cons he pa_nil (star_cons hs)).run pos pins s σ H (fun vs H1 => ∃ F1 R1 v, vs = [v] ∧ Nxt F R H F1 R1 H1 ∧ RelS X.K F1 R1 H1 S2 ∧ Rep X.K F1 R1 v x) I ⟨F, R, fr, S, x, S2, rs, rf, e1, fun F1 R1 H1 v n1 rs1 rv => ⟨F1, R1, v, rfl, n1, rs1, rv⟩⟩) ?_) (star_cons hs) rfl
        rintro us s1 ⟨vs, H1, I1, rvs, F1, R1, v, rfl, n1, rs1, rv⟩
        obtain ⟨ad, dx, ws, ds, rfl, g1, g2, g3, g4⟩ := ins_of rs1 rv hc
        obtain ⟨u, rfl, ru⟩ := rvs.one
        obtain rfl : u = Value.ref ad := ru
        obtain ⟨ox, od, J⟩ := insAt_inst I1 g1
        obtain ⟨m', hF⟩ := I1.fr
        have at_ := mt.me.at_
        rw [hm] at at_
        have hr1 : RoomG (n0 + 2) X.A.in1 := ⟨hr.rm.in1, hr.gd⟩
        have hr2 : RoomG (n0 + 1) X.A.in1.in1 := ⟨hr1.rm.in1, hr.gd⟩
        have hr3 : RoomG n0 X.A.in1.in1.in1 := ⟨hr2.rm.in1, hr.gd⟩
        refine call_bool_own (tru_len hF I1.ok.mod.kin J (c.bo c0 hgb) at_ mt.me.fn ?_)
        refine wpAny_mono (run_in (E := X.xe) (us := [.ref ad]) (vs := [V.ref ad]) FF hr3 h3 h4 h5 I1 I1.env0.in1.in1.in1 (.cons rfl .nil) (spF_ok (Q := fun v H2 => ∃ F2 R2, Nxt F1 R1 H1 F2 R2 H2 ∧ RelS X.K F2 R2 H2 S' ∧ Rep X.K F2 R2 v (.int n)) rs1 (.cons rv .nil) e4 fun F2 R2 H2 w n2 rs2 rw2 => ⟨F2, R2, n2, rs2, rw2⟩)) (fun v s2 z => ?_) fun _ _ y => y
        obtain ⟨w, H2, I2, rw2, F2, R2, n2, rs2, rr⟩ := z
        cases rr
        obtain ⟨t, rfl⟩ := rw2
        simp only [dunOk, Bool.and_eq_true, decide_eq_true_eq] at hok
        exact ⟨n, t, rfl, hok.1, hok.2, .bl (n != 0), H2, I2.tok _, rfl, k F2 R2 H2 _ (n1.trans n2) rs2 (.bl _)⟩
      · cases hev3
    · cases hev3
end
end Mn
/-! f-strings -/
namespace Mn
open PySem PySem.Spec PyProof.Rows L2 RZ
variable [CA]
section
variable {nm : Nat → Str} {P : List (Nat × MF)} {cl : Nat → List D → Sto → Out D} {gl : GL} {X : Cx}
def tFp (cl : Nat → List D → Sto → Out D) (gl : GL) (K : PySem.W.Frag) (m : ME) : TE := tFmt (tE cl gl K m)
theorem fs_cst {e : Expr} {z : Str} (h : PE X e (tE cl gl X.K (.cst (.str z)))) : PE X e (tFp cl gl X.K (.cst (.str z))) := by
  refine PE.imp h fun σ H Q h => ?_
  obtain ⟨F, R, fr, S, d, S', rs, rf, he, k⟩ := h
  have he2 := he
  simp only [ev] at he2
  cases he2
  refine ⟨F, R, fr, S, _, _, rs, rf, he, fun F1 R1 H1 v n1 rs1 rv => ?_⟩
  have q := k F1 R1 H1 v n1 rs1 rv
  cases rv
  rcases q with ⟨y, e1, _, q⟩ | ⟨i, e1, _⟩
  · cases e1; exact q
  · cases e1
theorem app_len (x y : Str) : (x ++ y).length = x.length + y.length := by
  have a := TL.len_tl (x ++ y)
  have b := TL.len_tl x
  have c := TL.len_tl y
  rw [TL.tl_append, List.length_append] at a
  omega
theorem run_fs {σ : Stt} {fr : Frm} : ∀ {ms : List ME} {F : Hp} {R : List Addr} {H : Hp} {S S' : Sto} {xs : List D} {acc out : Str} {Q : Str → Hp → Prop}, RelS X.K F R H S → RelF X.K F R H σ fr → evs cl gl fr ms S = .ok xs S' → fsD acc xs = some out →
    (∀ F' R' H', Nxt F R H F' R' H' → RelS X.K F' R' H' S' → Q out H') → tJs (ms.map (tFp cl gl X.K)) acc σ H Q
  | [], F, R, H, S, S', xs, acc, out, Q, rs, rf, he, hf, k => by
    simp only [evs] at he
    cases he
    cases hf
    exact k F R H .refl rs
  | m :: ms, F, R, H, S, S', xs, acc, out, Q, rs, rf, he, hf, k => by
    simp only [evs] at he
    obtain ⟨x, S1, e1, he1⟩ := bindX_ok he
    obtain ⟨ys, S2, e2, he2⟩ := bindX_ok he1
    cases he2
    simp only [fsD] at hf
    cases hz : strF x with
    | none => rw [hz] at hf; cases hf
    | some z =>
      rw [hz, Option.bind_some] at hf
      split at hf
      · rename_i hl
        have zl : z.length ≤ sizeLine := by rw [app_len] at hl; omega
        refine ⟨F, R, fr, S, x, S1, rs, rf, e1, fun F1 R1 H1 v n1 rs1 rv => ?_⟩
        have go : ∃ y : Str, V.str z = .str y ∧ (acc ++ y).length ≤ sizeLine ∧ tJs (ms.map (tFp cl gl X.K)) (acc ++ y) σ H1 Q :=
          ⟨z, rfl, hl, run_fs rs1 (rf.nxt n1) e2 hf fun F2 R2 H2 n2 rs2 => k F2 R2 H2 (n1.trans n2) rs2⟩
        cases x <;> simp only [strF, reduceCtorEq, Option.some.injEq] at hz
        case str w =>
          subst hz
          cases rv
          exact .inl ⟨w, rfl, zl, go⟩
        case int i =>
          split at hz
          · rename_i hi
            cases hz
            cases rv
            exact .inr ⟨i, rfl, hi, go⟩
          · cases hz
      · cases hf
theorem snd_fs {v1 v2 : Expr} {rest : List Expr} {ms : List ME} {pos : Pos} (h : PJ X (v1 :: v2 :: rest) (ms.map (tFp cl gl X.K))) : PE X (.JoinedStr (v1 :: v2 :: rest) pos) (tE cl gl X.K (.fs ms)) := by
  refine PE.imp (pe_joined h) fun σ H Q h => ?_
  obtain ⟨F, R, fr, S, d, S', rs, rf, he, k⟩ := h
  simp only [ev] at he
  obtain ⟨xs, S1, e1, he1⟩ := bind_ok he
  obtain ⟨e2, rfl⟩ := opt_ok he1
  cases hf : fsD Str.empty xs with
  | none => rw [hf] at e2; cases e2
  | some out =>
    rw [hf] at e2
    cases e2
    exact run_fs rs rf e1 hf fun F1 R1 H1 n1 rs1 => k F1 R1 H1 _ n1 rs1 (.str out)
end
end Mn
/-! x.replace(a, b) of written texts, within a list whose first item has made a token -/
namespace Mn
open PySem PySem.Spec PyProof.Rows L2
variable [CA]
section
variable {cl : Nat → List D → Sto → Out D} {gl : GL} {X : Cx}
theorem pa_tok {a : Expr} {es : List Expr} {op : Operator} {r : R2} {z : Str} {ta : TE} {u : TA} {j : Nat} {cp pos : Pos} (ho : OpR X (binaryOp op) r) (ha : PE X a ta) (hr : PAT X es u)
    (hs : starEach (.BinOp a op (.Constant (.str z) j cp) pos :: es) X.env = (false, eval (.BinOp a op (.Constant (.str z) j cp) pos) X.env) :: starEach es X.env) : PA X (.BinOp a op (.Constant (.str z) j cp) pos :: es) (tCons (tOp r ta (tC (.str z))) u) := by
  constructor
  intro at_ pins s σ H Q I h
  rw [hs]
  show wpAny _ _ (spliced ((false, eval (.BinOp a op (.Constant (.str z) j cp) pos) X.env) :: backTo at_ (starEach es X.env))) _ _ s
  refine Calls.spliced_cons (wpAny_BinOp (thn (ha.run pins s σ H _ I h) ?_))
  rintro v s1 ⟨x, H1, I1, r1, q1⟩
  refine Calls.Constant_str (wpAny_mono (PySem.wpAny_toks (ho pins { s1 with toks := s1.toks + 1 } σ H1 x (.str z) v (.str z s1.toks) _ (I1.tok _) r1 ⟨_, rfl⟩ q1)) ?_ fun _ _ w => w.2)
  rintro w s2 ⟨more, y, H2, I2, r2, q2⟩
  have out : 1 ≤ s2.toks := Nat.le_trans (Nat.le_add_left 1 s1.toks) more
  exact thn (hr at_ pins s2 σ H2 _ out I2 q2) fun us s3 ⟨xs, H3, I3, r3, q3⟩ => ⟨y :: xs, H3, I3, .cons r2 r3, q3⟩
theorem PAT.imp {es : List Expr} {t t' : TA} (h : PAT X es t) (i : ∀ σ H Q, t' σ H Q → t σ H Q) : PAT X es t' := fun at_ pins s σ H Q out I q => h at_ pins s σ H Q out I (i σ H Q q)
theorem PET.imp {e : Expr} {t t' : TE} (h : PET X e t) (i : ∀ σ H Q, t' σ H Q → t σ H Q) : PET X e t' := fun pins s σ H Q out I q => h pins s σ H Q out I (i σ H Q q)
theorem snd_nilT : PAT X [] (tEs cl gl X.K []) := by
  refine PAT.imp pat_nil fun σ H Q h => ?_
  obtain ⟨F, R, fr, S, d, S', rs, rf, he, k⟩ := h
  simp only [evs] at he
  cases he
  exact k F R H [] .refl rs .nil
theorem snd_consT {e : Expr} {es : List Expr} {m : ME} {ms : List ME} (hs : noStar e = true) (h : PET X e (tE cl gl X.K m)) (t : PAT X es (tEs cl gl X.K ms)) : PAT X (e :: es) (tEs cl gl X.K (m :: ms)) := by
  refine PAT.imp (pat_cons h t (star_cons hs)) fun σ H Q h => ?_
  obtain ⟨F, R, fr, S, d, S', rs, rf, he, k⟩ := h
  simp only [evs] at he
  obtain ⟨x, S1, e1, he⟩ := bindX_ok he
  obtain ⟨xs, S2, e2, he⟩ := bindX_ok he
  cases he
  exact ⟨F, R, fr, S, x, S1, rs, rf, e1, fun F1 R1 H1 v n1 rs1 rv => ⟨F1, R1, fr, S1, xs, _, rs1, rf.nxt n1, e2, fun F2 R2 H2 ws n2 rs2 rw' => k F2 R2 H2 _ (n1.trans n2) rs2 (.cons (rv.mono n2.f n2.r) rw')⟩⟩
theorem snd_first {a : Expr} {es : List Expr} {z : Str} {ma : ME} {ms : List ME} {j : Nat} {cp pos : Pos} (ha : PE X a (tE cl gl X.K ma)) (t : PAT X es (tEs cl gl X.K ms)) :
    PA X (.BinOp a .Add (.Constant (.str z) j cp) pos :: es) (tEs cl gl X.K (.bin .Add ma (.cst (.str z)) :: ms)) := by
  refine PA.imp (pa_tok (op_bin .Add) ha t rfl) fun σ H Q h => ?_
  obtain ⟨F, R, fr, S, d, S', rs, rf, he, k⟩ := h
  simp only [evs, ev] at he
  obtain ⟨y, S1, e1, he⟩ := bindX_ok he
  obtain ⟨xs, S2, e2, he⟩ := bindX_ok he
  cases he
  obtain ⟨x, S3, e3, e1⟩ := bind_ok e1
  obtain ⟨w, S4, e4, e1⟩ := bind_ok e1
  cases e4
  obtain ⟨e5, rfl⟩ := opt_ok e1
  refine ⟨F, R, fr, S, x, _, rs, rf, e3, fun F1 R1 H1 v n1 rs1 rv => ?_⟩
  refine ⟨F1, R1, x, .str z, y, rs1.fh, rv, .str z, e5, fun u F3 H3 n3 rz => ?_⟩
  have n13 := n1.trans n3.1
  exact ⟨F3, R1, fr, _, xs, _, n3.2 _ rs1, rf.nxt n13, e2, fun F2 R2 H2 ws n2 rs2 rw' => k F2 R2 H2 _ (n13.trans n2) rs2 (.cons (rz.mono n2.f n2.r) rw')⟩
theorem snd_repl {x y z : Str} {i j k : Nat} {p c0 c1 apos pos : Pos} (hx : PE X (.Name x p) (tE cl gl X.K (.var i))) (yz : (y == z) = false) (line : (apos.endLine == pos.line) = true) :
    PET X (.Call (.Attribute (.Name x p) "replace" apos) [.Constant (.str y) j c0, .Constant (.str z) k c1] [] pos) (tE cl gl X.K (.meth .replace (.var i) [.cst (.str y), .cst (.str z)])) := by
  refine PET.imp (CwR.pet_replC hx yz rfl rfl line) fun σ H Q h => ?_
  obtain ⟨F, R, fr, S, d, S', rs, rf, he, k⟩ := h
  simp only [ev] at he
  obtain ⟨v, S1, e1, he⟩ := bind_ok he
  obtain ⟨xs, S2, e2, he⟩ := bind_ok he
  simp only [evs, ev, Out.bindX] at e2
  cases e2
  obtain ⟨e3, rfl⟩ := opt_ok he
  refine ⟨F, R, fr, S, v, _, rs, rf, by simp only [ev]; exact e1, fun F1 R1 H1 u n1 rs1 rv => ?_⟩
  obtain ⟨a, rfl⟩ : ∃ a, v = .str a := by cases v <;> first | exact ⟨_, rfl⟩ | (simp [meD] at e3)
  have e4 : (if (y.length == 0) = false ∧ a.length + (a.length + 1) * z.length ≤ 16777216 then some (D.str (Txt.replace a y z)) else none) = some d := e3
  clear e3 he
  cases rv
  split at e4
  · rename_i q
    cases e4
    exact ⟨_, rfl, q.2, k F1 R1 H1 _ n1 rs1 (.str _)⟩
  · cases e4
end
end Mn
/-! the interpreter's text matches the program's -/
namespace Mn
open PySem PySem.Spec PyProof.Rows L2 RZ
variable [CA]
structure Tab where
  nm : Nat → Str
  P : List (Nat × MF)
  gl : GL
  N : List Str
def visB (sc : Scope) (x : Str) : Bool := match sc.names.lookup x with
  | some .local => true
  | some .cell => true
  | some .free => true
  | _ => false
def cfB (sc : Scope) (x : Str) : Bool := match sc.names.lookup x with
  | some .cell => true
  | some .free => true
  | _ => false
def locB (b : Bool) (sc : Scope) (x : Str) : Bool := match sc.names.lookup x with
  | some .local => true
  | some .cell => b
  | _ => false
def glB (sc : Scope) (x : Str) : Bool := match sc.names.lookup x with
  | some .globalImplicit => true
  | _ => false
def nodbg (x : Str) : Bool := !(x == ("__debug__" : Str))
def nocls (x : Str) : Bool := !(x == ("__classdict__" : Str))
def cstB (sc : Scope) : D → Expr → Bool
  | .non, .Constant .none _ _ => true
  | .bl b, .Constant (.bool c) _ _ => b == c
  | .int i, .Constant (.int j) _ _ => decide (i = j)
  | .str x, .Constant (.str y) _ _ => decide (x = y)
  | .ty T, .Name x _ => glB sc x && ((decide (T = "int") && decide (x = "int")) || (decide (T = "str") && decide (x = "str")) || (decide (T = "bool") && decide (x = "bool")) || (decide (T = "tuple") && decide (x = "tuple")) || (decide (T = "list") && decide (x = "list")) || (decide (T = "dict") && decide (x = "dict")))
  | _, _ => false
def slots (N : List Str) (own : List Nat) : List (Str × Nat) := own.map fun j => (N.getD j Str.empty, j)
def topB (P : List (Nat × MF)) (f : Nat) : Bool := match P.lookup f with
  | some m => m.kind.top
  | none => false
def dunB (b : Bi) (x : Str) : Bool := (decide (b = .len) && decide (x = "__len__")) || (decide (b = .str) && decide (x = "__str__")) || (decide (b = .repr) && decide (x = "__repr__"))
def meB : Me → Bool
  | .split => true
  | .join => true
  | .partition => true
  | .upper => true
  | .count => true
  | .index => true
  | _ => false
def plainB (a : Arguments) (ps : List Str) : Bool :=
  a.posonlyargs.isEmpty && decide (a.args.map (·.arg) = ps) && a.vararg.isNone && a.kwonlyargs.isEmpty && a.kw_defaults.isEmpty && a.kwarg.isNone && a.defaults.isEmpty
/-- the names' witness is no local name here; it is one -/
def wOk (T : Tab) (scope : Scope) : Bool := match T.gl.mkr T.N with
  | some w => (match scope.names.lookup w with
    | some .local => false
    | some .cell => false
    | _ => true)
  | none => true
def wiB (T : Tab) (sc : Scope) : Bool := match T.gl.mkr T.N with
  | some w => (match sc.names.lookup w with
    | some .local => true
    | some .cell => true
    | _ => false)
  | none => false
def blkW (T : Tab) (sc scope : Scope) (own : List (Str × Nat)) : Bool := blkC T.N sc scope own && wOk T scope
/-- x.replace(a, b) of two written texts -/
def rpB (T : Tab) (sc : Scope) : ME → Expr → Bool
  | .meth .replace (.var i) [.cst (.str y), .cst (.str z)], .Call (.Attribute (.Name x _) a apos) [.Constant (.str y') _ _, .Constant (.str z') _ _] [] pos =>
    decide (a = "replace") && decide (y' = y) && decide (z' = z) && !(y == z) && (apos.endLine == pos.line) && decide (T.N[i]? = some x) && visB sc x && nodbg x && nocls x
  | _, _ => false
/-- x + a written text -/
def firstB (T : Tab) (sc : Scope) : ME → Expr → Bool
  | .bin .Add (.var i) (.cst (.str y)), .BinOp (.Name x _) .Add (.Constant (.str y') _ _) _ => decide (y' = y) && decide (T.N[i]? = some x) && visB sc x && nodbg x && nocls x
  | _, _ => false
section
variable (T : Tab)
mutual
def chkE (sc : Scope) : ME → Expr → Bool
  | .var i, e => match e with
    | .Name x _ => decide (T.N[i]? = some x) && visB sc x && nodbg x && nocls x
    | _ => false
  | .cst d, e => cstB sc d e
  | .glob x, e => match e with
    | .Name y _ => decide (y = T.nm x) && glB sc y && nodbg y
    | _ => false
  | .bin op a b, e => match e with
    | .BinOp x o y _ => decide (o = op) && chkE sc a x && chkE sc b y
    | _ => false
  | .neg a, e => match e with
    | .UnaryOp .USub x _ => chkE sc a x
    | _ => false
  | .cmp op a b, e => match e with
    | .Compare x [o] [y] _ => decide (o = op) && noSet y && chkE sc a x && chkE sc b y
    | _ => false
  | .chain o1 o2 a b c, e => match e with
    | .Compare x [p1, p2] [y, z] _ => decide (p1 = o1) && decide (p2 = o2) && noSet z && chkE sc a x && chkE sc b y && chkE sc c z
    | _ => false
  | .and a b, e => match e with
    | .BoolOp .And (x :: y :: r) p => chkE sc a x && (match r with
      | [] => chkE sc b y
      | z :: r => chkE sc b (.BoolOp .And (y :: z :: r) p))
    | _ => false
  | .or a b, e => match e with
    | .BoolOp .Or (x :: y :: r) p => chkE sc a x && (match r with
      | [] => chkE sc b y
      | z :: r => chkE sc b (.BoolOp .Or (y :: z :: r) p))
    | _ => false
  | .not a, e => match e with
    | .UnaryOp .Not x _ => chkE sc a x
    | _ => false
  | .ife t a b, e => match e with
    | .IfExp c x y _ => chkT sc t c && chkE sc a x && chkE sc b y
    | _ => false
  | .tup ms, e => match e with
    | .Tuple es _ _ => decide (ms.length ≤ 1000) && chkEs sc ms es
    | _ => false
  | .lst ms, e => match e with
    | .List es _ => decide (ms.length ≤ 1000) && (chkEs sc ms es || chkEt sc ms es)
    | _ => false
  | .ref ms, e => match e with
    | .List es _ => decide (ms.length ≤ 1000) && chkEs sc ms es
    | _ => false
  | .call f ms, e => match e with
    | .Call (.Name y _) es [] _ => decide (y = T.nm f) && glB sc y && nodbg y && topB T.P f && chkEs sc ms es
    | _ => false
  | .callK f ms ks vs, e => match e with
    | .Call (.Name y _) es kws _ => decide (y = T.nm f) && glB sc y && nodbg y && (match T.P.lookup f with
      | some m => m.kind.top && kwC (m.names.take m.ps) (ms.length + m.kind.off) (kwNames kws) ks
      | none => false) && kws.all (·.arg.isSome) && chkEs sc ms es && chkEs sc vs (kws.map (·.value))
    | _ => false
  | .blt b ms, e => match e with
    | .Call (.Name y _) es [] _ => decide (y = nBi b) && glB sc y && !es.isEmpty && chkEs sc ms es
    | _ => false
  | .sub a i, e => match e with
    | .Subscript x y _ => noSlice y && chkE sc a x && chkE sc i y
    | _ => false
  | .sl a lo hi, e => match e with
    | .Subscript x (.Slice l h none _) _ => chkE sc a x && chkO sc lo l && chkO sc hi h
    | _ => false
  | .rev a, e => match e with
    | .Subscript x (.Slice none none (some (.UnaryOp .USub (.Constant (.int 1) _ _) _)) _) _ => chkE sc a x
    | _ => false
  | .lc own g src tt r, e => match e with
    | .ListComp elt [⟨tg, iter, ifs, 0⟩] scope _ => blkW T sc scope (slots T.N own) && noSet iter && (gSl g).all (fun j => decide (j ∈ own)) && chkI sc tg src iter && chkG false scope g tg && chkTs scope tt ifs && chkE scope r elt
    | _ => false
  | .lcL own g src tt r, e => match e with
    | .ListComp elt [⟨tg, iter, ifs, 0⟩] scope _ => blkW T sc scope (slots T.N own) && noSet iter && (gSl g).all (fun j => decide (j ∈ own)) && chkE sc src iter && chkG false scope g tg && chkTs scope tt ifs && chkE scope r elt
    | _ => false
  | .dct ms, e => match e with
    | .Dict keys values _ => (keys.isEmpty && values.isEmpty && ms.isEmpty) || (!keys.isEmpty && decide (keys.length ≤ 15) && chkDs sc ms keys values)
    | _ => false
  | .get1 a b, e => match e with
    | .Call (.Attribute o y apos) [x] [] pos => decide (y = "get") && noSup o && noStar x && (apos.endLine == pos.line) && chkE sc a o && chkE sc b x
    | _ => false
  | .get2 a b c, e => match e with
    | .Call (.Attribute o y apos) [x, z] [] pos => decide (y = "get") && noSup o && noStar x && noStar z && (apos.endLine == pos.line) && chkE sc a o && chkE sc b x && chkE sc c z
    | _ => false
  | .app a b, e => match e with
    | .Call (.Attribute o y apos) [x] [] pos => decide (y = "append") && noSup o && noStar x && (apos.endLine == pos.line) && chkE sc a o && chkE sc b x
    | _ => false
  | .eqm m a b, e => match e with
    | .Compare x [.Eq] [y] _ => decide (T.nm m = "__eq__") && noSet y && chkE sc a x && chkE sc b y
    | _ => false
  | .meth m a ms, e => match e with
    | .Call (.Attribute o y apos) es [] pos => meB m && decide (y = nMe m) && noSup o && decide (es.length < 30) && (apos.endLine == pos.line) && chkE sc a o && chkEs sc ms es
    | _ => false
  | .fld a f, e => match e with
    | .Attribute o y _ => decide (y = T.nm f) && noSup o && chkE sc a o
    | _ => false
  | .vp m a, e => match e with
    | .Attribute o y _ => decide (y = T.nm m) && noSup o && chkE sc a o
    | _ => false
  | .vm m a ms, e => match e with
    | .Call (.Attribute o y apos) es [] pos => decide (y = T.nm m) && noSup o && decide (es.length < 30) && (apos.endLine == pos.line) && chkE sc a o && chkEs sc ms es
    | _ => false
  | .cm c m ms, e => match e with
    | .Call (.Attribute (.Name x _) y apos) es [] pos => decide (x = T.nm c) && decide (y = T.nm m) && (T.gl.c c m).isSome && glB sc x && nodbg x && decide (es.length < 30) && !es.isEmpty && (apos.endLine == pos.line) && chkEs sc ms es
    | _ => false
  | .vmK f m a ms ks vs, e => match e with
    | .Call (.Attribute o y apos) es kws pos => decide (y = T.nm m) && noSup o && decide (es.length + kws.length + 1 < 30) && (apos.endLine == pos.line) && (match T.P.lookup f with
      | some m => kwC (m.names.take m.ps) (ms.length + 1) (kwNames kws) ks
      | none => false) && kws.all (·.arg.isSome) && chkE sc a o && chkEs sc ms es && chkEs sc vs (kws.map (·.value))
    | _ => false
  | .cmK c m ms ks vs, e => match e with
    | .Call (.Attribute (.Name x _) y apos) es kws pos => decide (x = T.nm c) && decide (y = T.nm m) && (match T.gl.c c m with
      | some f => (match T.P.lookup f with
        | some m => kwC (m.names.take m.ps) (ms.length + 1) (kwNames kws) ks
        | none => false)
      | none => false) && glB sc x && nodbg x && decide (es.length + kws.length + 1 < 30) && (apos.endLine == pos.line) && kws.all (·.arg.isSome) && chkEs sc ms es && chkEs sc vs (kws.map (·.value))
    | _ => false
  | .tupS bs ms, e => match e with
    | .Tuple es _ _ => chkEv sc ms bs es
    | _ => false
  | .lstS bs ms, e => match e with
    | .List es _ => chkEv sc ms bs es
    | _ => false
  | .callS f bs ms, e => match e with
    | .Call (.Name y _) es [] _ => decide (y = T.nm f) && glB sc y && nodbg y && topB T.P f && bs.any id && chkEv sc ms bs es
    | _ => false
  | .dun m b a, e => match e with
    | .Call (.Name y _) [x] [] _ => decide (y = nBi b) && glB sc y && noStar x && dunB b (T.nm m) && chkE sc a x
    | _ => false
  | .fs ms, e => match e with
    | .JoinedStr (v1 :: v2 :: rest) _ => chkFs sc ms (v1 :: v2 :: rest)
    | _ => false
  | .lc2 .., _ => false
  | .outc f a, e => match e with
    | .Call (.Name y _) [.Lambda params body lsc _] [] _ => decide (y = T.nm f) && glB sc y && nodbg y && T.gl.o f && wiB T sc && LamX.lamSB sc lsc && plainB params [] && chkE lsc a body
    | _ => false
  | .unst i, e => match e with
    | .Name x _ => decide (T.N[i]? = some x) && visB sc x && nodbg x && nocls x
    | _ => false
  | .eqx c m neg a b, e => match e with
    | .Compare x [o] [y] _ => decide (o = if neg then .NotEq else .Eq) && decide (T.nm m = "__eq__") && noSet y && (match T.gl.g c with
      | some (.cls c') => decide (c' = c)
      | _ => false) && chkE sc a x && chkE sc b y
    | _ => false
  | .tln m a, e => match e with
    | .Call (.Name y _) [x] [] _ => decide (y = "bool") && glB sc y && noStar x && decide (T.nm m = "__len__") && chkE sc a x
    | _ => false
def chkEs (sc : Scope) : List ME → List Expr → Bool
  | [], es => es.isEmpty
  | m :: ms, es => match es with
    | e :: es => noStar e && chkE sc m e && chkEs sc ms es
    | [] => false
def chkEr (sc : Scope) : List ME → List Expr → Bool
  | [], es => es.isEmpty
  | m :: ms, es => match es with
    | e :: es => noStar e && (chkE sc m e || rpB T sc m e) && chkEr sc ms es
    | [] => false
def chkEt (sc : Scope) : List ME → List Expr → Bool
  | [], _ => false
  | m :: ms, es => match es with
    | e :: es => firstB T sc m e && chkEr sc ms es
    | [] => false
def chkEv (sc : Scope) : List ME → List Bool → List Expr → Bool
  | [], bs, es => bs.isEmpty && es.isEmpty
  | m :: ms, bs, es => match bs, es with
    | true :: bs, .Starred e _ :: es => chkE sc m e && chkEv sc ms bs es
    | false :: bs, e :: es => noStar e && chkE sc m e && chkEv sc ms bs es
    | _, _ => false
def chkFs (sc : Scope) : List ME → List Expr → Bool
  | [], es => es.isEmpty
  | m :: ms, es => match es with
    | .FormattedValue x (-1) none _ :: es => chkE sc m x && chkFs sc ms es
    | .Constant (.str y) _ _ :: es => (match m with
      | .cst (.str z) => decide (z = y)
      | _ => false) && chkFs sc ms es
    | _ => false
def chkDs (sc : Scope) : List ME → List (Option Expr) → List Expr → Bool
  | [], ks, vs => ks.isEmpty && vs.isEmpty
  | k :: r, ks, vs => match r, ks, vs with
    | v :: r, some ke :: ks, ve :: vs => chkE sc k ke && chkE sc v ve && chkDs sc r ks vs
    | _, _, _ => false
def chkO (sc : Scope) : Option ME → Option Expr → Bool
  | none, e => e.isNone
  | some m, e => match e with
    | some e => chkE sc m e
    | none => false
def chkT (sc : Scope) : MT → Expr → Bool
  | .val m, e => plainT e && chkE sc m e
  | .tru m, e => plainT e && chkE sc m e
  | .cmp op a b, e => match e with
    | .Compare x [o] [y] _ => decide (o = op) && noSet y && chkE sc a x && chkE sc b y
    | _ => false
  | .chain o1 o2 a b c, e => match e with
    | .Compare x [p1, p2] [y, z] _ => decide (p1 = o1) && decide (p2 = o2) && noSet z && chkE sc a x && chkE sc b y && chkE sc c z
    | _ => false
  | .and a b, e => match e with
    | .BoolOp .And (x :: y :: r) p => chkT sc a x && (match r with
      | [] => chkT sc b y
      | z :: r => chkT sc b (.BoolOp .And (y :: z :: r) p))
    | _ => false
  | .or a b, e => match e with
    | .BoolOp .Or (x :: y :: r) p => chkT sc a x && (match r with
      | [] => chkT sc b y
      | z :: r => chkT sc b (.BoolOp .Or (y :: z :: r) p))
    | _ => false
  | .not a, e => match e with
    | .UnaryOp .Not x _ => chkT sc a x
    | _ => false
def chkTs (sc : Scope) : List MT → List Expr → Bool
  | [], es => es.isEmpty
  | m :: ms, es => match es with
    | [e] => ms.isEmpty && chkT sc m e
    | _ => false
def chkI (sc : Scope) (tg : Expr) : MI → Expr → Bool
  | .lst m, e => chkE sc m e
  | .tup m, e => chkE sc m e
  | .rng1 a, e => match e with
    | .Call (.Name y _) [x] [] _ => decide (y = "range") && glB sc y && noStar x && chkE sc a x
    | _ => false
  | .rng2 a b, e => match e with
    | .Call (.Name y _) [x, z] [] _ => decide (y = "range") && glB sc y && noStar x && noStar z && chkE sc a x && chkE sc b z
    | _ => false
  | .zip a b, e => match e, tg with
    | .Call (.Name y _) [x, z] [] _, .Tuple _ _ _ => decide (y = "zip") && glB sc y && noStar x && noStar z && chkE sc a x && chkE sc b z
    | _, _ => false
  | .enum a, e => match e, tg with
    | .Call (.Name y _) [x] [] _, .Tuple _ _ _ => decide (y = "enumerate") && glB sc y && noStar x && chkE sc a x
    | _, _ => false
  | .enumT a, e => match e, tg with
    | .Call (.Name y _) [x] [] _, .Tuple _ _ _ => decide (y = "enumerate") && glB sc y && noStar x && chkE sc a x
    | _, _ => false
  | .str m, e => chkE sc m e
def chkG (b : Bool) (sc : Scope) : MG → Expr → Bool
  | .name i, e => match e with
    | .Name x _ => decide (T.N[i]? = some x) && locB b sc x
    | _ => false
  | .tup gs, e => match e with
    | .Tuple es _ _ => chkGs b sc gs es
    | _ => false
  | .sub o i, e => match e with
    | .Subscript x y _ => noSlice y && chkE sc o x && chkE sc i y
    | _ => false
def chkGs (b : Bool) (sc : Scope) : List MG → List Expr → Bool
  | [], es => es.isEmpty
  | g :: gs, es => match es with
    | e :: es => noStar e && chkG b sc g e && chkGs b sc gs es
    | [] => false
end
end
end Mn
/-! the names' kinds, checked; parameters, checked -/
namespace Mn
open PySem PySem.Spec PyProof.Rows L2 RZ
variable [CA]
structure ScR (a b : Scope) : Prop where
  loc : ∀ x, a.names.lookup x = some .local → b.names.lookup x = some .local
  cf : ∀ x, a.names.lookup x = some .cell ∨ a.names.lookup x = some .free → b.names.lookup x = some .cell ∨ b.names.lookup x = some .free
  gl : ∀ x, a.names.lookup x = some .globalImplicit → b.names.lookup x = some .globalImplicit
  ce : ∀ x, a.names.lookup x = some .cell → b.names.lookup x = some .cell
theorem ScR.refl (a : Scope) : ScR a a := ⟨fun _ h => h, fun _ h => h, fun _ h => h, fun _ h => h⟩
theorem lookup_relabel {env : Env} : ∀ (names : List (Str × NameKind)) (x : Str),
    (names.map fun (n, k) => if (k == NameKind.free && env.scope.kind == .function && env.kindOf n == some .cell) then (n, NameKind.cell) else (n, k)).lookup x =
      (names.lookup x).map fun k => if (k == NameKind.free && env.scope.kind == .function && env.kindOf x == some .cell) then NameKind.cell else k
  | [], x => rfl
  | (n, k) :: r, x => by
    have ih := lookup_relabel (env := env) r x
    by_cases e : x = n
    · subst e
      show List.lookup x ((if (k == NameKind.free && env.scope.kind == .function && env.kindOf x == some .cell) = true then (x, NameKind.cell) else (x, k)) :: _) = _
      by_cases c : (k == NameKind.free && env.scope.kind == .function && env.kindOf x == some .cell) = true
      · rw [if_pos c, List.lookup_cons, List.lookup_cons]
        simp only [beq_self_eq_true, Option.map_some, if_pos c]
      · rw [if_neg c, List.lookup_cons, List.lookup_cons]
        simp only [beq_self_eq_true, Option.map_some, if_neg c]
    · have e' : (x == n) = false := beq_eq_false_iff_ne.mpr e
      show List.lookup x ((if (k == NameKind.free && env.scope.kind == .function && env.kindOf n == some .cell) = true then (n, NameKind.cell) else (n, k)) :: _) = _
      by_cases c : (k == NameKind.free && env.scope.kind == .function && env.kindOf n == some .cell) = true
      · rw [if_pos c, List.lookup_cons, List.lookup_cons]
        simp only [e']
        exact ih
      · rw [if_neg c, List.lookup_cons, List.lookup_cons]
        simp only [e']
        exact ih
theorem ScR.blk (scope : Scope) (env : Env) : ScR scope (relabel scope env) := by
  refine ⟨fun x h => ?_, fun x h => ?_, fun x h => ?_, fun x h => ?_⟩
  · show List.lookup x (scope.names.map _) = _
    rw [lookup_relabel, h]; rfl
  · show List.lookup x (scope.names.map _) = _ ∨ List.lookup x (scope.names.map _) = _
    rw [lookup_relabel]
    rcases h with h | h <;> rw [h]
    · exact .inl rfl
    · simp only [Option.map_some]
      split
      · exact .inl rfl
      · exact .inr rfl
  · show List.lookup x (scope.names.map _) = _
    rw [lookup_relabel, h]; rfl
  · show List.lookup x (scope.names.map _) = _
    rw [lookup_relabel, h]; rfl
theorem visB_ok {sc : Scope} {b : Scope} {x : Str} (s : ScR sc b) (h : visB sc x = true) : Vis b x := by
  unfold visB at h
  split at h
  · exact .inl (s.loc x (by assumption))
  · exact .inr (s.cf x (.inl (by assumption)))
  · exact .inr (s.cf x (.inr (by assumption)))
  · cases h
theorem glB_ok {sc : Scope} {X : Cx} {x : Str} (s : ScR sc X.env.scope) (h : glB sc x = true) : Gl X x := by
  unfold glB at h
  split at h
  · exact s.gl x (by assumption)
  · cases h
theorem nodbg_ok {x : Str} (h : nodbg x = true) : (x == ("__debug__" : Str)) = false := by
  unfold nodbg at h
  revert h; cases (x == ("__debug__" : Str)) <;> simp
theorem nocls_ok {x : Str} (h : nocls x = true) : (x == ("__classdict__" : Str)) = false := by
  unfold nocls at h
  revert h; cases (x == ("__classdict__" : Str)) <;> simp
theorem plainB_ok {a : Arguments} {ps : List Str} (h : plainB a ps = true) : PlainP a ps := by
  unfold plainB at h
  simp only [Bool.and_eq_true, List.isEmpty_iff, decide_eq_true_eq, Option.isNone_iff_eq_none] at h
  obtain ⟨⟨⟨⟨⟨⟨h1, h2⟩, h3⟩, h4⟩, h5⟩, h6⟩, h7⟩ := h
  exact ⟨h1, h2, h3, h4, h5, h6, h7⟩
def fnB (N P : List Str) (sc : Scope) : Bool :=
  decide (sc.kind = .function) && !sc.isCoroutine && !sc.isGenerator && decide N.Nodup && decide (N.take P.length = P) && P.all (fun x => locB true sc x) && sc.names.all (fun y => match y.2 with | .free => false | _ => true)
theorem fnB_ok {N P : List Str} {sc : Scope} (h : fnB N P sc = true) : FnScope N P sc := by
  unfold fnB at h
  simp only [Bool.and_eq_true, Bool.not_eq_true', decide_eq_true_eq, List.all_eq_true] at h
  obtain ⟨⟨⟨⟨⟨⟨h1, h2⟩, h3⟩, h4⟩, h5⟩, h6⟩, h7⟩ := h
  refine ⟨h1, h2, h3, h4, h5, fun x hx => ?_, fun y hy e => ?_⟩
  · have q := h6 x hx
    unfold locB at q
    split at q
    · exact .inl (by assumption)
    · exact .inr (by assumption)
    · cases q
  · have q := h7 y hy
    rw [e] at q
    cases q
def LoC (sc : Scope) (w : Str) : Prop := sc.names.lookup w = some .local ∨ sc.names.lookup w = some .cell
theorem wOk_ok {T : Tab} {scope : Scope} {w : Str} (h : wOk T scope = true) (e : T.gl.mkr T.N = some w) : ¬ LoC scope w := by
  unfold wOk at h
  rw [e] at h
  rintro (z | z) <;>
  · simp only [z] at h
    cases h
theorem wiB_ok {T : Tab} {sc : Scope} (h : wiB T sc = true) : ∃ w, T.gl.mkr T.N = some w ∧ LoC sc w := by
  unfold wiB at h
  split at h
  · rename_i w e
    split at h
    · exact ⟨w, e, .inl (by assumption)⟩
    · exact ⟨w, e, .inr (by assumption)⟩
    · cases h
  · cases h
theorem blkW_ok {T : Tab} {X : Cx} {sc scope : Scope} {own : List (Str × Nat)} (hN : X.N = T.N) (h : blkW T sc scope own = true) : blkC T.N sc scope own = true ∧ ∀ w, T.gl.mkr X.N = some w → ¬ LoC scope w := by
  unfold blkW at h
  obtain ⟨h1, h2⟩ := Bool.and_eq_true_iff.mp h
  exact ⟨h1, fun w e => wOk_ok h2 (by rw [← hN]; exact e)⟩
end Mn
/-! a try whose exception is surely of one of three named classes, with a name for it -/
namespace Mn
open PySem L2 PyProof.Rows PySem.Spec
/-- the ends of a suite behind which the i-th name is gone -/
def Ends.less (D : Ends) (i : Nat) : Ends where
  rt := D.rt
  nx := fun σ => D.nx (σ.set i none)
  bk := fun σ => D.bk (σ.set i none)
  ct := fun σ => D.ct (σ.set i none)
/-- what is asked of what the body raises -/
def Caught (K : PySem.W.Frag) (cs : List Value) (i : Nat) (ts : Addr → Value → Option Addr → TS) (D : Ends) : WX :=
  fun cls d σ H => PySem.W.exmAny K cls cs = some true ∧ ∀ a, H a = none → ts a cls d (Ends.less D i) (σ.set i (some (.ref a))) H
theorem fly_keep {B h g : Heap} {l : List Env} {e : Addr} {Z : Obj → Prop} (k : ∀ b o, h.get? b = some o → g.get? b = some o) : HandSPX.FlyingZ B l e Z h → HandSPX.FlyingZ B l e Z g
  | ⟨st, fr, ff, oe, vs, T, oT, us, q1, q2, q3, q4, q5, q6, q7, q8, q9⟩ => ⟨fun b o z => k b o (st b o z), fr, ff.of_keeps fun b o z _ => ⟨o, k b o z, rfl⟩, oe, vs, T, oT, us, k _ _ q1, q2, q3, q4, q5, q6, k _ _ q7, q8, q9⟩
section
variable {X : Cx} {pins : List (Addr × Obj)} {σ : L2.St} {H : Hp}
/-- the exception has landed: the suite's state -/
theorem ground {B h : Heap} {a : Addr} {cls : Value} {d : Option Addr} {t s : Shared} (J : Inv X pins σ H t) (nb : ∀ b o, t.heap.get? b = some o → b ∉ frs X.stack → B.get? b = some o) (eo : s.os = t.os) (bare : AllBare s.gens) (free : H a = none)
    (eL : X.env.frame = some X.env.locals) (eS : X.stack = X.env :: X.outer) (fl : HandSPX.FlyingZ B (X.env :: X.outer) a (Zc cls d) h) (u : t.heap.UpToSlots h) :
    Inv X pins σ H { s with heap := h } ∧ ∃ oe, h.get? a = some oe ∧ Zc cls d oe ∧ (∃ vs, oe.data = .fields vs) ∧ Inv (X.suite a ((a, oe) :: (X.pn ++ pins))) [] σ H { s with heap := h } := by
  have J1 : Inv X pins σ H { s with heap := h } := Inv.landed (s' := { s with heap := h }) J nb fl.1 u eo bare
  obtain ⟨oe, vs, g1, g2, g3⟩ := fl.there
  have out : a ∉ frs (X.env :: X.outer) := fun z => by
    obtain ⟨_, o, eq, nf⟩ := fl.2.2.1.mem z
    exact nf vs (by rw [← Option.some.inj (g1.symm.trans eq)]; exact g3)
  have away : ∀ e ∈ X.env :: X.outer, e.frame ≠ some a := fun e he z => out (List.mem_filterMap.mpr ⟨e, he, z⟩)
  refine ⟨J1, oe, g1, g2, ⟨vs, g3⟩, J1.suite g1 g3 free (fun z => away X.env (.head _) (by rw [eL, z])) fun z => ?_⟩
  obtain ⟨e, he, q⟩ := List.mem_filterMap.mp z
  exact away e (.tail _ he) q
theorem after_suite {D : Ends} {i : Nat} {n : Str} {a : Addr} {oe : Obj} {f : Flow} {s : Shared} {pos : Pos} {E : Value → Shared → Prop} (ok : X.Ok) (nd : X.N.Nodup) (at_ : X.N[i]? = some n) (loc : X.env.kindOf n = some .local)
    (h : SP (X.suite a ((a, oe) :: (X.pn ++ pins))) [] (Ends.less D i) f s) : wpAny (model X.prog X.w) X.A (do bindName X.env n .none; unbindBehindTheSuite X.env n pos) (fun _ s' => SP X pins D f s') E s := by
  cases f with
  | ret u => obtain ⟨v, τ, G, J, r, q⟩ := h; exact gone_ok (J.unsuite ok) nd at_ loc fun s' J' => ⟨v, _, G, J', r, q⟩
  | next => obtain ⟨τ, G, J, q⟩ := h; exact gone_ok (J.unsuite ok) nd at_ loc fun s' J' => ⟨_, G, J', q⟩
  | brk => obtain ⟨τ, G, J, q⟩ := h; exact gone_ok (J.unsuite ok) nd at_ loc fun s' J' => ⟨_, G, J', q⟩
  | cont => obtain ⟨τ, G, J, q⟩ := h; exact gone_ok (J.unsuite ok) nd at_ loc fun s' J' => ⟨_, G, J', q⟩
end
section
variable {X : Cx} {x1 x2 x3 n : Str} {c1 c2 c3 : Value} {i kk : Nat} {body rest : List Stmt} {fst : Stmt} {p1 p2 p3 p4 p5 p6 : Pos} {tb : WX → TS} {ts : Addr → Value → Option Addr → TS}
theorem ps_try3 (eS : X.stack = X.env :: X.outer) (eL : X.env.frame = some X.env.locals) (nd : X.N.Nodup) (at_ : X.N[i]? = some n) (loc : X.env.kindOf n = some .local) (n1 : Names X x1 c1) (n2 : Names X x2 c2) (n3 : Names X x3 c3)
    (trying : ∀ W pn xe, Takes (X.tr pn xe) W → PassesOwn (model X.prog X.w) X.A X.env xe → PSs (X.tr pn xe) body (tb W))
    (catching : ∀ a oe cls d pn, Zc cls d oe → (∃ vs, oe.data = .fields vs) → PSs (X.suite a ((a, oe) :: pn)) (fst :: rest) (ts a cls d)) :
    PS X (.Try body [.ExceptHandler (some (.Tuple [.Name x1 p1, .Name x2 p2, .Name x3 p3] kk p4)) (some n) (fst :: rest) p5] [] [] p6) fun D => tb (Caught X.K [c1, c2, c3] i ts D) D := by
  constructor
  intro pins s σ H D I pre
  have fm : X.A.frames = some (X.env :: X.outer) := by rw [← eS]; exact I.ok.frames
  refine wpAny_Try_except (wpAny_mono ((trying (Caught X.K [c1, c2, c3] i ts D) (X.pn ++ pins) _ (fun v s' got => ?_) PassesOwn.looking).run [] s σ H D (I.toTry _) pre) ?_ fun _ _ z => z)
  · obtain ⟨a, B, t, pins', τ, G, cls, d, rfl, J', nb, u0, sky, free, eo, bare, hx, go⟩ := got
    have J := J'.ofTry I.ok
    rw [show (X.tr (X.pn ++ pins) _).stack = X.env :: X.outer from eS] at sky
    show wpAny (model X.prog X.w) X.A (noteFrame (.ref a) X.env) _ _ _
    refine Sky.land Zc.steady fm eL sky fun h3 fl3 u3 => ?_
    obtain ⟨J3, oe, g1, g2, g3, S3⟩ := ground (s := s') J nb eo bare free eL eS fl3 (u0.trans u3)
    have ty : PySem.W.Looks (model X.prog X.w) h3 (typeOf (.ref a)) cls := fun _ _ _ _ k q => wpAny_typeOf_ref (k a oe g1) (by rw [g2.1]; exact q)
    have rd : ∀ {x c p} {Q E : Value → Shared → Prop}, Names X x c → Q c { s' with heap := h3 } → wpAny (model X.prog X.w) (X.A.mark (some (.ref a))) (eval (.Name x p) X.env) Q E { s' with heap := h3 } := by
      intro x c p Q E hc q
      rcases hc with ⟨g, db, m | ⟨m, b, nn⟩⟩
      · exact ld_glob (X := X.suite a ((a, oe) :: (X.pn ++ pins))) S3 g m q db
      · exact ld_blt (X := X.suite a ((a, oe) :: (X.pn ++ pins))) S3 g m b q nn db
    have kp : ∀ b o, h3.get? b = some o → (h3.push { cls := .type "tuple", data := .seq #[c1, c2, c3] }).get? b = some o := fun b o => Heap.get?_push_of_some _
    refine wpAny_handleBy_cons (codeAny_handlers_test (wpAny_Tuple (wpAny_items_cons (rd n1 (wpAny_items_cons (rd n2 (wpAny_items_cons (rd n3 (wpAny_items_nil ⟨by size_fits, ?_⟩))))))))) (fun z => nomatch z)
    refine (PySem.W.exm_tup3 (J3.kIn.keeps kp) (ty.keeps kp) (Heap.get?_push_size h3 rfl) hx).here (codeAny_handlers_suite_as ?_)
    refine HandSPX.lands_againZ (fly_keep kp fl3) fun h4 fl4 u4 => ?_
    obtain ⟨_, oe4, _, g24, g34, S4⟩ := ground (s := s') J nb eo bare free eL eS fl4 (((u0.trans u3).trans (Heap.UpToSlots.of_keeps kp)).trans u4)
    refine store_ok (X := X.suite a ((a, oe4) :: (X.pn ++ pins))) (v := .ref a) S4 nd at_ (.inl loc) rfl (fun s5 S5 => ?_) (.inr loc)
    exact wpAny_mono ((catching a oe4 cls d (X.pn ++ pins) g24 g34).run [] s5 _ G _ S5 (go a free)) (fun f s6 e => after_suite I.ok nd at_ loc e) fun _ _ z => z.elim
  · intro f s1 e
    cases f with
    | ret u => obtain ⟨v, τ, G, J, r, q⟩ := e; exact ⟨v, τ, G, J.ofTry I.ok, r, q⟩
    | next => obtain ⟨τ, G, J, q⟩ := e; exact wpAny_execs_nil ⟨τ, G, J.ofTry I.ok, q⟩
    | brk => obtain ⟨τ, G, J, q⟩ := e; exact ⟨τ, G, J.ofTry I.ok, q⟩
    | cont => obtain ⟨τ, G, J, q⟩ := e; exact ⟨τ, G, J.ofTry I.ok, q⟩
end
end Mn
/-! the making of a lambda: what the heap is behind it -/
namespace Mn
open PySem L2 PyProof.Rows PySem.Spec LamX
/-- nothing has changed, or the maker's table got one code object more, a new one -/
inductive Made (P : Addr) (q : Str) (H : Hp) : Addr → Hp → Prop
  | hit {c : Addr} (at_ : H c = some (CodeO c q)) : Made P q H c H
  | new {c : Addr} (ps more : Array Value) (tab : H P = some (.tbl ps)) (free : H c = none) : Made P q H c (upd (upd H P (.tbl (ps ++ more))) c (CodeO c q))
theorem Made.code {P c : Addr} {q : Str} {H G : Hp} : Made P q H c G → G c = some (CodeO c q)
  | .hit h => h
  | .new _ _ _ _ => upd_same
section
variable {X : Cx} {pins : List (Addr × Obj)} {σ : L2.St} {H : Hp} {s : Shared}
/-- the code's record of a lambda -/
abbrev lamObj (X : Cx) (ps : Arguments) (body : Expr) (sc : Scope) (pm : Value) (c : Addr) (ct : Value) : Obj := PySem.W.kla_obj "<lambda>" (X.env.qual ++ "<lambda>") ps body sc (cloFrom X.env.cells sc.names []) pm c ct
theorem lam_make {c P : Addr} {ps : Arguments} {body : Expr} {sc : Scope} {pos : Pos} {E Q : Value → Shared → Prop} (I : Inv X pins σ H s) (B : TabB X.base X.mg c P) (code : X.env.code = .ref c) (tab : TabS H P (X.env.qual ++ "<lambda>"))
    (plain : defaultsOf ps X.env = ([], [])) (free : ∀ y ∈ sc.names, y.2 = .free → ∃ c, X.env.cells.lookup y.1 = some c)
    (go : ∀ f c' pm ct G t, Inv X pins σ G t → Made P (X.env.qual ++ "<lambda>") H c' G → TabS G P (X.env.qual ++ "<lambda>") → t.heap.get? f = some (lamObj X ps body sc pm c' ct) → G f = none → f ∉ frs X.stack → Q (.ref f) t) :
    wpAny (model X.prog X.w) X.A (eval (.Lambda ps body sc pos) X.env) Q E s := by
  obtain ⟨tb, at_, tri, know⟩ := tab
  have here : s.heap.get? P = some { cls := .none, data := .fields tb } := I.hok P _ at_
  have high : ∀ f, s.heap.objs.size ≤ f → f ∉ frs X.stack := fun f le z => (List.mem_cons.mp (I.stkSub f z)).elim (fun e => absurd I.lt (by rw [← e]; exact Nat.not_lt.mpr le)) fun z => I.nofs le z
  have base := B.bm.keeps I.bk
  have cd := B.code.keeps I.bk
  have gl := I.mod.glob.keeps I.bk
  apply PySem.W.kla_eval plain
  rcases e : codeAmong pos tb.toList with _ | cv
  · refine PySem.W.kla_makeFunction (closure_ok free) I.ok.glob gl code cd here tri e B.gP base fun c' ct h tk ext lo hi rec_ wr => ?_
    obtain ⟨c3, oc, vs, tok, e3, o1, o2, o3⟩ := rec_
    cases e3
    have le : s.heap.objs.size ≤ h.objs.size := Nat.le_trans lo (Nat.le_of_lt hi)
    have nC := I.hok.fresh lo
    have nPc : P ≠ c' := ne_of_none at_ nC
    have J := inv_table (t' := tk) (more := #[rawInt pos.line, rawInt pos.col, .ref c']) (h' := h.push (lamObj X ps body sc ((X.mg "__name__").getD .none) c' ct)) I at_
      (fun b o ne z => Heap.get?_push_of_some _ (ext b o ne z)) (Heap.get?_push_of_some _ wr) lo ⟨oc, vs, tok, Heap.get?_push_of_some _ o1, o2, o3⟩
    refine go _ _ _ _ _ _ J (.new tb _ at_ nC) ⟨_, by rw [upd_ne nPc, upd_same], ?_, fun p v z => ?_⟩ (Heap.get?_push_size _ rfl) ?_ (high _ le)
    · rw [Array.toList_append]
      exact PySem.TriplesOk_snoc _ _ _ _ tri
    · rw [Array.toList_append] at z
      rcases among_app _ tri z with z | z
      · obtain ⟨c0, q1, q2⟩ := know p v z
        exact ⟨c0, q1, by rw [upd_ne (ne_of_none q2 nC), upd_ne fun w => codeO_ne tb (Option.some.inj (q2.symm.trans (by rw [w]; exact at_)))]; exact q2⟩
      · exact ⟨c', z, upd_same⟩
    · rw [upd_ne (Nat.ne_of_gt hi), upd_ne (Nat.ne_of_gt (Nat.lt_of_lt_of_le (Heap.lt_size here) le))]
      exact I.hok.fresh le
  · obtain ⟨c', rfl, q⟩ := know pos cv e
    refine PySem.W.kla_makeFunctionHit (closure_ok free) I.ok.glob gl code cd here tri e base fun ct h tk ext le => ?_
    exact go _ _ _ _ H _ (Inv.kept (t' := tk) I fun b o z => Heap.get?_push_of_some _ (ext b o z)) (.hit q) ⟨tb, at_, tri, know⟩ (Heap.get?_push_size _ rfl) (I.hok.fresh le) (high _ le)
end
end Mn
/-! the interpreter's relations behind the making of a lambda -/
namespace Mn
open PySem L2 PyProof.Rows PySem.Spec LamX
section
variable [CA] {K : PySem.W.Frag} {F H G : Hp} {R : List Addr} {S : Sto} {P c : Addr} {q : Str}
theorem Made.keep {a : Addr} {o : HO} (m : Made P q H c G) (h : H a = some o) (nt : NT o) : G a = some o := by
  cases m with
  | hit => exact h
  | new ps more tab free =>
    rw [upd_ne, upd_ne]
    · exact h
    · rintro rfl; exact nt ps (Option.some.inj (h.symm.trans tab))
    · rintro rfl; rw [free] at h; cases h
theorem Made.nxt (m : Made P q H c G) : Nxt F R H F R G where
  f := Same.refl _
  r := List.prefix_refl _
  new := fun _ _ h => .inl h
  tr := fun _ _ h _ nt => m.keep h nt
  ax := fun a o h _ => by
    cases m with
    | hit => exact ⟨o, h⟩
    | new ps more tab free =>
      by_cases e : a = P
      · rw [upd_ne (by rw [e]; exact ne_of_none tab free), e, upd_same]
        exact ⟨_, rfl⟩
      · rw [upd_ne (by rintro rfl; rw [free] at h; cases h), upd_ne e]
        exact ⟨o, h⟩
  newR := fun _ h => .inl h
theorem Made.tabs (m : Made P q H c G) (T : Tabs CA.tb H) (only : ∀ p ∈ CA.tb, p.1 = P → p.2 = q) (t : TabS G P q) : Tabs CA.tb G := by
  intro p hp
  by_cases e : p.1 = P
  · rw [e, only p hp e]; exact t
  · obtain ⟨ps, h1, h2, h3⟩ := T p hp
    have g1 : G p.1 = some (.tbl ps) := by
      cases m with
      | hit => exact h1
      | new qs more tab free => rw [upd_ne (ne_of_none h1 free), upd_ne e]; exact h1
    exact ⟨ps, g1, h2, fun pos v z => by
      obtain ⟨d, e1, e2⟩ := h3 pos v z
      exact ⟨d, e1, m.keep e2 fun ps => codeO_ne ps⟩⟩
theorem Made.relS (m : Made P q H c G) (r : RelS K F R H S) (only : ∀ p ∈ CA.tb, p.1 = P → p.2 = q) (t : TabS G P q) : RelS K F R G S := by
  have tb := m.tabs r.tb.1 only t
  cases m with
  | hit => exact r
  | new ps more tab free =>
    have nF : F P = none := by
      rcases e : F P with _ | o
      · rfl
      · have := r.fh _ _ e
        rw [tab] at this
        exact absurd (by rw [e, Option.some.inj this]) (r.tb.2 P ps)
    refine ⟨fun a o h => ?_, ⟨tb, r.tb.2⟩, r.len, r.nd, fun a ha => ?_, fun n a o h1 h2 => ?_⟩
    · have h' := r.fh _ _ h
      rw [upd_ne (by rintro rfl; rw [free] at h'; cases h'), upd_ne (by rintro rfl; rw [nF] at h; cases h)]
      exact h'
    · obtain ⟨o, h⟩ := r.tr a ha
      by_cases e : a = P
      · exact ⟨_, by rw [upd_ne (ne_of_none h free), e, upd_same]⟩
      · exact ⟨o, by rw [upd_ne (ne_of_none h free), upd_ne e]; exact h⟩
    · have st := r.at_ n a o h1 h2
      have nc : a ≠ c := by
        obtain ⟨u, h⟩ := r.tr a (List.mem_of_getElem? h1)
        exact ne_of_none h free
      have no : H P ≠ some (.own a) := by rw [tab]; exact fun z => by cases z
      by_cases e : a = P
      · cases o with
        | lst ds => obtain ⟨_, xs, z, _⟩ := st; rw [e, tab] at z; cases z
        | dct kvs => obtain ⟨_, ws, _, z, _⟩ := st; rw [e, tab] at z; cases z
        | ins k ds =>
          obtain ⟨_, hs, dx, ws, _, z, _⟩ := st
          rw [e] at z
          exact absurd tab (z.plain.1.1 ps)
        | dead => trivial
      · refine StoAt.lay nc ?_ (StoAt.lay e no st)
        rw [upd_ne (ne_of_none tab free).symm, free]
        exact fun z => by cases z
end
end Mn
/-! the lambda is called, in the def that was given it -/
namespace Mn
open PySem L2 PyProof.Rows PySem.Spec LamX
section
variable {X : Cx} {pins : List (Addr × Obj)} {σ : L2.St} {H : Hp} {s : Shared}
/-- the context of the body of a def that is entered with the lambda, within a try -/
abbrev inDef (CXg : CXT) (X : Cx) (Ng : List Str) (qg : Str) (sg : Scope) (g : Addr) (cdg : Value) (s : Shared) (H : Hp) (Eg : XK) : Cx := cxOf CXg X.prog X.w X.K X.mg X.base Ng qg sg g cdg X.A X.stack s H Eg
theorem RoomG.deeper {k : Nat} {A : Around} (r : RoomG (k + 1) A) (e : Env) : RoomG k (A.deeper e) := ⟨r.rm.deeper e, r.gd⟩
theorem lam_call {CXg : CXT} {Eg : XK} {Ng : List Str} {qg a : Str} {sg sc : Scope} {g f c : Addr} {cdg pm ct : Value} {ps : Arguments} {body : Expr} {k i : Nat} {pn : List (Addr × Obj)} {xe : Value → Shared → Prop} {W : WX} {t : XK → TE} {p1 p2 : Pos}
    (I : Inv X pins σ H s) (L : LamS X.env.scope sc) (at_ : s.heap.get? f = some (lamObj X ps body sc pm c ct)) (loose : H f = none) (noframe : f ∉ frs X.stack)
    (nothing : bindArgs (PySem.W.kla_fn "<lambda>" (X.env.qual ++ "<lambda>") ps body sc (cloFrom X.env.cells sc.names []) pm (.ref c) ct) ⟨[], []⟩ = pure [])
    (tk : Takes ((inDef CXg X Ng qg sg g cdg s H Eg).tr pn xe) W) (room : RoomG (k + 1) (X.A.deeper (envOfC qg sg s.heap.objs.size g cdg)))
    (inner : ∀ A outer s H E, RoomG k (A.deeper (lamEnv X sc s.heap.objs.size f c)) → PE (lamCx X A outer s H E sc f c) body (t E))
    (hN : Ng[i]? = some a) (vis : Vis sg a) (d1 : (a == ("__debug__" : Str)) = false) (d2 : (a == ("__classdict__" : Str)) = false) :
    PE ((inDef CXg X Ng qg sg g cdg s H Eg).tr pn xe) (.Call (.Name a p1) [] [] p2) fun τ G Q => τ[i]? = some (some (.ref f)) ∧ G c = some (CodeO c (X.env.qual ++ "<lambda>")) ∧ t (WE W τ) σ G Q := by
  constructor
  rintro pz z τ G Q J ⟨slot, code, ht⟩
  apply wpAny_Call_Name_kw
  refine thn ((pe_var (pos := p1) (i := i) hN vis d1 d2).run pz z τ G (fun v G1 => v = .ref f ∧ G1 = G) J ⟨.ref f, slot, rfl, rfl⟩) ?_
  rintro u z1 ⟨v, G1, J1, rv, rfl, rfl⟩
  obtain rfl : u = .ref f := rv
  have there := J1.base.keep f _ at_ loose noframe (fun w => nomatch (show f ∈ ([] : List Addr) from w))
  refine PySem.W.callWith_F0 ⟨_, _, _, _, there⟩ ?_
  obtain ⟨⟨oc, vs, tok, o1, o2, o3⟩, -⟩ := J1.hok c _ code
  refine wpAny_call (codeAny_mono (R := CR (L2.CX X.prog X.w) (envOfC qg sg s.heap.objs.size g cdg :: X.stack) X.prog X.w G1 z1 Q (WE W τ)) ?_ ?_)
  · refine PySem.W.kla_callFunE room.rm.depth there rfl L.co L.gen rfl ⟨c, oc, vs, tok, rfl, o1, o2, o3⟩ ?_
    rw [show ([] ++ [] : List Value) = [] from rfl, nothing]
    refine wpAny_pure (wpAny_newFunctionEnv (fun y hy => (L.own y hy).2) (fun _ hy => nomatch hy) (fun h ns sb => ⟨J1.nolimit.fresh _ sb, ?_⟩) L.kind)
    have kp : ∀ b o, z1.heap.get? b = some o → h.get? b = some o := fun b o e => sb.extBut b o (Nat.ne_of_lt (Heap.lt_size e)) (Heap.get?_push_of_some _ e)
    have start := lam_start2 (E := WE W τ) (f := f) (c' := c) (tk := z1.toks + ([] : List (Str × Value)).length) I L J1.env0 room.rm.hd J1.base ns kp
    refine PySem.W.kla_codeExpr (wpAny_mono ((inner _ _ z1 G1 _ (room.deeper _)).run [] _ _ G1 Q start ht) ?_ fun _ _ q => q)
    rintro v z2 ⟨w, G2, J2, r2, q2⟩
    exact ⟨w, G2, J2.os, J2.bare, J2.base, J2.hok, r2, q2⟩
  · intro r z2 q
    rcases r with e | fl
    · exact tk e z2 (XE.of_call J1 (fun _ _ _ h => h) q)
    · cases fl with
      | ret u => exact J1.after q
      | next => exact q.elim
      | brk => exact q.elim
      | cont => exact q.elim
end
end Mn
/-! isinstance of an exception that has attributes of its own -/
namespace Mn
open PySem PySem.W PySem.Calls PyProof.Rows
section
variable {prog : Program} {w : World} {A : Around} {E : Value → Shared → Prop} {s : Shared} {K : Frag} {x D : Addr} {ox : Obj} {od : Option Obj}
/-- a descriptor of data goes ahead of the own attributes -/
theorem find_first {n : Str} {a g : Value} (c : (clsIn K D).isSome = true) (f : findIn K (.ref D) n = some (some a)) (g1 : specialIn K a "__get__" = some (some g)) (t : takesIn K a = some true) : findObj K D od n = some (.bind g a) := by
  obtain ⟨cd, e⟩ := Option.isSome_iff_exists.mp c
  simp [findObj, e, f, g1, t]
/-- the class, asked of the slot that all exceptions have -/
theorem ga_class {Q : Value → Shared → Prop} {t : Tok} (inK : K.In s.heap) (at_ : InstAt s.heap x ox D od) (exc : subIn K (.ref D) (.type "BaseException") = some true)
    (f : findObj K D od "__class__" = some (.bind (.builtin "getset_descriptor.__get__") (.builtin "object.__class__"))) (obj : mroIn K D (.type "object") = some true) (h : Q (.ref D) s) :
    wpAny (model prog w) A (call (.builtin "BaseException.__getattribute__") [.ref x, .str "__class__" t]) Q E s := by
  have ty := at_.type (M := model prog w)
  have is_ : Looks (model prog w) s.heap (isInstance (.ref x) (.type "BaseException")) true := ty.andThen (looks_subIn inK exc)
  have slot := looks_find (M := model prog w) inK at_ f
  apply wpAny_call
  apply codeAny_call_builtin PySem.F.excAttr_ValueError.ga.plain PySem.F.entry_bexc_ga
  refine @check_slot (model prog w) _ _ s "BaseException.__getattribute__" "BaseException" "__getattribute__" (.ref x) [.str "__class__" t] [] _ (by decide +kernel) (by decide +kernel) is_ (PySem.F.args_bexc_ga _ _) ?_
  simp only [Builtin.«object.__getattribute__»]
  apply wpAny_bind
  refine wpAny_of_eq (a := ((Value.ref x : Value), [Value.str "__class__" t])) (by first | rfl | (simp only [slotArgs]; rfl)) (wpAny_bind (wpAny_pure (wpAny_bind (ty.at (wpAny_bind (slot.at ?_))))))
  apply wpAny_bind (m := holding [Value.builtin "object.__class__"] (call (.builtin "getset_descriptor.__get__") [.builtin "object.__class__", .ref x, .ref D]))
  refine wpAny_holding (wpAny_call (class_get (s := s) (ox := ox) (od := od) inK at_ obj ?_))
  apply wpAny_pure
  exact h
/-- what the class of an exception must say, so that isinstance may ask its instances -/
theorem exc_class {Q : Option Value → Shared → Prop} (C : L2.ExcC K D) (inK : K.In s.heap) (at_ : InstAt s.heap x ox D od) (h : Q (some (.ref D)) { s with toks := s.toks + 1 }) : wpAny (model prog w) A (getAttr? (.ref x) "__class__") Q E s := by
  have cl : (clsIn K D).isSome = true := by
    obtain ⟨cd, e, _⟩ := any_some C.hd
    exact Option.isSome_iff_exists.mpr ⟨cd, e⟩
  have f : findObj K D od "__class__" = some (.bind (.builtin "getset_descriptor.__get__") (.builtin "object.__class__")) := find_first cl C.ha C.hn C.ht
  have ty := at_.type (M := model prog w)
  have ga := looks_findIn (M := model prog w) inK C.hg
  have gt := looks_findIn (M := model prog w) inK C.hk
  have own : (Value.builtin "BaseException.__getattribute__" == Value.builtin "object.__getattribute__") = false := by decide +kernel
  unfold getAttr? getAttrBy? getAttrBy
  refine wpAny_bind (wpAny_mkText (wpAny_bind (wpAny_attempt (wpAny_holding (wpAny_bind (ty.at (wpAny_bind (ga.at ?_))))))))
  dsimp only
  rw [own, Bool.and_false, if_neg Bool.false_ne_true]
  simp only [getAttrByItsOwn, hookBefore]
  apply wpAny_bind
  rw [if_pos (show onTheHeap (Value.ref D) = true from rfl)]
  refine gt.at (wpAny_bind (wpAny_attempt (wpAny_holding ?_)))
  simp only [callGetattribute, boundAndCalled, Bool.false_and, Bool.false_eq_true, if_false]
  rw [PySem.F.excAttr_ValueError.ga.bind (.ref x)]
  refine wpAny_bind (wpAny_pure (ga_class (s := { s with toks := s.toks + 1 }) inK at_ C.hs f C.hm ?_))
  rw [handedOut_of (v := .ref D) rfl]
  exact wpAny_pure (wpAny_pure h)
/-- an object of a class of K is no builtin's -/
theorem cls_obj (C : L2.ExcC K D) : ∃ c d cd sl, K.lookup D = some ⟨c, d, .cls cd, sl⟩ := by
  obtain ⟨cd, e, _⟩ := any_some C.hd
  unfold clsIn at e
  split at e
  · rename_i c d cd' sl q
    exact ⟨c, d, cd', sl, q⟩
  · cases e
theorem kit_exc (C : L2.ExcC K D) : KitX K (.ref x) (.ref D) fun h => ∃ od, InstAt h x ox D od := by
  obtain ⟨c, d, cd, sl, q⟩ := cls_obj C
  refine ⟨fun _ _ _ ⟨_, I⟩ => I.type, fun _ _ inK _ A' Q' E' s' k z => ?_, fun h tp dd its n sl' inK at_ => ?_, fun inK ⟨od, I⟩ k => exc_class C inK I k⟩
  · simp only [isType, loadHead]
    exact wpAny_bind (wpAny_loadPart (k _ _ (inK _ _ q)) (wpAny_pure z))
  · apply Bool.eq_false_iff.mpr
    intro z
    obtain rfl : D = tp := Value.ref.inj (beq_iff_eq.mp z)
    cases (inK _ _ q).symm.trans at_
end
end Mn
namespace Mn
open PySem L2 PyProof.Rows PySem.Spec
section
variable {X : Cx} {a D dd : Addr} {oe : Obj}
/-- the handled exception, as it stands in a state -/
theorem held_at {pins : List (Addr × Obj)} {σ : L2.St} {H : Hp} {s : Shared} {fs : List (Str × V)} (I : Inv X pins σ H s) (pin : (a, oe) ∈ X.pn) (z : Zc (.ref D) (some dd) oe) (flds : ∃ vs, oe.data = .fields vs) (dict : H dd = some (.xd fs)) : ∃ od, PySem.W.InstAt s.heap a oe D od := by
  obtain ⟨m, ns, _⟩ : ObjOk X.prog X.w H s.heap dd (.xd fs) := I.hok dd _ dict
  obtain ⟨od, at_, _⟩ := lookIn_ns ns
  obtain ⟨vs, dt⟩ := flds
  refine ⟨some od, (I.pin (a, oe) (List.mem_append_left _ pin)).1, z.1, ?_, ?_⟩
  · rw [PySem.W.notCls, dt]
  · rw [z.2]; exact at_
/-- isinstance(e, c), where e is the handled exception, one with attributes -/
def rIsX (K : PySem.W.Frag) (D a dd : Addr) : List V → Hp → VK → Prop := fun xs H Q => ∃ c u b fs, xs = [.ref a, c] ∧ (∀ v, RelV c v → v = u) ∧ PySem.W.kitOne K (.ref D) u = some b ∧ H dd = some (.xd fs) ∧ Q (.bl b) H
theorem call_isX (pin : (a, oe) ∈ X.pn) (C : ExcC X.K D) (z : Zc (.ref D) (some dd) oe) (flds : ∃ vs, oe.data = .fields vs) : CallR X (.builtin "isinstance") (rIsX X.K D a dd) := by
  rintro pins s σ H xs us Q I r ⟨c, u, b, fs, rfl, one, k, dict, q⟩
  rcases r with _ | ⟨r1, _ | ⟨r2, r3⟩⟩
  cases r3; cases r1
  obtain rfl := one _ r2
  exact PySem.W.kia_one (kit_exc C) I.kIn (held_at I pin z flds dict) k (fun w => nomatch w) fun tk => ⟨.bl b, H, I.kept (t' := tk) fun _ _ e => e, rfl, q⟩
end
end Mn
/-! a def that is called while an exception is handled, and may look at it -/
namespace Mn
open PySem L2 L2H PyProof.Rows PySem.Spec
section
variable {Y : Cx} {p : Addr × Obj} {pins : List (Addr × Obj)} {σ : L2.St} {H : Hp} {s : Shared} {Q : VK} {f : Addr} {fd : FuncData} {x qual : Str} {params : Arguments} {body : List Stmt} {scope : Scope} {N ps : List Str} {k : Nat} {us : List Value} {vs : List V}
/-- the context of its body -/
abbrev hotCx (Y : Cx) (N : List Str) (qual : Str) (scope : Scope) (f : Addr) (cdv : Value) (s : Shared) (H : Hp) (p : Addr × Obj) : Cx := cxH C8.CX0 Y.prog Y.w Y.K Y.mg Y.base N qual scope f cdv Y.A Y.stack s H C8.E0 p
theorem call_hot (F : FunD Y.K x qual params body scope [] [] f fd) (S : FnScope N ps scope) (pin : p ∈ Y.pn) (room : RoomH (k + 1) Y.A) (bind : BindsTo s fd ⟨us, []⟩ (ps.zip us)) (I : Inv Y pins σ H s) (r : Vals vs us) (len : vs.length = ps.length)
    (inner : ∀ cdv, RoomH k (Y.A.deeper (envOfC qual scope s.heap.objs.size f cdv)) → ∃ t, PSs (hotCx Y N qual scope f cdv s H p) body t ∧ t { nx := fun _ G => Q .non G, rt := Q } (L2.start N vs) H) :
    wpAny (model Y.prog Y.w) Y.A (call (.ref f) us) (EP Y pins σ Q) Y.xe s := by
  obtain ⟨oc, od, dV, kV, doc, pm, an, cdv, ct, osl, rfl, at_, code, _, _⟩ := F.ex
  have e0 := I.env0
  obtain ⟨here, loose, nL, nF, nc⟩ := I.pin p (List.mem_append_left _ pin)
  have ok : PinOk Y.stack H s p := ⟨here, loose, fun z => (List.mem_cons.mp (I.stkSub _ z)).elim nL nF, nc⟩
  refine wpAny_call (codeAny_mono (R := CR C8.CX0 Y.stack Y.prog Y.w H s Q C8.E0) ?_ ?_)
  · have slots : ∀ y ∈ ps.zip us, scope.names.lookup y.1 = some .local ∨ (scope.names.lookup y.1 = some .cell ∧ ((cellsFrom (s.heap.objs.size + 1) scope.names []).lookup y.1).isSome = true) := by
      rintro ⟨n, v⟩ m
      exact (S.par n (List.of_mem_zip m).1).imp id fun c => ⟨c, PySem.W.cellsFrom_some _ _ _ (.inl c)⟩
    refine codeAny_call_function room.depth (I.kIn _ _ at_) rfl S.co S.gen rfl (PySem.W.codeRec_of I.kIn code) (bind _ _ _ _ ?_)
    refine wpAny_newFunctionEnv_cells S.kind slots fun env eq z new => ?_
    subst eq
    refine ⟨I.nolimit.keeps new.toInCall.keep, codeAny_func ?_⟩
    obtain ⟨t, ht, q⟩ := inner cdv (room.deeper _)
    have J := inv_startH (CX := C8.CX0) (E := C8.E0) (cd := cdv) S ok e0 len r new
    refine wpAny_mono (ht.run [] z (L2.start N vs) H _ J q) ?_ fun _ _ w => w
    intro fl z2 e
    cases fl with
    | ret u => obtain ⟨v, τ, G, J, rv, q⟩ := e; exact ⟨v, G, J.os, J.bare, J.base, J.hok, rv, q⟩
    | next => obtain ⟨τ, G, J, q⟩ := e; exact ⟨.non, G, J.os, J.bare, J.base, J.hok, rfl, q⟩
    | brk => obtain ⟨_, _, _, q⟩ := e; exact q.elim
    | cont => obtain ⟨_, _, _, q⟩ := e; exact q.elim
  · intro r z q
    rcases r with e | fl
    · exact (show False from q).elim
    · cases fl with
      | ret u => exact I.after q
      | next => exact q.elim
      | brk => exact q.elim
      | cont => exact q.elim
end
end Mn
/-! the flags that a def makes of the handled exception -/
namespace Mn
open PySem L2 L2H PyProof.Rows PySem.Spec
/-- the handled exception stands in slot 0, its attributes at dd -/
def ExAt (a dd : Addr) (σ : L2.St) (H : Hp) : Prop := σ[0]? = some (some (.ref a)) ∧ ∃ fs, H dd = some (.xd fs)
theorem ExAt.upd {a dd p : Addr} {o : HO} {σ : L2.St} {H : Hp} (h : ExAt a dd σ H) (hp : H p = none) : ExAt a dd σ (L2.upd H p o) := by
  obtain ⟨h1, fs, h2⟩ := h
  exact ⟨h1, fs, by rw [upd_ne (ne_of_none h2 hp)]; exact h2⟩
theorem pe_weak {X : Cx} {e : Expr} {t t' : TE} (h : PE X e t) (i : ∀ σ H Q, t' σ H Q → t σ H Q) : PE X e t' := ⟨fun pins s σ H Q I q => h.run pins s σ H Q I (i σ H Q q)⟩
section
variable {Z : Cx} {a dd D : Addr} {oe : Obj}
/-- isinstance(e, C) -/
def tIs (a dd : Addr) (b : Bool) : TE := fun σ H Q => ExAt a dd σ H ∧ Q (.bl b) H
theorem pe_is {e n : Str} {C : Addr} {b : Bool} {p1 p2 p3 p4 : Pos} (pin : (a, oe) ∈ Z.pn) (X : ExcC Z.K D) (z : Zc (.ref D) (some dd) oe) (flds : ∃ vs, oe.data = .fields vs) (slot : Z.N[0]? = some e) (vis : Vis Z.env.scope e) (ne1 : (e == ("__debug__" : Str)) = false) (ne2 : (e == ("__classdict__" : Str)) = false)
    (gi : Gl Z "isinstance") (mi : Z.mg "isinstance" = none) (gn : Gl Z n) (mn : Z.mg n = some (.ref C)) (ne3 : (n == ("__debug__" : Str)) = false) (k : PySem.W.kitOne Z.K (.ref D) (.ref C) = some b) :
    PE Z (.Call (.Name "isinstance" p1) [.Name e p2, .Name n p3] [] p4) (tIs a dd b) := by
  refine pe_weak (pe_callB (call_isX pin X z flds) gi mi boot_isinstance (pa_cons (pe_var slot vis ne1 ne2) (pa_cons (pe_glob (v := .ref C) gn mn rfl ne3) pa_nil))) ?_
  rintro σ H Q ⟨⟨h1, fs, h2⟩, q⟩
  exact ⟨.ref a, h1, .ref C, .ref C, b, fs, rfl, fun v r => by cases r; rfl, k, h2, q⟩
/-- [isinstance(e, C1), isinstance(e, C2), isinstance(e, C3)] -/
theorem pe_is3 {e1 e2 e3 : Expr} {b1 b2 b3 : Bool} {pos : Pos} (h1 : PE Z e1 (tIs a dd b1)) (h2 : PE Z e2 (tIs a dd b2)) (h3 : PE Z e3 (tIs a dd b3)) (s1 : starEach [e1, e2, e3] Z.env = (false, eval e1 Z.env) :: starEach [e2, e3] Z.env) (s2 : starEach [e2, e3] Z.env = (false, eval e2 Z.env) :: starEach [e3] Z.env) (s3 : starEach [e3] Z.env = (false, eval e3 Z.env) :: starEach [] Z.env) :
    PE Z (.List [e1, e2, e3] pos) fun σ H Q => ExAt a dd σ H ∧ ∀ p, H p = none → Q (.ref p) (upd H p (.lst [.bl b1, .bl b2, .bl b3])) := by
  refine pe_weak (pe_lst (pa_cons h1 (pa_cons h2 (pa_cons h3 pa_nil s3) s2) s1)) ?_
  rintro σ H Q ⟨x, q⟩
  exact ⟨x, x, x, by rw [sizeLine_eq]; show 3 ≤ 16777216; omega, q⟩
/-- all that was tracked is kept -/
def Grow (H G : Hp) : Prop := ∀ b o, H b = some o → G b = some o
theorem Grow.upd {H : Hp} {p : Addr} {o : HO} (h : H p = none) : Grow H (L2.upd H p o) := fun b u e => by rw [upd_ne (ne_of_none e h)]; exact e
theorem Grow.trans {H1 H2 H3 : Hp} (a : Grow H1 H2) (b : Grow H2 H3) : Grow H1 H3 := fun p o e => b p o (a p o e)
/-- slot i holds a list -/
def LsAt (i : Nat) (xs : List V) (σ : L2.St) (H : Hp) : Prop := ∃ r, σ[i]? = some (some (.ref r)) ∧ H r = some (.lst xs)
/-- what a statement does that gives slot i a list -/
def tPut (a dd i : Nat) (pre : L2.St → Hp → Prop) (ys : List V) : TS := fun D σ H => i < σ.length ∧ 0 < i ∧ ExAt a dd σ H ∧ pre σ H ∧ ∀ σ' G, Grow H G → ExAt a dd σ' G → LsAt i ys σ' G → (∀ j, j ≠ i → σ'[j]? = σ[j]?) → D.nx σ' G
theorem put_ok {i p : Nat} {ys : List V} {σ : L2.St} {H G : Hp} (lt : i < σ.length) (i0 : 0 < i) (e : ExAt a dd σ H) (g : Grow H G) (at_ : G p = some (.lst ys)) : ExAt a dd (σ.set i (some (.ref p))) G ∧ LsAt i ys (σ.set i (some (.ref p))) G ∧ ∀ j, j ≠ i → (σ.set i (some (.ref p)))[j]? = σ[j]? := by
  obtain ⟨e1, fs, e2⟩ := e
  exact ⟨⟨by rw [List.getElem?_set_ne (Nat.ne_of_gt i0)]; exact e1, fs, g _ _ e2⟩, ⟨p, by simp [lt], at_⟩, fun j ne => List.getElem?_set_ne (Ne.symm ne)⟩
/-- x = [isinstance(e, C1), .., ..] -/
theorem ps_first {i : Nat} {x : Str} {l : Expr} {ys : List V} {p1 pos : Pos} (nd : Z.N.Nodup) (at_ : Z.N[i]? = some x) (loc : Z.env.scope.names.lookup x = some .local)
    (h : PE Z l fun σ H Q => ExAt a dd σ H ∧ ∀ p, H p = none → Q (.ref p) (L2.upd H p (.lst ys))) (sw : swapsWith l (some (.Name x p1)) pos.line Z.env = pure false) :
    PS Z (.Assign [.Name x p1] l pos) (tPut a dd i (fun _ _ => True) ys) := by
  have q := ps_set (pos' := p1) (pos := pos) nd at_ (.inl loc) h sw (.inr loc)
  refine ⟨fun pins s σ H D I w => q.run pins s σ H D I ?_⟩
  obtain ⟨lt, i0, e, -, k⟩ := w
  refine ⟨e, fun p hp => ?_⟩
  obtain ⟨g1, g2, g3⟩ := put_ok lt i0 e (Grow.upd (o := .lst ys) hp) upd_same
  exact k _ _ (Grow.upd hp) g1 g2 g3
/-- x = x + [isinstance(e, C4), .., ..] -/
theorem ps_more {i : Nat} {x : Str} {l : Expr} {ys : List V} {xs : List V} {p1 p2 p3 pos : Pos} (nd : Z.N.Nodup) (at_ : Z.N[i]? = some x) (loc : Z.env.scope.names.lookup x = some .local) (d1 : (x == ("__debug__" : Str)) = false) (d2 : (x == ("__classdict__" : Str)) = false) (few : xs.length ≤ 1000) (few2 : ys.length ≤ 1000)
    (h : PE Z l fun σ H Q => ExAt a dd σ H ∧ ∀ p, H p = none → Q (.ref p) (L2.upd H p (.lst ys))) (sw : swapsWith (.BinOp (.Name x p2) .Add l p3) (some (.Name x p1)) pos.line Z.env = pure false) :
    PS Z (.Assign [.Name x p1] (.BinOp (.Name x p2) .Add l p3) pos) (tPut a dd i (LsAt i xs) (xs ++ ys)) := by
  have q := ps_set (pos' := p1) (pos := pos) nd at_ (.inl loc) (pe_op (pos := p3) op_cat (pe_var (pos := p2) at_ (.inl loc) d1 d2) h) sw (.inr loc)
  refine ⟨fun pins s σ H D I w => q.run pins s σ H D I ?_⟩
  obtain ⟨lt, i0, e, ⟨r, s1, s2⟩, k⟩ := w
  refine ⟨.ref r, s1, e, fun p hp => ?_⟩
  refine ⟨r, p, xs, ys, rfl, rfl, Grow.upd hp _ _ s2, upd_same, by rw [sizeLine_eq]; omega, fun u hu => ?_⟩
  have g := (Grow.upd (o := .lst ys) hp).trans (Grow.upd (o := .lst (xs ++ ys)) hu)
  obtain ⟨g1, g2, g3⟩ := put_ok lt i0 e g upd_same
  exact k _ _ g g1 g2 g3
end
end Mn
/-! the word of the one flag that is set -/
namespace Mn
open PySem L2 L2H PyProof.Rows PySem.Spec
/-- the word, where just one flag is set; else the empty text -/
def oneWord (bs : List Bool) (ws : List Str) : Option Str := if bs.count true = 1 then (bs.findIdx? id).bind fun j => ws[j]? else some ""
theorem bools_flat (bs : List Bool) : (bs.map V.bl).all flatV = true := by
  induction bs with
  | nil => rfl
  | cons b bs ih => rw [List.map_cons, List.all_cons, ih]; rfl
theorem bools_count : ∀ bs : List Bool, ((bs.map V.bl).countP fun z => eqV z (.bl true)) = bs.count true
  | [] => rfl
  | b :: bs => by
    rw [List.map_cons, List.countP_cons, List.count_cons, bools_count bs]
    cases b <;> rfl
section
variable [CA] {Z : Cx} {fl wd : Str} {i j : Nat} {bs : List Bool} {ws : List Str} {z : Str} {a1 a2 p1 p2 p3 p4 p5 p6 p7 p8 p9 pA pB pos : Pos} {k1 k2 k3 k4 : Nat}
theorem pe_oneWord (f1 : Z.N[i]? = some fl) (f2 : Vis Z.env.scope fl) (f3 : (fl == ("__debug__" : Str)) = false) (f4 : (fl == ("__classdict__" : Str)) = false) (w1 : Z.N[j]? = some wd) (w2 : Vis Z.env.scope wd) (w3 : (wd == ("__debug__" : Str)) = false) (w4 : (wd == ("__classdict__" : Str)) = false)
    (l1 : (a1.endLine == p3.line) = true) (l2 : (a2.endLine == p7.line) = true) (ok : oneWord bs ws = some z) :
    PE Z (.IfExp (.Compare (.Call (.Attribute (.Name fl p1) "count" a1) [.Constant (.bool true) k1 p2] [] p3) [.Eq] [.Constant (.int 1) k2 p4] p5)
      (.Subscript (.Name wd p6) (.Call (.Attribute (.Name fl p8) "index" a2) [.Constant (.bool true) k4 p9] [] p7) pA) (.Constant (.str "") k3 pB) pos)
      fun σ H Q => LsAt i (bs.map V.bl) σ H ∧ LsAt j (ws.map V.str) σ H ∧ Q (.str z) H := by
  have rd : ∀ p, PE Z (.Name fl p) (tVar i) := fun p => pe_var f1 f2 f3 f4
  have tr : ∀ k p, PE Z (.Constant (.bool true) k p) (tC (.bl true)) := fun _ _ => pe_bl
  have cnt := pe_bm (cpos := p3) (apos := a1) PySem.F.plainAttrs_list PySem.F.slot_list_count PySem.F.type_list_count mt_countF (rd p1) (pa_cons (tr k1 p2) pa_nil) (base_eq rfl) (hline := l1)
  have idx := pe_bm (cpos := p7) (apos := a2) PySem.F.plainAttrs_list PySem.F.slot_list_index PySem.F.type_list_index mt_index (rd p8) (pa_cons (tr k4 p9) pa_nil) (base_eq rfl) (hline := l2)
  have test := pt_cmpR (pos := p5) op_eq cnt (pe_int (i := 1) (j := k2) (pos := p4)) (by rfl)
  have item := pe_ix (pos := pA) ix_list (pe_var (pos := p6) w1 w2 w3 w4) idx (plain_ix rfl)
  refine pe_weak (pe_ifExp (pos := pos) test item (pe_str (x := "") (j := k3) (pos := pB))) ?_
  rintro σ H Q ⟨⟨r, s1, s2⟩, ⟨q, s3, s4⟩, h⟩
  refine ⟨.ref r, s1, .inl ⟨rfl, _, SqL.of s2⟩, r, bs.map V.bl, .bl true, rfl, rfl, SqL.of s2, rfl, bools_flat bs, ?_⟩
  rw [bools_count]
  refine ⟨rfl, _, rfl, ?_⟩
  unfold oneWord at ok
  by_cases one : bs.count true = 1
  · rw [if_pos one] at ok
    rw [one, if_pos (by rfl)]
    obtain ⟨m, m1, m2⟩ := Option.bind_eq_some_iff.mp ok
    obtain ⟨lt, yes, no⟩ := List.findIdx?_eq_some_iff_getElem.mp m1
    refine ⟨.ref q, s3, .ref r, s1, .inl ⟨rfl, _, SqL.of s2⟩, r, bs.map V.bl, .bl true, m, .bl true, rfl, rfl, SqL.of s2, rfl, bools_flat bs, ?_, rfl, fun n z' hn e => ?_, q, ws.map V.str, m, .str z, rfl, rfl, SqL.of s4, ?_, h⟩
    · rw [List.getElem?_map, List.getElem?_eq_getElem lt]
      have : bs[m] = true := yes
      rw [this]; rfl
    · rw [List.getElem?_map, List.getElem?_eq_getElem (Nat.lt_trans hn lt)] at e
      have : bs[n] = false := Bool.eq_false_iff.mpr (no n hn)
      rw [this] at e
      cases e
      rfl
    · exact atI_nat (by rw [List.getElem?_map, m2]; rfl)
  · rw [if_neg one] at ok
    cases ok
    rw [if_neg]
    · exact h
    · intro e
      have := of_decide_eq_true e
      injection this with this
      omega
end
end Mn
/-! the whole body of _law_word -/
namespace Mn
open PySem L2 L2H PyProof.Rows PySem.Spec
/-- a display: a new list -/
def tDisp (a dd : Addr) (ys : List V) : TE := fun σ H Q => ExAt a dd σ H ∧ ∀ p, H p = none → Q (.ref p) (upd H p (.lst ys))
section
variable {Z : Cx} {a dd : Addr} {fl wd : Str} {z : Str}
/-- a list that is set, then grown -/
def sets (x : Str) (l : Expr) (p1 pos : Pos) : Stmt := .Assign [.Name x p1] l pos
def grows (x : Str) (l : Expr) (p1 p2 p3 pos : Pos) : Stmt := .Assign [.Name x p1] (.BinOp (.Name x p2) .Add l p3) pos
/-- the statements that grow a list, one after the other -/
inductive Grown (Z : Cx) (a dd : Addr) (x : Str) : List V → List Stmt → List V → Prop
  | nil {xs : List V} : Grown Z a dd x xs [] xs
  | cons {xs ys zs : List V} {l : Expr} {p1 p2 p3 pos : Pos} {r : List Stmt} (few : xs.length ≤ 1000) (few2 : ys.length ≤ 1000) (h : PE Z l (tDisp a dd ys)) (sw : swapsWith (.BinOp (.Name x p2) .Add l p3) (some (.Name x p1)) pos.line Z.env = pure false)
      (rest : Grown Z a dd x (xs ++ ys) r zs) : Grown Z a dd x xs (grows x l p1 p2 p3 pos :: r) zs
/-- behind such statements: the list is whole, all other slots are as they were -/
def tGrown (a dd i : Nat) (xs zs : List V) (u : TS) : TS := fun D σ H => i < σ.length ∧ 0 < i ∧ ExAt a dd σ H ∧ LsAt i xs σ H ∧ ∀ σ' G, Grow H G → ExAt a dd σ' G → LsAt i zs σ' G → (∀ j, j ≠ i → σ'[j]? = σ[j]?) → u D σ' G
theorem pss_grown {i : Nat} {x : Str} (nd : Z.N.Nodup) (at_ : Z.N[i]? = some x) (loc : Z.env.scope.names.lookup x = some .local) (d1 : (x == ("__debug__" : Str)) = false) (d2 : (x == ("__classdict__" : Str)) = false) {tail : List Stmt} {u : TS} (ht : PSs Z tail u) :
    ∀ {xs zs : List V} {sts : List Stmt}, Grown Z a dd x xs sts zs → PSs Z (sts ++ tail) (tGrown a dd i xs zs u) := by
  intro xs zs sts g
  induction g with
  | nil => exact ⟨fun pins s σ H D I w => ht.run pins s σ H D I (w.2.2.2.2 σ H (fun _ _ e => e) w.2.2.1 w.2.2.2.1 fun _ _ => rfl)⟩
  | cons few few2 h sw rest ih =>
    have q := pss_cons (ps_more nd at_ loc d1 d2 few few2 h sw) ih
    refine ⟨fun pins s σ H D I w => q.run pins s σ H D I ?_⟩
    obtain ⟨lt, i0, e, l, k⟩ := w
    refine ⟨lt, i0, e, l, fun σ1 G1 g1 e1 l1 o1 => ?_⟩
    obtain ⟨r, r1, r2⟩ := l1
    exact ⟨(List.getElem?_eq_some_iff.mp r1).1, i0, e1, ⟨r, r1, r2⟩, fun σ2 G2 g2 e2 l2 o2 => k σ2 G2 (g1.trans g2) e2 l2 fun j ne => (o2 j ne).trans (o1 j ne)⟩
theorem pss_word {l w r : Expr} {ys zs vs us : List V} {fs wsts : List Stmt} {p1 p2 p3 p4 p5 : Pos} (nd : Z.N.Nodup) (f1 : Z.N[1]? = some fl) (f2 : Z.env.scope.names.lookup fl = some .local) (f3 : (fl == ("__debug__" : Str)) = false) (f4 : (fl == ("__classdict__" : Str)) = false)
    (w1 : Z.N[2]? = some wd) (w2 : Z.env.scope.names.lookup wd = some .local) (w3 : (wd == ("__debug__" : Str)) = false) (w4 : (wd == ("__classdict__" : Str)) = false)
    (hl : PE Z l (tDisp a dd ys)) (sl : swapsWith l (some (.Name fl p1)) p2.line Z.env = pure false) (gf : Grown Z a dd fl ys fs zs) (hw : PE Z w (tDisp a dd vs)) (sw : swapsWith w (some (.Name wd p3)) p4.line Z.env = pure false) (gw : Grown Z a dd wd vs wsts us)
    (last : PE Z r fun σ H Q => LsAt 1 zs σ H ∧ LsAt 2 us σ H ∧ Q (.str z) H) :
    PSs Z (sets fl l p1 p2 :: (fs ++ (sets wd w p3 p4 :: (wsts ++ [.Return (some r) p5])))) fun D σ H => σ.length = 3 ∧ ExAt a dd σ H ∧ ∀ G, Grow H G → D.rt (.str z) G := by
  have q := pss_cons (ps_first (a := a) (dd := dd) nd f1 f2 hl sl) (pss_grown nd f1 f2 f3 f4 (pss_cons (ps_first (a := a) (dd := dd) nd w1 w2 hw sw) (pss_grown nd w1 w2 w3 w4 (pss_one (ps_ret (pos := p5) last)) gw)) gf)
  refine ⟨fun pins s σ H D I h => q.run pins s σ H D I ?_⟩
  obtain ⟨len, e, k⟩ := h
  have two : ∃ x, σ[2]? = some x := ⟨σ[2], by simp [len]⟩
  obtain ⟨x, two⟩ := two
  refine ⟨by omega, by omega, e, trivial, fun σ1 G1 g1 e1 l1 o1 => ?_⟩
  have lt1 : 1 < σ1.length := by obtain ⟨r, r1, _⟩ := l1; exact (List.getElem?_eq_some_iff.mp r1).1
  refine ⟨lt1, by omega, e1, l1, fun σ2 G2 g2 e2 l2 o2 => ?_⟩
  have two2 : σ2[2]? = some x := (o2 2 (by omega)).trans ((o1 2 (by omega)).trans two)
  refine ⟨(List.getElem?_eq_some_iff.mp two2).1, by omega, e2, trivial, fun σ3 G3 g3 e3 l3 o3 => ?_⟩
  have lt3 : 2 < σ3.length := by obtain ⟨r, r1, _⟩ := l3; exact (List.getElem?_eq_some_iff.mp r1).1
  refine ⟨lt3, by omega, e3, l3, fun σ4 G4 g4 e4 l4 o4 => ?_⟩
  obtain ⟨r, r1, r2⟩ := l2
  exact ⟨⟨r, (o4 1 (by omega)).trans ((o3 1 (by omega)).trans r1), g4 _ _ (g3 _ _ r2)⟩, l4, k G4 (((g1.trans g2).trans g3).trans g4)⟩
end
end Mn
/-! g(..) in an except suite, for a def that looks at the handled exception -/
namespace Mn
open PySem L2 L2H PyProof.Rows PySem.Spec
section
variable {Y : Cx} {p : Addr × Obj} {f : Addr} {fd : FuncData} {x qual name : Str} {params : Arguments} {body : List Stmt} {scope : Scope} {N ps : List Str} {k : Nat} {e : Expr} {es : List Expr} {t : TA} {q pos : Pos} {sp : List V → Hp → VK → Prop}
theorem pe_hot (F : FunD Y.K name qual params body scope [] [] f fd) (S : FnScope N ps scope) (pin : p ∈ Y.pn) (room : RoomH (k + 1) Y.A) (g : Gl Y x) (m : Y.mg x = some (.ref f)) (keep : PySem.W.keepIn Y.K (.ref f) = true) (bd : Binds Y.K fd ps [])
    (args : PA Y (e :: es) t) (nd : (x == ("__debug__" : Str)) = false) (len : ∀ vs H Q, sp vs H Q → vs.length = ps.length)
    (inner : ∀ s H vs Q, sp vs H Q → ∀ cdv, RoomH k (Y.A.deeper (envOfC qual scope s.heap.objs.size f cdv)) → ∃ t, PSs (hotCx Y N qual scope f cdv s H p) body t ∧ t { nx := fun _ G => Q .non G, rt := Q } (L2.start N vs) H)
    (s1 : starEach (e :: es) Y.env = (false, eval e Y.env) :: starEach es Y.env) (s2 : (backTo pos (starEach es Y.env)).any (·.1) = false) :
    PE Y (.Call (.Name x q) (e :: es) [] pos) fun σ H Q => t σ H fun vs G => sp vs G Q := by
  constructor
  intro pins s σ H Q I h
  refine wpAny_Call_Name_kw (ld_glob I g m (PySem.W.callWith_K (h₀ := Y.base) I.ok.mod.kin keep (thn (args.run pos pins s σ H _ I h) ?_) s1 s2) nd)
  rintro us z ⟨vs, G, J, r, w⟩
  have l := len _ _ _ w
  have b := bd z us J.kIn (by rw [List.append_nil, ← r.length]; exact l)
  rw [List.append_nil] at b
  exact ⟨J.kIn, call_hot F S pin room b J r l (inner z G vs Q w)⟩
end
end Mn
/-! a display of written texts; what _law_word gives, from its rows -/
namespace Mn
open PySem L2 L2H PyProof.Rows PySem.Spec
section
variable {Z : Cx} {a dd : Addr}
theorem star_txt {z : Str} {k : Nat} {p : Pos} {r : List Expr} : starEach (.Constant (.str z) k p :: r) Z.env = (false, eval (.Constant (.str z) k p) Z.env) :: starEach r Z.env := by rfl
theorem pa_txts : ∀ {es : List Expr} {ws : List Str}, txtsB es = some ws → PA Z es fun σ H Q => Q (ws.map V.str) H
  | [], ws, h => by
    cases h
    exact ⟨fun pos pins s σ H Q I w => pa_nil.run pos pins s σ H Q I w⟩
  | e :: es, ws, h => by
    unfold txtsB at h
    split at h
    · rename_i h1; cases h1
    · rename_i z k p r h1
      cases h1
      obtain ⟨vs, e1, rfl⟩ := Option.map_eq_some_iff.mp h
      have q := pa_cons (pe_str (x := z) (j := k) (pos := p)) (pa_txts e1) star_txt
      exact ⟨fun pos pins s σ H Q I w => q.run pos pins s σ H Q I w⟩
    · cases h
theorem pe_txts {es : List Expr} {ws : List Str} {pos : Pos} (h : txtsB es = some ws) (few : ws.length ≤ 1000) : PE Z (.List es pos) (tDisp a dd (ws.map V.str)) := by
  refine pe_weak (pe_lst (pa_txts h)) ?_
  rintro σ H Q ⟨_, q⟩
  exact ⟨by rw [List.length_map, sizeLine_eq]; omega, q⟩
end
end Mn
/-! the rows of _law_word, read -/
namespace Mn
open PySem L2 L2H PyProof.Rows PySem.Spec
/-- the rows that grow the list x: what is added in all, and what comes behind -/
def growB (x : Str) (d : Expr → Option (List V)) : List Stmt → List V × List Stmt
  | [] => ([], [])
  | s :: r => match s with
    | .Assign [.Name y _] (.BinOp (.Name y2 _) .Add l _) _ => match d l with
      | some v => if y = x ∧ y2 = x then (v ++ (growB x d r).1, (growB x d r).2) else ([], s :: r)
      | none => ([], s :: r)
    | _ => ([], s :: r)
section
variable {Z : Cx} {a dd : Addr}
theorem grow_ok {x : Str} {d : Expr → Option (List V)} (hd : ∀ l v, d l = some v → PE Z l (tDisp a dd v) ∧ v.length ≤ 100) :
    ∀ (sts : List Stmt) (xs : List V), xs.length + (growB x d sts).1.length ≤ 1000 → ∃ pre, sts = pre ++ (growB x d sts).2 ∧ Grown Z a dd x xs pre (xs ++ (growB x d sts).1)
  | [], xs, _ => ⟨[], rfl, by rw [show (growB x d []).1 = [] from rfl, List.append_nil]; exact .nil⟩
  | s :: r, xs, h => by
    have stop : growB x d (s :: r) = ([], s :: r) → ∃ pre, s :: r = pre ++ (growB x d (s :: r)).2 ∧ Grown Z a dd x xs pre (xs ++ (growB x d (s :: r)).1) := fun e => ⟨[], by rw [e]; rfl, by rw [e, List.append_nil]; exact .nil⟩
    unfold growB at h stop ⊢
    split at stop
    · rename_i y p1 y2 p2 l p3 p4
      simp only at h ⊢
      cases e : d l with
      | none => rw [e] at stop; simp only at stop ⊢; exact stop trivial
      | some v =>
        rw [e] at h stop
        simp only at h stop ⊢
        by_cases c : y = x ∧ y2 = x
        · rw [if_pos c] at h ⊢
          obtain ⟨rfl, rfl⟩ := c
          simp only [List.length_append] at h
          obtain ⟨h1, h2⟩ := hd l v e
          obtain ⟨pre, e1, g⟩ := grow_ok (x := y2) hd r (xs ++ v) (by rw [List.length_append]; omega)
          exact ⟨grows y2 l p1 p2 p3 p4 :: pre, by rw [List.cons_append, ← e1]; rfl, .cons (by omega) (by omega) h1 rfl (by rw [← List.append_assoc]; exact g)⟩
        · rw [if_neg c] at stop ⊢
          exact stop rfl
    · exact stop rfl
end
end Mn
/-! the flags of _law_word, read; the whole of it -/
namespace Mn
open PySem L2 L2H PyProof.Rows PySem.Spec
/-- isinstance(e, n), n a class of the list -/
def isB (e : Str) (ns : List Str) : Expr → Option Str
  | .Call (.Name g _) [.Name x _, .Name n _] [] _ => if g = "isinstance" ∧ x = e ∧ n ∈ ns then some n else none
  | _ => none
/-- three of them in a display: the flags -/
def is3B (e : Str) (ns : List Str) (kf : Str → Bool) : Expr → Option (List V)
  | .List [p, q, r] _ => match isB e ns p, isB e ns q, isB e ns r with
    | some x, some y, some z => some [.bl (kf x), .bl (kf y), .bl (kf z)]
    | _, _, _ => none
  | _ => none
def txtB : Expr → Option (List V)
  | .List es _ => match txtsB es with
    | some ws => if ws.length ≤ 100 then some (ws.map V.str) else none
    | none => none
  | _ => none
section
variable {Z : Cx} {a dd D : Addr} {oe : Obj} {e : Str} {ns : List Str} {kf : Str → Bool}
theorem txt_ok (l : Expr) (v : List V) (h : txtB l = some v) : PE Z l (tDisp a dd v) ∧ v.length ≤ 100 := by
  unfold txtB at h
  split at h
  · split at h
    · rename_i es pos ws e1
      split at h
      · rename_i few
        cases h
        exact ⟨pe_txts e1 (by omega), by rw [List.length_map]; exact few⟩
      · cases h
    · cases h
  · cases h
/-- what is known of the classes' names -/
structure ClsOk (Z : Cx) (D : Addr) (ns : List Str) (kf : Str → Bool) : Prop where
  gi : Gl Z "isinstance"
  mi : Z.mg "isinstance" = none
  of : ∀ n ∈ ns, Gl Z n ∧ (n == ("__debug__" : Str)) = false ∧ ∃ C, Z.mg n = some (.ref C) ∧ PySem.W.kitOne Z.K (.ref D) (.ref C) = some (kf n)
theorem is_ok (pin : (a, oe) ∈ Z.pn) (X : ExcC Z.K D) (z : Zc (.ref D) (some dd) oe) (flds : ∃ vs, oe.data = .fields vs) (slot : Z.N[0]? = some e) (vis : Vis Z.env.scope e) (ne1 : (e == ("__debug__" : Str)) = false) (ne2 : (e == ("__classdict__" : Str)) = false) (c : ClsOk Z D ns kf)
    (p : Expr) (n : Str) (h : isB e ns p = some n) : PE Z p (tIs a dd (kf n)) ∧ ∀ r, starEach (p :: r) Z.env = (false, eval p Z.env) :: starEach r Z.env := by
  unfold isB at h
  split at h
  · split at h
    · rename_i q
      obtain ⟨rfl, rfl, m⟩ := q
      cases h
      obtain ⟨g, d, C, mn, k⟩ := c.of _ m
      exact ⟨pe_is pin X z flds slot vis ne1 ne2 c.gi c.mi g mn d k, fun r => rfl⟩
    · cases h
  · cases h
theorem is3_ok (pin : (a, oe) ∈ Z.pn) (X : ExcC Z.K D) (z : Zc (.ref D) (some dd) oe) (flds : ∃ vs, oe.data = .fields vs) (slot : Z.N[0]? = some e) (vis : Vis Z.env.scope e) (ne1 : (e == ("__debug__" : Str)) = false) (ne2 : (e == ("__classdict__" : Str)) = false) (c : ClsOk Z D ns kf)
    (l : Expr) (v : List V) (h : is3B e ns kf l = some v) : PE Z l (tDisp a dd v) ∧ v.length ≤ 100 := by
  unfold is3B at h
  split at h
  · split at h
    · rename_i p q r pos x y w e1 e2 e3
      cases h
      obtain ⟨h1, s1⟩ := is_ok pin X z flds slot vis ne1 ne2 c _ x e1
      obtain ⟨h2, s2⟩ := is_ok pin X z flds slot vis ne1 ne2 c _ y e2
      obtain ⟨h3, s3⟩ := is_ok pin X z flds slot vis ne1 ne2 c _ w e3
      exact ⟨pe_is3 h1 h2 h3 (s1 _) (s2 _) (s3 _), by simp⟩
    · cases h
  · cases h
end
end Mn
/-! the whole body of _law_word, read -/
namespace Mn
open PySem L2 L2H PyProof.Rows PySem.Spec
/-- the last row's value -/
def lastB (fl wd : Str) : Expr → Bool
  | .IfExp (.Compare (.Call (.Attribute (.Name f1 _) m1 a1) [.Constant (.bool true) _ _] [] p1) [.Eq] [.Constant (.int 1) _ _] _) (.Subscript (.Name w _) (.Call (.Attribute (.Name f2 _) m2 a2) [.Constant (.bool true) _ _] [] p2) _) (.Constant (.str z) _ _) _ =>
    decide (f1 = fl) && (decide (m1 = "count") && (decide (w = wd) && (decide (f2 = fl) && (decide (m2 = "index") && (decide (z = "") && ((a1.endLine == p1.line) && (a2.endLine == p2.line)))))))
  | _ => false
section
variable [CA] {Z : Cx} {fl wd : Str} {i j : Nat} {bs : List Bool} {ws : List Str} {z : Str}
theorem last_ok (f1 : Z.N[i]? = some fl) (f2 : Vis Z.env.scope fl) (f3 : (fl == ("__debug__" : Str)) = false) (f4 : (fl == ("__classdict__" : Str)) = false) (w1 : Z.N[j]? = some wd) (w2 : Vis Z.env.scope wd) (w3 : (wd == ("__debug__" : Str)) = false) (w4 : (wd == ("__classdict__" : Str)) = false)
    (ok : oneWord bs ws = some z) (l : Expr) (h : lastB fl wd l = true) : PE Z l fun σ H Q => LsAt i (bs.map V.bl) σ H ∧ LsAt j (ws.map V.str) σ H ∧ Q (.str z) H := by
  unfold lastB at h
  split at h
  · simp only [Bool.and_eq_true, decide_eq_true_eq] at h
    obtain ⟨rfl, rfl, rfl, rfl, rfl, rfl, l1, l2⟩ := h
    exact pe_oneWord f1 f2 f3 f4 w1 w2 w3 w4 l1 l2 ok
  · cases h
end
end Mn
/-! the whole body of _law_word, read: flags and words -/
namespace Mn
open PySem L2 L2H PyProof.Rows PySem.Spec
def wordB (e fl wd : Str) (ns : List Str) (kf : Str → Bool) : List Stmt → Option (List V × List V)
  | .Assign [.Name f _] l _ :: r => match is3B e ns kf l with
    | some y => match (growB fl (is3B e ns kf) r).2 with
      | .Assign [.Name w _] l2 _ :: r3 => match txtB l2 with
        | some v => match (growB wd txtB r3).2 with
          | [.Return (some last) _] => if f = fl ∧ w = wd ∧ y.length + (growB fl (is3B e ns kf) r).1.length ≤ 1000 ∧ v.length + (growB wd txtB r3).1.length ≤ 1000 ∧ lastB fl wd last = true then some (y ++ (growB fl (is3B e ns kf) r).1, v ++ (growB wd txtB r3).1) else none
          | _ => none
        | none => none
      | _ => none
    | none => none
  | _ => none
section
variable [CA] {Z : Cx} {a dd D : Addr} {oe : Obj} {e fl wd z : Str} {ns : List Str} {kf : Str → Bool} {bs : List Bool} {ws : List Str}
theorem word_ok (pin : (a, oe) ∈ Z.pn) (X : ExcC Z.K D) (zc : Zc (.ref D) (some dd) oe) (flds : ∃ vs, oe.data = .fields vs) (c : ClsOk Z D ns kf) (nd : Z.N.Nodup) (slot : Z.N[0]? = some e) (vis : Vis Z.env.scope e) (ne1 : (e == ("__debug__" : Str)) = false) (ne2 : (e == ("__classdict__" : Str)) = false)
    (f1 : Z.N[1]? = some fl) (f2 : Z.env.scope.names.lookup fl = some .local) (f3 : (fl == ("__debug__" : Str)) = false) (f4 : (fl == ("__classdict__" : Str)) = false) (w1 : Z.N[2]? = some wd) (w2 : Z.env.scope.names.lookup wd = some .local) (w3 : (wd == ("__debug__" : Str)) = false) (w4 : (wd == ("__classdict__" : Str)) = false)
    (body : List Stmt) (h : wordB e fl wd ns kf body = some (bs.map V.bl, ws.map V.str)) (ok : oneWord bs ws = some z) :
    PSs Z body fun D σ H => σ.length = 3 ∧ ExAt a dd σ H ∧ ∀ G, Grow H G → D.rt (.str z) G := by
  have hd := is3_ok pin X zc flds slot vis ne1 ne2 c (dd := dd)
  unfold wordB at h
  split at h
  · rename_i f p1 l p2 r
    split at h
    · rename_i y e1
      split at h
      · rename_i w p3 l2 p4 r3 e2
        split at h
        · rename_i v e3
          split at h
          · rename_i last p5 e4
            split at h
            · rename_i q
              obtain ⟨rfl, rfl, n1, n2, hl⟩ := q
              simp only [Option.some.injEq, Prod.mk.injEq] at h
              obtain ⟨pre, g1, g2⟩ := grow_ok (Z := Z) (x := f) hd r y n1
              obtain ⟨pre2, g3, g4⟩ := grow_ok (Z := Z) (a := a) (dd := dd) (x := w) (txt_ok (Z := Z)) r3 v n2
              rw [h.1] at g2
              rw [h.2] at g4
              rw [e2] at g1
              rw [e4] at g3
              rw [g1, g3]
              exact pss_word nd f1 f2 f3 f4 w1 w2 w3 w4 (hd l y e1).1 (by
                unfold is3B at e1
                split at e1
                · rfl
                · cases e1) g2 (txt_ok l2 v e3).1 (by
                unfold txtB at e3
                split at e3
                · rfl
                · cases e3) g4 (last_ok f1 (.inl f2) f3 f4 w1 (.inl w2) w3 w4 ok last hl)
            · cases h
          · cases h
        · cases h
      · cases h
    · cases h
  · cases h
end
end Mn
/-! _law_word(e) in an except suite -/
namespace Mn
open PySem L2 L2H PyProof.Rows PySem.Spec
section
variable [CA] {Y : Cx} {a dd D f : Addr} {oe : Obj} {e fl wd z x ev name qual : Str} {ns : List Str} {kf : Str → Bool} {bs : List Bool} {ws : List Str} {fd : FuncData} {params : Arguments} {body : List Stmt} {scope : Scope} {k i : Nat} {q p2 pos : Pos}
theorem pe_word (F : FunD Y.K name qual params body scope [] [] f fd) (S : FnScope [e, fl, wd] [e] scope) (pin : (a, oe) ∈ Y.pn) (room : RoomH (k + 1) Y.A) (g : Gl Y x) (m : Y.mg x = some (.ref f)) (keep : PySem.W.keepIn Y.K (.ref f) = true) (bd : Binds Y.K fd [e] []) (nx : (x == ("__debug__" : Str)) = false)
    (X : ExcC Y.K D) (zc : Zc (.ref D) (some dd) oe) (flds : ∃ vs, oe.data = .fields vs) (c : ∀ cdv s H, ClsOk (hotCx Y [e, fl, wd] qual scope f cdv s H (a, oe)) D ns kf)
    (v0 : Vis scope e) (ne1 : (e == ("__debug__" : Str)) = false) (ne2 : (e == ("__classdict__" : Str)) = false) (f2 : scope.names.lookup fl = some .local) (f3 : (fl == ("__debug__" : Str)) = false) (f4 : (fl == ("__classdict__" : Str)) = false) (w2 : scope.names.lookup wd = some .local) (w3 : (wd == ("__debug__" : Str)) = false) (w4 : (wd == ("__classdict__" : Str)) = false)
    (h : wordB e fl wd ns kf body = some (bs.map V.bl, ws.map V.str)) (ok : oneWord bs ws = some z)
    (hN : Y.N[i]? = some ev) (vis : Vis Y.env.scope ev) (d1 : (ev == ("__debug__" : Str)) = false) (d2 : (ev == ("__classdict__" : Str)) = false) :
    PE Y (.Call (.Name x q) [.Name ev p2] [] pos) fun σ H Q => σ[i]? = some (some (.ref a)) ∧ (∃ fs, H dd = some (.xd fs)) ∧ ∀ G, Grow H G → Q (.str z) G := by
  have args := pa_cons (pe_var (X := Y) (pos := p2) hN vis d1 d2) pa_nil rfl
  refine pe_weak (pe_hot (q := q) (pos := pos) (p := (a, oe)) (sp := fun vs H Q => vs = [.ref a] ∧ (∃ fs, H dd = some (.xd fs)) ∧ ∀ G, Grow H G → Q (.str z) G) F S pin room g m keep bd args nx (fun vs H Q w => by rw [w.1]; rfl) ?_ rfl rfl) ?_
  · rintro s H vs Q ⟨rfl, ⟨fs, dct⟩, w⟩ cdv _
    have b := word_ok (Z := hotCx Y [e, fl, wd] qual scope f cdv s H (a, oe)) (a := a) (dd := dd) (D := D) (oe := oe) List.mem_cons_self X zc flds (c cdv s H) S.nd rfl v0 ne1 ne2 rfl f2 f3 f4 rfl w2 w3 w4 body h ok
    exact ⟨_, b, rfl, ⟨rfl, fs, dct⟩, w⟩
  · rintro σ H Q ⟨s1, dct, w⟩
    exact ⟨.ref a, s1, rfl, dct, w⟩
end
end Mn
/-! repr of data, also while an exception is handled; its attribute, shown -/
namespace Mn
open PySem L2 L2H PyProof.Rows PySem.Spec
/-- v can be shown: as this text -/
def Shown (K : PySem.W.Frag) (H : Hp) (v : V) (y : Str) : Prop := (∃ a kvs ps, v = .ref a ∧ H a = some (.dK kvs) ∧ dkP kvs = some ps ∧ (PyData.dict ps).showable = true ∧ (PyData.dict ps).depth ≤ 60 ∧ (PyData.dict ps).shown.length ≤ sizeLine ∧ y = (PyData.dict ps).shown) ∨ ∃ p : PyData, Dp K H v p ∧ p.showable = true ∧ p.depth ≤ 60 ∧ p.hasDict = false ∧ p.shown.length ≤ sizeLine ∧ y = p.shown
def rShown (K : PySem.W.Frag) : List V → Hp → VK → Prop := fun xs H Q => ∃ v y, xs = [v] ∧ Shown K H v y ∧ Q (.str y) H
section
variable {X : Cx}
theorem cr_shown (un : X.A.units + 65 < cLine) (gd : X.A.guards = some []) : CallR X (.builtin "repr") (rShown X.K) := by
  rintro pins s σ H vs us Q I r ⟨v, y, rfl, ⟨a, kvs, ps, rfl, g1, g2, g3, g4, g5, rfl⟩ | ⟨p, h1, h2, h3, h4, h5, rfl⟩, hQ⟩
  · obtain ⟨u, rfl, r1⟩ := vals1 r
    cases r1
    letI : CA := { ca := fun _ => 0, fa := fun _ => 0, fnm := fun _ => Str.empty, fl := fun _ => [], sl := fun _ => false, kc := fun _ => false, tc := fun _ => false, nd := fun _ => List.nodup_nil }
    exact repr_dk I gd un g1 g2 g3 g4 g5 fun h' w tk hk => ⟨.str _, H, I.kept hk, ⟨_, rfl⟩, hQ⟩
  obtain ⟨u, rfl, r1⟩ := vals1 r
  obtain ⟨as, rd⟩ := Dp.reads I p v u h1 r1
  have fin : ∀ h' w tk, (∀ b o, s.heap.get? b = some o → h'.get? b = some o) → EP X pins σ Q (.str p.shown w) { s with heap := h', toks := tk } := fun h' w tk hk => ⟨.str p.shown, H, I.kept hk, ⟨_, rfl⟩, hQ⟩
  have big : ∀ a, u = .ref a → wpAny (model X.prog X.w) X.A (call (.builtin "repr") [u]) (EP X pins σ Q) X.xe s := fun a ea => by
    subst ea
    exact repr_of_reads' rd h2 (fun z => by rw [h4] at z; cases z) gd (by omega) (fun _ _ q => q) fin h5
  cases rd with
  | none => exact PySem.P.repr_of_none (fin s.heap _ _ fun _ _ q => q)
  | bool c =>
    refine PySem.P.repr_of_bool ?_
    have := fin s.heap s.toks (s.toks + 1) fun _ _ q => q
    cases c <;> exact this
  | int i t => exact PySem.P.repr_of_int (by simpa [PyData.showable] using h2) (fin s.heap _ _ fun _ _ q => q)
  | str z t => exact PySem.P.repr_of_str (fin s.heap _ _ fun _ _ q => q) h5
  | list => exact big _ rfl
  | tuple => exact big _ rfl
  | dict => exact big _ rfl
/-- repr(e.n), in a suite -/
theorem pe_shownAttr {a C dd : Addr} {oe : Obj} {pn : List (Addr × Obj)} {i : Nat} {ev n y : Str} {p1 p2 p3 pos : Pos} (un : (X.suite a ((a, oe) :: pn)).A.units + 65 < cLine) (gd : (X.suite a ((a, oe) :: pn)).A.guards = some []) (T : XfC X.K C) (own : PySem.W.findIn X.K (.ref C) n = some none) (zc : Zc (.ref C) (some dd) oe) (flds : ∃ vs, oe.data = .fields vs)
    (gr : Gl (X.suite a ((a, oe) :: pn)) "repr") (mr : X.mg "repr" = none) (hN : X.N[i]? = some ev) (vis : Vis X.env.scope ev) (d1 : (ev == ("__debug__" : Str)) = false) (d2 : (ev == ("__classdict__" : Str)) = false) (line : starEach [.Attribute (.Name ev p1) n p2] X.env = (false, eval (.Attribute (.Name ev p1) n p2) X.env) :: starEach [] X.env) :
    PE (X.suite a ((a, oe) :: pn)) (.Call (.Name "repr" p3) [.Attribute (.Name ev p1) n p2] [] pos) fun σ H Q => σ[i]? = some (some (.ref a)) ∧ ∃ fs v, H dd = some (.xd fs) ∧ fs.lookup n = some v ∧ Shown X.K H v y ∧ Q (.str y) H := by
  have rd := pe_xf (X := X) (pn := pn) (pos := p2) (n := n) T own zc flds (pe_var (X := X.suite a ((a, oe) :: pn)) (pos := p1) hN vis d1 d2)
  refine pe_weak (pe_callB (p := p3) (pos := pos) (cr_shown un gd) gr mr boot_repr (pa_cons rd pa_nil line) (by decide) (by decide) line rfl) ?_
  rintro σ H Q ⟨s1, fs, v, dct, at_, sh, q⟩
  exact ⟨.ref a, s1, rfl, rfl, dd, fs, v, rfl, dct, at_, v, y, rfl, sh, q⟩
end
end Mn
/-! a text in a display of texts -/
namespace Mn
open PySem L2 L2H PyProof.Rows PySem.Spec
theorem txts_flat (ws : List Str) : (ws.map V.str).all flatV = true := by
  induction ws with
  | nil => rfl
  | cons w ws ih => rw [List.map_cons, List.all_cons, ih]; rfl
section
variable {Z : Cx} {wh z : Str} {j : Nat} {es : List Expr} {ws : List Str} {p1 p2 p3 : Pos}
theorem pt_isIn (hN : Z.N[j]? = some wh) (vis : Vis Z.env.scope wh) (d1 : (wh == ("__debug__" : Str)) = false) (d2 : (wh == ("__classdict__" : Str)) = false) (h : txtsB es = some ws) (few : ws.length ≤ 1000) :
    PT Z (.Compare (.Name wh p1) [.In] [.List es p2] p3) fun σ H Q => σ[j]? = some (some (.str z)) ∧ ∀ G, Grow H G → Q (inV (.str z) (ws.map V.str)) G := by
  have q := pt_cmpR (pos := p3) (op_in_seq (X := Z)) (pe_var (pos := p1) hN vis d1 d2) (pe_lst (pos := p2) (pa_txts (Z := Z) h)) rfl
  refine ⟨fun pins s σ H Q I w => q.run pins s σ H Q I ?_⟩
  obtain ⟨s1, k⟩ := w
  refine ⟨.str z, s1, by rw [List.length_map, sizeLine_eq]; omega, fun p hp => ?_⟩
  exact ⟨p, ws.map V.str, rfl, .inl (SqL.of upd_same), rfl, txts_flat ws, _, rfl, k _ (Grow.upd hp)⟩
end
end Mn
/-! the except suite of _law_outcome -/
namespace Mn
open PySem L2 L2H PyProof.Rows PySem.Spec
/-- what an attribute's repr asks and gives -/
def tAttr (K : PySem.W.Frag) (a dd : Addr) (i : Nat) (n y : Str) : TE := fun σ H Q => σ[i]? = some (some (.ref a)) ∧ ∃ fs v, H dd = some (.xd fs) ∧ fs.lookup n = some v ∧ Shown K H v y ∧ Q (.str y) H
section
variable {Y : Cx} {a dd : Addr} {i j : Nat} {wh z y : Str} {cw ri rg : Expr} {e1 e2 : List Expr} {w1 w2 : List Str} {p1 p2 p3 p4 p5 p6 p7 p8 p9 q1 q2 q3 q4 q5 q6 q7 q8 q9 : Pos} {k1 : Nat}
theorem pss_suite (nd : Y.N.Nodup) (hN : Y.N[j]? = some wh) (loc : Y.env.scope.names.lookup wh = some .local) (d1 : (wh == ("__debug__" : Str)) = false) (d2 : (wh == ("__classdict__" : Str)) = false) (ij : i ≠ j)
    (pw : PE Y cw fun σ H Q => σ[i]? = some (some (.ref a)) ∧ (∃ fs, H dd = some (.xd fs)) ∧ ∀ G, Grow H G → Q (.str z) G) (sw : swapsWith cw (some (.Name wh p1)) p2.line Y.env = pure false)
    (pi : PE Y ri (tAttr Y.K a dd i "index" y)) (pg : PE Y rg (tAttr Y.K a dd i "given" y)) (s1 : starEach [ri] Y.env = (false, eval ri Y.env) :: starEach [] Y.env)
    (h1 : txtsB e1 = some w1) (h2 : txtsB e2 = some w2) (f1 : w1.length ≤ 1000) (f2 : w2.length ≤ 1000) (no : inV (.str z) (w2.map V.str) = false) :
    PSs Y [.Assign [.Name wh p1] cw p2, .If (.Compare (.Name wh p3) [.In] [.List e1 p4] p5) [.Return (some (.List [.Name wh p6, ri] p7)) p8] [] p9,
      .Return (some (.List [.Name wh q1, .IfExp (.Compare (.Name wh q2) [.In] [.List e2 q3] q4) (.Constant (.str "") k1 q5) rg q6] q7)) q8]
      fun D σ H => σ[i]? = some (some (.ref a)) ∧ j < σ.length ∧ (∃ fs, H dd = some (.xd fs)) ∧ ∀ G, Grow H G → (∃ fs v, G dd = some (.xd fs) ∧ fs.lookup (if inV (.str z) (w1.map V.str) = true then ("index" : Str) else "given") = some v ∧ Shown Y.K G v y) ∧ ∀ p, G p = none → D.rt (.ref p) (upd G p (.lst [.str z, .str y])) := by
  have rd : ∀ p, PE Y (.Name wh p) (tVar j) := fun p => pe_var hN (.inl loc) d1 d2
  have st1 := ps_set (pos' := p1) (pos := p2) nd hN (.inl loc) pw sw (.inr loc)
  have t1 := pt_isIn (Z := Y) (z := z) (p1 := p3) (p2 := p4) (p3 := p5) hN (.inl loc) d1 d2 h1 f1
  have t2 := pt_isIn (Z := Y) (z := z) (p1 := q2) (p2 := q3) (p3 := q4) hN (.inl loc) d1 d2 h2 f2
  have st2 := ps_if (pos := p9) t1 (pss_one (ps_ret (pos := p8) (pe_lst (pos := p7) (pa_cons (rd p6) (pa_cons pi pa_nil s1) rfl)))) (pss_nil (X := Y))
  have st3 := ps_ret (pos := q8) (pe_lst (pos := q7) (pa_cons (rd q1) (pa_cons (pe_ifExp (pos := q6) t2 (pe_str (x := "") (j := k1) (pos := q5)) pg) pa_nil rfl) rfl))
  have q := pss_cons st1 (pss_cons st2 (pss_one st3))
  refine ⟨fun pins s σ H D I h => q.run pins s σ H D I ?_⟩
  obtain ⟨g1, g2, dct, k⟩ := h
  refine ⟨g1, dct, fun G gr => ?_⟩
  have sj : (σ.set j (some (.str z)))[j]? = some (some (.str z)) := by simp [g2]
  have si : (σ.set j (some (.str z)))[i]? = some (some (.ref a)) := by rw [List.getElem?_set_ne (Ne.symm ij)]; exact g1
  refine ⟨sj, fun G1 gr1 => ?_⟩
  obtain ⟨⟨fs, v, x1, x2, x3⟩, fin⟩ := k G1 (gr.trans gr1)
  have two : ([.str z, .str y] : List V).length ≤ sizeLine := by rw [sizeLine_eq]; show 2 ≤ 16777216; omega
  by_cases c : inV (.str z) (w1.map V.str) = true
  · rw [if_pos c] at x2 ⊢
    exact ⟨.str z, sj, si, fs, v, x1, x2, x3, two, fin⟩
  · rw [if_neg c] at x2 ⊢
    refine ⟨.str z, sj, sj, fun G2 gr2 => ?_⟩
    obtain ⟨⟨fs, v, x1, x2, x3⟩, fin⟩ := k G2 ((gr.trans gr1).trans gr2)
    rw [if_neg c] at x2
    rw [if_neg (by rw [no]; exact Bool.false_ne_true)]
    exact ⟨si, fs, v, x1, x2, x3, two, fin⟩
end
end Mn
/-! the body of _law_outcome: try, the suite, the row behind -/
namespace Mn
open PySem L2 L2H PyProof.Rows PySem.Spec LamX
section
variable {X : Cx} {x1 x2 x3 n act back : Str} {c1 c2 c3 : Value} {i jb kk k1 : Nat} {rest : List Stmt} {fst : Stmt} {p1 p2 p3 p4 p5 p6 q1 q2 q3 q4 q5 q6 q7 q8 q9 q10 : Pos} {ts : Addr → Value → Option Addr → TS} {f c : Addr} {q : Str} {tl : XK → Hp → VK → Prop}
/-- the lambda's way through it -/
def tOutc (K : PySem.W.Frag) (f c : Addr) (q : Str) (i jb : Nat) (cs : List Value) (ts : Addr → Value → Option Addr → TS) (tl : XK → Hp → VK → Prop) : TS := fun D σ H =>
  σ[0]? = some (some (.ref f)) ∧ H c = some (CodeO c q) ∧ jb < σ.length ∧
    tl (fun cls d G => PySem.W.exmAny K cls cs = some true ∧ ∀ a, G a = none → ∀ E : Ends, E.rt = D.rt → ts a cls d E (σ.set i (some (.ref a))) G) H
      fun v G => ∃ y, Shown K G v y ∧ ∀ p, G p = none → D.rt (.ref p) (upd G p (.lst [.str "back", .str y]))
theorem pss_outc (eS : X.stack = X.env :: X.outer) (eL : X.env.frame = some X.env.locals) (nd : X.N.Nodup) (at_ : X.N[i]? = some n) (loc : X.env.kindOf n = some .local) (n1 : Names X x1 c1) (n2 : Names X x2 c2) (n3 : Names X x3 c3)
    (bk : X.N[jb]? = some back) (bl : X.env.scope.names.lookup back = some .local) (b1 : (back == ("__debug__" : Str)) = false) (b2 : (back == ("__classdict__" : Str)) = false)
    (un : X.A.units + 65 < cLine) (gd : X.A.guards = some []) (gr : Gl X "repr") (mr : X.mg "repr" = none)
    (acts : ∀ W pn xe, Takes (X.tr pn xe) W → PE (X.tr pn xe) (.Call (.Name act q1) [] [] q2) fun σ H Q => σ[0]? = some (some (.ref f)) ∧ H c = some (CodeO c q) ∧ tl (WE W σ) H Q)
    (mono : ∀ E E' H Q Q', (∀ cls d G, E cls d G → E' cls d G) → (∀ v G, Q v G → Q' v G) → tl E H Q → tl E' H Q')
    (catching : ∀ a oe cls d pn, Zc cls d oe → (∃ vs, oe.data = .fields vs) → PSs (X.suite a ((a, oe) :: pn)) (fst :: rest) (ts a cls d)) :
    PSs X [.Try [.Assign [.Name back q3] (.Call (.Name act q1) [] [] q2) q4] [.ExceptHandler (some (.Tuple [.Name x1 p1, .Name x2 p2, .Name x3 p3] kk p4)) (some n) (fst :: rest) p5] [] [] p6,
      .Return (some (.List [.Constant (.str "back") k1 q5, .Call (.Name "repr" q6) [.Name back q7] [] q8] q9)) q10] (tOutc X.K f c q i jb [c1, c2, c3] ts tl) := by
  have try_ := ps_try3 (X := X) (i := i) (ts := ts) (p1 := p1) (p2 := p2) (p3 := p3) (p4 := p4) (p5 := p5) (p6 := p6) (kk := kk) (tb := fun W D σ H => σ[0]? = some (some (V.ref f)) ∧ H c = some (CodeO c q) ∧ tl (WE W σ) H fun v G => D.nx (σ.set jb (some v)) G) eS eL nd at_ loc n1 n2 n3
    (body := [.Assign [.Name back q3] (.Call (.Name act q1) [] [] q2) q4]) (fun W pn xe tk _ => ⟨fun pins s σ H D I h => (pss_one (ps_set (X := X.tr pn xe) (pos' := q3) (pos := q4) nd bk (.inl bl) (acts W pn xe tk) rfl (.inr bl))).run pins s σ H D I ⟨h.1, h.2.1, h.2.2⟩⟩) catching
  have ret := ps_ret (X := X) (pos := q10) (pe_lst (pos := q9) (pa_cons (pe_str (x := "back") (j := k1) (pos := q5)) (pa_cons (pe_callB (p := q6) (pos := q8) (cr_shown un gd) gr mr boot_repr (pa_cons (pe_var (pos := q7) bk (.inl bl) b1 b2) pa_nil rfl) (by decide) (by decide) rfl rfl) pa_nil rfl) rfl))
  have all := pss_cons try_ (pss_one ret)
  refine ⟨fun pins s σ H D I h => all.run pins s σ H D I ?_⟩
  obtain ⟨h1, h2, h3, h4⟩ := h
  refine ⟨h1, h2, mono _ _ _ _ _ ?_ ?_ h4⟩
  · rintro cls d G ⟨e1, e2⟩
    exact ⟨e1, fun a ha => e2 a ha _ rfl⟩
  · rintro v G ⟨y, sh, k⟩
    have sb : (σ.set jb (some v))[jb]? = some (some v) := by simp [h3]
    exact ⟨v, sb, v, y, rfl, sh, by rw [sizeLine_eq]; show 2 ≤ 16777216; omega, k⟩
end
end Mn
/-! _law_outcome(lambda: e) -/
namespace Mn
open PySem L2 L2H PyProof.Rows PySem.Spec LamX
section
variable {X : Cx} {x act : Str} {g c P : Addr} {k : Nat} {pg : Arguments} {bg : List Stmt} {sg : Scope} {dV kV doc pm cdv ct oc : Value} {an od : Option Addr} {osl : Array (Option Value)} {Ng : List Str} {params : Arguments} {body : Expr} {sc : Scope} {t : XK → TE} {p lpos pos : Pos} {tg : Addr → Addr → (XK → Hp → VK → Prop) → TS}
/-- what is read of the def's body, at the state it is entered with -/
def tCallLam (X : Cx) (P : Addr) (Ng : List Str) (t : XK → TE) (tg : Addr → Addr → (XK → Hp → VK → Prop) → TS) : TE := fun σ H Q => TabS H P (X.env.qual ++ "<lambda>") ∧ ∀ f c' G, Made P (X.env.qual ++ "<lambda>") H c' G → TabS G P (X.env.qual ++ "<lambda>") →
  tg f c' (fun E G' Q' => t E σ G' Q') { nx := fun _ H' => Q .non H', rt := Q } (L2.start Ng [.ref f]) G
theorem pe_callLam (gx : Gl X x) (mx : X.mg x = some (.ref g)) (keep : PySem.W.keepIn X.K (.ref g) = true) (at_ : X.K.lookup g = some ⟨oc, od, .func (PySem.W.fnOf x x pg bg sg dV kV doc pm an cdv ct), osl⟩) (cd : PySem.W.codeIn X.K cdv x = true) (bd : L2.Binds X.K (PySem.W.fnOf x x pg bg sg dV kV doc pm an cdv ct) [act] [])
    (S : FnScope Ng [act] sg) (B : TabB X.base X.mg c P) (code : X.env.code = .ref c) (room : RoomG (k + 2) X.A) (L : LamS X.env.scope sc) (plain : defaultsOf params X.env = ([], []))
    (nothing : ∀ (q : Str) (cl : List (Str × Addr)) (pm cv ctv : Value), bindArgs (PySem.W.kla_fn "<lambda>" q params body sc cl pm cv ctv) ⟨[], []⟩ = pure [])
    (inner : ∀ (f c' : Addr) (A : Around) (outer : List Env) (s : Shared) (H : Hp) (E : XK), RoomG k (A.deeper (lamEnv X sc s.heap.objs.size f c')) → PE (lamCx X A outer s H E sc f c') body (t E))
    (mono : ∀ σ E E' H Q Q', (∀ cls d G, E cls d G → E' cls d G) → (∀ v G, Q v G → Q' v G) → t E σ H Q → t E' σ H Q')
    (within : ∀ (f c' : Addr) (z : Shared) (G : Hp) (tl : XK → Hp → VK → Prop), (∀ E E' H Q Q', (∀ cls d G, E cls d G → E' cls d G) → (∀ v G, Q v G → Q' v G) → tl E H Q → tl E' H Q') → (∀ W pn xe p1 p2, Takes ((inDef C8.CX0 X Ng x sg g cdv z G C8.E0).tr pn xe) W → PE ((inDef C8.CX0 X Ng x sg g cdv z G C8.E0).tr pn xe) (.Call (.Name act p1) [] [] p2) fun σ H Q => σ[0]? = some (some (.ref f)) ∧ H c' = some (CodeO c' (X.env.qual ++ "<lambda>")) ∧ tl (WE W σ) H Q) →
      PSs (inDef C8.CX0 X Ng x sg g cdv z G C8.E0) bg (tg f c' tl))
    (hN : Ng[0]? = some act) (va : Vis sg act) (d0 : (x == ("__debug__" : Str)) = false) (d1 : (act == ("__debug__" : Str)) = false) (d2 : (act == ("__classdict__" : Str)) = false) :
    PE X (.Call (.Name x p) [.Lambda params body sc lpos] [] pos) (tCallLam X P Ng t tg) := by
  constructor
  rintro pins s σ H Q I ⟨tab, h⟩
  refine wpAny_Call_Name_kw (ld_glob I gx mx (PySem.W.callWith_K (h₀ := X.base) I.ok.mod.kin keep ?_ rfl rfl) d0)
  show wpAny _ _ (spliced ((false, eval (.Lambda params body sc lpos) X.env) :: backTo pos (starEach [] X.env))) _ _ s
  refine Calls.spliced_cons (lam_make I B code tab plain (L.has I.ok) fun f c' pm' ct' G z J made tab' lam free nofr => ?_)
  refine Calls.spliced_nil ⟨J.kIn, ?_⟩
  refine wpAny_call (codeAny_mono (R := CR C8.CX0 X.stack X.prog X.w G z Q C8.E0) ?_ ?_)
  · refine run_ofS (N := Ng) (ps := [act]) (us := [.ref f]) (vs := [.ref f]) (k := k + 1) at_ cd S room.rm J.env0 (bd z [.ref f] J.kIn rfl) (.cons rfl .nil) rfl fun r' => ?_
    have rg : RoomG (k + 1) (X.A.deeper (envOfC x sg z.heap.objs.size g cdv)) := ⟨r', room.gd⟩
    exact ⟨_, within f c' z G _ (fun E E' H Q Q' => mono σ E E' H Q Q') fun W pn xe p1 p2 tk => lam_call (t := t) (i := 0) J L lam free nofr (nothing _ _ _ _ _) tk rg (fun A outer s H E => inner f c' A outer s H E) hN va d1 d2, h f c' G made tab'⟩
  · intro r z2 q
    rcases r with e | fl
    · exact (show False from q).elim
    · cases fl with
      | ret u => exact J.after q
      | next => exact q.elim
      | brk => exact q.elim
      | cont => exact q.elim
end
end Mn
/-! _law_outcome(lambda: e), put together -/
namespace Mn
open PySem L2 L2H PyProof.Rows PySem.Spec LamX RZ
section
variable [CA]
def okNm (x : Str) : Bool := nodbg x && nocls x
def lcB (sc : Scope) (x : Str) : Bool := match sc.names.lookup x with
  | some .local => true
  | _ => false
theorem lcB_ok {sc : Scope} {x : Str} (h : lcB sc x = true) : sc.names.lookup x = some .local := by
  unfold lcB at h
  split at h
  · assumption
  · cases h
theorem glB_gl {sc : Scope} {X : Cx} {x : Str} (h : glB sc x = true) (e : X.env.scope = sc) : Gl X x := by
  subst e
  exact glB_ok (ScR.refl _) h
theorem okNm_ok {x : Str} (h : okNm x = true) : (x == ("__debug__" : Str)) = false ∧ (x == ("__classdict__" : Str)) = false := by
  unfold okNm at h
  obtain ⟨h1, h2⟩ := Bool.and_eq_true_iff.mp h
  exact ⟨nodbg_ok h1, nocls_ok h2⟩
def OD.chk (o : OD) : Bool :=
  decide (outB o.bg = some o.on) && (plainB o.pg [o.on.act] && (fnB [o.on.act, o.on.back, o.on.n, o.on.wh] [o.on.act] o.sg && (visB o.sg o.on.act && (lcB o.sg o.on.back && (lcB o.sg o.on.n && (lcB o.sg o.on.wh &&
  (okNm o.on.act && (okNm o.on.back && (okNm o.on.n && (okNm o.on.wh && (glB o.sg "repr" && (glB o.sg o.on.x1 && (glB o.sg o.on.x2 && (glB o.sg o.on.x3 && (glB o.sg o.on.wd && (nodbg o.on.x1 && (nodbg o.on.x2 && (nodbg o.on.x3 && (nodbg o.on.wd && (nodbg o.x &&
  (plainB o.wpg [o.we] && (fnB [o.we, o.wfl, o.wwd] [o.we] o.wsg && (visB o.wsg o.we && (lcB o.wsg o.wfl && (lcB o.wsg o.wwd && (okNm o.we && (okNm o.wfl && (okNm o.wwd && (glB o.wsg "isinstance" && o.ns.all fun n => glB o.wsg n && nodbg n)))))))))))))))))))))))))))))
/-- what is known of a class whose errors are told -/
structure OutX (K : PySem.W.Frag) (mg : Str → Option Value) (o : OD) (c1 c2 c3 : Addr) (c : Nat) (z : Str) : Prop where
  exc : ExcC K (CA.ca c)
  xf : XfC K (CA.ca c)
  idx : PySem.W.findIn K (.ref (CA.ca c)) "index" = some none
  giv : PySem.W.findIn K (.ref (CA.ca c)) "given" = some none
  any : PySem.W.exmAny K (.ref (CA.ca c)) [.ref c1, .ref c2, .ref c3] = some true
  wrd : ∃ kf bs ws, (∀ n ∈ o.ns, ∃ C, mg n = some (.ref C) ∧ PySem.W.kitOne K (.ref (CA.ca c)) (.ref C) = some (kf n)) ∧ wordB o.we o.wfl o.wwd o.ns kf o.wbg = some (bs.map V.bl, ws.map V.str) ∧ oneWord bs ws = some z
  att : ∃ f, CA.fl c = [f] ∧ CA.fnm f = (if inV (.str z) (o.on.w1.map V.str) = true then ("index" : Str) else "given")
  no : inV (.str z) (o.on.w2.map V.str) = false
structure OutF (K : PySem.W.Frag) (mg : Str → Option Value) (gl : GL) (o : OD) : Prop where
  chk : o.chk = true
  rp : mg "repr" = none
  ii : mg "isinstance" = none
  g : ∃ g fd, mg o.x = some (.ref g) ∧ FunD K o.x o.x o.pg o.bg o.sg [] [] g fd
  w : ∃ g fd, mg o.on.wd = some (.ref g) ∧ FunD K o.wn o.wq o.wpg o.wbg o.wsg [] [] g fd
  c : ∃ c1 c2 c3, mg o.on.x1 = some (.ref c1) ∧ mg o.on.x2 = some (.ref c2) ∧ mg o.on.x3 = some (.ref c3) ∧ ∀ c z, gl.w c = some z → OutX K mg o c1 c2 c3 c z
/-- the suite's reading -/
def tsO (K : PySem.W.Frag) (mg : Str → Option Value) (o : OD) (c1 c2 c3 : Addr) : Addr → Value → Option Addr → TS := fun a cls d D σ H => ∃ c z dd y, cls = .ref (CA.ca c) ∧ d = some dd ∧ OutX K mg o c1 c2 c3 c z ∧
  σ[2]? = some (some (.ref a)) ∧ 3 < σ.length ∧ (∃ fs, H dd = some (.xd fs)) ∧ ∀ G, Grow H G → (∃ fs v, G dd = some (.xd fs) ∧ fs.lookup (if inV (.str z) (o.on.w1.map V.str) = true then ("index" : Str) else "given") = some v ∧ Shown K G v y) ∧ ∀ p, G p = none → D.rt (.ref p) (upd G p (.lst [.str z, .str y]))
/-- the whole body, in the def's context -/
theorem out_body {Z : Cx} {o : OD} {gl : GL} {f c : Addr} {q : Str} {tl : XK → Hp → VK → Prop} {k : Nat} {c1 c2 c3 : Addr} (F : OutF Z.K Z.mg gl o) (m1 : Z.mg o.on.x1 = some (.ref c1)) (m2 : Z.mg o.on.x2 = some (.ref c2)) (m3 : Z.mg o.on.x3 = some (.ref c3))
    (hsc : Z.env.scope = o.sg) (hN : Z.N = [o.on.act, o.on.back, o.on.n, o.on.wh]) (eS : Z.stack = Z.env :: Z.outer) (eL : Z.env.frame = some Z.env.locals) (room : RoomG (k + 1) Z.A)
    (mono : ∀ E E' H Q Q', (∀ cls d G, E cls d G → E' cls d G) → (∀ v G, Q v G → Q' v G) → tl E H Q → tl E' H Q')
    (acts : ∀ W pn xe p1 p2, Takes (Z.tr pn xe) W → PE (Z.tr pn xe) (.Call (.Name o.on.act p1) [] [] p2) fun σ H Q => σ[0]? = some (some (.ref f)) ∧ H c = some (CodeO c q) ∧ tl (WE W σ) H Q) :
    PSs Z o.bg (tOutc Z.K f c q 2 1 [.ref c1, .ref c2, .ref c3] (tsO Z.K Z.mg o c1 c2 c3) tl) := by
  have ck := F.chk
  unfold OD.chk at ck
  simp only [Bool.and_eq_true, decide_eq_true_eq, List.all_eq_true] at ck
  obtain ⟨hb, k1, k2, k3, k4, k5, k6, k7, k8, k9, k10, k11, k12, k13, k14, k15, k16, k17, k18, k19, k20, k21, k22, k23, k24, k25, k26, k27, k28, k29, k30⟩ := ck
  have S := fnB_ok k2
  have nd : Z.N.Nodup := by rw [hN]; exact S.nd
  have l1 := lcB_ok k4
  have l2 := lcB_ok k5
  have l3 := lcB_ok k6
  rw [← hsc] at l1 l2 l3
  obtain ⟨dn1, dn2⟩ := okNm_ok k9
  obtain ⟨dw1, dw2⟩ := okNm_ok k10
  obtain ⟨db1, db2⟩ := okNm_ok k8
  have kind : Z.env.kindOf o.on.n = some .local := l2
  have G : ∀ {x : Str}, glB o.sg x = true → Gl Z x := fun h => glB_gl h hsc
  have un : Z.A.units + 65 < cLine := by have := room.rm.un; omega
  obtain ⟨wg, wfd, wm, WF⟩ := F.w
  have WS := fnB_ok k22
  obtain ⟨de1, de2⟩ := okNm_ok k26
  obtain ⟨df1, df2⟩ := okNm_ok k27
  obtain ⟨dv1, dv2⟩ := okNm_ok k28
  have wpl : PlainP wfd.params [o.we] ∧ wfd.defaults = .none := by
    obtain ⟨oc, od, dV, kV, doc, pm, an, cdv, ct, osl, e, _, _, dv, _⟩ := WF.ex
    subst e
    refine ⟨plainB_ok k21, ?_⟩
    rcases dv with ⟨_, q⟩ | ⟨q, _⟩
    · exact q
    · exact (q rfl).elim
  have wbd : Binds Z.K wfd [o.we] [] := Binds.all fun us hl => bind_plain wpl.1 wpl.2 (by simp) us hl
  unfold outB at hb
  split at hb
  · rename_i back q3 act q1 q2 q4 x1 p1 x2 p2 x3 p3 kk p4 n wh r1 wd r2 n1 r3 r4 r5 wh1 r6 e1 r7 r8 wh2 r9 rp1 r10 n2 r11 ix r12 r13 r14 r15 r16 wh3 r17 wh4 r18 e2 r19 r20 z s1 s2 rp2 s3 n3 s4 gv s5 s6 s7 s8 s9 s10 s11 bk s12 s13 rp3 s14 back1 s15 s16 s17 s18 hq
    rw [hq]
    split at hb
    · rename_i w1 w2 t1 t2
      split at hb
      · rename_i cond
        obtain ⟨rfl, rfl, rfl, rfl, rfl, rfl, rfl, rfl, rfl, rfl, rfl, rfl, rfl, rfl, rfl, f1, f2⟩ := cond
        have hb' := Option.some.inj hb
        have hcat : ∀ a oe cls d pn, Zc cls d oe → (∃ vs, oe.data = .fields vs) → PSs (Z.suite a ((a, oe) :: pn)) [.Assign [.Name wh4 r1] (.Call (.Name wd r2) [.Name n3 r3] [] r4) r5, .If (.Compare (.Name wh4 r6) [.In] [.List e1 r7] r8) [.Return (some (.List [.Name wh4 r9, .Call (.Name "repr" r10) [.Attribute (.Name n3 r11) "index" r12] [] r13] r14)) r15] [] r16,
            .Return (some (.List [.Name wh4 r17, .IfExp (.Compare (.Name wh4 r18) [.In] [.List e2 r19] r20) (.Constant (.str "") s1 s2) (.Call (.Name "repr" s3) [.Attribute (.Name n3 s4) "given" s5] [] s6) s7] s8)) s9] (tsO Z.K Z.mg o c1 c2 c3 a cls d) := by
          intro a oe cls d pn zc flds
          refine ⟨fun pins s σ H D I h => ?_⟩
          obtain ⟨c, z, dd, y, rfl, rfl, OX, g1, g2, g3, g4⟩ := h
          obtain ⟨kf, bs, ws, wn, wb, wo⟩ := OX.wrd
          rw [← hb'] at g4
          have q := pss_suite (Y := Z.suite a ((a, oe) :: pn)) (a := a) (dd := dd) (i := 2) (j := 3) (z := z) (y := y) (w1 := w1) (w2 := w2) (p1 := r1) (p2 := r5) (p3 := r6) (p4 := r7) (p5 := r8) (p6 := r9) (p7 := r14) (p8 := r15) (p9 := r16) (q1 := r17) (q2 := r18) (q3 := r19) (q4 := r20) (q5 := s2) (q6 := s7) (q7 := s8) (q8 := s9) (k1 := s1) nd (show Z.N[3]? = some wh4 by rw [hN, ← hb']; rfl) (by rw [← hb'] at l3; exact l3) (by rw [← hb'] at dw1; exact dw1) (by rw [← hb'] at dw2; exact dw2) (by decide)
            (pe_word (X := OX.exc) (Y := Z.suite a ((a, oe) :: pn)) (D := CA.ca c) (dd := dd) (f := wg) (k := k) (i := 2) (q := r2) (p2 := r3) (pos := r4) (x := wd) (ev := n3) WF WS List.mem_cons_self ⟨by have := room.rm.dp; exact this, by have := room.rm.un; exact this⟩ (by rw [← hb'] at k15; exact G k15) (by rw [← hb'] at wm; exact wm) WF.kp wbd (by rw [← hb'] at k19; exact nodbg_ok k19) zc flds
              (fun cdv s H => ⟨glB_gl k29 rfl, F.ii, fun m hm => ⟨glB_gl (k30 m hm).1 rfl, nodbg_ok (k30 m hm).2, wn m hm⟩⟩) (visB_ok (ScR.refl _) k23) de1 de2 (lcB_ok k24) df1 df2 (lcB_ok k25) dv1 dv2 wb wo (show Z.N[2]? = some n3 by rw [hN, ← hb']; rfl) (by rw [← hb'] at l2; exact .inl l2) (by rw [← hb'] at dn1; exact dn1) (by rw [← hb'] at dn2; exact dn2))
            rfl (pe_shownAttr (X := Z) (C := CA.ca c) (a := a) (oe := oe) (pn := pn) (n := "index") (y := y) (i := 2) (ev := n3) (p1 := r11) (p2 := r12) (p3 := r10) (pos := r13) un room.gd OX.xf OX.idx zc flds (G k11) F.rp (show Z.N[2]? = some n3 by rw [hN, ← hb']; rfl) (by rw [← hb'] at l2; exact .inl l2) (by rw [← hb'] at dn1; exact dn1) (by rw [← hb'] at dn2; exact dn2) rfl)
            (pe_shownAttr (X := Z) (C := CA.ca c) (a := a) (oe := oe) (pn := pn) (n := "given") (y := y) (i := 2) (ev := n3) (p1 := s4) (p2 := s5) (p3 := s3) (pos := s6) un room.gd OX.xf OX.giv zc flds (G k11) F.rp (show Z.N[2]? = some n3 by rw [hN, ← hb']; rfl) (by rw [← hb'] at l2; exact .inl l2) (by rw [← hb'] at dn1; exact dn1) (by rw [← hb'] at dn2; exact dn2) rfl) rfl t1 t2 f1 f2 (by have := OX.no; rw [← hb'] at this; exact this)
          exact q.run pins s σ H D I ⟨g1, g2, g3, g4⟩
        exact pss_outc (X := Z) (i := 2) (jb := 1) (kk := kk) (ts := tsO Z.K Z.mg o c1 c2 c3) (tl := tl) eS eL nd (by rw [hN, ← hb']; rfl) (by rw [← hb'] at kind; exact kind) (by rw [← hb'] at m1; exact ⟨by rw [← hb'] at k12; exact G k12, by rw [← hb'] at k16; exact nodbg_ok k16, .inl m1⟩) (by rw [← hb'] at m2; exact ⟨by rw [← hb'] at k13; exact G k13, by rw [← hb'] at k17; exact nodbg_ok k17, .inl m2⟩) (by rw [← hb'] at m3; exact ⟨by rw [← hb'] at k14; exact G k14, by rw [← hb'] at k18; exact nodbg_ok k18, .inl m3⟩)
          (by rw [hN, ← hb']; rfl) (by rw [← hb'] at l1; exact l1) (by rw [← hb'] at db1; exact db1) (by rw [← hb'] at db2; exact db2) un room.gd (G k11) F.rp (fun W pn xe tk => by have := acts W pn xe q1 q2 tk; rw [← hb'] at this; exact this) mono hcat
      · cases hb
    · cases hb
  · cases hb
/-! ### the call -/
def MkrX (X : Cx) : Prop := ∃ c Pt, X.env.code = .ref c ∧ TabB X.base X.mg c Pt ∧ (Pt, X.env.qual ++ "<lambda>") ∈ CA.tb ∧ ∀ p ∈ CA.tb, p.1 = Pt → p.2 = X.env.qual ++ "<lambda>"
def tXE (cl : Nat → List D → Sto → Out D) (gl : GL) (K : PySem.W.Frag) (m : ME) (E : XK) : TE := fun σ H Q => ∃ F R fr S, RelS K F R H S ∧ RelF K F R H σ fr ∧ OutG K F R H (fun F R _ v d => Rep K F R v d) Q E (ev cl gl fr m S)
theorem OutG.weak {α β : Type} {K : PySem.W.Frag} {F H : Hp} {R : List Addr} {Rp : Hp → List Addr → Hp → β → α → Prop} {Q Q' : β → Hp → Prop} {E E' : XK} {o : Out α} (h : OutG K F R H Rp Q E o) (hE : ∀ c d G, E c d G → E' c d G) (hQ : ∀ v G, Q v G → Q' v G) : OutG K F R H Rp Q' E' o := by
  cases o with
  | ok a S' => exact fun F' R' H' v n r q => hQ _ _ (h F' R' H' v n r q)
  | exc x S' => exact fun F' R' H' c e n r q => hE _ _ _ (h F' R' H' c e n r q)
  | bad => exact h
section
variable {K : PySem.W.Frag} {F H G : Hp} {R : List Addr} {S : Sto}
theorem grow_nxt (g : Grow H G) : Nxt F R H F R G := ⟨Same.refl _, List.prefix_refl _, fun _ _ h => .inl h, fun a o h _ _ => g a o h, fun a o h _ => ⟨o, g a o h⟩, fun _ h => .inl h⟩
theorem grow_relS (g : Grow H G) (r : RelS K F R H S) : RelS K F R G S :=
  ⟨fun a o h => g a o (r.fh a o h), ⟨r.tb.1.ext g, r.tb.2⟩, r.len, r.nd, fun a ha => let ⟨o, h⟩ := r.tr a ha; ⟨o, g a o h⟩, fun n a o h1 h2 => (r.at_ n a o h1 h2).up (Same.refl _) (List.prefix_refl _) id (fun b u h _ => g b u h) fun b hb => .inl hb⟩
theorem shown_of {d : D} {y : Str} {v : V} (h : showD d = some y) (r : Rep K F R v d) (e : Same F H) : Shown K H v y := by
  unfold showD at h
  split at h
  · rename_i p hp
    split at h
    · rename_i c
      simp only [Bool.and_eq_true, decide_eq_true_eq, Bool.not_eq_true'] at c
      obtain ⟨⟨⟨h1, h2⟩, h3⟩, h4⟩ := c
      exact .inr ⟨p, Rep.py e r hp, h1, h2, h3, h4, (Option.some.inj h).symm⟩
    · cases h
  · cases h
theorem shownX_of {d : D} {y : Str} {v : V} (h : showX d = some y) (r : Rep K F R v d) (e : Same F H) : Shown K H v y := by
  unfold showX at h
  cases q : showD d with
  | some z =>
    rw [q] at h
    have h : some z = some y := h
    cases h
    exact shown_of q r e
  | none =>
    rw [q] at h
    have h : showDic d = some y := h
    cases d <;> first | (cases h; done) | skip
    rename_i kvs h0
    unfold showDic at h
    dsimp only at h
    cases e2 : dicP kvs with
    | none => rw [e2] at h; cases h
    | some ps =>
      rw [e2] at h
      dsimp only at h
      split at h
      · rename_i c
        simp only [Bool.and_eq_true, decide_eq_true_eq] at c
        cases h
        cases r with
        | dic hF hl ra2 => exact .inl ⟨_, _, ps, rfl, e _ _ hF, dicP_ok hl ra2 e2, c.1.1, c.1.2, c.2, rfl⟩
      · cases h
end
theorem snd_outc {cl : Nat → List D → Sto → Out D} {gl : GL} {X : Cx} {o : OD} {f k : Nat} {m : ME} {p lpos pos : Pos} {params : Arguments} {body : Expr} {sc : Scope} (F : OutF X.K X.mg gl o) (gx : Gl X o.x) (MK : MkrX X) (room : RoomG (k + 2) X.A) (L : LamS X.env.scope sc) (pl : plainB params [] = true)
    (inner : ∀ f c' A outer s H E, RoomG k (A.deeper (lamEnv X sc s.heap.objs.size f c')) → PE (lamCx X A outer s H E sc f c') body (tXE cl gl X.K m E)) :
    PE X (.Call (.Name o.x p) [.Lambda params body sc lpos] [] pos) (tE cl gl X.K (.outc f m)) := by
  obtain ⟨c, Pt, hcode, TB, mem, uniq⟩ := MK
  obtain ⟨g, fd, gm, GF⟩ := F.g
  obtain ⟨c1, c2, c3, m1, m2, m3, cls⟩ := F.c
  have ck := F.chk
  unfold OD.chk at ck
  simp only [Bool.and_eq_true, decide_eq_true_eq, List.all_eq_true] at ck
  obtain ⟨hb, k1, k2, k3, k4, k5, k6, k7, k8, k9, k10, k11, k12, k13, k14, k15, k16, k17, k18, k19, k20, k21⟩ := ck
  have S := fnB_ok k2
  obtain ⟨da1, da2⟩ := okNm_ok k7
  obtain ⟨oc, od, dV, kV, doc, pm, an, cdv, ct, osl, e, lk, hcd, dv, kv⟩ := GF.ex
  have kp := GF.kp
  subst e
  have bd : Binds X.K (PySem.W.fnOf o.x o.x o.pg o.bg o.sg dV kV doc pm an cdv ct) [o.on.act] [] := by
    refine Binds.all fun us hl => bind_plain (plainB_ok k1) ?_ (by simp) us hl
    rcases dv with ⟨_, q⟩ | ⟨q, _⟩
    · exact q
    · exact (q rfl).elim
  have ppl := plainB_ok pl
  refine pe_weak (pe_callLam (X := X) (x := o.x) (act := o.on.act) (g := g) (c := c) (P := Pt) (k := k) (Ng := [o.on.act, o.on.back, o.on.n, o.on.wh]) (t := tXE cl gl X.K m) (tg := fun f c' tl => tOutc X.K f c' (X.env.qual ++ "<lambda>") 2 1 [.ref c1, .ref c2, .ref c3] (tsO X.K X.mg o c1 c2 c3) tl)
    gx gm kp lk hcd bd S TB hcode room L ?_ (fun q cl pm cv ctv => bind_plain (ps := []) ppl rfl .nil [] rfl) inner ?_ (fun f c' z G tl mono acts => out_body (Z := inDef C8.CX0 X [o.on.act, o.on.back, o.on.n, o.on.wh] o.x o.sg g cdv z G C8.E0) (k := k) F m1 m2 m3 rfl rfl rfl rfl ⟨room.rm.deeper _, room.gd⟩ mono acts) rfl (visB_ok (ScR.refl _) k3) (nodbg_ok k20) da1 da2) ?_
  · obtain ⟨_, _, _, _, h5, _, h7⟩ := ppl
    cases params
    dsimp only at h5 h7
    subst h5 h7
    rfl
  · rintro σ E E' H Q Q' hE hQ ⟨F', R, fr, S, rs, rf, h⟩
    exact ⟨F', R, fr, S, rs, rf, h.weak hE hQ⟩
  · rintro σ H Q ⟨Fp, R, fr, S0, d, S', rs, rf, he, kk⟩
    refine ⟨rs.tb.1 _ mem, fun f' c' G md tab => ?_⟩
    have n0 := md.nxt (F := Fp) (R := R)
    refine ⟨rfl, md.code, (by decide : 1 < 4), Fp, R, fr, S0, md.relS rs uniq tab, rf.nxt n0, ?_⟩
    simp only [ev] at he
    cases e1 : ev cl gl fr m S0 with
    | ok d0 S1 =>
      rw [e1] at he
      obtain ⟨b1, rfl⟩ := opt_ok he
      unfold backD at b1
      obtain ⟨y, sy, rfl⟩ := Option.map_eq_some_iff.mp b1
      intro F' R' H' v n rs2 rv
      exact ⟨y, shown_of sy rv rs2.fh, fun q hq => kk _ _ _ _ ((n0.trans n).trans (Nxt.new1 hq rs2.fh)) (rs2.new1 hq fun _ z => by cases z) (.lst upd_same (.cons (.str _) (.cons (.str _) .nil)))⟩
    | exc x S1 =>
      rw [e1] at he
      obtain ⟨b1, rfl⟩ := opt_ok he
      intro F' R' H' cl' e n rs2 rx
      obtain ⟨c0, ds, rfl, rfl, h3⟩ := rx
      rcases h3 with ⟨rfl, _⟩ | ⟨y', v, dx, fx, rfl, rfl, hfl, hF, rv⟩
      · cases b1
      · unfold wordD at b1
        obtain ⟨z, hz, b1⟩ := Option.bind_eq_some_iff.mp b1
        obtain ⟨y, sy, rfl⟩ := Option.map_eq_some_iff.mp b1
        have OX := cls c0 z hz
        refine ⟨OX.any, fun a ha E' hE' => ⟨c0, z, dx, y, rfl, rfl, OX, rfl, (by decide : 3 < 4), ⟨_, rs2.fh _ _ hF⟩, fun G2 gr => ⟨⟨_, v, gr _ _ (rs2.fh _ _ hF), ?_, shownX_of sy rv fun a o h => gr _ _ (rs2.fh _ _ h)⟩, fun q hq => ?_⟩⟩⟩
        · obtain ⟨f2, q1, q2⟩ := OX.att
          rw [hfl] at q1
          cases q1
          rw [← q2]
          simp [List.lookup]
        · rw [hE']
          have rs3 := grow_relS gr rs2
          exact kk _ _ _ _ (((n0.trans n).trans (grow_nxt gr)).trans (Nxt.new1 hq rs3.fh)) (rs3.new1 hq fun _ z => by cases z) (.lst upd_same (.cons (.str _) (.cons (.str _) .nil)))
    | bad => rw [e1] at he; cases he
end
end Mn
/-! what the check says -/
namespace Mn
open PySem PySem.Spec PyProof.Rows L2 RZ
variable [CA]
/-- what the making of lambdas asks of the def's context -/
def LamOk (nm : Nat → Str) (P : List (Nat × MF)) (cl : Nat → List D → Sto → Out D) (X : Cx) : Prop :=
  ∃ k, RoomG (k + 2) X.A ∧ 3 ≤ k ∧ (∀ Y : Cx, Y.prog = X.prog → Y.w = X.w → Y.K = X.K → Y.mg = X.mg → Y.base = X.base → RoomG k Y.A → ∀ f m, P.lookup f = some m → FnE nm cl Y f m) ∧ MkrX X
structure Cxu (nm : Nat → Str) (P : List (Nat × MF)) (cl : Nat → List D → Sto → Out D) (gl : GL) (X : Cx) : Prop extends Cxt nm P cl gl X where
  lam : ∀ w, gl.mkr X.N = some w → LoC X.env.scope w → LamOk nm P cl X
  oc : ∀ f, gl.o f = true → ∃ o : OD, o.x = nm f ∧ OutF X.K X.mg gl o
instance {nm : Nat → Str} {P : List (Nat × MF)} {cl : Nat → List D → Sto → Out D} {gl : GL} {X : Cx} : Coe (Cxu nm P cl gl X) (Cxt nm P cl gl X) := ⟨Cxu.toCxt⟩
theorem relabel_loc1 {scope : Scope} {env : Env} {w : Str} {k : NameKind} (z : (relabel scope env).names.lookup w = some k) : scope.names.lookup w = some k ∨ env.scope.names.lookup w = some .cell := by
  unfold relabel at z
  dsimp only at z
  rw [lookup_relabel] at z
  cases e : scope.names.lookup w with
  | none => rw [e] at z; cases z
  | some k' =>
    rw [e] at z
    simp only [Option.map_some] at z
    split at z
    · rename_i c
      simp only [Bool.and_eq_true, beq_iff_eq] at c
      exact .inr c.2
    · exact .inl z
theorem relabel_loc {scope : Scope} {env : Env} {w : Str} (h : ¬ LoC scope w) (z : LoC (relabel scope env) w) : env.scope.names.lookup w = some .cell := by
  rcases z with z | z
  · exact (relabel_loc1 z).elim (fun q => (h (.inl q)).elim) id
  · exact (relabel_loc1 z).elim (fun q => (h (.inr q)).elim) id
section
variable {T : Tab} {cl : Nat → List D → Sto → Out D}
theorem Cxt.blk0 {nm : Nat → Str} {P : List (Nat × MF)} {X : Cx} (c : Cxt nm P cl T.gl X) (s : Shared) (H : Hp) (scope : Scope) (env : Env) (fp : List Addr) : Cxt nm P cl T.gl (X.blk s H scope env fp) :=
  ⟨⟨c.b.cf, c.b.tk, c.b.calm, c.b.un, c.b.gd⟩, c.nd, c.bi, c.zip, c.enu, c.bty, c.fl, c.fnm, c.fn, c.mt, c.pt, fun c' m' f' h => let ⟨q, r⟩ := c.ct c' m' f' h; ⟨⟨q.tc, q.mg, q.cm⟩, r⟩, c.gb, PassesOwn.never, c.rm, c.bo⟩
theorem LamOk.blk {nm : Nat → Str} {P : List (Nat × MF)} {X : Cx} {scope : Scope} (l : LamOk nm P cl X) (s : Shared) (H : Hp) {C : Addr} {cl' : List (Str × Addr)} (fp : List Addr) : LamOk nm P cl (X.blk s H scope (compEnvC scope cl' C X.env) fp) := by
  obtain ⟨k, h1, h2, h3, h4⟩ := l
  exact ⟨k, h1, h2, h3, h4⟩
theorem Cxu.blk {nm : Nat → Str} {P : List (Nat × MF)} {X : Cx} {scope : Scope} (c : Cxu nm P cl T.gl X) (hw : ∀ w, T.gl.mkr X.N = some w → ¬ LoC scope w) (s : Shared) (H : Hp) {C : Addr} {cl' : List (Str × Addr)} (fp : List Addr) : Cxu nm P cl T.gl (X.blk s H scope (compEnvC scope cl' C X.env) fp) :=
  ⟨c.toCxt.blk0 s H scope _ fp, fun w h1 h2 => (c.lam w h1 (.inr (relabel_loc (hw w h1) h2))).blk s H fp, c.oc⟩
theorem Cxu.lamCx {nm : Nat → Str} {P : List (Nat × MF)} {X : Cx} {sc : Scope} {A : Around} {outer : List Env} {s : Shared} {H : Hp} {E : XK} {f c' : Addr} {k : Nat} (c : Cxu nm P cl T.gl X) (L : LamX.LamS X.env.scope sc) (k3 : 3 ≤ k) (hr : RoomG k (A.deeper (LamX.lamEnv X sc s.heap.objs.size f c')))
    (fn : ∀ Y : Cx, Y.prog = X.prog → Y.w = X.w → Y.K = X.K → Y.mg = X.mg → Y.base = X.base → RoomG k Y.A → ∀ f m, P.lookup f = some m → FnE nm cl Y f m) : Cxu nm P cl T.gl (LamX.lamCx X A outer s H E sc f c') :=
  ⟨⟨⟨c.b.cf, c.b.tk, rfl, by have := hr.rm.un; have e : (LamX.lamCx X A outer s H E sc f c').A = A.deeper (LamX.lamEnv X sc s.heap.objs.size f c') := rfl; rw [e]; omega, hr.gd⟩, c.nd, c.bi, c.zip, c.enu, c.bty, c.fl, c.fnm, fn _ rfl rfl rfl rfl rfl hr, c.mt, c.pt, fun c' m' f' h => let ⟨q, r⟩ := c.ct c' m' f' h; ⟨⟨q.tc, q.mg, q.cm⟩, r⟩, c.gb, passes_of rfl, hr.rm.mono k3, c.bo⟩,
    fun w _ h2 => (h2.elim (fun h2 => absurd rfl (L.own _ (PySem.mem_of_lookup h2)).1) fun h2 => absurd rfl (L.own _ (PySem.mem_of_lookup h2)).2), c.oc⟩
theorem cst_ok {X : Cx} {sc : Scope} {d : D} {e : Expr} {nm : Nat → Str} {P : List (Nat × MF)} (c : Cxt nm P cl T.gl X) (s : ScR sc X.env.scope) (h : cstB sc d e = true) : PE X e (tE cl T.gl X.K (.cst d)) := by
  have ty : ∀ (x : String) (U : String) (pos : Pos), Gl X (Str.ofString x) → X.mg (Str.ofString x) = none → bootBuiltins (Str.ofString x) = some (.type U) → Str.ofString x ≠ "__name__" → (Str.ofString x == ("__debug__" : Str)) = false → PE X (.Name (Str.ofString x) pos) (tE cl T.gl X.K (.cst (.ty U))) := fun x U pos h1 h2 h3 h4 h5 =>
    snd_const (v := .ty U) (pe_bltn h1 h2 h3 rfl h4 h5) fun F R => .ty U
  unfold cstB at h
  split at h
  · exact snd_const pe_non fun F R => .non
  · rw [beq_iff_eq] at h; subst h; exact snd_const pe_bl fun F R => .bl _
  · have h := of_decide_eq_true h; subst h; exact snd_const pe_int fun F R => .int _
  · have h := of_decide_eq_true h; subst h; exact snd_const pe_str fun F R => .str _
  · simp only [Bool.and_eq_true, Bool.or_eq_true, decide_eq_true_eq] at h
    obtain ⟨hg, h⟩ := h
    rcases h with ((((⟨rfl, rfl⟩ | ⟨rfl, rfl⟩) | ⟨rfl, rfl⟩) | ⟨rfl, rfl⟩) | ⟨rfl, rfl⟩) | ⟨rfl, rfl⟩
    · exact ty "int" "int" _ (glB_ok s hg) (c.bi .int) rfl (by decide) (by decide)
    · exact ty "str" "str" _ (glB_ok s hg) (c.bi .str) rfl (by decide) (by decide)
    · exact ty "bool" "bool" _ (glB_ok s hg) (c.bty _ (by simp)) rfl (by decide) (by decide)
    · exact ty "tuple" "tuple" _ (glB_ok s hg) (c.bi .tuple) rfl (by decide) (by decide)
    · exact ty "list" "list" _ (glB_ok s hg) (c.bi .list) rfl (by decide) (by decide)
    · exact ty "dict" "dict" _ (glB_ok s hg) (c.bty _ (by simp)) rfl (by decide) (by decide)
  · cases h
theorem slots_snd (N : List Str) (own : List Nat) : (slots N own).map (·.2) = own := by
  unfold slots
  rw [List.map_map]
  exact List.map_id _
theorem chkEs_len {sc : Scope} : ∀ {ms : List ME} {es : List Expr}, chkEs T sc ms es = true → es.all noStar = true ∧ es.length = ms.length
  | [], es, h => by
    simp only [chkEs, List.isEmpty_iff] at h
    subst h; exact ⟨rfl, rfl⟩
  | m :: ms, es, h => by
    simp only [chkEs] at h
    split at h
    · simp only [Bool.and_eq_true] at h
      obtain ⟨q1, q2⟩ := chkEs_len h.2
      exact ⟨by simp only [List.all_cons, Bool.and_eq_true]; exact ⟨h.1.1, q1⟩, by simp [q2]⟩
    · cases h
theorem chkGs_len {b : Bool} {sc : Scope} : ∀ {ms : List MG} {es : List Expr}, chkGs T b sc ms es = true → es.all noStar = true ∧ es.length = ms.length
  | [], es, h => by
    simp only [chkGs, List.isEmpty_iff] at h
    subst h; exact ⟨rfl, rfl⟩
  | m :: ms, es, h => by
    simp only [chkGs] at h
    split at h
    · simp only [Bool.and_eq_true] at h
      obtain ⟨q1, q2⟩ := chkGs_len h.2
      exact ⟨by simp only [List.all_cons, Bool.and_eq_true]; exact ⟨h.1.1, q1⟩, by simp [q2]⟩
    · cases h
theorem loc_ok {X : Cx} {sc : Scope} {b : Bool} {x : Str} (s : ScR sc X.env.scope) (fc : b = true → ∀ x, sc.names.lookup x = some .cell → X.fn x = true ∧ X.env.scope.names.lookup x = some .cell) (h : locB b sc x = true) :
    Loc X.env.scope x ∧ (X.fn x = true ∨ X.env.scope.names.lookup x = some .local) := by
  unfold locB at h
  split at h
  · rename_i q
    exact ⟨.inl (s.loc x q), .inr (s.loc x q)⟩
  · rename_i q
    obtain ⟨p1, p2⟩ := fc h x q
    exact ⟨.inr p2, .inl p1⟩
  · cases h
theorem snd_kcons {X : Cx} {kw : Keyword} {kws : List Keyword} {m : ME} {ms : List ME} (h0 : PE X kw.value (tX cl T.gl X m)) (t : PK X kws (tXs cl T.gl X ms)) : PK X (kw :: kws) (tXs cl T.gl X (m :: ms)) := by
  obtain ⟨n, e, p⟩ := kw
  constructor
  intro pos pins s σ H Q I q
  refine (pk_cons h0 t).run pos pins s σ H Q I ?_
  obtain ⟨F, R, fr, S, rs, rf, k⟩ := q
  simp only [evs] at k
  exact ev_in rs rf k fun F1 R1 H1 v x S1 n1 rs1 rv k1 => evs_in rs1 (rf.nxt n1) k1 fun F2 R2 H2 vs xs S2 n2 rs2 rvs _ k2 => k2 F2 R2 H2 _ .refl rs2 (.cons (rv.mono n2.f n2.r) rvs)
theorem _root_.L2.PE.e {X : Cx} {e : Expr} {m : ME} {gl : GL} (h : PE X e (tX cl gl X m)) : PE X e (tE cl gl X.K m) := PE.imp h fun _ _ _ q => tE_X q
/-- may it raise? -/
def canX : ME → Bool
  | .call .. => true
  | .callK .. => true
  | .vm .. => true
  | .vmK .. => true
  | .cm .. => true
  | .cmK .. => true
  | .vp .. => true
  | .ife .. => true
  | _ => false
def NXo {α : Type} (o : Out α) : Prop := ∀ x S', o ≠ .exc x S'
theorem nxo_opt {α : Type} {o : Option α} {S : Sto} : NXo (opt o S) := fun _ _ e => opt_nx e
theorem nxo_nox {α : Type} {o : Out α} : NXo o.nox := fun _ _ e => nox_nx e
theorem nxo_ok {α : Type} {a : α} {S : Sto} : NXo (.ok a S) := fun _ _ e => by cases e
theorem nxo_bad {α : Type} : NXo (.bad : Out α) := fun _ _ e => by cases e
theorem nxo_bind {α β : Type} {o : Out α} {f : α → Sto → Out β} (h : ∀ a S, NXo (f a S)) : NXo (o.bind f) := fun x S' e => by
  obtain ⟨a, S1, _, e2⟩ := bind_exc e
  exact h a S1 x S' e2
theorem ev_nx {gl : GL} {m : ME} (h : canX m = false) : ∀ fr S x S', ev cl gl fr m S ≠ .exc x S' := by
  intro fr S
  show NXo _
  cases m <;> first
  | (cases h; done)
  | (simp only [ev]
     iterate 9 (all_goals first | exact nxo_opt | exact nxo_ok | exact nxo_bad | exact nxo_nox | (refine nxo_bind fun _ _ => ?_) | split))
theorem snd_ifeX {gl : GL} {X : Cx} {c a b : Expr} {mc : MT} {ma mb : ME} {pos : Pos} (hc : PT X c (tM cl gl X.K mc)) (ha : PE X a (tX cl gl X ma)) (hb : PE X b (tX cl gl X mb)) : PE X (.IfExp c a b pos) (tX cl gl X (.ife mc ma mb)) := by
  refine PE.imp (pe_ifExp hc ha hb) fun σ H Q h => ?_
  obtain ⟨F, R, fr, S, rs, rf, k⟩ := h
  simp only [ev] at k
  cases e1 : evT cl gl fr mc S with
  | exc x S1 => rw [e1] at k; exact k.elim
  | bad => rw [e1] at k; exact k.elim
  | ok x S1 =>
    rw [e1] at k
    refine ⟨F, R, fr, S, x, S1, rs, rf, e1, fun F1 R1 H1 v n1 rs1 rv => ?_⟩
    subst rv
    have k : OutG X.K F R H (fun F R _ v d => Rep X.K F R v d) Q (EX X σ) (if v then ev cl gl fr ma S1 else ev cl gl fr mb S1) := k
    cases v with
    | true =>
      rw [if_pos rfl] at k ⊢
      exact ⟨F1, R1, fr, S1, rs1, rf.nxt n1, k.nxt n1⟩
    | false =>
      rw [if_neg Bool.false_ne_true] at k ⊢
      exact ⟨F1, R1, fr, S1, rs1, rf.nxt n1, k.nxt n1⟩
theorem topB_ok {P : List (Nat × MF)} {f : Nat} (h : topB P f = true) : ∃ m, P.lookup f = some m ∧ m.kind.top = true := by
  unfold topB at h
  split at h
  · exact ⟨_, by assumption, h⟩
  · cases h
theorem star_any {sc : Scope} {env : Env} {pos : Pos} : ∀ {ms : List ME} {bs : List Bool} {es : List Expr}, chkEv T sc ms bs es = true → (backTo pos (starEach es env)).any (·.1) = bs.any id
  | [], bs, es, h => by
    simp only [chkEv, Bool.and_eq_true, List.isEmpty_iff] at h
    obtain ⟨rfl, rfl⟩ := h
    rfl
  | m :: ms, bs, es, h => by
    simp only [chkEv] at h
    split at h
    · simp only [Bool.and_eq_true] at h
      rfl
    · simp only [Bool.and_eq_true] at h
      rw [star_cons h.1.1]
      show (false || (backTo pos (starEach _ env)).any (·.1)) = _
      rw [star_any h.2]; rfl
    · cases h
theorem star_two {env : Env} {e e2 : Expr} {es : List Expr} : ∃ b1 b2 x1 x2 r, starEach (e :: e2 :: es) env = (b1, x1) :: (b2, x2) :: r := by
  have one : ∀ (e : Expr) (es : List Expr), ∃ b x, starEach (e :: es) env = (b, x) :: starEach es env := fun e es => by
    cases e <;> exact ⟨_, _, rfl⟩
  obtain ⟨b1, x1, h1⟩ := one e (e2 :: es)
  obtain ⟨b2, x2, h2⟩ := one e2 es
  exact ⟨b1, b2, x1, x2, _, by rw [h1, h2]⟩
def isBO : Expr → Bool
  | .BoolOp .. => true
  | _ => false
theorem plain_bo {e : Expr} (h : plainT e = true) : isBO e = false := by cases e <;> first | rfl | (simp [plainT] at h)
theorem firstB_ok {X : Cx} {sc : Scope} {m : ME} {e : Expr} {ms : List ME} {es : List Expr} (hN : X.N = T.N) (s : ScR sc X.env.scope) (h : firstB T sc m e = true) (t : PAT X es (tEs cl T.gl X.K ms)) : PA X (e :: es) (tEs cl T.gl X.K (m :: ms)) := by
  unfold firstB at h
  split at h
  · simp only [Bool.and_eq_true, decide_eq_true_eq] at h
    obtain ⟨⟨⟨⟨rfl, h3⟩, h4⟩, h5⟩, h6⟩ := h
    exact snd_first (snd_var (by rw [hN]; exact h3) (visB_ok s h4) (nodbg_ok h5) (nocls_ok h6)) t
  · cases h
theorem rpB_ok {X : Cx} {sc : Scope} {m : ME} {e : Expr} (hN : X.N = T.N) (s : ScR sc X.env.scope) (h : rpB T sc m e = true) : PET X e (tE cl T.gl X.K m) := by
  unfold rpB at h
  split at h
  · simp only [Bool.and_eq_true, decide_eq_true_eq, Bool.not_eq_true'] at h
    obtain ⟨⟨⟨⟨⟨⟨⟨⟨rfl, rfl⟩, rfl⟩, h1⟩, h2⟩, h3⟩, h4⟩, h5⟩, h6⟩ := h
    exact snd_repl (snd_var (by rw [hN]; exact h3) (visB_ok s h4) (nodbg_ok h5) (nocls_ok h6)) h1 h2
  · cases h
mutual
theorem okE {X : Cx} {sc : Scope} (c : Cxu T.nm T.P cl T.gl X) (hN : X.N = T.N) (s : ScR sc X.env.scope) : ∀ (m : ME) (e : Expr), chkE T sc m e = true → PE X e (tX cl T.gl X m)
  | .var i, e, h => by
    refine tX_of ?_ (ev_nx rfl)
    simp only [chkE] at h
    split at h
    · simp only [Bool.and_eq_true, decide_eq_true_eq] at h
      exact snd_var (hN ▸ h.1.1.1) (visB_ok s h.1.1.2) (nodbg_ok h.1.2) (nocls_ok h.2)
    · cases h
  | .cst d, e, h => by
    refine tX_of ?_ (ev_nx rfl)
    simp only [chkE] at h
    exact cst_ok c.toCxt s h
  | .glob x, e, h => by
    refine tX_of ?_ (ev_nx rfl)
    simp only [chkE] at h
    split at h
    · simp only [Bool.and_eq_true, decide_eq_true_eq] at h
      obtain ⟨⟨rfl, h2⟩, h3⟩ := h
      exact snd_glob c.toCxt (glB_ok s h2) (nodbg_ok h3)
    · cases h
  | .bin op a b, e, h => by
    refine tX_of ?_ (ev_nx rfl)
    simp only [chkE] at h
    split at h
    · simp only [Bool.and_eq_true, decide_eq_true_eq] at h
      obtain ⟨⟨rfl, h2⟩, h3⟩ := h
      exact snd_bin (okE c hN s a _ h2).e (okE c hN s b _ h3).e
    · cases h
  | .neg a, e, h => by
    refine tX_of ?_ (ev_nx rfl)
    simp only [chkE] at h
    split at h
    · exact snd_neg (okE c hN s a _ h).e
    · cases h
  | .cmp op a b, e, h => by
    refine tX_of ?_ (ev_nx rfl)
    simp only [chkE] at h
    split at h
    · simp only [Bool.and_eq_true, decide_eq_true_eq] at h
      obtain ⟨⟨⟨rfl, h1⟩, h2⟩, h3⟩ := h
      exact snd_cmp c.b h1 (okE c hN s a _ h2).e (okE c hN s b _ h3).e
    · cases h
  | .chain o1 o2 a b d, e, h => by
    refine tX_of ?_ (ev_nx rfl)
    simp only [chkE] at h
    split at h
    · simp only [Bool.and_eq_true, decide_eq_true_eq] at h
      obtain ⟨⟨⟨⟨⟨rfl, rfl⟩, h1⟩, h2⟩, h3⟩, h4⟩ := h
      exact snd_chain c.b h1 (okE c hN s a _ h2).e (okE c hN s b _ h3).e (okE c hN s d _ h4).e
    · cases h
  | .and a b, e, h => by
    refine tX_of ?_ (ev_nx rfl)
    simp only [chkE] at h
    split at h
    · rename_i x y r p
      simp only [Bool.and_eq_true] at h
      obtain ⟨h1, h2⟩ := h
      cases r with
      | nil => exact snd_and (okE c hN s a _ h1).e (pe_one (okE c hN s b _ h2).e)
      | cons z r => exact snd_and (okE c hN s a _ h1).e (okE c hN s b _ h2).e
    · cases h
  | .or a b, e, h => by
    refine tX_of ?_ (ev_nx rfl)
    simp only [chkE] at h
    split at h
    · rename_i x y r p
      simp only [Bool.and_eq_true] at h
      obtain ⟨h1, h2⟩ := h
      cases r with
      | nil => exact snd_or (okE c hN s a _ h1).e (pe_one (okE c hN s b _ h2).e)
      | cons z r => exact snd_or (okE c hN s a _ h1).e (okE c hN s b _ h2).e
    · cases h
  | .not a, e, h => by
    refine tX_of ?_ (ev_nx rfl)
    simp only [chkE] at h
    split at h
    · exact snd_not (okE c hN s a _ h).e
    · cases h
  | .ife t a b, e, h => by
    simp only [chkE] at h
    split at h
    · simp only [Bool.and_eq_true] at h
      exact snd_ifeX (okT c hN s t _ h.1.1).1 (okE c hN s a _ h.1.2) (okE c hN s b _ h.2)
    · cases h
  | .tup ms, e, h => by
    refine tX_of ?_ (ev_nx rfl)
    simp only [chkE] at h
    split at h
    · simp only [Bool.and_eq_true, decide_eq_true_eq] at h
      exact snd_tup h.1 (okEs c hN s ms _ h.2)
    · cases h
  | .lst ms, e, h => by
    refine tX_of ?_ (ev_nx rfl)
    simp only [chkE] at h
    split at h
    · simp only [Bool.and_eq_true, Bool.or_eq_true, decide_eq_true_eq] at h
      rcases h.2 with h2 | h2
      · exact snd_lst h.1 (okEs c hN s ms _ h2)
      · exact snd_lst h.1 (okEt c hN s ms _ h2)
    · cases h
  | .ref ms, e, h => by
    refine tX_of ?_ (ev_nx rfl)
    simp only [chkE] at h
    split at h
    · simp only [Bool.and_eq_true, decide_eq_true_eq] at h
      exact snd_ref h.1 (okEs c hN s ms _ h.2)
    · cases h
  | .call f ms, e, h => by
    simp only [chkE] at h
    split at h
    · rename_i y p es pos
      simp only [Bool.and_eq_true, decide_eq_true_eq] at h
      obtain ⟨⟨⟨⟨rfl, h2⟩, h3⟩, h4⟩, h5⟩ := h
      obtain ⟨m, hm, htp⟩ := topB_ok h4
      obtain ⟨q1, q2⟩ := chkEs_len h5
      cases es with
      | nil =>
        cases ms with
        | nil => exact snd_call0 c.toCxt hm htp (glB_ok s h2) (nodbg_ok h3)
        | cons => simp at q2
      | cons e es => exact snd_call c.toCxt hm htp (glB_ok s h2) (nodbg_ok h3) q1 (okXs c hN s ms _ h5)
    · cases h
  | .callK f ms ks vs, e, h => by
    simp only [chkE] at h
    split at h
    · rename_i y p es kws pos
      simp only [Bool.and_eq_true, decide_eq_true_eq] at h
      obtain ⟨⟨⟨⟨⟨⟨rfl, h2⟩, h3⟩, h4⟩, h5⟩, h6⟩, h7⟩ := h
      split at h4
      · rename_i m hm
        obtain ⟨q1, q2⟩ := chkEs_len h6
        obtain ⟨q3, q4⟩ := chkEs_len h7
        rw [Bool.and_eq_true] at h4
        exact snd_callK c.toCxt hm h4.1 (glB_ok s h2) (nodbg_ok h3) q1 (okXs c hN s ms _ h6) q2 (okKs c hN s vs _ h7) (by simpa using q4) h5 h4.2
      · cases h4
    · cases h
  | .blt b ms, e, h => by
    refine tX_of ?_ (ev_nx rfl)
    simp only [chkE] at h
    split at h
    · rename_i y p es pos
      simp only [Bool.and_eq_true, decide_eq_true_eq] at h
      obtain ⟨⟨⟨rfl, h2⟩, h3⟩, h4⟩ := h
      cases es with
      | nil => cases h3
      | cons e es => exact snd_blt c.toCxt (glB_ok s h2) (chkEs_len h4).1 (okEs c hN s ms _ h4)
    · cases h
  | .sub a i, e, h => by
    refine tX_of ?_ (ev_nx rfl)
    simp only [chkE] at h
    split at h
    · simp only [Bool.and_eq_true] at h
      exact snd_sub h.1.1 (okE c hN s a _ h.1.2).e (okE c hN s i _ h.2).e
    · cases h
  | .sl a lo hi, e, h => by
    refine tX_of ?_ (ev_nx rfl)
    simp only [chkE] at h
    split at h
    · simp only [Bool.and_eq_true] at h
      exact snd_sl (okE c hN s a _ h.1.1).e (okO c hN s lo _ h.1.2) (okO c hN s hi _ h.2)
    · cases h
  | .rev a, e, h => by
    refine tX_of ?_ (ev_nx rfl)
    simp only [chkE] at h
    split at h
    · exact snd_rev (okE c hN s a _ h).e
    · cases h
  | .lc own g src tt r, e, h => by
    refine tX_of ?_ (ev_nx rfl)
    simp only [chkE] at h
    split at h
    · rename_i elt tg iter ifs scope pos
      simp only [Bool.and_eq_true, List.all_eq_true, decide_eq_true_eq] at h
      obtain ⟨⟨⟨⟨⟨⟨h1, h2⟩, h3⟩, h4⟩, h5⟩, h6⟩, h7⟩ := h
      obtain ⟨h1, hw⟩ := blkW_ok hN h1
      have b := blkOk_by h1
      have b' : BlkOk X.N X.env.scope scope (slots T.N own) := ⟨b.kind, b.uniq, by rw [hN]; exact b.ix, fun y hy e => s.cf _ (b.free y hy e), by rw [hN]; exact b.own⟩
      have q := snd_lc c.toCxt (okI c hN s tg src _ h4) b' (fun s' H C cl' fp => okG (c.blk hw s' H fp) hN (ScR.blk scope X.env) (fun h => by cases h) g _ h5) (fun s' H C cl' fp => okTs (c.blk hw s' H fp) hN (ScR.blk scope X.env) tt _ h6)
        (fun s' H C cl' fp => (okE (c.blk hw s' H fp) hN (ScR.blk scope X.env) r _ h7).e) h2 (by rw [slots_snd]; exact h3) (pos := pos)
      rw [slots_snd] at q
      exact q
    · cases h
  | .lcL own g src tt r, e, h => by
    refine tX_of ?_ (ev_nx rfl)
    simp only [chkE] at h
    split at h
    · rename_i elt tg iter ifs scope pos
      simp only [Bool.and_eq_true, List.all_eq_true, decide_eq_true_eq] at h
      obtain ⟨⟨⟨⟨⟨⟨h1, h2⟩, h3⟩, h4⟩, h5⟩, h6⟩, h7⟩ := h
      obtain ⟨h1, hw⟩ := blkW_ok hN h1
      have b := blkOk_by h1
      have b' : BlkOk X.N X.env.scope scope (slots T.N own) := ⟨b.kind, b.uniq, by rw [hN]; exact b.ix, fun y hy e => s.cf _ (b.free y hy e), by rw [hN]; exact b.own⟩
      have pe := (okE c hN s src _ h4).e
      have q := snd_lcL c.toCxt pe (snd_ilst pe) b' (fun s' H C cl' fp => okG (c.blk hw s' H fp) hN (ScR.blk scope X.env) (fun h => by cases h) g _ h5) (fun s' H C cl' fp => okTs (c.blk hw s' H fp) hN (ScR.blk scope X.env) tt _ h6)
        (fun s' H C cl' fp => (okE (c.blk hw s' H fp) hN (ScR.blk scope X.env) r _ h7).e) h2 (by rw [slots_snd]; exact h3) (pos := pos)
      rw [slots_snd] at q
      exact q
    · cases h
  | .dct ms, e, h => by
    refine tX_of ?_ (ev_nx rfl)
    simp only [chkE] at h
    split at h
    · rename_i keys values pos
      simp only [Bool.or_eq_true, Bool.and_eq_true, decide_eq_true_eq, Bool.not_eq_true', List.isEmpty_eq_false_iff, List.isEmpty_iff] at h
      rcases h with ⟨⟨h1, h2⟩, h3⟩ | ⟨⟨h1, h2⟩, h3⟩
      · subst h1 h2 h3
        exact snd_dct0
      · obtain ⟨p1, p2, p3, p4⟩ := okDs c hN s pos ms _ _ h3
        exact snd_dct p1 p2 p3 h1 h2 p4
    · cases h
  | .get1 a b, e, h => by
    refine tX_of ?_ (ev_nx rfl)
    simp only [chkE] at h
    split at h
    · simp only [Bool.and_eq_true, decide_eq_true_eq] at h
      obtain ⟨⟨⟨⟨⟨rfl, h2⟩, h3⟩, h4⟩, h5⟩, h6⟩ := h
      exact snd_get1 c.toCxt h2 h3 h4 (okE c hN s a _ h5).e (okE c hN s b _ h6).e
    · cases h
  | .get2 a b d, e, h => by
    refine tX_of ?_ (ev_nx rfl)
    simp only [chkE] at h
    split at h
    · simp only [Bool.and_eq_true, decide_eq_true_eq] at h
      obtain ⟨⟨⟨⟨⟨⟨⟨rfl, h2⟩, h3⟩, h3'⟩, h4⟩, h5⟩, h6⟩, h7⟩ := h
      exact snd_get2 c.toCxt h2 h3 h3' h4 (okE c hN s a _ h5).e (okE c hN s b _ h6).e (okE c hN s d _ h7).e
    · cases h
  | .app a b, e, h => by
    refine tX_of ?_ (ev_nx rfl)
    simp only [chkE] at h
    split at h
    · simp only [Bool.and_eq_true, decide_eq_true_eq] at h
      obtain ⟨⟨⟨⟨⟨rfl, h2⟩, h3⟩, h4⟩, h5⟩, h6⟩ := h
      exact snd_mutA h2 h3 h4 (okE c hN s a _ h5).e (okE c hN s b _ h6).e
    · cases h
  | .eqm m a b, e, h => by
    refine tX_of ?_ (ev_nx rfl)
    simp only [chkE] at h
    split at h
    · simp only [Bool.and_eq_true, decide_eq_true_eq] at h
      obtain ⟨⟨⟨h1, h2⟩, h3⟩, h4⟩ := h
      exact snd_eqm c.toCxt h1 h2 (okE c hN s a _ h3).e (okE c hN s b _ h4).e
    · cases h
  | .meth m a ms, e, h => by
    refine tX_of ?_ (ev_nx rfl)
    simp only [chkE] at h
    split at h
    · simp only [Bool.and_eq_true, decide_eq_true_eq] at h
      obtain ⟨⟨⟨⟨⟨⟨h1, rfl⟩, h2⟩, h3⟩, h4⟩, h5⟩, h6⟩ := h
      obtain ⟨q1, q2⟩ := chkEs_len h6
      have a1 := (okE c hN s a _ h5).e
      have a2 := okEs c hN s ms _ h6
      cases m with
      | split => exact snd_split h2 q1 h3 q2 h4 a1 a2
      | join => exact snd_join h2 q1 h3 q2 h4 a1 a2
      | partition => exact snd_partition h2 q1 h3 q2 h4 a1 a2
      | upper => exact snd_upper h2 q1 h3 q2 h4 a1 a2
      | count => exact snd_count h2 q1 h3 q2 h4 a1 a2
      | index => exact snd_index h2 q1 h3 q2 h4 a1 a2
      | _ => simp [meB] at h1
    · cases h
  | .fld a f, e, h => by
    refine tX_of ?_ (ev_nx rfl)
    simp only [chkE] at h
    split at h
    · simp only [Bool.and_eq_true, decide_eq_true_eq] at h
      obtain ⟨⟨rfl, h2⟩, h3⟩ := h
      rename_i o pos
      have q := snd_fld (f := f) (pos := pos) c.toCxt h2 (okE c hN s a _ h3).e
      rw [c.fnm] at q
      exact q
    · cases h
  | .vp m a, e, h => by
    simp only [chkE] at h
    split at h
    · simp only [Bool.and_eq_true, decide_eq_true_eq] at h
      obtain ⟨⟨rfl, h2⟩, h3⟩ := h
      exact snd_vp c.toCxt h2 (okE c hN s a _ h3)
    · cases h
  | .vm m a ms, e, h => by
    simp only [chkE] at h
    split at h
    · simp only [Bool.and_eq_true, decide_eq_true_eq] at h
      obtain ⟨⟨⟨⟨⟨rfl, h2⟩, h3⟩, h4⟩, h5⟩, h6⟩ := h
      obtain ⟨q1, q2⟩ := chkEs_len h6
      exact snd_vm c.toCxt h2 q1 h3 q2 h4 (okE c hN s a _ h5) (okXs c hN s ms _ h6)
    · cases h
  | .cm c0 m ms, e, h => by
    simp only [chkE] at h
    split at h
    · rename_i x p y apos es pos
      simp only [Bool.and_eq_true, decide_eq_true_eq] at h
      obtain ⟨⟨⟨⟨⟨⟨⟨⟨rfl, rfl⟩, h2⟩, h3⟩, h4⟩, h5⟩, h6⟩, h7⟩, h8⟩ := h
      obtain ⟨q1, q2⟩ := chkEs_len h8
      cases es with
      | nil => cases h6
      | cons e es => exact snd_cm c.toCxt h2 (glB_ok s h3) (nodbg_ok h4) q1 h5 h7 (okXs c hN s ms _ h8)
    · cases h
  | .vmK f m a ms ks vs, e, h => by
    simp only [chkE] at h
    split at h
    · simp only [Bool.and_eq_true, decide_eq_true_eq] at h
      obtain ⟨⟨⟨⟨⟨⟨⟨⟨rfl, h2⟩, h3⟩, h4⟩, h5⟩, h6⟩, h7⟩, h8⟩, h9⟩ := h
      split at h5
      · rename_i mf hm
        obtain ⟨q1, q2⟩ := chkEs_len h8
        obtain ⟨q3, q4⟩ := chkEs_len h9
        exact snd_vmK c.toCxt hm h2 q1 h3 q2 h4 (okE c hN s a _ h7) (okXs c hN s ms _ h8) (okKs c hN s vs _ h9) (by simpa using q4) h6 h5
      · cases h5
    · cases h
  | .cmK c0 m ms ks vs, e, h => by
    simp only [chkE] at h
    split at h
    · rename_i x p y apos es kws pos
      simp only [Bool.and_eq_true, decide_eq_true_eq] at h
      obtain ⟨⟨⟨⟨⟨⟨⟨⟨⟨rfl, rfl⟩, h2⟩, h3⟩, h4⟩, h5⟩, h6⟩, h7⟩, h8⟩, h9⟩ := h
      split at h2
      · rename_i f hf
        split at h2
        · rename_i mf hm
          obtain ⟨q1, q2⟩ := chkEs_len h8
          obtain ⟨q3, q4⟩ := chkEs_len h9
          exact snd_cmK c.toCxt hf hm (glB_ok s h3) (nodbg_ok h4) q1 h5 q2 h6 (okXs c hN s ms _ h8) (okKs c hN s vs _ h9) (by simpa using q4) h7 h2
        · cases h2
      · cases h2
    · cases h
  | .tupS bs ms, e, h => by
    refine tX_of ?_ (ev_nx rfl)
    simp only [chkE] at h
    split at h
    · exact snd_tupS (okEv c hN s ms bs _ h)
    · cases h
  | .lstS bs ms, e, h => by
    refine tX_of ?_ (ev_nx rfl)
    simp only [chkE] at h
    split at h
    · exact snd_lstS (okEv c hN s ms bs _ h)
    · cases h
  | .callS f bs ms, e, h => by
    refine tX_of ?_ (ev_nx rfl)
    simp only [chkE] at h
    split at h
    · rename_i y p es pos
      simp only [Bool.and_eq_true, decide_eq_true_eq] at h
      obtain ⟨⟨⟨⟨⟨rfl, h2⟩, h3⟩, h4⟩, h5⟩, h6⟩ := h
      obtain ⟨m, hm, htp⟩ := topB_ok h4
      have q := okEv c hN s ms bs _ h6
      cases es with
      | nil =>
        cases ms with
        | nil => simp [chkEv] at h6; subst h6; cases h5
        | cons =>
          exfalso
          simp only [chkEv] at h6
          first | (cases h6; done) | (split at h6 <;> first | contradiction | cases h6)
      | cons e es =>
        cases es with
        | nil =>
          cases ms with
          | nil => simp [chkEv] at h6
          | cons mm ms =>
            have h6' := h6
            simp only [chkEv] at h6
            split at h6
            · rename_i bs' e' p' es' heq
              injection heq with e1 e2
              subst e1 e2
              simp only [Bool.and_eq_true] at h6
              cases ms with
              | nil =>
                simp [chkEv] at h6
                obtain ⟨h6a, h6b⟩ := h6
                subst h6b
                exact snd_callS1 c.toCxt hm htp (glB_ok s h2) (nodbg_ok h3) (okE c hN s mm _ h6a).e
              | cons => 
                exfalso
                have := h6.2
                simp only [chkEv] at this
                first | (cases this; done) | (split at this <;> first | contradiction | cases this)
            · rename_i bs' e' es' heq
              injection heq with e1 e2
              subst e1 e2
              simp only [Bool.and_eq_true] at h6
              cases ms with
              | nil =>
                simp [chkEv] at h6
                obtain ⟨h6a, h6b⟩ := h6
                subst h6b
                cases h5
              | cons => 
                exfalso
                have := h6.2
                simp only [chkEv] at this
                first | (cases this; done) | (split at this <;> first | contradiction | cases this)
            · cases h6
        | cons e2 es =>
          obtain ⟨b1, b2, x1, x2, r, g1⟩ := star_two (env := X.env) (e := e) (e2 := e2) (es := es)
          refine snd_callS c.toCxt hm htp (glB_ok s h2) (nodbg_ok h3) q g1 ?_
          rw [star_any (pos := pos) (env := X.env) h6]
          exact h5
    · cases h
  | .dun m b a, e, h => by
    refine tX_of ?_ (ev_nx rfl)
    simp only [chkE] at h
    split at h
    · simp only [Bool.and_eq_true, decide_eq_true_eq] at h
      obtain ⟨⟨⟨⟨rfl, h2⟩, h3⟩, h4⟩, h5⟩ := h
      refine snd_dun c.toCxt ?_ (glB_ok s h2) h3 (okE c hN s a _ h5).e
      unfold dunB at h4
      simp only [Bool.or_eq_true, Bool.and_eq_true, decide_eq_true_eq] at h4
      rcases h4 with (h4 | h4) | h4
      · exact .inl h4
      · exact .inr (.inl h4)
      · exact .inr (.inr h4)
    · cases h
  | .fs ms, e, h => by
    refine tX_of ?_ (ev_nx rfl)
    simp only [chkE] at h
    split at h
    · exact snd_fs (okFs c hN s ms _ h)
    · cases h
  | .lc2 .., e, h => by simp [chkE] at h
  | .outc f a, e, h => by
    refine tX_of ?_ (ev_nx rfl)
    simp only [chkE] at h
    split at h
    · rename_i y p params body lsc lpos pos
      simp only [Bool.and_eq_true, decide_eq_true_eq] at h
      obtain ⟨⟨⟨⟨⟨⟨⟨rfl, h1⟩, h2⟩, h3⟩, h4⟩, h5⟩, h6⟩, h7⟩ := h
      obtain ⟨w, w1, w2⟩ := wiB_ok h4
      obtain ⟨k, room, k3, fn, mk⟩ := c.lam w (by rw [hN]; exact w1) (w2.imp (s.loc _) (s.ce _))
      have L0 := LamX.lamS_by h5
      have L : LamX.LamS X.env.scope lsc := ⟨L0.kind, L0.co, L0.gen, L0.own, fun y hy e => s.cf _ (L0.free y hy e)⟩
      obtain ⟨o, ox, F⟩ := c.oc f h3
      have := snd_outc (f := f) (p := p) (lpos := lpos) (pos := pos) F (by rw [ox]; exact glB_ok s h1) mk room L h6 (fun f' c' A outer s' H E hr => by
        exact PE.imp (okE (c.lamCx (A := A) (outer := outer) (s := s') (H := H) (E := E) L k3 hr fn) hN (ScR.refl _) a body h7) fun σ H Q ⟨F1, R1, fr, S1, rs, rf, q⟩ => ⟨F1, R1, fr, S1, rs, rf, q.weak (fun c0 d0 G0 hE => wt_of (takes_of rfl rfl rfl rfl) hE) fun _ _ q => q⟩)
      rw [ox] at this
      exact this
    · cases h
  | .unst i, e, h => by
    refine tX_of ?_ (ev_nx rfl)
    simp only [chkE] at h
    split at h
    · simp only [Bool.and_eq_true, decide_eq_true_eq] at h
      exact snd_unst (hN ▸ h.1.1.1) (visB_ok s h.1.1.2) (nodbg_ok h.1.2) (nocls_ok h.2)
    · cases h
  | .eqx c0 m neg a b, e, h => by
    refine tX_of ?_ (ev_nx rfl)
    simp only [chkE] at h
    split at h
    · simp only [Bool.and_eq_true, decide_eq_true_eq] at h
      obtain ⟨⟨⟨⟨⟨h1, h2⟩, h3⟩, h4⟩, h5⟩, h6⟩ := h
      split at h4
      · rename_i c' hg
        have h4 := of_decide_eq_true h4
        subst h4
        obtain ⟨v, u, _, _, r⟩ := c.gb _ _ hg
        have htc : CA.tc c' = true := by
          have r := r (fun _ => none) []
          cases r with
          | cls _ h => exact h
        exact snd_eqx c.toCxt h1 htc h2 h3 (okE c hN s a _ h5).e (okE c hN s b _ h6).e
      · cases h4
    · cases h
  | .tln m a, e, h => by
    refine tX_of ?_ (ev_nx rfl)
    simp only [chkE] at h
    split at h
    · simp only [Bool.and_eq_true, decide_eq_true_eq] at h
      obtain ⟨⟨⟨⟨rfl, h2⟩, h3⟩, h4⟩, h5⟩ := h
      exact snd_tln c.toCxt h4 (glB_ok s h2) h3 (okE c hN s a _ h5).e
    · cases h
theorem okEv {X : Cx} {sc : Scope} (c : Cxu T.nm T.P cl T.gl X) (hN : X.N = T.N) (s : ScR sc X.env.scope) : ∀ (m : List ME) (bs : List Bool) (e : List Expr), chkEv T sc m bs e = true → PA X e (tEv cl T.gl X.K bs m)
  | [], bs, es, h => by
    simp only [chkEv, Bool.and_eq_true, List.isEmpty_iff] at h
    obtain ⟨rfl, rfl⟩ := h
    exact snd_s0
  | m :: ms, bs, es, h => by
    simp only [chkEv] at h
    split at h
    · simp only [Bool.and_eq_true] at h
      exact snd_ss (okE c hN s m _ h.1).e (okEv c hN s ms _ _ h.2)
    · simp only [Bool.and_eq_true] at h
      exact snd_sp h.1.1 (okE c hN s m _ h.1.2).e (okEv c hN s ms _ _ h.2)
    · cases h
theorem okEs {X : Cx} {sc : Scope} (c : Cxu T.nm T.P cl T.gl X) (hN : X.N = T.N) (s : ScR sc X.env.scope) : ∀ (m : List ME) (e : List Expr), chkEs T sc m e = true → PA X e (tEs cl T.gl X.K m)
  | [], es, h => by
    simp only [chkEs, List.isEmpty_iff] at h
    subst h; exact snd_nil
  | m :: ms, es, h => by
    simp only [chkEs] at h
    split at h
    · simp only [Bool.and_eq_true] at h
      exact snd_cons h.1.1 (okE c hN s m _ h.1.2).e (okEs c hN s ms _ h.2)
    · cases h
theorem okEr {X : Cx} {sc : Scope} (c : Cxu T.nm T.P cl T.gl X) (hN : X.N = T.N) (s : ScR sc X.env.scope) : ∀ (m : List ME) (e : List Expr), chkEr T sc m e = true → PAT X e (tEs cl T.gl X.K m)
  | [], es, h => by
    simp only [chkEr, List.isEmpty_iff] at h
    subst h; exact snd_nilT
  | m :: ms, es, h => by
    simp only [chkEr] at h
    split at h
    · simp only [Bool.and_eq_true, Bool.or_eq_true] at h
      obtain ⟨⟨h1, h2⟩, h3⟩ := h
      refine snd_consT h1 ?_ (okEr c hN s ms _ h3)
      rcases h2 with h2 | h2
      · exact CwR.PET.of (okE c hN s m _ h2).e
      · exact rpB_ok hN s h2
    · cases h
theorem okEt {X : Cx} {sc : Scope} (c : Cxu T.nm T.P cl T.gl X) (hN : X.N = T.N) (s : ScR sc X.env.scope) : ∀ (m : List ME) (e : List Expr), chkEt T sc m e = true → PA X e (tEs cl T.gl X.K m)
  | [], es, h => by simp [chkEt] at h
  | m :: ms, es, h => by
    simp only [chkEt] at h
    split at h
    · simp only [Bool.and_eq_true] at h
      exact firstB_ok hN s h.1 (okEr c hN s ms _ h.2)
    · cases h
theorem okXs {X : Cx} {sc : Scope} (c : Cxu T.nm T.P cl T.gl X) (hN : X.N = T.N) (s : ScR sc X.env.scope) : ∀ (m : List ME) (e : List Expr), chkEs T sc m e = true → PA X e (tXs cl T.gl X m)
  | [], es, h => by
    simp only [chkEs, List.isEmpty_iff] at h
    subst h; exact snd_nilX
  | m :: ms, es, h => by
    simp only [chkEs] at h
    split at h
    · simp only [Bool.and_eq_true] at h
      exact snd_consX h.1.1 (okE c hN s m _ h.1.2) (okXs c hN s ms _ h.2)
    · cases h
theorem okKs {X : Cx} {sc : Scope} (c : Cxu T.nm T.P cl T.gl X) (hN : X.N = T.N) (s : ScR sc X.env.scope) : ∀ (m : List ME) (kws : List Keyword), chkEs T sc m (kws.map (·.value)) = true → PK X kws (tXs cl T.gl X m)
  | [], kws, h => by
    simp only [chkEs, List.isEmpty_iff, List.map_eq_nil_iff] at h
    subst h
    exact snd_kws (fun i q m h1 h2 => by simp at h1) rfl
  | m :: ms, kws, h => by
    cases kws with
    | nil => simp [chkEs] at h
    | cons kw kws =>
      simp only [chkEs, List.map_cons, Bool.and_eq_true] at h
      exact snd_kcons (okE c hN s m _ h.1.2) (okKs c hN s ms _ h.2)
theorem okFs {X : Cx} {sc : Scope} (c : Cxu T.nm T.P cl T.gl X) (hN : X.N = T.N) (s : ScR sc X.env.scope) : ∀ (m : List ME) (e : List Expr), chkFs T sc m e = true → PJ X e (m.map (tFp cl T.gl X.K))
  | [], es, h => by
    simp only [chkFs, List.isEmpty_iff] at h
    subst h; exact .nil
  | m :: ms, es, h => by
    simp only [chkFs] at h
    split at h
    · simp only [Bool.and_eq_true] at h
      exact .cons (pe_fmt (okE c hN s m _ h.1).e) (okFs c hN s ms _ h.2)
    · simp only [Bool.and_eq_true] at h
      obtain ⟨h1, h2⟩ := h
      split at h1
      · simp only [decide_eq_true_eq] at h1
        subst h1
        exact .cons (fs_cst (snd_const pe_str fun F R => .str _)) (okFs c hN s ms _ h2)
      · cases h1
    · cases h
theorem okDs {X : Cx} {sc : Scope} (c : Cxu T.nm T.P cl T.gl X) (hN : X.N = T.N) (s : ScR sc X.env.scope) (pos : Pos) : ∀ (m : List ME) (ks : List (Option Expr)) (vs : List Expr), chkDs T sc m ks vs = true →
    PPs X pos ks vs (pairT cl T.gl X.K m) ∧ ks.all (·.isSome) = true ∧ ks.length = vs.length ∧ m.length = 2 * ks.length
  | [], ks, vs, h => by
    simp only [chkDs, Bool.and_eq_true, List.isEmpty_iff] at h
    obtain ⟨rfl, rfl⟩ := h
    exact ⟨pps_nil, rfl, rfl, rfl⟩
  | [m], ks, vs, h => by simp [chkDs] at h
  | m :: m2 :: ms, some ke :: ks, ve :: vs, h => by
    simp only [chkDs, Bool.and_eq_true] at h
    obtain ⟨p1, p2, p3, p4⟩ := okDs c hN s pos ms _ _ h.2
    exact ⟨pps_cons (okE c hN s m _ h.1.1).e (okE c hN s m2 _ h.1.2).e p1, by simpa using p2, by simp [p3], by simp [p4]; omega⟩
  | m :: m2 :: ms, [], vs, h => by simp [chkDs] at h
  | m :: m2 :: ms, none :: ks, vs, h => by simp [chkDs] at h
  | m :: m2 :: ms, some ke :: ks, [], h => by simp [chkDs] at h
theorem okO {X : Cx} {sc : Scope} (c : Cxu T.nm T.P cl T.gl X) (hN : X.N = T.N) (s : ScR sc X.env.scope) : ∀ (m : Option ME) (e : Option Expr), chkO T sc m e = true → PO X e (tEo cl T.gl X.K m)
  | none, e, h => by
    simp only [chkO, Option.isNone_iff_eq_none] at h
    subst h; exact snd_o0
  | some m, e, h => by
    simp only [chkO] at h
    split at h
    · exact snd_o1 (okE c hN s m _ h).e
    · cases h
theorem okT {X : Cx} {sc : Scope} (c : Cxu T.nm T.P cl T.gl X) (hN : X.N = T.N) (s : ScR sc X.env.scope) : ∀ (m : MT) (e : Expr), chkT T sc m e = true → PT X e (tM cl T.gl X.K m) ∧ (isBO e = true → PW X e (tM cl T.gl X.K m))
  | .val m, e, h => by
    simp only [chkT, Bool.and_eq_true] at h
    exact ⟨snd_tval (okE c hN s m _ h.2).e h.1, fun q => by rw [plain_bo h.1] at q; cases q⟩
  | .tru m, e, h => by
    simp only [chkT, Bool.and_eq_true] at h
    exact ⟨snd_ttru (okE c hN s m _ h.2).e h.1, fun q => by rw [plain_bo h.1] at q; cases q⟩
  | .cmp op a b, e, h => by
    simp only [chkT] at h
    split at h
    · simp only [Bool.and_eq_true, decide_eq_true_eq] at h
      obtain ⟨⟨⟨rfl, h1⟩, h2⟩, h3⟩ := h
      exact ⟨snd_tcmp c.b h1 (okE c hN s a _ h2).e (okE c hN s b _ h3).e, fun q => by cases q⟩
    · cases h
  | .chain o1 o2 a b d, e, h => by
    simp only [chkT] at h
    split at h
    · simp only [Bool.and_eq_true, decide_eq_true_eq] at h
      obtain ⟨⟨⟨⟨⟨rfl, rfl⟩, h1⟩, h2⟩, h3⟩, h4⟩ := h
      exact ⟨snd_tchain c.b h1 (okE c hN s a _ h2).e (okE c hN s b _ h3).e (okE c hN s d _ h4).e, fun q => by cases q⟩
    · cases h
  | .and a b, e, h => by
    simp only [chkT] at h
    split at h
    · rename_i x y r p
      simp only [Bool.and_eq_true] at h
      obtain ⟨h1, h2⟩ := h
      have w : PW X (.BoolOp .And (x :: y :: r) p) (tM cl T.gl X.K (.and a b)) := by
        cases r with
        | nil => exact snd_tand (okT c hN s a _ h1).1 (pw_and1 (okT c hN s b _ h2).1)
        | cons z r => exact snd_tand (okT c hN s a _ h1).1 ((okT c hN s b _ h2).2 rfl)
      exact ⟨w.pt, fun _ => w⟩
    · cases h
  | .or a b, e, h => by
    simp only [chkT] at h
    split at h
    · rename_i x y r p
      simp only [Bool.and_eq_true] at h
      obtain ⟨h1, h2⟩ := h
      have w : PW X (.BoolOp .Or (x :: y :: r) p) (tM cl T.gl X.K (.or a b)) := by
        cases r with
        | nil => exact snd_tor (okT c hN s a _ h1).1 (pw_or1 (okT c hN s b _ h2).1)
        | cons z r => exact snd_tor (okT c hN s a _ h1).1 ((okT c hN s b _ h2).2 rfl)
      exact ⟨w.pt, fun _ => w⟩
    · cases h
  | .not a, e, h => by
    simp only [chkT] at h
    split at h
    · exact ⟨snd_tnot (okT c hN s a _ h).1, fun q => by cases q⟩
    · cases h
theorem okTs {X : Cx} {sc : Scope} (c : Cxu T.nm T.P cl T.gl X) (hN : X.N = T.N) (s : ScR sc X.env.scope) : ∀ (m : List MT) (e : List Expr), chkTs T sc m e = true → PTs X e (tMs cl T.gl X.K m)
  | [], es, h => by
    simp only [chkTs, List.isEmpty_iff] at h
    subst h; exact snd_ts0
  | m :: ms, es, h => by
    simp only [chkTs] at h
    split at h
    · simp only [Bool.and_eq_true, List.isEmpty_iff] at h
      obtain ⟨rfl, h⟩ := h
      exact snd_ts1 (okT c hN s m _ h).1
    · cases h
theorem okI {X : Cx} {sc : Scope} (c : Cxu T.nm T.P cl T.gl X) (hN : X.N = T.N) (s : ScR sc X.env.scope) (tg : Expr) : ∀ (m : MI) (e : Expr), chkI T sc tg m e = true → PI X tg e (tW cl T.gl X.K m)
  | .lst m, e, h => by
    simp only [chkI] at h
    exact snd_ilst (okE c hN s m _ h).e
  | .tup m, e, h => by
    simp only [chkI] at h
    exact snd_itup (okE c hN s m _ h).e
  | .rng1 a, e, h => by
    simp only [chkI] at h
    split at h
    · simp only [Bool.and_eq_true, decide_eq_true_eq] at h
      obtain ⟨⟨⟨rfl, h2⟩, h3⟩, h4⟩ := h
      exact snd_irng1 c.toCxt (glB_ok s h2) h3 (okE c hN s a _ h4).e
    · cases h
  | .rng2 a b, e, h => by
    simp only [chkI] at h
    split at h
    · simp only [Bool.and_eq_true, decide_eq_true_eq] at h
      obtain ⟨⟨⟨⟨⟨rfl, h2⟩, h3⟩, h4⟩, h5⟩, h6⟩ := h
      exact snd_irng2 c.toCxt (glB_ok s h2) h3 h4 (okE c hN s a _ h5).e (okE c hN s b _ h6).e
    · cases h
  | .zip a b, e, h => by
    simp only [chkI] at h
    split at h
    · simp only [Bool.and_eq_true, decide_eq_true_eq] at h
      obtain ⟨⟨⟨⟨⟨rfl, h2⟩, h3⟩, h4⟩, h5⟩, h6⟩ := h
      exact snd_izip c.toCxt (glB_ok s h2) h3 h4 (okE c hN s a _ h5).e (okE c hN s b _ h6).e
    · cases h
  | .enum a, e, h => by
    simp only [chkI] at h
    split at h
    · simp only [Bool.and_eq_true, decide_eq_true_eq] at h
      obtain ⟨⟨⟨rfl, h2⟩, h3⟩, h4⟩ := h
      exact snd_ienum c.toCxt (glB_ok s h2) h3 (okE c hN s a _ h4).e
    · cases h
  | .enumT a, e, h => by
    simp only [chkI] at h
    split at h
    · simp only [Bool.and_eq_true, decide_eq_true_eq] at h
      obtain ⟨⟨⟨rfl, h2⟩, h3⟩, h4⟩ := h
      exact snd_ienumT c.toCxt (glB_ok s h2) h3 (okE c hN s a _ h4).e
    · cases h
  | .str m, e, h => by
    simp only [chkI] at h
    exact snd_istr (okE c hN s m _ h).e
theorem okG {X : Cx} {sc : Scope} {b : Bool} (c : Cxu T.nm T.P cl T.gl X) (hN : X.N = T.N) (s : ScR sc X.env.scope) (fc : b = true → ∀ x, sc.names.lookup x = some .cell → X.fn x = true ∧ X.env.scope.names.lookup x = some .cell) : ∀ (m : MG) (e : Expr), chkG T b sc m e = true → PG X e (tG cl T.gl X.K m)
  | .name i, e, h => by
    simp only [chkG] at h
    split at h
    · simp only [Bool.and_eq_true, decide_eq_true_eq] at h
      obtain ⟨h1, h2⟩ := h
      obtain ⟨l1, l2⟩ := loc_ok s fc h2
      exact snd_gname c.nd (hN ▸ h1) l1 l2
    · cases h
  | .tup gs, e, h => by
    simp only [chkG] at h
    split at h
    · obtain ⟨q1, q2⟩ := chkGs_len h
      exact snd_gtup c.toCxt q1 q2 (okGs c hN s fc gs _ h)
    · cases h
  | .sub o i, e, h => by
    simp only [chkG] at h
    split at h
    · simp only [Bool.and_eq_true] at h
      exact snd_gsub h.1.1 (okE c hN s o _ h.1.2).e (okE c hN s i _ h.2).e
    · cases h
theorem okGs {X : Cx} {sc : Scope} {b : Bool} (c : Cxu T.nm T.P cl T.gl X) (hN : X.N = T.N) (s : ScR sc X.env.scope) (fc : b = true → ∀ x, sc.names.lookup x = some .cell → X.fn x = true ∧ X.env.scope.names.lookup x = some .cell) : ∀ (m : List MG) (e : List Expr), chkGs T b sc m e = true → PGs X e (tGg cl T.gl X.K m)
  | [], es, h => by
    simp only [chkGs, List.isEmpty_iff] at h
    subst h; exact snd_gnil
  | m :: ms, es, h => by
    simp only [chkGs] at h
    split at h
    · simp only [Bool.and_eq_true] at h
      exact snd_gcons h.1.1 (okG c hN s fc m _ h.1.2) (okGs c hN s fc ms _ h.2)
    · cases h
end
end
end Mn
/-! the statements match -/
namespace Mn
open PySem PySem.Spec PyProof.Rows L2 RZ
variable [CA]
def swC (sc : Scope) (e : Expr) (t : Str) (p : Pos) : Bool :=
  match (match e with
    | .ListComp _ _ s _ | .SetComp _ _ s _ | .DictComp _ _ _ s _ => some s
    | _ => none) with
  | some scope => sc.names.lookup t == some .local && p.line == e.pos.line && !(scope.names.any fun (n, k) => n == t && (k == .local || k == .cell))
  | none => false
theorem swC_ok {e : Expr} {t : Str} {p : Pos} {line : Nat} {env : Env} (hk : env.scope.kind = .function) : swapsWith e (some (.Name t p)) line env = pure (swC env.scope e t p) := by
  have hb : env.blockKind = .function := by unfold Env.blockKind; rw [hk]; rfl
  cases e <;> first | rfl | (unfold swapsWith swC; simp only [hb]; rfl)
def nameTg : Expr → Bool
  | .Name .. => true
  | _ => false
theorem sw_tg {e tg : Expr} {l : Nat} {env : Env} (h : nameTg tg = false) : swapsWithSole [tg] e l env = pure false := by
  show swapsWith e (some tg) l env = _
  cases tg <;> first | (simp [nameTg] at h; done) | (cases e <;> rfl)
def swT (sc : Scope) (tg e : Expr) : Bool := match tg, e with
  | .Tuple ts _ _, .Tuple vs _ _ => (swP ts vs (fun x => sc.names.lookup x) == some none)
  | .List _ _, .Tuple _ _ _ => false
  | _, _ => true
theorem swT_ok {tg e : Expr} {env : Env} (hk : env.scope.kind = .function) (h : swT env.scope tg e = true) : swappedStores [tg] e env = pure none := by
  unfold swT at h
  split at h
  · rw [beq_iff_eq] at h
    exact swP_ok hk h
  · cases h
  · rename_i h1 h2
    unfold swappedStores
    split
    · rename_i ts vs heq
      split at heq
      · next q =>
          injection q with q _
          exact (h1 _ _ _ _ _ _ q rfl).elim
      · next q =>
          injection q with q _
          exact (h2 _ _ _ _ _ q rfl).elim
      · cases heq
    · rfl
section
variable (T : Tab)
def chkR (sc : Scope) : MR → Expr → Bool
  | .val m, e => chkE T sc m e
  | .lst ms, e => match e with
    | .List es _ => decide (ms.length ≤ 1000) && chkEs T sc ms es
    | _ => false
def chkRs (sc : Scope) : List MR → List Expr → Bool
  | [], es => es.isEmpty
  | m :: ms, es => match es with
    | e :: es => noStar e && chkR T sc m e && chkRs sc ms es
    | [] => false
def nmB (sc : Scope) (b : Bool) (i : Nat) (x : Str) : Bool := decide (T.N[i]? = some x) && locB b sc x
def noFreeze : MS → Bool
  | .freeze _ => false
  | _ => true
def excB : MK → Nat → Bool
  | .exc c, d => decide (c = d)
  | _, _ => false
theorem excB_ok {k : MK} {c : Nat} (h : excB k c = true) : k = .exc c := by
  cases k <;> first | (simp [excB] at h; done) | (simp only [excB, decide_eq_true_eq] at h; rw [h])
mutual
def chkS (sc : Scope) : MS → Stmt → Bool
  | .set i r, st => match st with
    | .Assign [.Name x p] e _ => nmB T sc true i x && !swC sc e x p && chkR T sc r e
    | _ => false
  | .setLc i o m, st => match st with
    | .Assign [.Name x p] (.ListComp elt [⟨tg, iter, ifs, 0⟩] scope _) _ => nmB T sc false i x && (match m with
      | .lc own g src tt r => blkW T sc scope (slots T.N own) && noSet iter && (gSl g).all (fun j => decide (j ∈ own)) && chkI T sc tg src iter && chkG T false scope g tg && chkTs T scope tt ifs && chkE T scope r elt
      | _ => false)
    | _ => false
  | .setLs i m, st => match st with
    | .Assign [.Name x p] (.ListComp elt [⟨tg, iter, ifs, 0⟩] scope _) _ => nmB T sc false i x && (match m with
      | .lc own g src tt r => blkW T sc scope (slots T.N own) && noSet iter && (gSl g).all (fun j => decide (j ∈ own)) && chkI T sc tg src iter && chkG T false scope g tg && chkTs T scope tt ifs && chkE T scope r elt
      | _ => false)
    | _ => false
  | .par is rs, st => match st with
    | .Assign [.Tuple [.Name x _, .Name y _] _ _] (.Tuple [a, b] _ _) _ => (match is with
      | [i, j] => nmB T sc false i x && nmB T sc false j y && decide (i ≠ j) && decide (rs.length = 2) && chkRs T sc rs [a, b]
      | _ => false) && (match st with
      | .Assign [.Tuple ts _ _] (.Tuple vs _ _) _ => swP ts vs (fun x => sc.names.lookup x) == some (some [x, y])
      | _ => false)
    | .Assign [.Tuple [.Name x _, .Name y _, .Name z _] _ _] (.Tuple [a, b, c] _ _) _ => (match is with
      | [i, j, l] => nmB T sc false i x && nmB T sc false j y && nmB T sc false l z && decide (i ≠ j) && decide (i ≠ l) && decide (j ≠ l) && decide (rs.length = 3) && chkRs T sc rs [a, b, c]
      | _ => false) && (match st with
      | .Assign [.Tuple ts _ _] (.Tuple vs _ _) _ => swP ts vs (fun x => sc.names.lookup x) == some (some [x, y, z])
      | _ => false)
    | _ => false
  | .asg g m, st => match st with
    | .Assign [tg] e _ => !nameTg tg && swT sc tg e && noStar tg && chkG T true sc g tg && chkE T sc m e
    | _ => false
  | .aug i op m, st => match st with
    | .AugAssign (.Name x _) o e _ => nmB T sc true i x && decide (o = op) && (decide (op = .Add) || decide (op = .Sub)) && chkE T sc m e
    | _ => false
  | .freeze _, _ => false
  | .append i m, st => match st with
    | .Expr (.Call (.Attribute (.Name x _) f apos) [e] [] cpos) _ => decide (f = "append") && decide (T.N[i]? = some x) && visB sc x && nodbg x && nocls x && noStar e && (apos.endLine == cpos.line) && chkE T sc m e
    | _ => false
  | .expr m, st => match st with
    | .Expr e _ => noComp e && chkE T sc m e
    | _ => false
  | .ret m, st => match st with
    | .Return (some e) _ => chkE T sc m e
    | _ => false
  | .retN, st => match st with
    | .Return none _ => true
    | _ => false
  | .ife t a b, st => match st with
    | .If c x y _ => chkT T sc t c && chkSs sc a x && chkSs sc b y
    | _ => false
  | .forr g src b, st => match st with
    | .For tg iter body [] _ => noSet iter && chkI T sc tg src iter && chkG T true sc g tg && chkSs sc b body
    | _ => false
  | .forL g src b, st => match st with
    | .For tg iter body [] _ => noSet iter && chkE T sc src iter && chkG T true sc g tg && chkSs sc b body
    | _ => false
  | .whil t b, st => match st with
    | .While c body [] _ => chkT T sc t c && chkSs sc b body
    | _ => false
  | .brk, st => match st with
    | .Break _ => true
    | _ => false
  | .cont, st => match st with
    | .Continue _ => true
    | _ => false
  | .pass, st => match st with
    | .Pass _ => true
    | _ => false
  | .never, _ => true
  | .raise c f ms, st => match st with
    | .Raise (some (.Call (.Name y _) [e] [] _)) none _ => decide (y = T.nm f) && glB sc y && nodbg y && noStar e && (match T.P.lookup f with
      | some m => excB m.kind c
      | none => false) && (match ms with
      | [m] => chkE T sc m e
      | _ => false)
    | _ => false
  | .setO .., _ => false
  | .ext .., _ => false
  | .insr .., _ => false
def chkSs (sc : Scope) : List MS → List Stmt → Bool
  | [], ss => ss.isEmpty
  | m :: ms, ss => bif noFreeze m then (match ss with
      | s :: ss => chkS sc m s && chkSs sc ms ss
      | [] => false) else chkSs sc ms ss
end
end
section
variable {T : Tab} {cl : Nat → List D → Sto → Out D} {fuel : Nat}
theorem okR {X : Cx} {sc : Scope} (c : Cxu T.nm T.P cl T.gl X) (hN : X.N = T.N) (s : ScR sc X.env.scope) : ∀ (m : MR) (e : Expr), chkR T sc m e = true → PE X e (tRX cl T.gl X m)
  | .val m, e, h => snd_rval (okE c hN s m e h)
  | .lst ms, e, h => by
    simp only [chkR] at h
    split at h
    · simp only [Bool.and_eq_true, decide_eq_true_eq] at h
      exact snd_rlstX h.1 (okEs c hN s ms _ h.2)
    · cases h
theorem okRs {X : Cx} {sc : Scope} (c : Cxu T.nm T.P cl T.gl X) (hN : X.N = T.N) (s : ScR sc X.env.scope) : ∀ (m : List MR) (e : List Expr), chkRs T sc m e = true → PA X e (tRs cl T.gl X.K m)
  | [], es, h => by
    simp only [chkRs, List.isEmpty_iff] at h
    subst h; exact snd_rnil
  | m :: ms, es, h => by
    simp only [chkRs] at h
    split at h
    · simp only [Bool.and_eq_true] at h
      exact snd_rcons h.1.1 (PE.imp (okR c hN s m _ h.1.2) fun _ _ _ q => tR_X q) (okRs c hN s ms _ h.2)
    · cases h
theorem nmB_ok {X : Cx} {b : Bool} {i : Nat} {x : Str} (hN : X.N = T.N) (fc : b = true → ∀ x, X.env.scope.names.lookup x = some .cell → X.fn x = true) (h : nmB T X.env.scope b i x = true) : X.N[i]? = some x ∧ Loc X.env.scope x ∧ (X.fn x = true ∨ X.env.scope.names.lookup x = some .local) := by
  unfold nmB at h
  simp only [Bool.and_eq_true, decide_eq_true_eq] at h
  exact ⟨hN ▸ h.1, loc_ok (ScR.refl _) (fun q x z => ⟨fc q x z, z⟩) h.2⟩
theorem nmB_loc {X : Cx} {i : Nat} {x : Str} (hN : X.N = T.N) (h : nmB T X.env.scope false i x = true) : X.N[i]? = some x ∧ X.env.scope.names.lookup x = some .local := by
  unfold nmB at h
  simp only [Bool.and_eq_true, decide_eq_true_eq] at h
  refine ⟨hN ▸ h.1, ?_⟩
  have h2 := h.2
  unfold locB at h2
  split at h2
  · assumption
  · cases h2
  · cases h2
theorem frz_ok {b a c : Bool} (h : (bif b then a else c) = true) : (b = false ∧ c = true) ∨ (b = true ∧ a = true) := by
  cases b
  · exact .inl ⟨rfl, h⟩
  · exact .inr ⟨rfl, h⟩
theorem snd_bfrz' {X : Cx} {ss : List Stmt} {m : MS} {ms : List MS} (h : noFreeze m = false) (t : PSs X ss (tSb cl T.gl fuel X ms)) : PSs X ss (tSb cl T.gl fuel X (m :: ms)) := by
  cases m <;> first | exact snd_bfrz t | (simp [noFreeze] at h)
mutual
theorem okS {X : Cx} (c : Cxu T.nm T.P cl T.gl X) (hN : X.N = T.N) (hk : X.env.scope.kind = .function) (fc : ∀ x, X.env.scope.names.lookup x = some .cell → X.fn x = true) : ∀ (m : MS) (e : Stmt), chkS T X.env.scope m e = true → PS X e (tSt cl T.gl fuel X m)
  | .set i r, st, h => by
    simp only [chkS] at h
    split at h
    · simp only [Bool.and_eq_true, Bool.not_eq_true'] at h
      obtain ⟨⟨h1, h2⟩, h3⟩ := h
      obtain ⟨q1, q2, q3⟩ := nmB_ok hN (fun _ => fc) h1
      exact snd_set c.toCxt q1 q2 q3 (by rw [swC_ok hk, h2]) (okR c hN (ScR.refl _) r _ h3)
    · cases h
  | .setLc i o m, st, h => by
    simp only [chkS] at h
    split at h
    · rename_i x p elt tg iter ifs scope p2 p3
      simp only [Bool.and_eq_true] at h
      obtain ⟨h1, h⟩ := h
      obtain ⟨q1, q2⟩ := nmB_loc hN h1
      split at h
      · rename_i own g src tt r
        simp only [Bool.and_eq_true, List.all_eq_true, decide_eq_true_eq] at h
        obtain ⟨⟨⟨⟨⟨⟨h1, h2⟩, h3⟩, h4⟩, h5⟩, h6⟩, h7⟩ := h
        obtain ⟨h1, hw⟩ := blkW_ok hN h1
        have b := blkOk_by h1
        have b' : BlkOk X.N X.env.scope scope (slots T.N own) := by rw [hN]; exact b
        have q := snd_setLc (fuel := fuel) (o := o) (py := p) (spos := p3) c.toCxt q1 q2 (swC_ok hk) (okI c hN (ScR.refl _) tg src _ h4) b' (fun s' H C cl' fp => okG (c.blk hw s' H fp) hN (ScR.blk scope X.env) (fun h => by cases h) g _ h5) (fun s' H C cl' fp => okTs (c.blk hw s' H fp) hN (ScR.blk scope X.env) tt _ h6)
          (fun s' H C cl' fp => (okE (c.blk hw s' H fp) hN (ScR.blk scope X.env) r _ h7).e) h2 (by rw [slots_snd]; exact h3) (pos := p2)
        rw [slots_snd] at q
        exact q
      · cases h
    · cases h
  | .setLs i m, st, h => by
    simp only [chkS] at h
    split at h
    · rename_i x p elt tg iter ifs scope p2 p3
      simp only [Bool.and_eq_true] at h
      obtain ⟨h1, h⟩ := h
      obtain ⟨q1, q2⟩ := nmB_loc hN h1
      split at h
      · rename_i own g src tt r
        simp only [Bool.and_eq_true, List.all_eq_true, decide_eq_true_eq] at h
        obtain ⟨⟨⟨⟨⟨⟨h1, h2⟩, h3⟩, h4⟩, h5⟩, h6⟩, h7⟩ := h
        obtain ⟨h1, hw⟩ := blkW_ok hN h1
        have b := blkOk_by h1
        have b' : BlkOk X.N X.env.scope scope (slots T.N own) := by rw [hN]; exact b
        have q := snd_setLs (fuel := fuel) (py := p) (spos := p3) c.toCxt q1 q2 (swC_ok hk) (okI c hN (ScR.refl _) tg src _ h4) b' (fun s' H C cl' fp => okG (c.blk hw s' H fp) hN (ScR.blk scope X.env) (fun h => by cases h) g _ h5) (fun s' H C cl' fp => okTs (c.blk hw s' H fp) hN (ScR.blk scope X.env) tt _ h6)
          (fun s' H C cl' fp => (okE (c.blk hw s' H fp) hN (ScR.blk scope X.env) r _ h7).e) h2 (by rw [slots_snd]; exact h3) (pos := p2)
        rw [slots_snd] at q
        exact q
      · cases h
    · cases h
  | .par is rs, st, h => by
    simp only [chkS] at h
    split at h
    · simp only [Bool.and_eq_true, beq_iff_eq] at h
      obtain ⟨h, h0⟩ := h
      split at h
      · simp only [Bool.and_eq_true, decide_eq_true_eq] at h
        obtain ⟨⟨⟨⟨h1, h2⟩, h3⟩, h4⟩, h5⟩ := h
        obtain ⟨q1, q2⟩ := nmB_loc hN h1
        obtain ⟨q3, q4⟩ := nmB_loc hN h2
        exact snd_par2 c.toCxt q1 q3 h3 q2 q4 (swP_ok hk h0) h4 (okRs c hN (ScR.refl _) rs _ h5)
      · cases h
    · simp only [Bool.and_eq_true, beq_iff_eq] at h
      obtain ⟨h, h0⟩ := h
      split at h
      · simp only [Bool.and_eq_true, decide_eq_true_eq] at h
        obtain ⟨⟨⟨⟨⟨⟨⟨h1, h2⟩, h3⟩, h4⟩, h5⟩, h6⟩, h7⟩, h8⟩ := h
        obtain ⟨q1, q2⟩ := nmB_loc hN h1
        obtain ⟨q3, q4⟩ := nmB_loc hN h2
        obtain ⟨q5, q6⟩ := nmB_loc hN h3
        exact snd_par3 c.toCxt q1 q3 q5 h4 h5 h6 q2 q4 q6 (swP_ok hk h0) h7 (okRs c hN (ScR.refl _) rs _ h8)
      · cases h
    · cases h
  | .asg g m, st, h => by
    simp only [chkS] at h
    split at h
    · simp only [Bool.and_eq_true, Bool.not_eq_true'] at h
      obtain ⟨⟨⟨⟨h1, h2⟩, h3⟩, h4⟩, h5⟩ := h
      exact snd_asg (okE c hN (ScR.refl _) m _ h5).e (okG c hN (ScR.refl _) (fun _ x z => ⟨fc x z, z⟩) g _ h4) (sw_tg h1) (swT_ok hk h2) h3
    · cases h
  | .aug i op m, st, h => by
    simp only [chkS] at h
    split at h
    · simp only [Bool.and_eq_true, Bool.or_eq_true, decide_eq_true_eq] at h
      obtain ⟨⟨⟨h1, rfl⟩, h3⟩, h4⟩ := h
      obtain ⟨q1, q2, q3⟩ := nmB_ok hN (fun _ => fc) h1
      exact snd_aug c.toCxt q1 q2 q3 h3 (okE c hN (ScR.refl _) m _ h4).e
    · cases h
  | .freeze _, st, h => by simp [chkS] at h
  | .append i m, st, h => by
    simp only [chkS] at h
    split at h
    · simp only [Bool.and_eq_true, decide_eq_true_eq] at h
      obtain ⟨⟨⟨⟨⟨⟨⟨rfl, h1⟩, h2⟩, h3⟩, h4⟩, h5⟩, h6⟩, h7⟩ := h
      exact snd_append (hN ▸ h1) (visB_ok (ScR.refl _) h2) (nodbg_ok h3) (nocls_ok h4) h5 h6 (okE c hN (ScR.refl _) m _ h7).e
    · cases h
  | .expr m, st, h => by
    simp only [chkS] at h
    split at h
    · simp only [Bool.and_eq_true] at h
      exact snd_expr h.1 (okE c hN (ScR.refl _) m _ h.2)
    · cases h
  | .ret m, st, h => by
    simp only [chkS] at h
    split at h
    · exact snd_ret (okE c hN (ScR.refl _) m _ h)
    · cases h
  | .retN, st, h => by
    simp only [chkS] at h
    split at h
    · exact snd_retN
    · cases h
  | .ife t a b, st, h => by
    simp only [chkS] at h
    split at h
    · simp only [Bool.and_eq_true] at h
      exact snd_if (okT c hN (ScR.refl _) t _ h.1.1).1 (okSs c hN hk fc a _ h.1.2) (okSs c hN hk fc b _ h.2)
    · cases h
  | .forr g src b, st, h => by
    simp only [chkS] at h
    split at h
    · simp only [Bool.and_eq_true] at h
      obtain ⟨⟨⟨h1, h2⟩, h3⟩, h4⟩ := h
      exact snd_for c.toCxt (okI c hN (ScR.refl _) _ src _ h2) (okG c hN (ScR.refl _) (fun _ x z => ⟨fc x z, z⟩) g _ h3) (okSs c hN hk fc b _ h4) h1
    · cases h
  | .forL g src b, st, h => by
    simp only [chkS] at h
    split at h
    · simp only [Bool.and_eq_true] at h
      obtain ⟨⟨⟨h1, h2⟩, h3⟩, h4⟩ := h
      have pe := (okE c hN (ScR.refl _) src _ h2).e
      exact snd_forL c.toCxt pe (snd_ilst pe) (okG c hN (ScR.refl _) (fun _ x z => ⟨fc x z, z⟩) g _ h3) (okSs c hN hk fc b _ h4) h1
    · cases h
  | .whil t b, st, h => by
    simp only [chkS] at h
    split at h
    · simp only [Bool.and_eq_true] at h
      exact snd_while c.toCxt (okT c hN (ScR.refl _) t _ h.1).1 (okSs c hN hk fc b _ h.2)
    · cases h
  | .brk, st, h => by
    simp only [chkS] at h
    split at h
    · exact snd_brk
    · cases h
  | .cont, st, h => by
    simp only [chkS] at h
    split at h
    · exact snd_cont
    · cases h
  | .pass, st, h => by
    simp only [chkS] at h
    split at h
    · exact snd_pass
    · cases h
  | .never, st, h => snd_never
  | .raise c0 f ms, st, h => by
    simp only [chkS] at h
    split at h
    · simp only [Bool.and_eq_true, decide_eq_true_eq] at h
      obtain ⟨⟨⟨⟨⟨rfl, h2⟩, h3⟩, h4⟩, h5⟩, h6⟩ := h
      split at h5
      · rename_i mf hm
        split at h6
        · exact snd_raise c.toCxt hm (excB_ok h5) (glB_ok (ScR.refl _) h2) (nodbg_ok h3) h4 (okE c hN (ScR.refl _) _ _ h6).e
        · cases h6
      · cases h5
    · cases h
  | .setO .., st, h => by simp [chkS] at h
  | .ext .., st, h => by simp [chkS] at h
  | .insr .., st, h => by simp [chkS] at h
theorem okSs {X : Cx} (c : Cxu T.nm T.P cl T.gl X) (hN : X.N = T.N) (hk : X.env.scope.kind = .function) (fc : ∀ x, X.env.scope.names.lookup x = some .cell → X.fn x = true) : ∀ (m : List MS) (e : List Stmt), chkSs T X.env.scope m e = true → PSs X e (tSb cl T.gl fuel X m)
  | [], ss, h => by
    simp only [chkSs, List.isEmpty_iff] at h
    subst h; exact snd_bnil
  | m :: ms, ss, h => by
    simp only [chkSs] at h
    rcases frz_ok h with ⟨h1, h2⟩ | ⟨_, h2⟩
    · exact snd_bfrz' h1 (okSs c hN hk fc ms _ h2)
    · split at h2
      · simp only [Bool.and_eq_true] at h2
        exact snd_bcons (okS c hN hk fc m _ h2.1) (okSs c hN hk fc ms _ h2.2)
      · cases h2
end
/-! ### the bodies of __init__ -/
def chkIni (T : Tab) (sc : Scope) (c0 : Nat) : List MS → List Stmt → Bool
  | [], ss => ss.isEmpty
  | m :: ms, ss => match m, ss with
    | .setO f e, .Assign [.Attribute (.Name y _) g _] x _ :: ss => decide (T.N[0]? = some y) && visB sc y && nodbg y && nocls y && decide (g = T.nm f) && chkE T sc e x && chkIni T sc c0 ms ss
    | .expr e, .Expr x _ :: ss => noComp x && chkE T sc e x && chkIni T sc c0 ms ss
    | .set i (.val e), .Assign [.Name y p] x _ :: ss => nmB T sc true i y && !swC sc x y p && chkE T sc e x && chkIni T sc c0 ms ss
    | .setLc i false (.lc own g src tt r), .Assign [.Name y p] (.ListComp elt [⟨tg, iter, ifs, 0⟩] scope _) _ :: ss => nmB T sc false i y && (blkW T sc scope (slots T.N own) && noSet iter && (gSl g).all (fun j => decide (j ∈ own)) && chkI T sc tg src iter && chkG T false scope g tg && chkTs T scope tt ifs && chkE T scope r elt) && chkIni T sc c0 ms ss
    | _, _ => false
theorem snd_setLcI {nm : Nat → Str} {P : List (Nat × MF)} {gl : GL} {X : Cx} {i : Nat} {y : Str} {py : Pos} {elt tg iter : Expr} {ifs : List Expr} {scope : Scope} {own : List (Str × Nat)} {pos spos : Pos} {g : MG} {src : MI} {tt : List MT} {e : ME} (c : Cxt nm P cl gl X) (hy : X.N[i]? = some y) (hyl : X.env.scope.names.lookup y = some .local) {sw : Bool}
    (hsw : swapsWith (.ListComp elt [⟨tg, iter, ifs, 0⟩] scope pos) (some (.Name y py)) spos.line X.env = pure sw) (hi : PI X tg iter (tW cl gl X.K src)) (ok : BlkOk X.N X.env.scope scope own)
    (hg : ∀ (s : Shared) (H : Hp) (C : Addr) (cl' : List (Str × Addr)) (fp : List Addr), PG (X.blk s H scope (compEnvC scope cl' C X.env) fp) tg (tG cl gl X.K g)) (ht : ∀ (s : Shared) (H : Hp) (C : Addr) (cl' : List (Str × Addr)) (fp : List Addr), PTs (X.blk s H scope (compEnvC scope cl' C X.env) fp) ifs (tMs cl gl X.K tt))
    (he : ∀ (s : Shared) (H : Hp) (C : Addr) (cl' : List (Str × Addr)) (fp : List Addr), PE (X.blk s H scope (compEnvC scope cl' C X.env) fp) elt (tE cl gl X.K e)) (hs : noSet iter = true) (hsub : ∀ j ∈ gSl g, j ∈ own.map (·.2)) :
    PS X (.Assign [.Name y py] (.ListComp elt [⟨tg, iter, ifs, 0⟩] scope pos) spos) (fun D σ H => tE cl gl X.K (.lc (own.map (·.2)) g src tt e) σ H fun v H1 => D.nx (σ.set i (some v)) H1) := by
  have ps : PS X (.Assign [.Name y py] (.ListComp elt [⟨tg, iter, ifs, 0⟩] scope pos) spos) (tAsg (tLc (tW cl gl X.K src) (tG cl gl X.K g) (tMs cl gl X.K tt) (tE cl gl X.K e) (own.map (·.2))) (gName i)) := by
    cases sw with
    | true => exact ps_setLc c.b.calm c.nd hy hyl hsw hi ok hg ht he (fun x => no_fold hs x)
    | false => exact ps_set c.nd hy (.inl hyl) (pe_lc c.b.calm c.nd hi ok hg ht he (fun x => no_fold hs x)) hsw (.inr hyl)
  exact PS.imp ps fun D σ H h => lc_read hsub σ H _ h
theorem okIni {X : Cx} (c : Cxu T.nm T.P cl T.gl X) (hN : X.N = T.N) (hk : X.env.scope.kind = .function) (fc : ∀ x, X.env.scope.names.lookup x = some .cell → X.fn x = true) {c0 : Nat} (hkc : CA.kc c0 = true) (hfl : (CA.fl c0).length < 900) : ∀ (m : List MS) (e : List Stmt), chkIni T X.env.scope c0 m e = true → PSs X e (tSi cl T.gl fuel X c0 m)
  | [], ss, h => by
    simp only [chkIni, List.isEmpty_iff] at h
    subst h; exact snd_inil
  | m :: ms, ss, h => by
    simp only [chkIni] at h
    split at h
    · rename_i f e y p1 g p2 x p3 ss'
      simp only [Bool.and_eq_true, decide_eq_true_eq] at h
      obtain ⟨⟨⟨⟨⟨⟨h1, h2⟩, h3⟩, h4⟩, rfl⟩, h6⟩, h7⟩ := h
      have q := snd_isetO (fuel := fuel) (f := f) (m := e) (ms := ms) (y := y) (p := p1) (p' := p2) (pos := p3) c.toCxt hkc hfl (hN ▸ h1) (visB_ok (ScR.refl _) h2) (nodbg_ok h3) (nocls_ok h4) (by
        show swapsWith x (some _) _ _ = _
        cases x <;> rfl) (okE c hN (ScR.refl _) e _ h6).e (okIni c hN hk fc hkc hfl ms _ h7)
      rw [c.fnm] at q
      exact q
    · simp only [Bool.and_eq_true] at h
      exact snd_iexpr h.1.1 (okE c hN (ScR.refl _) _ _ h.1.2) (okIni c hN hk fc hkc hfl ms _ h.2)
    · simp only [Bool.and_eq_true, Bool.not_eq_true'] at h
      obtain ⟨⟨⟨h1, h2⟩, h3⟩, h4⟩ := h
      obtain ⟨q1, q2, q3⟩ := nmB_ok hN (fun _ => fc) h1
      exact snd_iset c.toCxt (.inl rfl) (ps_set c.nd q1 q2 (okE c hN (ScR.refl _) _ _ h3).e (by rw [swC_ok hk, h2]) q3) (okIni c hN hk fc hkc hfl ms _ h4)
    · rename_i own g src tt r y p elt tg iter ifs scope p2 p3 ss'
      simp only [Bool.and_eq_true, List.all_eq_true, decide_eq_true_eq] at h
      obtain ⟨⟨h0, ⟨⟨⟨⟨⟨⟨h1, h2⟩, h3⟩, h4⟩, h5⟩, h6⟩, h7⟩⟩, h8⟩ := h
      obtain ⟨q1, q2⟩ := nmB_loc hN h0
      obtain ⟨h1, hw⟩ := blkW_ok hN h1
      have b := blkOk_by h1
      have b' : BlkOk X.N X.env.scope scope (slots T.N own) := by rw [hN]; exact b
      have q := snd_setLcI (py := p) (spos := p3) c.toCxt q1 q2 (swC_ok hk) (okI c hN (ScR.refl _) tg src _ h4) b' (fun s' H C cl' fp => okG (c.blk hw s' H fp) hN (ScR.blk scope X.env) (fun h => by cases h) g _ h5) (fun s' H C cl' fp => okTs (c.blk hw s' H fp) hN (ScR.blk scope X.env) tt _ h6)
          (fun s' H C cl' fp => (okE (c.blk hw s' H fp) hN (ScR.blk scope X.env) r _ h7).e) h2 (by rw [slots_snd]; exact h3) (pos := p2)
      rw [slots_snd] at q
      exact snd_iset c.toCxt (.inr rfl) q (okIni c hN hk fc hkc hfl ms _ h8)
    · cases h
end
end Mn
/-! the defs of a program keep the interpreter's promise -/
namespace Mn
open PySem PySem.Spec PyProof.Rows L2 RZ
variable [CA]
def chkExc (nm : Nat → Str) (gl : GL) (c : Nat) (sc : Scope) (body : List Stmt) : Bool := match gl.fl c, body with
  | [f], [.Assign [.Attribute (.Name y _) g _] (.Name z _) _] => decide (g = nm f) && nodbg y && nocls y && nodbg z && nocls z && fnB [y, z] [y, z] sc
  | _, _ => false
/-- the two names of such an __init__ -/
def excNs (body : List Stmt) : List Str := match body with
  | [.Assign [.Attribute (.Name y _) _ _] (.Name z _) _] => [y, z]
  | _ => []
/-- a def's text and the interpreter's -/
def chkF (nm : Nat → Str) (P : List (Nat × MF)) (gl : GL) (m : MF) (params : Arguments) (body : List Stmt) (scope : Scope) : Bool :=
  plainB params (m.names.take m.ps) && fnB m.names (m.names.take m.ps) scope && decide (m.ps ≤ m.names.length) && match m.kind with
    | .frz c => chkIni ⟨nm, P, gl, m.names⟩ scope c m.body body
    | .sto _ => false
    | .exc c => chkExc nm gl c scope body
    | _ => chkSs ⟨nm, P, gl, m.names⟩ scope m.body body
/-- where a def's text stands, and that it is the interpreter's -/
def DfE (nm : Nat → Str) (P : List (Nat × MF)) (gl : GL) (K : PySem.W.Frag) (m : MF) (fa : Addr) : Prop :=
  ∃ x qual params body scope fd, FunD K x qual params body scope [] [] fa fd ∧ chkF nm P gl m params body scope = true
/-- what stands behind the head -/
structure Mod (nm : Nat → Str) (P : List (Nat × MF)) (gl : GL) (K : PySem.W.Frag) (mg : Str → Option Value) : Prop where
  bi : ∀ c, mg (nBi c) = none
  zip : mg "zip" = none
  enu : mg "enumerate" = none
  bty : ∀ T ∈ (["bool", "dict"] : List String), mg (Str.ofString T) = none
  fl : gl.fl = CA.fl
  fnm : CA.fnm = nm
  cf : ∀ c, CA.kc c = true → CFacts K c
  tk : ∀ c, CA.tc c = true → CA.kc c = true
  fll : ∀ c, (CA.fl c).length < 900
  df : ∀ f m, P.lookup f = some m → match m.kind with
    | .frz c => CA.kc c = true ∧ mg (nm f) = some (.ref (CA.ca c)) ∧ ∃ fi, Mk K (CA.ca c) fi ∧ DfE nm P gl K m fi
    | .sto _ => False
    | .exc c => mg (nm f) = some (.ref (CA.ca c)) ∧ ExcI K c ∧ m.ps ≤ m.names.length
    | k => (k.top = true → mg (nm f) = some (.ref (CA.fa f))) ∧ DfE nm P gl K m (CA.fa f)
  mt : ∀ c m f, gl.m c m = some f → MtF K nm c m f ∧ ∃ mf, P.lookup f = some mf ∧ mf.kind = .met
  pt : ∀ c m f, gl.p c m = some f → PpF K nm c m f ∧ ∃ mf, P.lookup f = some mf ∧ mf.kind = .met
  ct : ∀ c m f, gl.c c m = some f → (CA.tc c = true ∧ mg (nm c) = some (.ref (CA.ca c)) ∧ ∃ mc p, ClX.CRead K (CA.ca c) mc ∧ ClX.CMet K (CA.ca c) mc (nm m) p (CA.fa f)) ∧ ∃ mf, P.lookup f = some mf ∧ mf.kind = .met
  gb : ∀ x d, gl.g x = some d → ∃ v u, mg (nm x) = some u ∧ RelV v u ∧ ∀ F R, Rep K F R v d
  bo : ∀ c, gl.b c = true → PySem.W.findIn K (.ref (CA.ca c)) "__bool__" = some none
  oc : ∀ f, gl.o f = true → ∃ o : OD, o.x = nm f ∧ OutF K mg gl o
  nmk : ∀ f m, P.lookup f = some m → gl.mkr m.names ≠ none → m.kind = .fn
/-- where a def that makes lambdas stands: its code object, its table -/
def MkAt (K : PySem.W.Frag) (base : Heap) (mg : Str → Option Value) (fa : Addr) : Prop := ∀ oc od fd osl, K.lookup fa = some ⟨oc, od, .func fd, osl⟩ → ∃ c Pt, fd.code = .ref c ∧ LamX.TabB base mg c Pt ∧ (Pt, (envOfC fd.qualname default 0 0 .none).qual ++ "<lambda>") ∈ CA.tb ∧ ∀ p ∈ CA.tb, p.1 = Pt → p.2 = (envOfC fd.qualname default 0 0 .none).qual ++ "<lambda>"
section
variable {P : Program} {w : World} {K : PySem.W.Frag} {mg : Str → Option Value} {base : Heap} {k : Nat} {f : Addr} {fd : FuncData} {N ps : List Str} {sp : Sq} {x qual : Str} {params : Arguments} {body : List Stmt} {scope : Scope}
theorem FnG.ofc (F : FunD K x qual params body scope [] [] f fd) (S : FnScope N ps scope) (len : ∀ vs H Q E, sp vs H Q E → vs.length = ps.length)
    (hbody : ∀ (cdv : Value) (A : Around) (outer : List Env) (s : Shared) (H : Hp) (vs : List V) (Q : VK) (E : XK), fd.code = cdv → RoomG k (A.deeper (envOfC qual scope s.heap.objs.size f cdv)) → sp vs H Q E →
      ∃ t, PSs (cxOf (L2.CX P w) P w K mg base N qual scope f cdv A outer s H E) body t ∧ t { nx := fun _ H' => Q .non H', rt := Q } (L2.start N vs) H) : FnG P w K mg base (k + 1) f fd ps sp := by
  obtain ⟨oc, od, dV, kV, doc, pm, an, cdv, ct, osl, e, lk, hcd, _, _⟩ := F.ex
  subst e
  constructor
  · exact len
  intro A outer s H args us vs Q E hr e0 hb r hsp
  have hl := len _ _ _ _ hsp
  have kin := e0.mod.kin.keeps fun b o e => (e0.bs b o e).1
  have lim := e0.mod.nolimit.keeps fun b o e => (e0.bs b o e).1
  have kinds : ∀ y ∈ ps.zip us, scope.names.lookup y.1 = some .local ∨ (scope.names.lookup y.1 = some .cell ∧ ((cellsFrom (s.heap.objs.size + 1) scope.names []).lookup y.1).isSome = true) := by
    rintro ⟨n, v⟩ hy
    exact (S.par n (List.of_mem_zip hy).1).imp id fun q => ⟨q, PySem.W.cellsFrom_some _ _ _ (.inl q)⟩
  refine codeAny_call_function hr.rm.depth (kin _ _ lk) rfl S.co S.gen rfl (PySem.W.codeRec_of kin hcd) (hb _ _ _ _ ?_)
  refine wpAny_newFunctionEnv_cells S.kind kinds fun env he s1 x => ?_
  subst he
  refine ⟨lim.keeps x.toInCall.keep, codeAny_func ?_⟩
  obtain ⟨t, ht, hq⟩ := hbody cdv A outer s H vs Q E rfl ⟨hr.rm.deeper _, hr.gd⟩ hsp
  have I := inv_start (CX := L2.CX P w) (E := E) (cd := cdv) S hr.rm.hd e0 hl r x
  have fin : ∀ {σ' : L2.St} {H' : Hp} {v : V} {u : Value} {s' : Shared}, Inv (cxOf (L2.CX P w) P w K mg base N qual scope f cdv A outer s H E) [] σ' H' s' → RelV v u → Q v H' → CE outer P w H s Q u s' :=
    fun {σ' H' v u s'} J rv q => ⟨v, H', J.os, J.bare, J.base, J.hok, rv, q⟩
  refine wpAny_mono (ht.run [] s1 (L2.start N vs) H _ I hq) (fun fl s' hs => ?_) fun _ _ hs => hs
  cases fl with
  | next =>
    obtain ⟨_, _, J, q⟩ := hs
    exact fin (v := .non) (u := .none) J rfl q
  | ret u =>
    obtain ⟨_, _, _, J, rv, q⟩ := hs
    exact fin J rv q
  | brk =>
    obtain ⟨_, _, _, q⟩ := hs
    exact q.elim
  | cont =>
    obtain ⟨_, _, _, q⟩ := hs
    exact q.elim
end
theorem rep_start {K : PySem.W.Frag} {F H : Hp} {R : List Addr} {vs : List V} {ds : List D} (r : RepAll K F R vs ds) (n : Nat) :
    RelF K F R H (vs.map some ++ List.replicate n none) (ds.map (fun d => some (.val d)) ++ List.replicate n none) := by
  have no : ∀ (i : Nat) (sv : SV), (ds.map (fun d => some (SV.val d)) ++ List.replicate n none)[i]? = some (some sv) → ∃ d, sv = .val d ∧ ds[i]? = some d := by
    intro i sv h
    by_cases hi : i < ds.length
    · rw [List.getElem?_append_left (by simpa using hi)] at h
      rw [List.getElem?_map] at h
      cases e : ds[i]? with
      | none => rw [e] at h; cases h
      | some d => rw [e] at h; cases h; exact ⟨d, rfl, rfl⟩
    · rw [List.getElem?_append_right (by simp; omega), List.getElem?_replicate] at h
      split at h <;> cases h
  refine ⟨by simp [r.length], fun i sv h => ?_, fun i j a h _ => ?_⟩
  · obtain ⟨d, rfl, hd⟩ := no i sv h
    obtain ⟨v, h1, h2⟩ := r.get hd
    refine ⟨v, ?_, h2⟩
    have hi : i < vs.length := (List.getElem?_eq_some_iff.mp h1).1
    rw [List.getElem?_append_left (by simpa using hi), List.getElem?_map, h1]; rfl
  · obtain ⟨sv, h1, h2, _⟩ := h
    obtain ⟨d, rfl, _⟩ := no i sv h1
    cases h2
theorem no_own {vs : List V} {ds : List D} {n : Nat} {i : Nat} {a : Addr} (h : OwnAt (vs.map some ++ List.replicate n none) (ds.map (fun d => some (.val d)) ++ List.replicate n none) i a) : False := by
  obtain ⟨sv, h1, h2, _⟩ := h
  by_cases hi : i < ds.length
  · rw [List.getElem?_append_left (by simpa using hi), List.getElem?_map] at h1
    cases e : ds[i]? with
    | none => rw [e] at h1; cases h1
    | some d => rw [e] at h1; cases h1; cases h2
  · rw [List.getElem?_append_right (by simp; omega), List.getElem?_replicate] at h1
    split at h1 <;> cases h1
section
variable {nm : Nat → Str} {P : List (Nat × MF)} {gl : GL} {K : PySem.W.Frag} {mg : Str → Option Value} {pr : Program} {w : World} {base : Heap}
theorem fn_fx {m : MF} {x qual : Str} {params : Arguments} {body : List Stmt} {scope : Scope} {fa : Addr} {fd : FuncData} (h2 : FunD K x qual params body scope [] [] fa fd) (h3 : chkF nm P gl m params body scope = true) :
    PlainP fd.params (m.names.take m.ps) ∧ fd.defaults = .none ∧ (m.names.take m.ps).Nodup := by
  unfold chkF at h3
  simp only [Bool.and_eq_true, decide_eq_true_eq] at h3
  obtain ⟨⟨⟨c1, c2⟩, c3⟩, c4⟩ := h3
  have S := fnB_ok c2
  have nd : (m.names.take m.ps).Nodup := S.nd.sublist (List.take_sublist _ _)
  obtain ⟨oc, od, dV, kV, doc, pm, an, cdv, ct, osl, e, _, _, dv, _⟩ := h2.ex
  subst e
  refine ⟨plainB_ok c1, ?_, nd⟩
  rcases dv with ⟨_, q⟩ | ⟨q, _⟩
  · exact q
  · exact (q rfl).elim
/-- the promise of an __init__ whose instance is frozen -/
def spI (K : PySem.W.Frag) (cl : Nat → List D → Sto → Out D) (c f : Nat) : Sq := fun vs' H' Q E => ∃ H1 x dx vs F R S ds, vs' = .ref x :: vs ∧ H' = upd (upd H1 dx (.own x)) x (.ins (CA.ca c) dx []) ∧ H1 x = none ∧ H1 dx = none ∧ dx ≠ x ∧
  RelS K F R H1 S ∧ RepAll K F R vs ds ∧ OutG K F R H1 (fun F R _ (v : V) d => v = .ref x ∧ Rep K F R (.ref x) d) (fun _ H2 => Q .non H2) E (cl f ds S)
/-- the defs at level k -/
def FnsAt (nm : Nat → Str) (P : List (Nat × MF)) (gl : GL) (K : PySem.W.Frag) (mg : Str → Option Value) (pr : Program) (w : World) (base : Heap) (fuel k : Nat) : Prop :=
  ∀ (f : Nat) (m : MF), P.lookup f = some m → match m.kind with
    | .frz c => mg (nm f) = some (.ref (CA.ca c)) ∧ ∃ fi fd, Mk K (CA.ca c) fi ∧ PlainP fd.params (m.names.take m.ps) ∧ fd.defaults = .none ∧ (m.names.take m.ps).Nodup ∧ FnG pr w K mg base (6 * k) fi fd (m.names.take m.ps) (spI K (callN P gl fuel k) c f)
    | .sto _ => False
    | .exc c => mg (nm f) = some (.ref (CA.ca c)) ∧ ExcI K c
    | kd => (kd.top = true → mg (nm f) = some (.ref (CA.fa f))) ∧ ∃ fd, PySem.W.keepIn K (.ref (CA.fa f)) = true ∧ PlainP fd.params (m.names.take m.ps) ∧ fd.defaults = .none ∧ (m.names.take m.ps).Nodup ∧
      FnG pr w K mg base (6 * k) (CA.fa f) fd (m.names.take m.ps) (spF K (callN P gl fuel k) f)
theorem frz_len {fuel k : Nat} {f c : Nat} {m : MF} (hf : P.lookup f = some m) (hk : m.kind = .frz c) {ds : List D} {d : D} {S S' : Sto} (hps : m.ps ≤ m.names.length) (h : callN P gl fuel k f ds S = .ok d S') : ds.length + 1 = (m.names.take m.ps).length := by
  cases k with
  | zero => cases h
  | succ k =>
    simp only [callN, hf, hk] at h
    split at h
    · rename_i hl
      rw [List.length_take]; omega
    · cases h
theorem frz_lenX {fuel k : Nat} {f c : Nat} {m : MF} (hf : P.lookup f = some m) (hk : m.kind = .frz c) {ds : List D} {x : D} {S S' : Sto} (hps : m.ps ≤ m.names.length) (h : callN P gl fuel k f ds S = .exc x S') : ds.length + 1 = (m.names.take m.ps).length := by
  cases k with
  | zero => cases h
  | succ k =>
    simp only [callN, hf, hk] at h
    split at h
    · rename_i hl
      rw [List.length_take]; omega
    · cases h
theorem frz_lenG {fuel k : Nat} {f c : Nat} {m : MF} (hf : P.lookup f = some m) (hk : m.kind = .frz c) {ds : List D} {S : Sto} {F H : Hp} {R : List Addr} {β : Type} {Rp : Hp → List Addr → Hp → β → D → Prop} {Q : β → Hp → Prop} {E : XK} (hps : m.ps ≤ m.names.length) (h : OutG K F R H Rp Q E (callN P gl fuel k f ds S)) : ds.length + 1 = (m.names.take m.ps).length := by
  cases e : callN P gl fuel k f ds S with
  | ok d S' => exact frz_len hf hk hps e
  | exc x S' => exact frz_lenX hf hk hps e
  | bad => rw [e] at h; exact h.elim
theorem cx_of {fuel k : Nat} {X : Cx} (M : Mod nm P gl K mg) (ih : FnsAt nm P gl K mg pr w base fuel k) (hX : X.prog = pr ∧ X.w = w ∧ X.K = K ∧ X.mg = mg ∧ X.base = base) (hc : X.calm = true) (hr5 : RoomG (6 * k + 5) X.A) (nd : X.N.Nodup) (px : PassesOwn (model X.prog X.w) X.A X.env X.xe) (hl : ∀ w, gl.mkr X.N = some w → MkrX X)
    (hps : ∀ f m, P.lookup f = some m → m.ps ≤ m.names.length) : Cxu nm P (callN P gl fuel k) gl X := by
  have hr : RoomG (6 * k + 3) X.A := hr5.mono (by omega)
  have hr3 : Room 3 X.A := hr.rm.mono (by omega)
  obtain ⟨rfl, rfl, rfl, rfl, rfl⟩ := hX
  have fns : ∀ Y : Cx, Y.prog = X.prog → Y.w = X.w → Y.K = X.K → Y.mg = X.mg → Y.base = X.base → RoomG (6 * k + 3) Y.A → ∀ f m, P.lookup f = some m → FnE nm (callN P gl fuel k) Y f m := fun Y e1 e2 e3 e4 e5 hrY f m hf => by
    have q := ih f m hf
    unfold FnE
    rw [e3, e4]
    cases hk : m.kind with
    | fn =>
      simp only [hk] at q ⊢
      obtain ⟨h1, fd, h2, h3, h4, h5, h6⟩ := q
      exact ⟨h1, 6 * k, fd, h2, h3, h4, h5, hrY, by rw [e1, e2, e5]; exact h6⟩
    | met =>
      simp only [hk] at q ⊢
      obtain ⟨h1, fd, h2, h3, h4, h5, h6⟩ := q
      exact ⟨h1, 6 * k, fd, h2, h3, h4, h5, hrY, by rw [e1, e2, e5]; exact h6⟩
    | frz c =>
      simp only [hk] at q ⊢
      obtain ⟨h1, fi, fd, h2, h3, h4, h5, h6⟩ := q
      refine ⟨h1, ?_⟩
      unfold MkE
      rw [e1, e2, e3, e4, e5]
      refine ⟨6 * k, fi, fd, _, h2, h6, hrY.mono (by omega), h3, h4, h5, fun vs H Q E h => ?_, fun vs H Q E h => ?_⟩
      · obtain ⟨F, R, S, ds, rs, ra, kk⟩ := h
        intro x dx hx hdx hne
        refine ⟨H, x, dx, vs, F, R, S, ds, rfl, rfl, hx, hdx, hne, rs, ra, ?_⟩
        cases e : callN P gl fuel k f ds S with
        | ok d S' => rw [e] at kk; exact fun F' R' H2 v n r rr => ⟨rfl, kk F' R' H2 _ n r rr.2⟩
        | exc y S' => rw [e] at kk; exact kk
        | bad => rw [e] at kk; exact kk
      · obtain ⟨F, R, S, ds, rs, ra, kk⟩ := h
        rw [ra.length]
        exact frz_lenG hf hk (hps f m hf) kk
    | exc c =>
      simp only [hk] at q ⊢
      exact q
    | sto c =>
      simp only [hk] at q
  refine ⟨⟨⟨M.cf, M.tk, hc, ?_, hr.gd⟩, nd, M.bi, M.zip, M.enu, M.bty, M.fl, M.fnm, fns X rfl rfl rfl rfl rfl hr, M.mt, M.pt, fun c m f h => ?_, M.gb, px, hr3, M.bo⟩, fun w hw _ => ⟨6 * k + 3, hr5, by omega, fns, hl w hw⟩, M.oc⟩
  · have := hr.rm.un
    omega
  · obtain ⟨⟨q1, q2, q3⟩, q4⟩ := M.ct c m f h
    exact ⟨⟨q1, q2, q3⟩, q4⟩
theorem df_ps (M : Mod nm P gl K mg) : ∀ f m, P.lookup f = some m → m.ps ≤ m.names.length := fun f m hf => by
  have q := M.df f m hf
  have go : ∀ fa, DfE nm P gl K m fa → m.ps ≤ m.names.length := fun fa ⟨x, qual, params, body, scope, fd, _, h3⟩ => by
    unfold chkF at h3
    simp only [Bool.and_eq_true, decide_eq_true_eq] at h3
    exact h3.1.2
  cases hk : m.kind with
  | fn => simp only [hk] at q; exact go _ q.2
  | met => simp only [hk] at q; exact go _ q.2
  | frz c => simp only [hk] at q; obtain ⟨_, _, fi, _, q⟩ := q; exact go _ q
  | exc c => simp only [hk] at q; exact q.2.2
  | sto c => simp only [hk] at q
theorem fn_plain {fuel k : Nat} (M : Mod nm P gl K mg) (ih : FnsAt nm P gl K mg pr w base fuel k) {f : Nat} {m : MF} (hf : P.lookup f = some m) (hk : m.kind = .fn ∨ m.kind = .met) {x qual : Str} {params : Arguments} {body : List Stmt} {scope : Scope} {fa : Addr} {fd : FuncData} (h2 : FunD K x qual params body scope [] [] fa fd)
    (h3 : chkF nm P gl m params body scope = true) (hmk : gl.mkr m.names ≠ none → MkAt K base mg fa) : FnG pr w K mg base (6 * k + 6) fa fd (m.names.take m.ps) (spF K (callN P gl fuel (k + 1)) f) := by
  unfold chkF at h3
  simp only [Bool.and_eq_true, decide_eq_true_eq] at h3
  obtain ⟨⟨⟨c1, c2⟩, c3⟩, c4⟩ := h3
  have c4 : chkSs ⟨nm, P, gl, m.names⟩ scope m.body body = true := by rcases hk with hk | hk <;> rw [hk] at c4 <;> exact c4
  have S := fnB_ok c2
  have un : ∀ ds S, callN P gl fuel (k + 1) f ds S = if ds.length = m.ps then (exs (callN P gl fuel k) gl fuel m.body (ds.map (fun d => some (.val d)) ++ List.replicate (m.names.length - m.ps) none) S).bind fun fl S => match fl with
          | .ret d => .ok d S
          | .next _ => .ok .non S
          | .exc x => .exc x S
          | _ => .bad
        else .bad := fun ds S => by
    rcases hk with hk | hk <;> simp only [callN, hf, hk] <;> rfl
  have len : ∀ vs H Q E, spF K (callN P gl fuel (k + 1)) f vs H Q E → vs.length = (m.names.take m.ps).length := fun vs H Q E h => by
    obtain ⟨F, R, S, ds, rs, ra, h⟩ := h
    rw [un] at h
    split at h
    · rename_i hl
      rw [ra.length, hl, List.length_take]; omega
    · exact h.elim
  refine FnG.ofc (k := 6 * k + 5) h2 S len fun cdv A outer s H vs Q E hcd hr h => ?_
  refine ⟨tSb (callN P gl fuel k) gl fuel (cxOf (L2.CX pr w) pr w K mg base m.names qual scope fa cdv A outer s H E) m.body, ?_, ?_⟩
  · have HL : ∀ w0, gl.mkr m.names = some w0 → MkrX (cxOf (L2.CX pr w) pr w K mg base m.names qual scope fa cdv A outer s H E) := fun w' hw => by
      obtain ⟨oc, od, dV, kV, doc, pm, an, cdv', ct, osl, e, lk, _⟩ := h2.ex
      subst e
      obtain ⟨c, Pt, g1, g2, g3, g4⟩ := hmk (by rw [hw]; exact fun z => by cases z) _ _ _ _ lk
      have g1 : cdv' = .ref c := g1
      have hcd : cdv' = cdv := hcd
      subst hcd
      exact ⟨c, Pt, g1, g2, g3, g4⟩
    exact okSs (T := ⟨nm, P, gl, m.names⟩) (X := cxOf (L2.CX pr w) pr w K mg base m.names qual scope fa cdv A outer s H E) (cx_of M ih ⟨rfl, rfl, rfl, rfl, rfl⟩ rfl hr S.nd (passes_of rfl) HL (df_ps M)) rfl S.kind (fun _ _ => rfl) m.body body c4
  · have tk : Takes (cxOf (L2.CX pr w) pr w K mg base m.names qual scope fa cdv A outer s H E) (fun cls d _ H => E cls d H) := takes_of rfl rfl rfl rfl
    obtain ⟨F, R, S, ds, rs, ra, h⟩ := h
    rw [un] at h
    split at h
    · rename_i hl
      have hv : vs.length = m.ps := by rw [ra.length, hl]
      cases e1 : exs (callN P gl fuel k) gl fuel m.body (ds.map (fun d => some (.val d)) ++ List.replicate (m.names.length - m.ps) none) S with
      | exc x S1 => rw [e1] at h; exact h.elim
      | bad => rw [e1] at h; exact h.elim
      | ok fl S1 =>
      rw [e1] at h
      refine ⟨F, R, H, F, R, ds.map (fun d => some (.val d)) ++ List.replicate (m.names.length - m.ps) none, S, fl, S1, ⟨rs, ?_, .refl, ?_⟩, e1, ?_⟩
      · unfold L2.start
        rw [hv]
        exact rep_start ra _
      · intro i a q
        unfold L2.start at q
        rw [hv] at q
        exact (no_own q).elim
      · cases fl with
        | next fr => exact fun F' R' H' σ' md => h F' R' H' .non md.n md.s .non
        | ret d' => exact fun F' R' H' v n r q => h F' R' H' v n r q
        | exc x => exact fun F' R' H' σ cls e n r q => wt_of tk (h F' R' H' cls e n r q)
        | brk _ => exact h.elim
        | cont _ => exact h.elim
    · exact h.elim
theorem fn_init {fuel k : Nat} (M : Mod nm P gl K mg) (ih : FnsAt nm P gl K mg pr w base fuel k) {f c : Nat} {m : MF} (hf : P.lookup f = some m) (hk : m.kind = .frz c) (hkc : CA.kc c = true) {x qual : Str} {params : Arguments} {body : List Stmt} {scope : Scope} {fa : Addr} {fd : FuncData} (h2 : FunD K x qual params body scope [] [] fa fd)
    (h3 : chkF nm P gl m params body scope = true) : FnG pr w K mg base (6 * k + 6) fa fd (m.names.take m.ps) (spI K (callN P gl fuel (k + 1)) c f) := by
  unfold chkF at h3
  simp only [Bool.and_eq_true, decide_eq_true_eq, hk] at h3
  obtain ⟨⟨⟨c1, c2⟩, c3⟩, c4⟩ := h3
  have S := fnB_ok c2
  have len : ∀ vs H Q E, spI K (callN P gl fuel (k + 1)) c f vs H Q E → vs.length = (m.names.take m.ps).length := fun vs H Q E h => by
    obtain ⟨H1, x, dx, vs0, F, R, S, ds, rfl, _, _, _, _, rs, ra, h⟩ := h
    rw [List.length_cons, ra.length]
    exact frz_lenG hf hk c3 h
  refine FnG.ofc (k := 6 * k + 5) h2 S len fun cdv A outer s H vs Q E hcd hr h => ?_
  refine ⟨tSi (callN P gl fuel k) gl fuel (cxOf (L2.CX pr w) pr w K mg base m.names qual scope fa cdv A outer s H E) c m.body, ?_, ?_⟩
  · have HL : ∀ w0, gl.mkr m.names = some w0 → MkrX (cxOf (L2.CX pr w) pr w K mg base m.names qual scope fa cdv A outer s H E) := fun w' hw => by
      have := M.nmk f m hf (by rw [hw]; exact fun z => by cases z)
      rw [hk] at this
      cases this
    exact okIni (T := ⟨nm, P, gl, m.names⟩) (X := cxOf (L2.CX pr w) pr w K mg base m.names qual scope fa cdv A outer s H E) (cx_of M ih ⟨rfl, rfl, rfl, rfl, rfl⟩ rfl hr S.nd (passes_of rfl) HL (df_ps M)) rfl S.kind (fun _ _ => rfl) hkc (M.fll c) m.body body c4
  · have tk : Takes (cxOf (L2.CX pr w) pr w K mg base m.names qual scope fa cdv A outer s H E) (fun cls d _ H => E cls d H) := takes_of rfl rfl rfl rfl
    obtain ⟨H1, x, dx, vs0, F, R, S, ds, rfl, rfl, hx, hdx, hne, rs, ra, h⟩ := h
    simp only [callN, hf, hk] at h
    split at h
    · rename_i hl
      have hv : vs0.length + 1 = m.ps := by rw [ra.length, hl]
      have fx : F x = none := rs.fh.free hx
      have fd' : F dx = none := rs.fh.free hdx
      have nR : ∀ p, H1 p = none → p ∉ R := fun p hp hm => by
        obtain ⟨o, ho⟩ := rs.tr p hm
        rw [hp] at ho; cases ho
      have hx2 : (upd H1 dx (.own x)) x = none := by rw [upd_ne (Ne.symm hne)]; exact hx
      have r1 := rs.lay (o := .own x) fd' (nR dx hdx) (Pln.non hdx)
      have r2 := r1.lay (o := .ins (CA.ca c) dx []) fx (nR x hx) (Pln.non hx2)
      have n2 : Nxt F R H1 F R (upd (upd H1 dx (.own x)) x (.ins (CA.ca c) dx [])) := (Nxt.lay hdx).trans (Nxt.lay hx2)
      have st : L2.start m.names (.ref x :: vs0) = some (.ref x) :: (vs0.map some ++ List.replicate (m.names.length - m.ps) none) := by
        unfold L2.start
        rw [List.length_cons, hv]; rfl
      have rf := rep_start (K := K) (F := F) (H := upd (upd H1 dx (.own x)) x (.ins (CA.ca c) dx [])) ra (m.names.length - m.ps)
      have nown : ∀ i a, ¬ OwnAt (some (V.ref x) :: (vs0.map some ++ List.replicate (m.names.length - m.ps) none)) (none :: (ds.map (fun d => some (SV.val d)) ++ List.replicate (m.names.length - m.ps) none)) i a := by
        rintro i a ⟨sv, q1, q2, q3⟩
        cases i with
        | zero => simp at q1
        | succ i => exact no_own ⟨sv, by simpa using q1, q2, by simpa using q3⟩
      rw [st]
      refine ⟨F, R, H1, F, R, _, S, x, dx, [], ⟨r2, ⟨by simp [rf.len], fun i sv q => ?_, fun i j a q1 q2 => (nown i a q1).elim⟩, n2, fun i a q => (nown i a q).elim⟩, nown, ⟨rfl, fx, fd', nR x hx, nR dx hdx, hx, hdx, [], ?_, .nil⟩, ?_⟩
      · cases i with
        | zero => simp at q
        | succ i =>
          obtain ⟨v, g1, g2⟩ := rf.sl i sv (by simpa using q)
          exact ⟨v, by simpa using g1, g2⟩
      · have a1 : (upd (upd H1 dx (.own x)) x (.ins (CA.ca c) dx [])) dx = some (.own x) := by rw [upd_ne hne]; exact upd_same
        cases hsl : CA.sl c with
        | false => exact ⟨⟨hne, hkc⟩, .inl ⟨hsl, Nat.zero_le _, by rw [List.zip_nil_right]; exact upd_same, a1⟩⟩
        | true => exact ⟨⟨hne, hkc⟩, .inr ⟨hsl, .inl ⟨rfl, upd_same, a1⟩⟩⟩
      · cases e1 : exI (callN P gl fuel k) gl c m.body (none :: (ds.map (fun d => some (.val d)) ++ List.replicate (m.names.length - m.ps) none)) [] S with
        | ok fs S1 => rw [e1] at h; exact fun F' R' H' σ' n r q => h F' R' H' (.ref x) n r ⟨rfl, q⟩
        | exc y S1 => rw [e1] at h; exact fun F' R' H' σ cls e n r q => wt_of tk (h F' R' H' cls e n r q)
        | bad => rw [e1] at h; exact h.elim
    · exact h.elim
theorem all_fns (fuel : Nat) (M : Mod nm P gl K mg) (MK : ∀ f m, P.lookup f = some m → gl.mkr m.names ≠ none → MkAt K base mg (CA.fa f)) : ∀ k : Nat, FnsAt nm P gl K mg pr w base fuel k
  | 0, f, m, hf => by
    have q := M.df f m hf
    have z : ∀ {fa : Addr} {fd : FuncData}, FnG pr w K mg base (6 * 0) fa fd (m.names.take m.ps) (spF K (callN P gl fuel 0) f) := fun {fa fd} => by
      refine ⟨fun vs H Q E h => ?_, fun A outer s H args us vs Q E hr e0 hb r h => ?_⟩ <;>
      · obtain ⟨F, R, S, ds, _, _, h⟩ := h
        exact h.elim
    cases hk : m.kind with
    | fn =>
      simp only [hk] at q ⊢
      obtain ⟨h1, x, qual, params, body, scope, fd, h2, h3⟩ := q
      obtain ⟨q1, q2, q3⟩ := fn_fx h2 h3
      exact ⟨h1, fd, h2.kp, q1, q2, q3, z⟩
    | met =>
      simp only [hk] at q ⊢
      obtain ⟨h1, x, qual, params, body, scope, fd, h2, h3⟩ := q
      obtain ⟨q1, q2, q3⟩ := fn_fx h2 h3
      exact ⟨h1, fd, h2.kp, q1, q2, q3, z⟩
    | frz c =>
      simp only [hk] at q ⊢
      obtain ⟨hkc, h1, fi, mk, x, qual, params, body, scope, fd, h2, h3⟩ := q
      obtain ⟨q1, q2, q3⟩ := fn_fx h2 h3
      refine ⟨h1, fi, fd, mk, q1, q2, q3, fun vs H Q E h => ?_, fun A outer s H args us vs Q E hr e0 hb r h => ?_⟩ <;>
      · obtain ⟨H1, x, dx, vs0, F, R, S, ds, _, _, _, _, _, _, _, h⟩ := h
        exact h.elim
    | exc c => simp only [hk] at q ⊢; exact ⟨q.1, q.2.1⟩
    | sto c => simp only [hk] at q
  | k + 1, f, m, hf => by
    have q := M.df f m hf
    have ih := all_fns fuel M MK k
    have e4 : 6 * (k + 1) = 6 * k + 6 := by omega
    rw [show (6 * (k + 1)) = 6 * k + 6 from e4]
    cases hk : m.kind with
    | fn =>
      simp only [hk] at q ⊢
      obtain ⟨h1, x, qual, params, body, scope, fd, h2, h3⟩ := q
      obtain ⟨q1, q2, q3⟩ := fn_fx h2 h3
      exact ⟨h1, fd, h2.kp, q1, q2, q3, fn_plain M ih hf (.inl hk) h2 h3 (MK f m hf)⟩
    | met =>
      simp only [hk] at q ⊢
      obtain ⟨h1, x, qual, params, body, scope, fd, h2, h3⟩ := q
      obtain ⟨q1, q2, q3⟩ := fn_fx h2 h3
      exact ⟨h1, fd, h2.kp, q1, q2, q3, fn_plain M ih hf (.inr hk) h2 h3 (MK f m hf)⟩
    | frz c =>
      simp only [hk] at q ⊢
      obtain ⟨hkc, h1, fi, mk, x, qual, params, body, scope, fd, h2, h3⟩ := q
      obtain ⟨q1, q2, q3⟩ := fn_fx h2 h3
      exact ⟨h1, fi, fd, mk, q1, q2, q3, fn_init M ih hf hk hkc h2 h3⟩
    | exc c => simp only [hk] at q ⊢; exact ⟨q.1, q.2.1⟩
    | sto c => simp only [hk] at q
end
end Mn
/-! what the top has left, as it is looked at -/
namespace Mn
open PySem PySem.Spec PyProof.Rows L2 RZ He
theorem DefP.funD {K : PySem.W.Frag} {d : DefP} (e : fnP K d.at_ = d.val) (c : d.ok K = true) : ∃ fd, FunD K d.name d.qual d.params d.body d.scope [] [] (pAd K d.at_) fd := by
  obtain ⟨kp, c2⟩ := ba c
  unfold fnP at e
  cases q : K.lookup (pAd K d.at_) with
  | none =>
    rw [q] at c2
    cases c2
  | some o =>
    obtain ⟨oc, od, dt, osl⟩ := o
    rw [q] at c2 e
    cases dt with
    | func fd =>
      obtain ⟨n1, n2, n3, n4, n5, n6, n7, n8, n9, n10, n11, n12, n13, n14, n15⟩ := fd
      have e2 : (some (n1, n2, n3, n4, n5, n6, n7, n15) : FnW) = some (d.name, d.qual, d.params, .stmts d.body, d.scope, mainGlobals, [], builtinsNs) := e
      simp only [Option.some.injEq, Prod.mk.injEq] at e2
      obtain ⟨h1, h2, h3, h4, h5, h6, h7, h8⟩ := e2
      subst h1 h2 h3 h4 h5 h6 h7 h8
      have c3 : (PySem.W.codeIn K n13 d.qual && (dflB K n8 [] && kwdB K n9 [])) = true := c2
      obtain ⟨k1, k2⟩ := ba c3
      obtain ⟨k3, k4⟩ := ba k2
      exact ⟨_, ⟨oc, od, n8, n9, n10, n11, n12, n13, n14, osl, rfl, q, k1, dflB_ok k3, kwdB_ok k4⟩, kp⟩
    | _ => cases c2
theorem oexB_ok {K : PySem.W.Frag} {C : Addr} (h : oexB K C = true) : OexC K C := by
  unfold oexB at h
  obtain ⟨h1, h⟩ := ba h
  obtain ⟨h2, h⟩ := ba h
  obtain ⟨h3, h⟩ := ba h
  obtain ⟨h4, h5⟩ := ba h
  refine ⟨?_, eqO_ok h2, of_decide_eq_true h3, of_decide_eq_true h4, h5⟩
  split at h1
  · rename_i dd cd sl ho
    split at h1
    · rename_i C' bm k0 k1 k2 k3 n k5 hm hs
      obtain ⟨q1, h1⟩ := ba h1
      obtain ⟨q2, h1⟩ := ba h1
      obtain ⟨q3, h1⟩ := ba h1
      obtain ⟨q4, q5⟩ := ba h1
      have q1 := of_decide_eq_true q1
      have q2 := of_decide_eq_true q2
      subst q1 q2
      obtain ⟨nm, bs, mro, ns, qn, hd, sn, sb, ab, col, del⟩ := cd
      dsimp only at hm q3 q4
      subst hm
      have q3 : del = false := by cases del <;> first | rfl | cases q3
      subst q3 q4
      have hsl : sl = #[k0, k1, k2, k3, some (.builtin "ValueError.__new__"), k5] := by
        obtain ⟨l⟩ := sl
        simp only at hs
        rw [hs]
      subst hsl
      exact ⟨nm, qn, ns, bs, bm, sn, sb, ab, col, dd, k0, k1, k2, k3, k5, ho, q5⟩
    · cases h1
  · cases h1
section
variable {L : Lk} {K : PySem.W.Frag}
theorem SaysP.fact (c : SaysP L K) {f : Fa} (h : f ∈ L.fa) : f.ok K = true := by
  have c1 := (ba (show ((L.fa.all fun f => f.ok K) && (L.cd.all (fun d => d.ok L.nm K L.pth) && ((L.xd.all (fun d => d.ok L.nm K) && (othB L K && (nbB L K && toldB L K))) && L.fn.all fun d => d.ok K))) = true from congrArg (fun z : AlD => z.1) c)).1
  exact List.all_eq_true.mp c1 f h
theorem SaysP.cls (c : SaysP L K) {d : CD} (h : d ∈ L.cd) : d.ok L.nm K L.pth = true := by
  have c1 := (ba (ba (show ((L.fa.all fun f => f.ok K) && (L.cd.all (fun d => d.ok L.nm K L.pth) && ((L.xd.all (fun d => d.ok L.nm K) && (othB L K && (nbB L K && toldB L K))) && L.fn.all fun d => d.ok K))) = true from congrArg (fun z : AlD => z.1) c)).2).1
  exact List.all_eq_true.mp c1 d h
theorem SaysP.exc (c : SaysP L K) {d : XD} (h : d ∈ L.xd) : d.ok L.nm K = true := by
  have c1 := (ba (ba (ba (show ((L.fa.all fun f => f.ok K) && (L.cd.all (fun d => d.ok L.nm K L.pth) && ((L.xd.all (fun d => d.ok L.nm K) && (othB L K && (nbB L K && toldB L K))) && L.fn.all fun d => d.ok K))) = true from congrArg (fun z : AlD => z.1) c)).2).2).1
  exact List.all_eq_true.mp (ba c1).1 d h
theorem SaysP.oth (c : SaysP L K) : othB L K = true ∧ nbB L K = true ∧ toldB L K = true := by
  have c1 := (ba (ba (ba (show ((L.fa.all fun f => f.ok K) && (L.cd.all (fun d => d.ok L.nm K L.pth) && ((L.xd.all (fun d => d.ok L.nm K) && (othB L K && (nbB L K && toldB L K))) && L.fn.all fun d => d.ok K))) = true from congrArg (fun z : AlD => z.1) c)).2).2).1
  exact ⟨(ba (ba c1).2).1, ba (ba (ba c1).2).2⟩
theorem SaysP.def_ (c : SaysP L K) {d : DefP} (h : d ∈ L.fn) : ∃ fd, FunD K d.name d.qual d.params d.body d.scope [] [] (pAd K d.at_) fd := by
  have c2 := (ba (ba (ba (show ((L.fa.all fun f => f.ok K) && (L.cd.all (fun d => d.ok L.nm K L.pth) && ((L.xd.all (fun d => d.ok L.nm K) && (othB L K && (nbB L K && toldB L K))) && L.fn.all fun d => d.ok K))) = true from congrArg (fun z : AlD => z.1) c)).2).2).2
  have e : L.fn.map (fun d => fnP K d.at_) = L.fn.map DefP.val := congrArg (fun z : AlD => z.2) c
  obtain ⟨i, hi⟩ := List.getElem?_of_mem h
  have e2 : (L.fn.map fun d => fnP K d.at_)[i]? = (L.fn.map DefP.val)[i]? := by rw [e]
  rw [List.getElem?_map, List.getElem?_map, hi] at e2
  exact DefP.funD (Option.some.inj e2) (List.all_eq_true.mp c2 d h)
end
end Mn
/-! from what is seen to the module behind the law -/
namespace Mn
open PySem PySem.Spec PyProof.Rows L2 RZ He
namespace Md
variable (M : Md)
def isGlo (f : Nat) : Bool := match M.pth f with
  | .glo x => decide (x = M.nm f)
  | _ => false
def isMet (C m : Str) (f : Nat) : Bool := match M.pth f with
  | .met C' m' => decide (C' = C) && decide (m' = m)
  | _ => false
def isProp (C m : Str) (f : Nat) : Bool := match M.pth f with
  | .prop C' m' => decide (C' = C) && decide (m' = m)
  | _ => false
def isCme (C m : Str) (f : Nat) : Bool := match M.pth f with
  | .cme C' m' => decide (C' = C) && decide (m' = m)
  | _ => false
def isMk (f : Nat) : Bool := match M.P.lookup f with
  | some m => match m.kind with
    | .met => true
    | _ => false
  | none => false
def chkP (p : Nat × MF) : Bool := chkF M.nm M.P M.gl p.2 (defArgs (M.src p.1)) (defBody (M.src p.1)) (defScope (M.src p.1)) && match p.2.kind with
  | .fn => M.isGlo p.1
  | .met => true
  | .frz c => (match M.cdO c with
    | some d => d.made
    | none => false) && (decide (M.nm p.1 = M.nm c) && M.isMet (M.nm c) "__init__" p.1)
  | .sto _ => false
  | .exc c => (M.xdO c).isSome && ((M.cdO c).isNone && (decide (M.nm p.1 = M.nm c) && (M.isMet (M.nm c) "__init__" p.1 && (decide (defName (M.src p.1) = "__init__") && (decide (p.2.ps ≤ p.2.names.length) && decide (p.2.names.take p.2.ps = excNs (defBody (M.src p.1))))))))
def chkC (d : CD) : Bool := decide ((d.fl.map M.nm).Nodup) && (decide (d.fl.length < 900) && (d.ms.all (fun m => M.isMet (M.nm d.c) (M.nm m.1) m.2 && (!(d.fl.map M.nm).contains (M.nm m.1) && M.isMk m.2)) &&
  (d.ps.all (fun m => M.isProp (M.nm d.c) (M.nm m.1) m.2 && M.isMk m.2) && d.cs.all (fun m => d.tc && (M.isCme (M.nm d.c) (M.nm m.1) m.2 && M.isMk m.2)))))
def chkG (c : Nat × D) : Bool := match c.2 with
  | .cls x => decide (x = c.1) && (match M.cdO x with
    | some d => d.tc
    | none => false)
  | d => cstOk d
def wordOkB (o : OutD) (c : Nat) (z : Str) : Bool := match wordB o.we o.wfl o.wwd o.ns (kfB M.nm c) (defBody (M.src o.w)) with
  | some (vs, us) => (match blsV vs, strsV us with
    | some bs, some ws => decide (oneWord bs ws = some z)
    | _, _ => false)
  | none => false
def chkX (o : OutD) (p : Nat × Str) : Bool := (M.cdO p.1).isNone && ((match M.xdO p.1 with
  | some x => decide (M.nm x.f = if inV (.str p.2) ((M.od o).on.w1.map V.str) = true then ("index" : Str) else "given")
  | none => false) && (!inV (.str p.2) ((M.od o).on.w2.map V.str) && M.wordOkB o p.1 p.2))
def isAt (f : Nat) (x : Str) : Bool := match M.pth f with
  | .glo y => decide (y = x)
  | _ => false
def chkO : Bool := match M.out with
  | some o => (M.od o).chk && (decide (defName (M.src o.f) = M.nm o.f) && (decide (M.qu o.f = M.nm o.f) && (M.isAt o.f (M.nm o.f) && (M.isAt o.w (M.od o).on.wd && o.xs.all (M.chkX o)))))
  | none => true
def chkM : Bool := M.P.all fun p => (M.gl.mkr p.2.names).isNone || ((match p.2.kind with
  | .fn => true
  | _ => false) && M.mks.any fun q => q.1 == p.1)
def chk : Bool := M.P.all M.chkP && (M.cd.all M.chkC && (M.cs.all M.chkG && (M.chkO && M.chkM)))
variable {M}
theorem cdO_mem {c : Nat} {d : CD} (h : M.cdO c = some d) : d ∈ M.cd ∧ d.c = c := by
  unfold cdO at h
  exact ⟨List.mem_of_find?_eq_some h, by simpa using List.find?_some h⟩
theorem chk_c (h : M.chk = true) {d : CD} (hd : d ∈ M.cd) : M.chkC d = true := by
  unfold chk at h
  exact List.all_eq_true.mp (ba (ba h).2).1 d hd
theorem chk_p (h : M.chk = true) {p : Nat × MF} (hp : p ∈ M.P) : M.chkP p = true := by
  unfold chk at h
  exact List.all_eq_true.mp (ba h).1 p hp
/-- the classes, at their places -/
@[reducible] def ca (h : M.chk = true) (K : PySem.W.Frag) : CA where
  ca c := ga K (M.nm c)
  fa f := pAd K (M.pth f)
  fnm := M.nm
  fl := M.gl.fl
  sl c := match M.cdO c with
    | some d => d.sl
    | none => false
  kc c := (M.cdO c).isSome
  tc c := match M.cdO c with
    | some d => d.tc
    | none => false
  tb := M.mks.map fun p => (tbAd K (pAd K (M.pth p.1)), (envOfC (M.qu p.1) default 0 0 .none).qual ++ "<lambda>")
  nd c := by
    show (List.map M.nm (match M.cdO c with | some d => d.fl | none => match M.xdO c with | some x => [x.f] | none => [])).Nodup
    cases e : M.cdO c with
    | none =>
      cases M.xdO c with
      | none => exact List.nodup_nil
      | some x => simp
    | some d =>
      have q := chk_c h (cdO_mem e).1
      unfold chkC at q
      exact of_decide_eq_true (ba q).1
theorem lookup_mem {α : Type} : ∀ {l : List (Nat × α)} {f : Nat} {m : α}, l.lookup f = some m → (f, m) ∈ l
  | [], _, _, h => by cases h
  | (k, v) :: l, f, m, h => by
    rw [List.lookup_cons] at h
    by_cases e : f = k
    · subst e
      rw [beq_self_eq_true] at h
      cases h
      exact List.mem_cons_self
    · have e' : (f == k) = false := beq_eq_false_iff_ne.mpr e
      rw [e'] at h
      exact List.mem_cons_of_mem _ (lookup_mem h)
theorem isAt_ok {f : Nat} {x : Str} (h : M.isAt f x = true) : M.pth f = .glo x := by
  unfold isAt at h
  split at h
  · rename_i y e; rw [e, of_decide_eq_true h]
  · cases h
theorem wordOkB_ok {o : OutD} {c : Nat} {z : Str} (h : M.wordOkB o c z = true) : ∃ bs ws, wordB o.we o.wfl o.wwd o.ns (kfB M.nm c) (defBody (M.src o.w)) = some (bs.map V.bl, ws.map V.str) ∧ oneWord bs ws = some z := by
  unfold wordOkB at h
  split at h
  · rename_i vs us e
    split at h
    · rename_i bs ws e1 e2
      exact ⟨bs, ws, by rw [e, blsV_ok e1, strsV_ok e2], of_decide_eq_true h⟩
    · cases h
  · cases h
theorem isGlo_ok {f : Nat} (h : M.isGlo f = true) : M.pth f = .glo (M.nm f) := by
  unfold isGlo at h
  split at h
  · rename_i x e; rw [e, of_decide_eq_true h]
  · cases h
theorem isMet_ok {C m : Str} {f : Nat} (h : M.isMet C m f = true) : M.pth f = .met C m := by
  unfold isMet at h
  split at h
  · rename_i x y e; rw [e, of_decide_eq_true (ba h).1, of_decide_eq_true (ba h).2]
  · cases h
theorem isProp_ok {C m : Str} {f : Nat} (h : M.isProp C m f = true) : M.pth f = .prop C m := by
  unfold isProp at h
  split at h
  · rename_i x y e; rw [e, of_decide_eq_true (ba h).1, of_decide_eq_true (ba h).2]
  · cases h
theorem isCme_ok {C m : Str} {f : Nat} (h : M.isCme C m f = true) : M.pth f = .cme C m := by
  unfold isCme at h
  split at h
  · rename_i x y e; rw [e, of_decide_eq_true (ba h).1, of_decide_eq_true (ba h).2]
  · cases h
theorem isMk_ok {f : Nat} (h : M.isMk f = true) : ∃ m, M.P.lookup f = some m ∧ m.kind = .met := by
  unfold isMk at h
  split at h
  · rename_i m e
    split at h
    · exact ⟨m, e, by assumption⟩
    · cases h
  · cases h
section
variable {K : PySem.W.Frag}
theorem slot_ok {C : Addr} {i f : Nat} {nm : Nat → Str} (h : slotB nm K C i f = true) : SlX.Slot1 K C (nm f) (ma K C (nm f)) i := by
  unfold slotB at h
  obtain ⟨h1, h⟩ := ba h
  obtain ⟨h2, h⟩ := ba h
  obtain ⟨h3, h⟩ := ba h
  obtain ⟨h4, h⟩ := ba h
  obtain ⟨h5, h6⟩ := ba h
  exact ⟨eqO_ok h1, eqO_ok h2, of_decide_eq_true h3, of_decide_eq_true h4, of_decide_eq_true h5, of_decide_eq_true h6⟩
theorem mt_ok {C g : Addr} {m : Nat} {nm : Nat → Str} (h : metB nm K C m g = true) : Meth K C (nm m) g := by
  unfold metB at h
  obtain ⟨h1, h⟩ := ba h
  exact ⟨eqO_ok h1, (ba h).1, (ba h).2⟩
theorem mk_ok {C : Addr} (h : mkB K C = true) : Mk K C (ma K C "__init__") := by
  unfold mkB at h
  obtain ⟨h1, h⟩ := ba h
  obtain ⟨h2, h⟩ := ba h
  exact ⟨h1, eqO_ok h2, (ba h).1, (ba h).2⟩
theorem si_ok {C : Addr} (h : siB K C = true) : SlX.SIsi K C := by
  unfold siB at h
  obtain ⟨h1, h⟩ := ba h
  obtain ⟨h2, h⟩ := ba h
  exact ⟨eqO_ok h1, eqO_ok h2, of_decide_eq_true (ba h).1, of_decide_eq_true (ba h).2⟩
theorem cdN {d : CD} {pth : Nat → Pth} {nm : Nat → Str} (h : d.ok nm K pth = true) :
    eqO (PySem.W.nsIn K mainGlobals (nm d.c)) (some (some (.ref (ga K (nm d.c))))) = true ∧
    ((if d.sl then PySem.W.plainGet K (ga K (nm d.c)) Str.empty && (PySem.W.isClsIn K (ga K (nm d.c)) && (PySem.W.plainOver K (ga K (nm d.c)) && (eqO (PySem.W.findIn K (.ref (ga K (nm d.c))) "__setattr__") (some (some (.builtin "object.__setattr__"))) && d.fl.zipIdx.all fun p => slotB nm K (ga K (nm d.c)) p.2 p.1)))
      else (Fa.cls (nm d.c)).ok K && d.fl.all fun f => eqO (PySem.W.findIn K (.ref (ga K (nm d.c))) (nm f)) (some none)) = true) ∧
    (((siB K (ga K (nm d.c)) && eqO (PySem.W.findIn K (.ref (ga K (nm d.c))) "__ne__") (some (some (.builtin "object.__ne__")))) && (!d.tc || tcL.all fun T => decide (PySem.W.kitOne K (.type T) (.ref (ga K (nm d.c))) = some false))) = true) ∧
    ((!d.made || mkB K (ga K (nm d.c))) = true) ∧
    (d.ms.all (fun m => metB nm K (ga K (nm d.c)) m.1 (pAd K (pth m.2))) = true) ∧
    (d.ps.all (fun m => propB nm K (ga K (nm d.c)) m.1 (pAd K (pth m.2))) = true) ∧
    (d.cs.all (fun m => cmeB nm K (ga K (nm d.c)) m.1 (pAd K (pth m.2))) = true) := by
  unfold CD.ok at h
  obtain ⟨h1, h⟩ := ba h
  obtain ⟨h2, h⟩ := ba h
  obtain ⟨h3, h⟩ := ba h
  obtain ⟨h4, h⟩ := ba h
  obtain ⟨h5, h⟩ := ba h
  exact ⟨h1, h2, h3, h4, h5, (ba h).1, (ba h).2⟩
end
end Md
section
variable {M : Md} {K : PySem.W.Frag} {h : Heap} {mg : Str → Option Value}
theorem mod_of (X : K.In h) (G : h.Ns mainGlobals mg) (c : SaysP M.lk K) (ck : M.chk = true) : letI := M.ca ck K; Mod M.nm M.P M.gl K mg := by
  letI := M.ca ck K
  have fr : ∀ x ∈ freeL, mg x = none := fun x hx => free_ok X G (c.fact (f := .free x) (List.mem_append_left _ (List.mem_append_left _ (List.mem_map_of_mem hx))))
  have cm : ∀ {c' : Nat} {d : CD}, M.cdO c' = some d → d ∈ M.cd ∧ d.c = c' := fun e => Md.cdO_mem e
  have cl : ∀ {d : CD}, d ∈ M.cd → d.ok M.nm K M.pth = true := fun hd => c.cls (L := M.lk) hd
  have de : ∀ {f : Nat} {m : MF}, M.P.lookup f = some m → ∃ fd, FunD K (defName (M.src f)) (M.qu f) (defArgs (M.src f)) (defBody (M.src f)) (defScope (M.src f)) [] [] (pAd K (M.pth f)) fd := fun {f m} hf =>
    c.def_ (L := M.lk) (d := ⟨M.pth f, defName (M.src f), M.qu f, defArgs (M.src f), defBody (M.src f), defScope (M.src f)⟩) (by
      show _ ∈ M.fns
      unfold Md.fns
      refine List.mem_append_left _ ?_
      exact List.mem_map_of_mem (f := fun p : Nat × MF => (⟨M.pth p.1, defName (M.src p.1), M.qu p.1, defArgs (M.src p.1), defBody (M.src p.1), defScope (M.src p.1)⟩ : DefP)) (Md.lookup_mem hf))
  have kcO : ∀ {c' : Nat}, CA.kc c' = true → ∃ d, M.cdO c' = some d := fun {c'} hk => Option.isSome_iff_exists.mp hk
  have tcO : ∀ {c' : Nat}, CA.tc c' = true → ∃ d, M.cdO c' = some d ∧ d.tc = true := fun {c'} hk => by
    have hk2 : (match M.cdO c' with | some d => d.tc | none => false) = true := hk
    cases e : M.cdO c' with
    | none => rw [e] at hk2; cases hk2
    | some d => rw [e] at hk2; exact ⟨d, rfl, hk2⟩
  have gc : ∀ {c' : Nat} {d : CD}, M.cdO c' = some d → mg (M.nm c') = some (.ref (ga K (M.nm c'))) := fun e => by
    have q := (Md.cdN (cl (cm e).1)).1
    rw [(cm e).2] at q
    exact PySem.W.mg_of X G (eqO_ok q)
  have flO : ∀ {c' : Nat} {d : CD}, M.cdO c' = some d → CA.fl c' = d.fl := fun {c' d} e => by
    show (match M.cdO c' with | some d => d.fl | none => match M.xdO c' with | some x => [x.f] | none => []) = d.fl
    rw [e]
  refine ⟨fun b => fr _ ?_, fr _ ?_, fr _ ?_, fun T hT => fr _ ?_, rfl, rfl, fun c' hk => ?_, fun c' hk => ?_, fun c' => ?_, fun f m hf => ?_, fun c' m f hm => ?_, fun c' m f hm => ?_, fun c' m f hm => ?_, fun x d hx => ?_, fun c0 hb => ?_, fun f hf => ?_, fun f m hf hm => ?_⟩
  · unfold freeL
    refine List.mem_append_left _ (List.mem_map_of_mem ?_)
    cases b <;> decide
  · unfold freeL; exact List.mem_append_right _ (by simp)
  · unfold freeL; exact List.mem_append_right _ (by simp)
  · unfold freeL
    refine List.mem_append_right _ ?_
    rcases List.mem_cons.mp hT with e | hT
    · subst e; simp
    · rcases List.mem_cons.mp hT with e | hT
      · subst e; simp
      · cases hT
  · obtain ⟨d, e⟩ := kcO hk
    obtain ⟨h1, h2, h3, -⟩ := Md.cdN (cl (cm e).1)
    obtain ⟨_, rfl⟩ := cm e
    refine ⟨fun hs => ?_, fun hs => ?_, ?_, fun ht c2 hk2 hne => ?_, ?_, fun ht T hT => ?_⟩
    · have hs2 : (match M.cdO d.c with | some d => d.sl | none => false) = false := hs
      rw [e] at hs2
      simp only [hs2] at h2
      obtain ⟨h21, h22⟩ := ba h2
      refine ⟨cls_ok h21, fun f hf => ?_⟩
      rw [flO e] at hf
      exact eqO_ok (List.all_eq_true.mp h22 f hf)
    · have hs2 : (match M.cdO d.c with | some d => d.sl | none => false) = true := hs
      rw [e] at hs2
      simp only [hs2, if_true] at h2
      obtain ⟨q1, h2⟩ := ba h2
      obtain ⟨q2, h2⟩ := ba h2
      obtain ⟨q3, h2⟩ := ba h2
      obtain ⟨q4, h2⟩ := ba h2
      refine ⟨⟨q1, q2, q3, eqO_ok q4⟩, fun i f hf => ?_⟩
      rw [flO e] at hf
      exact ⟨_, Md.slot_ok (List.all_eq_true.mp h2 (f, i) (List.mk_mem_zipIdx_iff_getElem?.mpr hf))⟩
    · exact Md.si_ok (ba (ba h3).1).1
    · obtain ⟨d', e', ht⟩ := tcO ht
      rw [e] at e'; cases e'
      obtain ⟨d2, e2⟩ := kcO hk2
      have q := (c.oth (L := M.lk)).1
      unfold othB at q
      have q1 := List.all_eq_true.mp q d (cm e).1
      rw [ht] at q1
      have q2 := List.all_eq_true.mp (show (M.cd.all _) = true from q1) d2 (cm e2).1
      have ec2 := (cm e2).2
      subst ec2
      rcases Bool.or_eq_true_iff.mp q2 with z | z
      · exact (hne (by simpa using z)).elim
      · exact of_decide_eq_true z
    · exact eqO_ok (ba (ba h3).1).2
    · obtain ⟨d', e', ht⟩ := tcO ht
      rw [e] at e'; cases e'
      have h3 := (ba h3).2
      rw [ht, Bool.not_true, Bool.false_or] at h3
      exact of_decide_eq_true (List.all_eq_true.mp h3 T hT)
  · obtain ⟨d, e, _⟩ := tcO hk
    show (M.cdO c').isSome = true
    rw [e]; rfl
  · show (match M.cdO c' with | some d => d.fl | none => match M.xdO c' with | some x => [x.f] | none => []).length < 900
    cases e : M.cdO c' with
    | none =>
      cases M.xdO c' with
      | none => exact Nat.zero_lt_succ _
      | some x => exact Nat.succ_lt_succ (Nat.zero_lt_succ _)
    | some d =>
      have q := Md.chk_c ck (cm e).1
      unfold Md.chkC at q
      exact of_decide_eq_true (ba (ba q).2).1
  · obtain ⟨fd, F⟩ := de hf
    have q := Md.chk_p ck (Md.lookup_mem hf)
    unfold Md.chkP at q
    obtain ⟨q1, q2⟩ := ba q
    have E : ∀ fa, fa = pAd K (M.pth f) → DfE M.nm M.P M.gl K m fa := fun fa e => by rw [e]; exact ⟨_, _, _, _, _, fd, F, q1⟩
    cases hk : m.kind with
    | fn =>
      simp only [hk] at q2 ⊢
      refine ⟨fun _ => ?_, E _ rfl⟩
      have g := glo_ok X G (c.fact (f := .glo (M.nm f)) (List.mem_append_left _ (List.mem_append_right _ (List.mem_append_right _ (List.mem_map.mpr ⟨(f, m), Md.lookup_mem hf, by simp only [hk]⟩)))))
      rw [g]
      show some (Value.ref _) = some (Value.ref (pAd K (M.pth f)))
      rw [Md.isGlo_ok q2]; rfl
    | met => exact ⟨fun h => (by cases h), E _ rfl⟩
    | frz c' =>
      simp only [hk] at q2 ⊢
      obtain ⟨q3, q4⟩ := ba q2
      obtain ⟨q4, q5⟩ := ba q4
      cases e : M.cdO c' with
      | none => rw [e] at q3; cases q3
      | some d =>
        rw [e] at q3
        have w := (Md.cdN (cl (cm e).1)).2.2.2.1
        obtain ⟨_, rfl⟩ := cm e
        have w : mkB K (ga K (M.nm d.c)) = true := by
          have q3 : d.made = true := q3
          rw [q3] at w; exact w
        have qq : M.nm f = M.nm d.c := of_decide_eq_true q4
        refine ⟨?_, ?_, ma K (ga K (M.nm d.c)) "__init__", Md.mk_ok w, E _ ?_⟩
        · show (M.cdO d.c).isSome = true
          rw [e]; rfl
        · rw [qq]; exact gc e
        · rw [Md.isMet_ok q5]; rfl
    | exc c' =>
      simp only [hk] at q2 ⊢
      obtain ⟨q3, q2⟩ := ba q2
      obtain ⟨q3', q2⟩ := ba q2
      obtain ⟨q4, q2⟩ := ba q2
      obtain ⟨q5, q2⟩ := ba q2
      obtain ⟨q6, q2⟩ := ba q2
      obtain ⟨q7, q8⟩ := ba q2
      obtain ⟨x, hx⟩ := Option.isSome_iff_exists.mp q3
      have hx1 : x ∈ M.xd := List.mem_of_find?_eq_some hx
      have hx2 : x.c = c' := by simpa using List.find?_some hx
      subst hx2
      have w := c.exc (L := M.lk) hx1
      unfold XD.ok at w
      obtain ⟨w1, w⟩ := ba w
      obtain ⟨w2, w⟩ := ba w
      obtain ⟨w3, w⟩ := ba w
      obtain ⟨w4, w5⟩ := ba w
      have qq : M.nm f = M.nm x.c := of_decide_eq_true q4
      have efl : CA.fl x.c = [x.f] := by
        show (match M.cdO x.c with | some d => d.fl | none => match M.xdO x.c with | some x => [x.f] | none => []) = [x.f]
        rw [Option.isNone_iff_eq_none.mp q3', hx]
      unfold chkF at q1
      simp only [hk, Bool.and_eq_true, decide_eq_true_eq] at q1
      obtain ⟨⟨⟨k1, k2⟩, k3⟩, k4⟩ := q1
      have efl2 : M.gl.fl x.c = [x.f] := efl
      unfold chkExc at k4
      rw [efl2] at k4
      have hb : ∃ y z p0 g p1 p2 p3, defBody (M.src f) = [.Assign [.Attribute (.Name y p0) g p1] (.Name z p2) p3] := by
        split at k4
        · rename_i hb
          exact ⟨_, _, _, _, _, _, _, hb⟩
        · cases k4
      obtain ⟨y, z, p0, g, p1, p2, p3, hb⟩ := hb
      rw [hb] at k4
      simp only [Bool.and_eq_true, decide_eq_true_eq] at k4
      obtain ⟨⟨⟨⟨⟨g1, g2⟩, g3⟩, g4⟩, g5⟩, g6⟩ := k4
      have ens : m.names.take m.ps = [y, z] := by
        have e8 := of_decide_eq_true q8
        rw [e8, hb]; rfl
      have n1 : (defName (M.src f)) = "__init__" := of_decide_eq_true q6
      refine ⟨?_, ?_, of_decide_eq_true q7⟩
      · rw [qq]
        exact PySem.W.mg_of X G (eqO_ok w1)
      · refine ⟨x.f, ma K (ga K (M.nm x.c)) "__init__", fd, M.qu f, defArgs (M.src f), defBody (M.src f), defScope (M.src f), p0, p1, p2, p3, y, z, efl, oexB_ok w2, eqO_ok w3, eqO_ok w4, of_decide_eq_true w5, ?_, fnB_ok g6, ?_, ?_, nodbg_ok g2, nocls_ok g3, nodbg_ok g4, nocls_ok g5, ?_⟩
        · have F' := F
          rw [n1] at F'
          rw [Md.isMet_ok q5] at F'
          exact F'
        · have pp := plainB_ok k1
          rw [ens] at pp
          obtain ⟨oc, od, dV, kV, doc, pm, an, cdv, ct, osl, e, _⟩ := F.ex
          subst e
          exact pp
        · obtain ⟨oc, od, dV, kV, doc, pm, an, cdv, ct, osl, e, _, _, dv, _⟩ := F.ex
          subst e
          rcases dv with ⟨_, q⟩ | ⟨q, _⟩
          · exact q
          · exact (q rfl).elim
        · rw [hb, g1]; rfl
    | sto c' => simp only [hk] at q2; cases q2
  · have hm2 : (M.cdO c').bind (fun d => d.ms.lookup m) = some f := hm
    cases e : M.cdO c' with
    | none => rw [e] at hm2; cases hm2
    | some d =>
      rw [e] at hm2
      have hm3 : (m, f) ∈ d.ms := Md.lookup_mem hm2
      have q := Md.chk_c ck (cm e).1
      unfold Md.chkC at q
      have q := List.all_eq_true.mp (ba (ba (ba q).2).2).1 _ hm3
      obtain ⟨q1, q2⟩ := ba q
      obtain ⟨q2, q3⟩ := ba q2
      have w := List.all_eq_true.mp (Md.cdN (cl (cm e).1)).2.2.2.2.1 _ hm3
      obtain ⟨_, rfl⟩ := cm e
      refine ⟨⟨?_, Md.mt_ok w, ?_⟩, Md.isMk_ok q3⟩
      · show (M.cdO d.c).isSome = true
        rw [e]; rfl
      · rw [flO e]
        intro hm
        have : (d.fl.map M.nm).contains (M.nm m) = true := List.contains_iff_mem.mpr hm
        rw [this] at q2
        cases q2
  · have hm2 : (M.cdO c').bind (fun d => d.ps.lookup m) = some f := hm
    cases e : M.cdO c' with
    | none => rw [e] at hm2; cases hm2
    | some d =>
      rw [e] at hm2
      have hm3 : (m, f) ∈ d.ps := Md.lookup_mem hm2
      have q := Md.chk_c ck (cm e).1
      unfold Md.chkC at q
      have q := List.all_eq_true.mp (ba (ba (ba (ba q).2).2).2).1 _ hm3
      obtain ⟨q1, q3⟩ := ba q
      have w := List.all_eq_true.mp (Md.cdN (cl (cm e).1)).2.2.2.2.2.1 _ hm3
      obtain ⟨_, rfl⟩ := cm e
      unfold propB at w
      obtain ⟨w1, w⟩ := ba w
      obtain ⟨w2, w⟩ := ba w
      obtain ⟨w3, w⟩ := ba w
      obtain ⟨w4, w5⟩ := ba w
      refine ⟨⟨?_, w1, _, eqO_ok w2, eqO_ok w3, of_decide_eq_true w4, ?_⟩, Md.isMk_ok q3⟩
      · show (M.cdO d.c).isSome = true
        rw [e]; rfl
      · split at w5
        · rename_i g rest er
          refine ⟨rest, ?_⟩
          rw [show CA.fa f = g from (of_decide_eq_true w5).symm]
          exact er
        · cases w5
  · have hm2 : (M.cdO c').bind (fun d => d.cs.lookup m) = some f := hm
    cases e : M.cdO c' with
    | none => rw [e] at hm2; cases hm2
    | some d =>
      rw [e] at hm2
      have hm3 : (m, f) ∈ d.cs := Md.lookup_mem hm2
      have q := Md.chk_c ck (cm e).1
      unfold Md.chkC at q
      have q := List.all_eq_true.mp (ba (ba (ba (ba q).2).2).2).2 _ hm3
      obtain ⟨q0, q1⟩ := ba q
      obtain ⟨q1, q3⟩ := ba q1
      have w := List.all_eq_true.mp (Md.cdN (cl (cm e).1)).2.2.2.2.2.2 _ hm3
      obtain ⟨_, rfl⟩ := cm e
      unfold cmeB at w
      obtain ⟨w1, w⟩ := ba w
      obtain ⟨w2, w⟩ := ba w
      obtain ⟨w3, w⟩ := ba w
      obtain ⟨w4, w5⟩ := ba w
      refine ⟨⟨?_, gc e, .type "type", ma K (ga K (M.nm d.c)) (M.nm m), ⟨w1, eqO_ok w2⟩, ⟨?_, ?_, w5⟩⟩, Md.isMk_ok q3⟩
      · show (match M.cdO d.c with | some d => d.tc | none => false) = true
        rw [e]; exact q0
      · show PySem.W.findCls K (.ref (ga K (M.nm d.c))) (.type "type") (M.nm m) = some (.get (.builtin "classmethod.__get__") (.ref (ma K (ga K (M.nm d.c)) (M.nm m))) .none (.ref (ga K (M.nm d.c))))
        split at w3
        · rename_i a p o ww ef
          obtain ⟨z1, w3⟩ := ba w3
          obtain ⟨z2, w3⟩ := ba w3
          obtain ⟨z3, z4⟩ := ba w3
          rw [ef, of_decide_eq_true z1, of_decide_eq_true z2, of_decide_eq_true z3, of_decide_eq_true z4]
        · cases w3
      · split at w4
        · rename_i g rest er
          refine ⟨rest, ?_⟩
          rw [show CA.fa f = g from (of_decide_eq_true w4).symm]
          exact er
        · cases w4
  · have hx2 : M.cs.lookup x = some d := hx
    have hm := Md.lookup_mem hx2
    have ok : M.chkG (x, d) = true := by
      unfold Md.chk at ck
      exact List.all_eq_true.mp (ba (ba (ba ck).2).2).1 _ hm
    have fact := c.fact (f := faC (M.nm x) d) (List.mem_append_left _ (List.mem_append_right _ (List.mem_append_left _ (List.mem_map.mpr ⟨(x, d), hm, rfl⟩))))
    cases d with
    | int i =>
      obtain ⟨t, e⟩ := He.int_ok X G fact
      exact ⟨.int i, _, e, ⟨t, rfl⟩, fun F R => .int i⟩
    | str z =>
      obtain ⟨t, e⟩ := He.str_ok X G fact
      exact ⟨.str z, _, e, ⟨t, rfl⟩, fun F R => .str z⟩
    | cls c0 =>
      simp only [Md.chkG, Bool.and_eq_true, decide_eq_true_eq] at ok
      obtain ⟨rfl, ok⟩ := ok
      have g := glo_ok X G fact
      exact ⟨.ref (CA.ca c0), _, g, rfl, fun F R => .cls c0 ok⟩
    | _ => simp [Md.chkG, cstOk] at ok
  · have q := (c.oth (L := M.lk)).2.1
    unfold nbB at q
    exact eqO_ok (List.all_eq_true.mp q c0 (List.contains_iff_mem.mp hb))
  · have hf2 : (match M.out with | some o => decide (o.f = f) | none => false) = true := hf
    cases eo : M.out with
    | none => rw [eo] at hf2; cases hf2
    | some o =>
      rw [eo] at hf2
      obtain rfl := of_decide_eq_true hf2
      have q : M.chkO = true := by unfold Md.chk at ck; exact (ba (ba (ba (ba ck).2).2).2).1
      unfold Md.chkO at q
      rw [eo] at q
      obtain ⟨q1, q⟩ := ba q
      obtain ⟨q2, q⟩ := ba q
      obtain ⟨q3, q⟩ := ba q
      obtain ⟨q4, q⟩ := ba q
      obtain ⟨q5, q6⟩ := ba q
      have q2 := of_decide_eq_true q2
      have q3 := of_decide_eq_true q3
      have q4 := Md.isAt_ok q4
      have q5 := Md.isAt_ok q5
      have fo : ∀ {x : Str}, He.Fa.glo x ∈ M.fasO → mg x = some (.ref (ga K x)) := fun hx => glo_ok X G (c.fact (f := .glo _) (List.mem_append_right _ hx))
      have eF : M.fasO = .glo (M.nm o.f) :: .glo (M.od o).on.wd :: .glo (M.od o).on.x1 :: .glo (M.od o).on.x2 :: .glo (M.od o).on.x3 :: o.ns.map .glo := by unfold Md.fasO; rw [eo]
      have eD : M.fnsO = [M.defP o.f, M.defP o.w] := by unfold Md.fnsO; rw [eo]
      rw [eF] at fo
      have dF := c.def_ (L := M.lk) (d := M.defP o.f) (show _ ∈ M.fns from List.mem_append_right _ (by rw [eD]; exact List.mem_cons_self))
      have dW := c.def_ (L := M.lk) (d := M.defP o.w) (show _ ∈ M.fns from List.mem_append_right _ (by rw [eD]; exact List.mem_cons_of_mem _ List.mem_cons_self))
      have tl := (c.oth (L := M.lk)).2.2
      unfold toldB at tl
      have eX : M.lk.ox = some ⟨(M.od o).on.x1, (M.od o).on.x2, (M.od o).on.x3, o.ns, o.xs.map fun p : Nat × Str => p.1⟩ := by
        show (match M.out with | some o => some (⟨(M.od o).on.x1, (M.od o).on.x2, (M.od o).on.x3, o.ns, o.xs.map fun p : Nat × Str => p.1⟩ : OL) | none => none) = _
        rw [eo]
      rw [eX] at tl
      refine ⟨M.od o, rfl, q1, fr _ (by unfold freeL; exact List.mem_append_left _ (List.mem_map_of_mem (f := nBi) (a := .repr) (by decide))), fr _ (by unfold freeL; exact List.mem_append_left _ (List.mem_map_of_mem (f := nBi) (a := .isinst) (by decide))), ?_, ?_, ga K (M.od o).on.x1, ga K (M.od o).on.x2, ga K (M.od o).on.x3, fo (by simp), fo (by simp), fo (by simp), fun c' z hw => ?_⟩
      · obtain ⟨fd, F⟩ := dF
        refine ⟨ga K (M.nm o.f), fd, (fo (x := M.nm o.f) List.mem_cons_self : mg (M.nm o.f) = _), ?_⟩
        have F : FunD K (defName (M.src o.f)) (M.qu o.f) (defArgs (M.src o.f)) (defBody (M.src o.f)) (defScope (M.src o.f)) [] [] (pAd K (M.pth o.f)) fd := F
        rw [q2, q3, q4] at F
        exact F
      · obtain ⟨fd, F⟩ := dW
        refine ⟨ga K (M.od o).on.wd, fd, fo (by simp), ?_⟩
        have F : FunD K (defName (M.src o.w)) (M.qu o.w) (defArgs (M.src o.w)) (defBody (M.src o.w)) (defScope (M.src o.w)) [] [] (pAd K (M.pth o.w)) fd := F
        rw [q5] at F
        exact F
      · have hw2 : (match M.out with | some o => o.xs.lookup c' | none => none) = some z := hw
        rw [eo] at hw2
        have hm := Md.lookup_mem hw2
        have cx := List.all_eq_true.mp q6 _ hm
        unfold Md.chkX at cx
        obtain ⟨x1, cx⟩ := ba cx
        obtain ⟨x2, cx⟩ := ba cx
        obtain ⟨x3, x4⟩ := ba cx
        obtain ⟨bs, ws, g1, g2⟩ := Md.wordOkB_ok x4
        have t1 := List.all_eq_true.mp tl c' (List.mem_map.mpr ⟨_, hm, rfl⟩)
        unfold told1 at t1
        obtain ⟨t1, t2⟩ := ba t1
        obtain ⟨t2, t3⟩ := ba t2
        obtain ⟨t3, t4⟩ := ba t3
        obtain ⟨t4, t5⟩ := ba t4
        obtain ⟨E1, E2⟩ := excCB_ok t1
        refine ⟨E1, E2, eqO_ok t2, eqO_ok t3, of_decide_eq_true t4, ⟨kfB M.nm c', bs, ws, fun n hn => ⟨ga K n, fo (by simp only [List.mem_cons, List.mem_map]; exact .inr (.inr (.inr (.inr (.inr ⟨n, hn, rfl⟩))))), of_decide_eq_true (List.all_eq_true.mp t5 n hn)⟩, g1, g2⟩, ?_, by simpa using x3⟩
        split at x2
        · rename_i x hx
          refine ⟨x.f, ?_, of_decide_eq_true x2⟩
          show (match M.cdO c' with | some d => d.fl | none => match M.xdO c' with | some x => [x.f] | none => []) = [x.f]
          rw [Option.isNone_iff_eq_none.mp x1, hx]
        · cases x2
  · have q : M.chkM = true := by unfold Md.chk at ck; exact (ba (ba (ba (ba ck).2).2).2).2
    unfold Md.chkM at q
    have q := List.all_eq_true.mp q _ (Md.lookup_mem hf)
    rcases Bool.or_eq_true_iff.mp q with z | z
    · exact (hm (Option.isNone_iff_eq_none.mp z)).elim
    · have z := (ba z).1
      cases hk : m.kind <;> simp only [hk] at z <;> first | rfl | cases z
theorem nodup_inj {α β : Type} {f : α → β} : ∀ {l : List α}, (l.map f).Nodup → ∀ {x y : α}, x ∈ l → y ∈ l → f x = f y → x = y
  | [], _, _, _, h, _, _ => by cases h
  | a :: l, nd, x, y, hx, hy, e => by
    rw [List.map_cons, List.nodup_cons] at nd
    rcases List.mem_cons.mp hx with e1 | hx
    · rcases List.mem_cons.mp hy with e2 | hy
      · rw [e1, e2]
      · exact (nd.1 (List.mem_map.mpr ⟨y, hy, by rw [← e, e1]⟩)).elim
    · rcases List.mem_cons.mp hy with e2 | hy
      · exact (nd.1 (List.mem_map.mpr ⟨x, hx, by rw [e, e2]⟩)).elim
      · exact nodup_inj nd.2 hx hy e
/-- the makers of lambdas -/
theorem mk_at {base : Heap} (c : SaysP M.lk K) (m : MksAt M.lk K h) (ck : M.chk = true) (tb : ∀ p ∈ M.mks, LamX.TabB base mg (cdAd K (pAd K (M.pth p.1))) (tbAd K (pAd K (M.pth p.1)))) : letI := M.ca ck K; ∀ f mf, M.P.lookup f = some mf → M.gl.mkr mf.names ≠ none → MkAt K base mg (CA.fa f) := by
  letI := M.ca ck K
  intro f mf hf hm oc od fd osl lk
  have q : M.chkM = true := by unfold Md.chk at ck; exact (ba (ba (ba (ba ck).2).2).2).2
  unfold Md.chkM at q
  have q := List.all_eq_true.mp q _ (Md.lookup_mem hf)
  have q : (M.mks.any fun q => q.1 == f) = true := by
    rcases Bool.or_eq_true_iff.mp q with z | z
    · exact (hm (Option.isNone_iff_eq_none.mp z)).elim
    · exact (ba z).2
  obtain ⟨p, hp, e⟩ := List.any_eq_true.mp q
  have e : p.1 = f := by simpa using e
  subst e
  obtain ⟨fd', F⟩ := c.def_ (L := M.lk) (d := M.defP p.1) (show _ ∈ M.fns from List.mem_append_left _ (List.mem_map.mpr ⟨_, Md.lookup_mem hf, rfl⟩))
  obtain ⟨oc', od', dV, kV, doc, pm, an, cdv, ct, osl', e1, lk', hcd, _, _⟩ := F.ex
  subst e1
  have lk : K.lookup (pAd K (M.pth p.1)) = some ⟨oc, od, .func fd, osl⟩ := lk
  have lk' : K.lookup (pAd K (M.pth p.1)) = some ⟨oc', od', .func (PySem.W.fnOf (defName (M.src p.1)) (M.qu p.1) (defArgs (M.src p.1)) (defBody (M.src p.1)) (defScope (M.src p.1)) dV kV doc pm an cdv ct), osl'⟩ := lk'
  rw [lk] at lk'
  have ef : fd = PySem.W.fnOf (defName (M.src p.1)) (M.qu p.1) (defArgs (M.src p.1)) (defBody (M.src p.1)) (defScope (M.src p.1)) dV kV doc pm an cdv ct := by
    simp only [Option.some.injEq, Obj.mk.injEq, Data.func.injEq] at lk'
    exact lk'.2.2.1
  obtain ⟨cc, ec⟩ := He.codeIn_ref hcd
  have eA : cdAd K (pAd K (M.pth p.1)) = cc := by
    unfold cdAd
    rw [lk, ef, ec]
  have t := tb p hp
  rw [eA] at t
  refine ⟨cc, tbAd K (pAd K (M.pth p.1)), by rw [ef, ec], t, ?_, fun p' hp' e' => ?_⟩
  · rw [ef]
    exact List.mem_map.mpr ⟨p, hp, rfl⟩
  · obtain ⟨p2, h2, rfl⟩ := List.mem_map.mp hp'
    have : p2.1 = p.1 := nodup_inj m.nd (List.mem_map.mpr ⟨p2, h2, rfl⟩) (List.mem_map.mpr ⟨p, hp, rfl⟩) e'
    rw [ef, this]
end
end Mn
/-! from the interpreter to the law -/
namespace Mn
open PySem PySem.Spec PyProof.Rows L2 RZ
/-- an empty table of code objects -/
def eTab : Obj := { cls := .none, data := .fields #[] }
/-- what is told of the makers' code objects and their tables ahead of the call -/
structure CsAt (K : PySem.W.Frag) (mg : Str → Option Value) (h : Heap) (cs : List (Addr × Addr)) : Prop where
  em : ∀ p ∈ cs, h.get? p.2 = some eTab
  out : ∀ p ∈ cs, K.lookup p.2 = none
  hd : ∀ p ∈ cs, PySem.W.codeHdIn K p.1 p.2 = true
  bm : ∃ (m : Addr) (o : Obj), mg "__builtins__" = some (.ref m) ∧ m ≠ builtinsNs ∧ h.get? m = some o ∧ o.cls = .type "module" ∧ o.dict = some builtinsNs ∧ o.data = .plain
/-- the heap ahead of the call: at most the script and the tables are watched -/
theorem call_core {P : Program} {w : World} {K : PySem.W.Frag} {mg mb : Str → Option Value} {k : Nat} {fa a : Addr} {fd : FuncData} {x : Str} {sp : Sq} {t : Shared} {us : List Value} {H : Hp} {cs : List (Addr × Addr)}
    (kin : K.In t.heap) (gns : t.heap.Ns mainGlobals mg) (bns : t.heap.Ns builtinsNs mb) (boot : ∀ y : Str, y ≠ "__name__" → mb y = bootBuiltins y) (lim : t.heap.NoLimit) (gen : t.gens = #[]) (CS : CsAt K mg t.heap cs)
    (at_ : t.heap.get? a = some { cls := .type "list", data := .seq us.toArray }) (room : Room k callerA)
    (keeps : ∀ base : Heap, K.In base → base.Ns mainGlobals mg → (∀ p ∈ cs, LamX.TabB base mg p.1 p.2) → FnG P w K mg base k fa fd [x] sp) (bind : ∀ (s : Shared) (u : Value), BindsTo s fd ⟨[u], []⟩ [(x, u)])
    (hsp : sp [.ref a] H (fun v _ => v = .bl true) fun _ _ _ => False) (hok : HOk P w H t.heap) (one : ∀ b u, H b = some u → (b = a ∧ ∃ ob zs, u = .frz ob (.lst zs)) ∨ ((∃ p ∈ cs, p.2 = b) ∧ u = .tbl #[])) (out : H a ≠ none → K.lookup a = none) :
    codeAny (model P w) callerA (.call (.ref fa) ⟨[.ref a], []⟩) (fun r t' => r = .ok (.ret (.bool true)) ∧ OldK t.heap t'.heap ∧ t'.os = t.os ∧ AllBare t'.gens) t := by
  have other : ∀ {b : Addr} {o : Obj}, t.heap.get? b = some o → (b = a → False) → (o = eTab → False) → (hidT t.heap H).get? b = some o := fun {b o} e ne nt => by
    refine hidT_get e ?_
    cases q : H b with
    | none => rfl
    | some u =>
      rcases one b u q with ⟨z, _⟩ | ⟨⟨p, hp, z⟩, _⟩
      · exact (ne z).elim
      · have := CS.em p hp
        rw [z, e] at this
        exact (nt (Option.some.inj this)).elim
  have notA : ∀ {b : Addr} {o : Obj}, t.heap.get? b = some o → (∀ c, o.cls ≠ .type "list" ∨ o.data ≠ .seq c) → b = a → False := fun {b o} e n z => by
    rw [z, at_] at e
    cases e
    exact (n us.toArray).elim (fun q => q rfl) fun q => q rfl
  have space : ∀ {b : Addr} {m : Str → Option Value}, t.heap.Ns b m → (hidT t.heap H).Ns b m := fun {b m} h => by
    obtain ⟨o, es, ep, e, d, r⟩ := h
    refine ⟨o, es, ep, other e (notA e fun c => .inr (by rw [d]; exact fun z => by cases z)) (fun z => by rw [z] at d; cases d), d, r⟩
  have kbase : K.In (hidT t.heap H) := fun b o e => by
    refine hidT_get (kin b o e) ?_
    cases q : H b with
    | none => rfl
    | some u =>
      rcases one b u q with ⟨z, _⟩ | ⟨⟨p, hp, z⟩, _⟩
      · rw [z] at q e
        rw [out (by rw [q]; exact fun z => by cases z)] at e
        cases e
      · rw [← z, CS.out p hp] at e
        cases e
  have md : L2.Mod K mg (hidT t.heap H) := ⟨kbase, space gns, ⟨mb, space bns, boot⟩, by obtain ⟨mc, l1, l2⟩ := lim; exact ⟨mc, space l1, l2⟩⟩
  have tabs : ∀ p ∈ cs, LamX.TabB (hidT t.heap H) mg p.1 p.2 := fun p hp => by
    refine LamX.TabB.mk (PySem.W.codeHd_of_K kbase (CS.hd p hp)) ?_ fun z => ?_
    · obtain ⟨m, o, b1, b2, b3, b4, b5, b6⟩ := CS.bm
      refine ⟨m, o, b1, b2, fun z => ?_, fun z => ?_, other b3 (notA b3 fun c => .inl (by rw [b4]; decide)) (fun z => by rw [z] at b4; cases b4), b4, b5, b6⟩
      · obtain ⟨o2, es, ep, e, d, _⟩ := gns
        rw [z, e] at b3
        cases b3
        rw [d] at b6
        cases b6
      · rw [z, CS.em p hp] at b3
        cases b3
        cases b4
    · obtain ⟨o2, es, ep, e, d, _⟩ := gns
      rw [z, CS.em p hp] at e
      cases e
      cases d
  have en : Env0 P w K mg (hidT t.heap H) callerA [] t H := ⟨rfl, md, fun b o e => of_hidT e, Nat.le_of_eq (hidT_size _ _), trivial, (fun b hb => by cases hb), hok, AllBare.of_eq gen⟩
  refine codeAny_mono ((keeps _ kbase (space gns) tabs).run callerA [] t H ⟨[.ref a], []⟩ [.ref a] [.ref a] _ _ ⟨room, rfl⟩ en (bind t (.ref a)) (.cons rfl .nil) hsp) fun r t' h => ?_
  match r, h with
  | .ok (.ret u), h =>
    obtain ⟨v, H', os, bare, un, hok', rv, (rfl : v = .bl true)⟩ := h
    obtain rfl : u = Value.bool true := rv
    have plain : ∀ b o, t.heap.get? b = some o → t'.heap.get? b = some o ∨ ∃ p ∈ cs, p.2 = b ∧ H b = some (.tbl #[]) := fun b o e => by
      cases q : H b with
      | none => exact .inl (un.keep b o e q (fun m => by cases m) fun m => by cases m)
      | some u =>
        rcases one b u q with ⟨_, ob, zs, rfl⟩ | ⟨⟨p, hp, z⟩, rfl⟩
        · have e1 := (hok b _ q).1
          have e2 := (hok' b _ (un.frzs b ob _ q)).1
          exact .inl (e2.trans (e1.symm.trans e))
        · exact .inr ⟨p, hp, z, rfl⟩
    have grew : ∀ p ∈ cs, H p.2 = some (.tbl #[]) → ∃ more : Array Value, t'.heap.get? p.2 = some { cls := .none, data := .fields more } := fun p _ q => by
      obtain ⟨more, z⟩ := un.tbls p.2 #[] q
      exact ⟨_, hok' p.2 _ z⟩
    refine ⟨rfl, ⟨fun b o e => ?_, fun b o e => ?_⟩, os, bare⟩
    · rcases plain b o e with z | ⟨p, hp, z, q⟩
      · exact .inl z
      · subst z
        obtain ⟨more, hm⟩ := grew p hp q
        have e0 := CS.em p hp
        rw [e0] at e
        cases e
        exact .inr (.inl ⟨((PySem.W.codeHd_of_K kin (CS.hd p hp)).tab e0).isCodeTable, rfl, #[], more, rfl, by rw [Array.empty_append]; exact hm⟩)
    · rcases plain b o e with z | ⟨p, hp, z, q⟩
      · exact ⟨o, z⟩
      · subst z
        obtain ⟨more, hm⟩ := grew p hp q
        exact ⟨_, hm⟩
  | .ok .next, h => exact h.elim
  | .ok .brk, h => exact h.elim
  | .ok .cont, h => exact h.elim
  | .error e, h =>
    obtain ⟨_, _, _, _, _, _, _, _, _, _, _, _, z⟩ := h
    exact z.elim
theorem call_law {P : Program} {w : World} {K : PySem.W.Frag} {mg mb : Str → Option Value} {k : Nat} {fa a : Addr} {fd : FuncData} {x : Str} {sp : Sq} {t : Shared} {us : List Value} {js : List Int} {cs : List (Addr × Addr)}
    (kin : K.In t.heap) (gns : t.heap.Ns mainGlobals mg) (bns : t.heap.Ns builtinsNs mb) (boot : ∀ y : Str, y ≠ "__name__" → mb y = bootBuiltins y) (lim : t.heap.NoLimit) (gen : t.gens = #[]) (CS : CsAt K mg t.heap cs)
    (at_ : t.heap.get? a = some { cls := .type "list", data := .seq us.toArray }) (nums : IntsAre us js) (len : js.length ≤ sizeLine) (room : Room k callerA)
    (keeps : ∀ base : Heap, K.In base → base.Ns mainGlobals mg → (∀ p ∈ cs, LamX.TabB base mg p.1 p.2) → FnG P w K mg base k fa fd [x] sp) (bind : ∀ (s : Shared) (u : Value), BindsTo s fd ⟨[u], []⟩ [(x, u)])
    (hsp : ∀ F H : Hp, Same F H → (∀ b ps, F b ≠ some (.tbl ps)) → (∀ p ∈ cs, H p.2 = some (.tbl #[])) → SqL K F a (js.map V.int) → sp [.ref a] H (fun v _ => v = .bl true) fun _ _ _ => False) :
    codeAny (model P w) callerA (.call (.ref fa) ⟨[.ref a], []⟩) (fun r t' => r = .ok (.ret (.bool true)) ∧ OldK t.heap t'.heap ∧ t'.os = t.os ∧ AllBare t'.gens) t := by
  have vs := vals_ints nums
  have ln : js.length = us.length := nums.length.symm
  have aT : ∀ p ∈ cs, p.2 ≠ a := fun p hp z => by
    have := CS.em p hp
    rw [z, at_] at this
    cases this
  let T : Hp := fun b => if b ∈ cs.map (·.2) then some (.tbl #[]) else none
  have Tin : ∀ p ∈ cs, T p.2 = some (.tbl #[]) := fun p hp => if_pos (List.mem_map.mpr ⟨p, hp, rfl⟩)
  have Tof : ∀ b u, T b = some u → (∃ p ∈ cs, p.2 = b) ∧ u = .tbl #[] := fun b u z => by
    by_cases m : b ∈ cs.map (·.2)
    · rw [show T b = some (.tbl #[]) from if_pos m] at z
      cases z
      exact ⟨List.mem_map.mp m, rfl⟩
    · rw [show T b = none from if_neg m] at z
      cases z
  by_cases own : K.lookup a = none
  · let H : Hp := fun b => if b = a then some (.frz { cls := .type "list", data := .seq us.toArray } (.lst (js.map V.int))) else T b
    let F : Hp := fun b => if b = a then some (.frz { cls := .type "list", data := .seq us.toArray } (.lst (js.map V.int))) else none
    have hA : H a = some (.frz { cls := .type "list", data := .seq us.toArray } (.lst (js.map V.int))) := if_pos rfl
    have fA : F a = some (.frz { cls := .type "list", data := .seq us.toArray } (.lst (js.map V.int))) := if_pos rfl
    have hN : ∀ b, b ≠ a → H b = T b := fun b z => if_neg z
    have fN : ∀ b, b ≠ a → F b = none := fun b z => if_neg z
    refine call_core (H := H) kin gns bns boot lim gen CS at_ room keeps bind (hsp F H (fun b u z => ?_) (fun b ps z => ?_) (fun p hp => by rw [hN _ (aT p hp)]; exact Tin p hp) (.inl (.inr ⟨_, fA⟩))) (fun b u z => ?_) (fun b u z => ?_) fun _ => own
    · by_cases e : b = a
      · rw [e] at z ⊢
        rw [fA] at z
        rw [hA, z]
      · rw [fN b e] at z
        cases z
    · by_cases e : b = a
      · rw [e, fA] at z
        cases z
      · rw [fN b e] at z
        cases z
    · by_cases e : b = a
      · subst e
        rw [hA] at z
        cases z
        exact ⟨at_, by rw [List.length_map]; exact len, us, _, vs, at_⟩
      · rw [hN b e] at z
        obtain ⟨⟨p, hp, rfl⟩, rfl⟩ := Tof b u z
        exact CS.em p hp
    · by_cases e : b = a
      · subst e
        rw [hA] at z
        cases z
        exact .inl ⟨rfl, _, _, rfl⟩
      · rw [hN b e] at z
        exact .inr (Tof b u z)
  · obtain ⟨o, ho⟩ := Option.ne_none_iff_exists'.mp own
    have e := kin a o ho
    rw [at_] at e
    cases e
    have nA : T a = none := by
      cases q : T a with
      | none => rfl
      | some u =>
        obtain ⟨⟨p, hp, z⟩, _⟩ := Tof a u q
        exact (aT p hp z).elim
    refine call_core (H := T) kin gns bns boot lim gen CS at_ room keeps bind (hsp (fun _ => none) T (fun _ _ z => by cases z) (fun _ _ z => by cases z) Tin (.inr ⟨_, us.toArray, _, ho, rfl, rfl, rfl, ?_, ?_⟩)) (fun b u z => ?_) (fun b u z => .inr (Tof b u z)) fun z => (z nA).elim
    · simpa [← ln] using len
    · simpa using vs
    · obtain ⟨⟨p, hp, rfl⟩, rfl⟩ := Tof b u z
      exact CS.em p hp
/-- the law's end: what the interpreter says of the law is what the law wants -/
theorem walk_law {l : PySem.W.OpenLaw} {n k : Nat} {q : Program} {loose : List Str} {XP : (Str → Option Value) → Heap → Prop} {YP : World → Heap → Prop} {d : DefRec} {x : Str}
    (hn : l.most = some n) (hn2 : n ≤ sizeLine) (hdf : d.params.defaults = []) (hr : Room k callerA)
    (F : ∀ (w : World) (mg : Str → Option Value) (fa : Addr) (h : Heap), YP w h → h.Ns mainGlobals mg → mg d.name = some (.ref fa) →
      ∃ (K : PySem.W.Frag) (fd : FuncData) (sp : Sq) (cs : List (Addr × Addr)), K.In h ∧ (∀ p ∈ cs, h.get? p.2 = some eTab) ∧ (∀ p ∈ cs, K.lookup p.2 = none) ∧ (∀ p ∈ cs, PySem.W.codeHdIn K p.1 p.2 = true) ∧ (∀ (s : Shared) (u : Value), BindsTo s fd ⟨[u], []⟩ [(x, u)]) ∧
        (∀ (F H : Hp) (a : Addr) (js : List Int), js.length ≤ n → Same F H → (∀ b ps, F b ≠ some (.tbl ps)) → (∀ p ∈ cs, H p.2 = some (.tbl #[])) → SqL K F a (js.map V.int) → sp [.ref a] H (fun v _ => v = .bl true) fun _ _ _ => False) ∧
        ∀ base : Heap, K.In base → base.Ns mainGlobals mg → (∀ p ∈ cs, LamX.TabB base mg p.1 p.2) → FnG l.prog w K mg base k fa fd [x] sp) :
    PySem.W.WalkO q loose XP YP l.row.toRowW d [] (fun f vs => PySem.call f vs) := by
  refine Att.attach_call hn hdf fun w t₀ t mg mb fa o pm cd doc a us js G Y ho hd hcd hmg hobj nums len gen => ?_
  obtain ⟨K, fd, sp, cs, kin, t1, t2, t3, bind, hsp, keeps⟩ := F w mg fa _ Y G.T.g hmg
  exact call_law kin G.T.g G.T.b G.T.builtins G.T.nolimit gen ⟨t1, t2, t3, G.T.bmain⟩ hobj nums (Nat.le_trans len hn2) hr keeps bind fun F H f1 f2 f3 hS => hsp F H a js len f1 f2 f3 hS
/-- the law's end, over the interpreter's texts -/
theorem law_by {l : PySem.W.OpenLaw} {n : Nat} {q : Program} {loose : List Str} {XP : (Str → Option Value) → Heap → Prop} {d : DefRec} {M : Md} (hp : Nat) (fuel k f : Nat) (m : MF) (x : Str)
    (hn : l.most = some n) (hn2 : n ≤ sizeLine) (hdf : d.params.defaults = []) (hr : Room (6 * k + 6) callerA) (hd : d.name = M.nm f) (hf : M.P.lookup f = some m) (hk : m.kind = .fn) (hm : m.names.take m.ps = [x])
    (ck : M.chk = true) (run : ∀ js : List Int, js.length ≤ n → ∃ S, callN M.P M.gl fuel (k + 1) f [.scr js] [] = .ok (.bl true) S) :
    PySem.W.WalkO q loose XP (hookP hp M.lk).says l.row.toRowW d [] (fun f vs => PySem.call f vs) := by
  refine walk_law (x := x) hn hn2 hdf hr fun w mg fa h Y G hmg => ?_
  obtain ⟨K, KX, c, mk⟩ := Y
  letI := M.ca ck K
  have Mo := mod_of KX G c ck
  have q := Mo.df f m hf
  simp only [hk] at q
  obtain ⟨h1, x', qual, params, body, scope, fd, h2, h3⟩ := q
  obtain ⟨q1, q2, q3⟩ := fn_fx h2 h3
  rw [hd, h1 rfl] at hmg
  cases hmg
  have tbs : ∀ base : Heap, (∀ p ∈ M.mks.map (fun p => (cdAd K (pAd K (M.pth p.1)), tbAd K (pAd K (M.pth p.1)))), LamX.TabB base mg p.1 p.2) → ∀ f mf, M.P.lookup f = some mf → M.gl.mkr mf.names ≠ none → MkAt K base mg (CA.fa f) := fun base hb =>
    mk_at c mk ck fun p hp => hb _ (List.mem_map.mpr ⟨p, hp, rfl⟩)
  have key : ∀ base : Heap, (∀ p ∈ M.mks.map (fun p => (cdAd K (pAd K (M.pth p.1)), tbAd K (pAd K (M.pth p.1)))), LamX.TabB base mg p.1 p.2) → FnG l.prog w K mg base (6 * k + 6) (CA.fa f) fd [x] (spF K (callN M.P M.gl fuel (k + 1)) f) := fun base hb => by
    have z := fn_plain (pr := l.prog) (w := w) (base := base) Mo (all_fns fuel Mo (tbs base hb) k) hf (.inl hk) h2 h3 (tbs base hb f m hf)
    rw [hm] at z
    exact z
  rw [hm] at q1 q3
  have at_ : ∀ p ∈ M.mks.map (fun p => (cdAd K (pAd K (M.pth p.1)), tbAd K (pAd K (M.pth p.1)))), ∃ f ∈ M.lk.mkl, p = (cdAd K (pAd K (M.pth f)), tbAd K (pAd K (M.pth f))) := fun p hp => by
    obtain ⟨z, hz, rfl⟩ := List.mem_map.mp hp
    exact ⟨z.1, List.mem_map.mpr ⟨z, hz, rfl⟩, rfl⟩
  refine ⟨K, fd, spF K (callN M.P M.gl fuel (k + 1)) f, M.mks.map (fun p => (cdAd K (pAd K (M.pth p.1)), tbAd K (pAd K (M.pth p.1)))), KX, fun p hp => ?_, fun p hp => ?_, fun p hp => ?_, fun s u => .of_eq (bind_plain q1 q2 q3 [u] rfl), fun F H a js len f1 f2 f3 hS => ?_, fun base _ _ hb => key base hb⟩
  · obtain ⟨z, hz, rfl⟩ := at_ p hp
    exact mk.em z hz
  · obtain ⟨z, hz, rfl⟩ := at_ p hp
    exact mk.out z hz
  · obtain ⟨z, hz, rfl⟩ := at_ p hp
    exact mk.hd z hz
  obtain ⟨S', e⟩ := run js len
  have tabs : LamX.Tabs CA.tb H := fun p hp => by
    obtain ⟨z, hz, rfl⟩ := List.mem_map.mp (show p ∈ M.mks.map fun p => (tbAd K (pAd K (M.pth p.1)), (envOfC (M.qu p.1) default 0 0 .none).qual ++ "<lambda>") from hp)
    exact LamX.TabS.nil (f3 _ (List.mem_map.mpr ⟨z, hz, rfl⟩))
  refine ⟨F, [], [], [.scr js], ⟨f1, ⟨tabs, f2⟩, rfl, List.nodup_nil, (fun a h => nomatch h), fun n a o h => nomatch h⟩, .cons (.scr hS) .nil, ?_⟩
  rw [e]
  intro F' R' H' v _ _ r
  cases r
  rfl
end Mn
/-! reckoning with the interpreter: rules for simp, data that can be shown -/
namespace Mn
open PySem L2
def fin : Out Fl → Out D
  | .ok (.ret d) S => .ok d S
  | .ok (.next _) S => .ok .non S
  | .ok (.brk _) S => .bad
  | .ok (.cont _) S => .bad
  | .ok (.exc x) S => .exc x S
  | .exc _ _ => .bad
  | .bad => .bad
theorem callN_eq {P : List (Nat × MF)} {gl : GL} {fuel : Nat} {f : Nat} {m : MF} (h : P.lookup f = some m) (hk : m.kind.off = 0) (k : Nat) (ds : List D) (S : Sto) (hl : ds.length = m.ps) :
    callN P gl fuel (k + 1) f ds S = fin (exs (callN P gl fuel k) gl fuel m.body (ds.map (fun d => some (.val d)) ++ List.replicate (m.names.length - m.ps) none) S) := by
  rw [callN]
  cases q : m.kind with
  | frz c => rw [q] at hk; cases hk
  | sto c => rw [q] at hk; cases hk
  | exc c => rw [q] at hk; cases hk
  | fn =>
    simp only [h, q, if_pos hl]
    cases exs (callN P gl fuel k) gl fuel m.body (ds.map (fun d => some (.val d)) ++ List.replicate (m.names.length - m.ps) none) S with
    | ok a S => cases a <;> rfl
    | exc e S => rfl
    | bad => rfl
  | met =>
    simp only [h, q, if_pos hl]
    cases exs (callN P gl fuel k) gl fuel m.body (ds.map (fun d => some (.val d)) ++ List.replicate (m.names.length - m.ps) none) S with
    | ok a S => cases a <;> rfl
    | exc e S => rfl
    | bad => rfl
theorem bnd_ok {α β : Type} {o : Out α} {f : α → Sto → Out β} {b : β} {S : Sto} (h : o.bind f = .ok b S) : ∃ a S1, o = .ok a S1 ∧ f a S1 = .ok b S := by
  cases o with
  | ok a S1 => exact ⟨a, S1, rfl, h⟩
  | exc e S1 => cases h
  | bad => cases h
/-- item by item -/
inductive F2 {α β : Type} (Q : α → β → Prop) : List α → List β → Prop
  | nil : F2 Q [] []
  | cons {x : α} {y : β} {xs : List α} {ys : List β} (h : Q x y) (r : F2 Q xs ys) : F2 Q (x :: xs) (y :: ys)
theorem F2.length {α β : Type} {Q : α → β → Prop} {xs : List α} {ys : List β} (h : F2 Q xs ys) : xs.length = ys.length := by
  induction h with
  | nil => rfl
  | cons _ _ ih => simp [ih]
theorem F2.right {α β : Type} {Q : α → β → Prop} {xs : List α} {ys : List β} (h : F2 Q xs ys) : ∀ y ∈ ys, ∃ x ∈ xs, Q x y := by
  induction h with
  | nil => intro y hy; cases hy
  | cons q _ ih =>
    intro y hy
    rcases List.mem_cons.mp hy with e | hy
    · subst e; exact ⟨_, List.mem_cons_self, q⟩
    · obtain ⟨x, h1, h2⟩ := ih y hy
      exact ⟨x, List.mem_cons_of_mem _ h1, h2⟩
/-- the instance is made -/
def insF (c : Nat) (fs : List D) (S : Sto) : Out D := .ok (.ins c fs) S
theorem callN_frz {P : List (Nat × MF)} {gl : GL} {fuel : Nat} {f c : Nat} {m : MF} (h : P.lookup f = some m) (hk : m.kind = .frz c) (k : Nat) (ds : List D) (S : Sto) (hl : ds.length + 1 = m.ps) :
    callN P gl fuel (k + 1) f ds S = (exI (callN P gl fuel k) gl c m.body (none :: (ds.map (fun d => some (.val d)) ++ List.replicate (m.names.length - m.ps) none)) [] S).bindX (insF c) := by
  rw [callN]
  simp only [h, hk, if_pos hl]
  rfl
section
variable {α β : Type} {cl : Nat → List D → Sto → Out D} {gl : GL} {fuel : Nat} {fr : Frm} {S : Sto}
@[simp] theorem b_ok (a : α) (S : Sto) (f : α → Sto → Out β) : (Out.ok a S).bind f = f a S := id rfl
@[simp] theorem bX_ok (a : α) (S : Sto) (f : α → Sto → Out β) : (Out.ok a S).bindX f = f a S := id rfl
@[simp] theorem bX_exc (x : D) (S : Sto) (f : α → Sto → Out β) : (Out.exc x S : Out α).bindX f = .exc x S := id rfl
@[simp] theorem st_ok (a : α) (S : Sto) (f : α → Sto → Out Fl) : (Out.ok a S).stm f = f a S := id rfl
@[simp] theorem st_exc (x : D) (S : Sto) (f : α → Sto → Out Fl) : (Out.exc x S : Out α).stm f = .ok (.exc x) S := id rfl
@[simp] theorem nx_ok (a : α) (S : Sto) : (Out.ok a S).nox = .ok a S := id rfl
@[simp] theorem o_some (a : α) (S : Sto) : opt (some a) S = .ok a S := id rfl
@[simp] theorem fin_ret (d : D) (S : Sto) : fin (.ok (.ret d) S) = .ok d S := id rfl
@[simp] theorem fin_exc (x : D) (S : Sto) : fin (.ok (.exc x) S) = .exc x S := id rfl
@[simp] theorem fin_next (fr : Frm) (S : Sto) : fin (.ok (.next fr) S) = .ok .non S := id rfl
@[simp] theorem exs_nil : exs cl gl fuel [] fr S = .ok (.next fr) S := by rw [exs]
/-- what comes behind a statement -/
def aft (cl : Nat → List D → Sto → Out D) (gl : GL) (fuel : Nat) (r : List MS) (f : Fl) (S : Sto) : Out Fl := match f with
  | .next fr => exs cl gl fuel r fr S
  | f => .ok f S
@[simp] theorem exs_cons (s : MS) (r : List MS) : exs cl gl fuel (s :: r) fr S = (ex cl gl fuel s fr S).bind (aft cl gl fuel r) := by rw [exs]; rfl
@[simp] theorem aft_next (r : List MS) (fr : Frm) : aft cl gl fuel r (.next fr) S = exs cl gl fuel r fr S := id rfl
@[simp] theorem aft_ret (r : List MS) (d : D) : aft cl gl fuel r (.ret d) S = .ok (.ret d) S := id rfl
@[simp] theorem aft_exc (r : List MS) (x : D) : aft cl gl fuel r (.exc x) S = .ok (.exc x) S := id rfl
@[simp] theorem aft_brk (r : List MS) (fr : Frm) : aft cl gl fuel r (.brk fr) S = .ok (.brk fr) S := id rfl
@[simp] theorem aft_cont (r : List MS) (fr : Frm) : aft cl gl fuel r (.cont fr) S = .ok (.cont fr) S := id rfl
@[simp] theorem insF_eq (c : Nat) (fs : List D) : insF c fs S = .ok (.ins c fs) S := id rfl
@[simp] theorem exI_nil (c : Nat) (ds : List D) : exI cl gl c [] fr ds S = .ok ds S := id rfl
@[simp] theorem exI_setO (c f : Nat) (e : ME) (r : List MS) (ds : List D) : exI cl gl c (.setO f e :: r) fr ds S = (ev cl gl fr e S).bind fun d S => (opt (fput (gl.fl c) ds f d) S).bind fun ds S => exI cl gl c r fr ds S := id rfl
@[simp] theorem exI_expr (c : Nat) (e : ME) (r : List MS) (ds : List D) : exI cl gl c (.expr e :: r) fr ds S = (ev cl gl fr e S).bindX fun _ S => exI cl gl c r fr ds S := id rfl
@[simp] theorem exI_set (c i : Nat) (e : ME) (r : List MS) (ds : List D) : exI cl gl c (.set i (.val e) :: r) fr ds S = if i = 0 then .bad else (ev cl gl fr e S).bind fun d S => exI cl gl c r (fr.set i (some (.val d))) ds S := id rfl
@[simp] theorem exI_setLc (c i : Nat) (e : ME) (r : List MS) (ds : List D) : exI cl gl c (.setLc i false e :: r) fr ds S = if i = 0 then .bad else (ev cl gl fr e S).bind fun d S => exI cl gl c r (fr.set i (some (.val d))) ds S := id rfl
@[simp] theorem ty_ii (i : Int) : isTy (.int i) "int" = some true := by show kitB "int" "int" = _; decide +kernel
@[simp] theorem ty_ib (i : Int) : isTy (.int i) "bool" = some false := by show kitB "int" "bool" = _; decide +kernel
@[simp] theorem ty_is (i : Int) : isTy (.int i) "str" = some false := by show kitB "int" "str" = _; decide +kernel
@[simp] theorem ty_it (i : Int) : isTy (.int i) "tuple" = some false := by show kitB "int" "tuple" = _; decide +kernel
@[simp] theorem ty_si (i : Str) : isTy (.str i) "int" = some false := by show kitB "str" "int" = _; decide +kernel
@[simp] theorem ty_sb (i : Str) : isTy (.str i) "bool" = some false := by show kitB "str" "bool" = _; decide +kernel
@[simp] theorem ty_ss (i : Str) : isTy (.str i) "str" = some true := by show kitB "str" "str" = _; decide +kernel
@[simp] theorem ty_st (i : Str) : isTy (.str i) "tuple" = some false := by show kitB "str" "tuple" = _; decide +kernel
@[simp] theorem ty_tt (i : List D) : isTy (.tup i) "tuple" = some true := by show kitB "tuple" "tuple" = _; decide +kernel
@[simp] theorem ty_ti (i : List D) : isTy (.tup i) "int" = some false := by show kitB "tuple" "int" = _; decide +kernel
@[simp] theorem ty_ts (i : List D) : isTy (.tup i) "str" = some false := by show kitB "tuple" "str" = _; decide +kernel
end
/-! ### the values' rules, for simp -/
section
variable (i j : Int) (x y : Str) (b c : Bool) (S : Sto) (n : Nat) (xs ys : List D) (d e : D) (ns : List Int)
@[simp] theorem cmp_lt : cmpD .Lt (.int i) (.int j) = some (decide (i < j)) := id rfl
@[simp] theorem cmp_le : cmpD .LtE (.int i) (.int j) = some (decide (i ≤ j)) := id rfl
@[simp] theorem cmp_gt : cmpD .Gt (.int i) (.int j) = some (decide (j < i)) := id rfl
@[simp] theorem cmp_ge : cmpD .GtE (.int i) (.int j) = some (decide (j ≤ i)) := id rfl
@[simp] theorem cmp_eq : cmpD .Eq d e = eqA d e := by cases d <;> cases e <;> rfl
@[simp] theorem cmp_ne : cmpD .NotEq d e = (eqA d e).map (!·) := by cases d <;> cases e <;> rfl
@[simp] theorem cmp_isn : cmpD .Is d .non = some (isN d) := by cases d <;> rfl
@[simp] theorem cmp_notn : cmpD .IsNot d .non = some (!isN d) := by cases d <;> rfl
@[simp] theorem cmp_inl : cmpD .In d (.lst xs) = inD d xs := by cases d <;> rfl
@[simp] theorem cmp_nil : cmpD .NotIn d (.lst xs) = (inD d xs).map (!·) := by cases d <;> rfl
@[simp] theorem cmp_int : cmpD .In d (.tup xs) = inF d xs := by cases d <;> rfl
@[simp] theorem cmp_nit : cmpD .NotIn d (.tup xs) = (inF d xs).map (!·) := by cases d <;> rfl
@[simp] theorem eqA_ii : eqA (.int i) (.int j) = some (decide (i = j)) := id rfl
@[simp] theorem eqA_ss : eqA (.str x) (.str y) = some (decide (x = y)) := id rfl
@[simp] theorem eqA_bb : eqA (.bl b) (.bl c) = some (decide (b = c)) := id rfl
@[simp] theorem eqA_is : eqA (.int i) (.str y) = some false := id rfl
@[simp] theorem eqA_si : eqA (.str y) (.int i) = some false := id rfl
@[simp] theorem eqA_ni : eqA .non (.int i) = some false := id rfl
@[simp] theorem eqA_in : eqA (.int i) .non = some false := id rfl
@[simp] theorem eqA_ns : eqA .non (.str x) = some false := id rfl
@[simp] theorem eqA_sn : eqA (.str x) .non = some false := id rfl
@[simp] theorem eqA_nn : eqA .non .non = some true := id rfl
@[simp] theorem isN_non : isN .non = true := id rfl
@[simp] theorem isN_int : isN (.int i) = false := id rfl
@[simp] theorem isN_str : isN (.str x) = false := id rfl
@[simp] theorem isN_tup : isN (.tup xs) = false := id rfl
@[simp] theorem isN_lst : isN (.lst xs) = false := id rfl
@[simp] theorem bin_add : binD .Add (.int i) (.int j) = some (.int (i + j)) := id rfl
@[simp] theorem bin_sub : binD .Sub (.int i) (.int j) = some (.int (i - j)) := id rfl
theorem bin_lmul {a : List D} {k : Int} (h : repL a.length k = true) : binD .Mult (.lst a) (.int k) = some (.lst (List.replicate k.toNat a).flatten) := by
  show (if repL a.length k then some (D.lst (List.replicate k.toNat a).flatten) else none) = _
  rw [if_pos h]
@[simp] theorem bin_mul : binD .Mult (.int i) (.int j) = if mulOk i j then some (.int (i * j)) else none := id rfl
@[simp] theorem bin_div : binD .FloorDiv (.int i) (.int j) = if divOk j then some (.int (i / j)) else none := id rfl
@[simp] theorem bin_mod : binD .Mod (.int i) (.int j) = if 0 < j then some (.int (i % j)) else none := id rfl
@[simp] theorem bin_pow : binD .Pow (.int i) (.int j) = if powOk i j then some (.int (i ^ j.toNat)) else none := id rfl
@[simp] theorem bin_lst : binD .Add (.lst xs) (.lst ys) = if xs.length + ys.length ≤ sizeLine then some (.lst (xs ++ ys)) else none := id rfl
@[simp] theorem bin_tup : binD .Add (.tup xs) (.tup ys) = if xs.length + ys.length ≤ sizeLine then some (.tup (xs ++ ys)) else none := id rfl
@[simp] theorem bin_str : binD .Add (.str x) (.str y) = if x.length + y.length ≤ sizeLine then some (.str (x ++ y)) else none := id rfl
@[simp] theorem int_int : intO (.int i) = some i := id rfl
@[simp] theorem bool_bl : boolO (.bl b) = some b := id rfl
@[simp] theorem tru_bl : truD S (.bl b) = some b := id rfl
@[simp] theorem tru_non : truD S .non = some false := id rfl
@[simp] theorem tru_int : truD S (.int i) = some (i != 0) := id rfl
@[simp] theorem tru_tup : truD S (.tup xs) = some (!xs.isEmpty) := id rfl
@[simp] theorem tru_lst : truD S (.lst xs) = some (!xs.isEmpty) := id rfl
@[simp] theorem rdL_lst : rdL S (.lst xs) = some xs := id rfl
@[simp] theorem rdL_scr : rdL S (.scr ns) = some (ns.map D.int) := id rfl
@[simp] theorem rdF_lst : rdF (.lst xs) = some xs := id rfl
@[simp] theorem rdF_scr : rdF (.scr ns) = some (ns.map D.int) := id rfl
theorem rdL_obj {S : Sto} {n : Nat} {xs : List D} (h : S[n]? = some (.lst xs)) : rdL S (.obj n) = some xs := by simp [rdL, h]
theorem setD_obj {S : Sto} {n : Nat} {xs : List D} {i : Int} {d : D} (h : S[n]? = some (.lst xs)) : setD S n i d = (ixN xs.length i).map fun j => S.set n (.lst (xs.set j d)) := by
  simp [setD, h]
  cases ixN xs.length i <;> rfl
theorem rdL_set {S : Sto} {n : Nat} {xs : List D} (h : n < S.length) : rdL (S.set n (.lst xs)) (.obj n) = some xs := by simp [rdL, h]
theorem setD_set {S : Sto} {n : Nat} {xs : List D} {i : Int} {d : D} (h : n < S.length) : setD (S.set n (.lst xs)) n i d = (ixN xs.length i).map fun j => S.set n (.lst (xs.set j d)) := by
  simp [setD, h]
  cases ixN xs.length i <;> rfl
@[simp] theorem ix3_0 : ixN 3 0 = some 0 := id rfl
@[simp] theorem ix3_1 : ixN 3 1 = some 1 := id rfl
@[simp] theorem ix3_2 : ixN 3 2 = some 2 := id rfl
@[simp] theorem sub_tup : subD S (.tup xs) (.int i) = atI xs i := id rfl
@[simp] theorem sub_lst : subD S (.lst xs) (.int i) = atI xs i := id rfl
@[simp] theorem sub_scr : subD S (.scr ns) (.int i) = atI (ns.map D.int) i := id rfl
@[simp] theorem sub_obj : subD S (.obj n) (.int i) = (rdL S (.obj n)).bind fun xs => atI xs i := id rfl
@[simp] theorem at_0 : atI (d :: xs) 0 = some d := by simp [atI, ixN]
@[simp] theorem at_1 : atI (d :: e :: xs) 1 = some e := by
  unfold atI ixN
  rw [if_pos (by decide), if_pos (by simp only [List.length_cons]; omega)]; rfl
@[simp] theorem at_2 {f : D} : atI (d :: e :: f :: xs) 2 = some f := by
  unfold atI ixN
  rw [if_pos (by decide), if_pos (by simp only [List.length_cons]; omega)]; rfl
@[simp] theorem at_3 {f g : D} : atI (d :: e :: f :: g :: xs) 3 = some g := by
  unfold atI ixN
  rw [if_pos (by decide), if_pos (by simp only [List.length_cons]; omega)]; rfl
@[simp] theorem at_4 {f g h : D} : atI (d :: e :: f :: g :: h :: xs) 4 = some h := by
  unfold atI ixN
  rw [if_pos (by decide), if_pos (by simp only [List.length_cons]; omega)]; rfl
@[simp] theorem at_5 {f g h i5 : D} : atI (d :: e :: f :: g :: h :: i5 :: xs) 5 = some i5 := by
  unfold atI ixN
  rw [if_pos (by decide), if_pos (by simp only [List.length_cons]; omega)]; rfl
theorem at_n {xs : List D} {n : Nat} {d : D} (h : xs[n]? = some d) : atI xs (n : Int) = some d := by
  have hn : n < xs.length := (List.getElem?_eq_some_iff.mp h).1
  simp [atI, ixN, hn, h]
  exact (List.getElem?_eq_some_iff.mp h).2
@[simp] theorem vb_lent : blD S .len [.tup xs] = some (.int xs.length) := id rfl
@[simp] theorem vb_lenl : blD S .len [.lst xs] = some (.int xs.length) := id rfl
@[simp] theorem vb_lens : blD S .len [.scr ns] = some (.int ns.length) := by simp [blD]
@[simp] theorem vb_lenx : blD S .len [.str x] = if x.length ≤ sizeLine then some (.int x.length) else none := id rfl
@[simp] theorem vb_abs : blD S .abs [.int i] = some (.int (if i < 0 then -i else i)) := id rfl
@[simp] theorem vb_int : blD S .int [.int i] = some (.int i) := id rfl
@[simp] theorem vb_intb : blD S .int [.bl b] = some (.int (if b then 1 else 0)) := id rfl
@[simp] theorem vb_strs : blD S .str [.str x] = some (.str x) := id rfl
@[simp] theorem vb_stri : blD S .str [.int i] = if i.natAbs.log2 < 1920 then some (.str (toString i)) else none := id rfl
@[simp] theorem orX_some (y : Str) (d : D) : orX (some y) d = some y := id rfl
@[simp] theorem orX_none (d : D) : orX none d = showDic d := id rfl
@[simp] theorem vb_repr : blD S .repr [d] = (orX (showD d) d).map .str := id rfl
@[simp] theorem vb_all : blD S .all [.lst xs] = (blsD xs).map fun bs => .bl (bs.all id) := id rfl
@[simp] theorem vb_any : blD S .any [.lst xs] = (blsD xs).map fun bs => .bl (bs.any id) := id rfl
@[simp] theorem vb_sum : blD S .sum [.lst xs] = (intsD xs).map fun ns => .int ns.sum := id rfl
@[simp] theorem vb_max : blD S .max [.int i, .int j] = some (.int (if j > i then j else i)) := id rfl
@[simp] theorem vb_min : blD S .min [.int i, .int j] = some (.int (if j < i then j else i)) := id rfl
@[simp] theorem vb_maxl : blD S .max [.lst xs] = ((intsD xs).bind maxO).map .int := id rfl
@[simp] theorem vb_minl : blD S .min [.lst xs] = ((intsD xs).bind minO).map .int := id rfl
@[simp] theorem vb_tupt : blD S .tuple [.tup xs] = some (.tup xs) := id rfl
@[simp] theorem vb_tupl : blD S .tuple [.lst xs] = some (.tup xs) := id rfl
@[simp] theorem vb_lstt : blD S .list [.tup xs] = some (.lst xs) := id rfl
@[simp] theorem vb_lstl : blD S .list [.lst xs] = some (.lst xs) := id rfl
@[simp] theorem vb_divmod : blD S .divmod [.int i, .int j] = if divOk j then some (.tup [.int (i / j), .int (i % j)]) else none := id rfl
@[simp] theorem vb_isinst (T : String) : blD S .isinst [d, .ty T] = (isTy d T).map .bl := id rfl
@[simp] theorem sl_tup (lo hi : Option Int) : slD S lo hi (.tup xs) = some (.tup (cutL xs lo hi)) := id rfl
@[simp] theorem sl_lst (lo hi : Option Int) : slD S lo hi (.lst xs) = some (.lst (cutL xs lo hi)) := id rfl
@[simp] theorem sl_scr (lo hi : Option Int) : slD S lo hi (.scr ns) = some (.lst (cutL (ns.map D.int) lo hi)) := id rfl
@[simp] theorem rdS_tup : rdS (.tup xs) = some (false, xs) := id rfl
@[simp] theorem rdS_lst : rdS (.lst xs) = some (true, xs) := id rfl
@[simp] theorem zip_tt : zipO (.tup xs) (.tup ys) = some (zipD xs ys) := id rfl
@[simp] theorem zip_ll : zipO (.lst xs) (.lst ys) = some (zipD xs ys) := id rfl
end
/-- what the law's outcome tells -/
def outO (gl : GL) : Out D → Out D
  | .ok d S => opt (backD d) S
  | .exc x S => opt (wordD gl x) S
  | .bad => .bad
theorem backD_of {d : D} {y : Str} (h : showD d = some y) : backD d = some (.lst [.str "back", .str y]) := by
  unfold backD
  rw [h]; rfl
theorem showX_of {d : D} {y : Str} (h : showD d = some y) : showX d = some y := by
  unfold showX
  rw [h]; rfl
theorem wordX_of {gl : GL} {c : Nat} {d : D} {y z : Str} (hw : gl.w c = some z) (h : showX d = some y) : wordD gl (.ins c [d]) = some (.lst [.str z, .str y]) := by
  show ((gl.w c).bind fun z => Option.map (fun y => D.lst [.str z, .str y]) (showX d)) = _
  rw [hw, h]; rfl
theorem wordD_of {gl : GL} {c : Nat} {d : D} {y z : Str} (hw : gl.w c = some z) (h : showD d = some y) : wordD gl (.ins c [d]) = some (.lst [.str z, .str y]) := wordX_of hw (showX_of h)
@[simp] theorem fget_cons (n : Nat) (ns : List Nat) (d : D) (ds : List D) (f : Nat) : fget (n :: ns) (d :: ds) f = if f = n then some d else fget ns ds f := by
  show List.lookup f ((n, d) :: ns.zip ds) = _
  rw [List.lookup_cons]
  by_cases e : f = n
  · subst e; simp
  · rw [if_neg e, beq_eq_false_iff_ne.mpr e]; rfl
@[simp] theorem fput_nil (n : Nat) (ns : List Nat) (f : Nat) (d : D) : fput (n :: ns) [] f d = if n = f then some [d] else none := by rw [fput]
@[simp] theorem fput_cons (n : Nat) (ns : List Nat) (x : D) (ds : List D) (f : Nat) (d : D) : fput (n :: ns) (x :: ds) f d = if n = f then some (d :: ds) else (fput ns ds f d).map (x :: ·) := by rw [fput]
/-! ### the texts' rules, for simp (no comprehension, no loop) -/
section
variable (cl : Nat → List D → Sto → Out D) (gl : GL) (fr : Frm) (S : Sto) (fuel : Nat)
@[simp] theorem ev_var (i : Nat) : ev cl gl fr (.var i) S = (match fr[i]? with | some (some (.val d)) => .ok d S | _ => .bad) := by (rw [ev]) <;> rfl
@[simp] theorem ev_cst (d : D) : ev cl gl fr (.cst d) S = (.ok d S) := by rw [ev]
@[simp] theorem ev_glob (x : Nat) : ev cl gl fr (.glob x) S = (opt (gl.g x) S) := by rw [ev]
@[simp] theorem ev_bin (op : Operator) (a : ME) (b : ME) : ev cl gl fr (.bin op a b) S = ((ev cl gl fr a S).bind fun x S => (ev cl gl fr b S).bind fun y S => opt (binD op x y) S) := by rw [ev]
@[simp] theorem ev_neg (a : ME) : ev cl gl fr (.neg a) S = ((ev cl gl fr a S).bind fun x S => opt ((intO x).map fun i => .int (-i)) S) := by rw [ev]
@[simp] theorem ev_cmp (op : CmpOp) (a : ME) (b : ME) : ev cl gl fr (.cmp op a b) S = ((ev cl gl fr a S).bind fun x S => (ev cl gl fr b S).bind fun y S => opt ((cmpD op x y).map .bl) S) := by rw [ev]
@[simp] theorem ev_and (a : ME) (b : ME) : ev cl gl fr (.and a b) S = ((ev cl gl fr a S).bind fun x S => (opt (boolO x) S).bind fun k S => if k then (ev cl gl fr b S).nox else .ok (.bl false) S) := by rw [ev]
@[simp] theorem ev_or (a : ME) (b : ME) : ev cl gl fr (.or a b) S = ((ev cl gl fr a S).bind fun x S => (opt (boolO x) S).bind fun k S => if k then .ok (.bl true) S else (ev cl gl fr b S).nox) := by rw [ev]
@[simp] theorem ev_not (a : ME) : ev cl gl fr (.not a) S = ((ev cl gl fr a S).bind fun x S => (opt (boolO x) S).bind fun k S => .ok (.bl (!k)) S) := by rw [ev]
@[simp] theorem ev_ife (t : MT) (a : ME) (b : ME) : ev cl gl fr (.ife t a b) S = ((evT cl gl fr t S).bind fun k S => if k then ev cl gl fr a S else ev cl gl fr b S) := by rw [ev]
@[simp] theorem ev_tup (es : List ME) : ev cl gl fr (.tup es) S = ((evs cl gl fr es S).bind fun xs S => .ok (.tup xs) S) := by rw [ev]
@[simp] theorem ev_lst (es : List ME) : ev cl gl fr (.lst es) S = ((evs cl gl fr es S).bind fun xs S => .ok (.lst xs) S) := by rw [ev]
@[simp] theorem ev_ref (es : List ME) : ev cl gl fr (.ref es) S = ((evs cl gl fr es S).bind fun xs S => .ok (.obj S.length) (S ++ [.lst xs])) := by rw [ev]
@[simp] theorem ev_call (f : Nat) (es : List ME) : ev cl gl fr (.call f es) S = ((evs cl gl fr es S).bindX fun xs S => cl f xs S) := by rw [ev]
@[simp] theorem ev_callK (f : Nat) (es : List ME) (ks : List Nat) (vs : List ME) : ev cl gl fr (.callK f es ks vs) S = ((evs cl gl fr es S).bindX fun xs S => (evs cl gl fr vs S).bindX fun ys S => cl f (xs ++ ks.map fun k => ys.getD k .non) S) := by rw [ev]
@[simp] theorem ev_blt (b : Bi) (es : List ME) : ev cl gl fr (.blt b es) S = ((evs cl gl fr es S).bind fun xs S => opt (blD S b xs) S) := by rw [ev]
@[simp] theorem ev_outc (f : Nat) (e : ME) : ev cl gl fr (.outc f e) S = outO gl (ev cl gl fr e S) := by (rw [ev]) <;> rfl
@[simp] theorem outO_ok (d : D) : outO gl (.ok d S) = opt (backD d) S := id rfl
@[simp] theorem outO_exc (x : D) : outO gl (.exc x S) = opt (wordD gl x) S := id rfl
@[simp] theorem ev_sub (a : ME) (i : ME) : ev cl gl fr (.sub a i) S = ((ev cl gl fr a S).bind fun x S => (ev cl gl fr i S).bind fun y S => opt (subD S x y) S) := by rw [ev]
@[simp] theorem ev_sl (a : ME) (lo : Option ME) (hi : Option ME) : ev cl gl fr (.sl a lo hi) S = ((ev cl gl fr a S).bind fun x S => (evO cl gl fr lo S).bind fun l S => (evO cl gl fr hi S).bind fun h S => opt (slD S l h x) S) := by rw [ev]
@[simp] theorem ev_rev (a : ME) : ev cl gl fr (.rev a) S = ((ev cl gl fr a S).bind fun x S => opt ((rdL S x).map fun xs => .lst xs.reverse) S) := by rw [ev]
@[simp] theorem evs_nil : evs cl gl fr [] S = .ok [] S := by rw [evs]
@[simp] theorem evs_cons (e : ME) (es : List ME) : evs cl gl fr (e :: es) S = (ev cl gl fr e S).bindX fun x S => (evs cl gl fr es S).bindX fun xs S => .ok (x :: xs) S := by rw [evs]
@[simp] theorem evO_none : evO cl gl fr none S = .ok none S := by rw [evO]
@[simp] theorem evO_some (e : ME) : evO cl gl fr (some e) S = (ev cl gl fr e S).bind fun x S => (opt (intO x) S).bind fun i S => .ok (some i) S := by rw [evO]
@[simp] theorem evT_cmp (op : CmpOp) (a b : ME) : evT cl gl fr (.cmp op a b) S = (ev cl gl fr a S).bind fun x S => (ev cl gl fr b S).bind fun y S => opt (cmpD op x y) S := by rw [evT]
@[simp] theorem evT_chain (o1 o2 : CmpOp) (a b c : ME) : evT cl gl fr (.chain o1 o2 a b c) S = (ev cl gl fr a S).bind fun x S => (ev cl gl fr b S).bind fun y S => (opt (cmpD o1 x y) S).bind fun k S =>
    if k then (ev cl gl fr c S).bind fun z S => opt (cmpD o2 y z) S else .ok false S := by rw [evT]
@[simp] theorem ev_chain (o1 o2 : CmpOp) (a b c : ME) : ev cl gl fr (.chain o1 o2 a b c) S = (ev cl gl fr a S).bind fun x S => (ev cl gl fr b S).bind fun y S => (opt (cmpD o1 x y) S).bind fun k S =>
    if k then (ev cl gl fr c S).bind fun z S => opt ((cmpD o2 y z).map .bl) S else .ok (.bl false) S := by rw [ev]
@[simp] theorem evT_and (a b : MT) : evT cl gl fr (.and a b) S = (evT cl gl fr a S).bind fun k S => if k then evT cl gl fr b S else .ok false S := by rw [evT]
@[simp] theorem evT_or (a b : MT) : evT cl gl fr (.or a b) S = (evT cl gl fr a S).bind fun k S => if k then .ok true S else evT cl gl fr b S := by rw [evT]
@[simp] theorem evT_not (a : MT) : evT cl gl fr (.not a) S = (evT cl gl fr a S).bind fun k S => .ok (!k) S := by rw [evT]
@[simp] theorem evT_tru (a : ME) : evT cl gl fr (.tru a) S = (ev cl gl fr a S).bind fun x S => opt (truD S x) S := by rw [evT]
@[simp] theorem evTs_nil : evTs cl gl fr [] S = .ok true S := by rw [evTs]
@[simp] theorem evTs_cons (t : MT) (r : List MT) : evTs cl gl fr (t :: r) S = evT cl gl fr t S := by rw [evTs]
@[simp] theorem evI_lst (e : ME) : evI cl gl fr (.lst e) S = (ev cl gl fr e S).bind fun x S => opt (rdF x) S := by rw [evI]
@[simp] theorem evI_tup (e : ME) : evI cl gl fr (.tup e) S = (ev cl gl fr e S).bind fun x S => match x with | .tup xs => .ok xs S | _ => .bad := by (rw [evI]) <;> rfl
def rng1O (x : D) : Option (List D) := (intO x).bind fun i => rngD 0 i
@[simp] theorem evI_rng1 (a : ME) : evI cl gl fr (.rng1 a) S = (ev cl gl fr a S).bind fun x S => opt (rng1O x) S := by (rw [evI]) <;> rfl
@[simp] theorem evI_rng2 (a b : ME) : evI cl gl fr (.rng2 a b) S = (ev cl gl fr a S).bind fun x S => (ev cl gl fr b S).bind fun y S => opt ((intO x).bind fun i => (intO y).bind fun j => rngD i j) S := by rw [evI]
@[simp] theorem evI_zip (a b : ME) : evI cl gl fr (.zip a b) S = (ev cl gl fr a S).bind fun x S => (ev cl gl fr b S).bind fun y S => opt (zipO x y) S := by rw [evI]
@[simp] theorem evI_enum (a : ME) : evI cl gl fr (.enum a) S = (ev cl gl fr a S).bind fun x S => opt ((rdF x).map enumD) S := by rw [evI]
/-- the signs of a text -/
def sigD (x : D) (S : Sto) : Out (List D) := match x with
  | .str z => if z.length ≤ sizeLine then .ok (z.cps.toList.map fun c => .str ⟨#[c]⟩) S else .bad
  | _ => .bad
def enuD (x : D) (S : Sto) : Out (List D) := match x with
  | .tup xs => .ok (enumD xs) S
  | _ => .bad
@[simp] theorem enuD_tup (xs : List D) : enuD (.tup xs) S = .ok (enumD xs) S := id rfl
@[simp] theorem sigD_str (z : Str) : sigD (.str z) S = if z.length ≤ sizeLine then .ok (z.cps.toList.map fun c => .str ⟨#[c]⟩) S else .bad := id rfl
@[simp] theorem evI_enumT (e : ME) : evI cl gl fr (.enumT e) S = (ev cl gl fr e S).bind enuD := by (rw [evI]) <;> rfl
@[simp] theorem evI_str (e : ME) : evI cl gl fr (.str e) S = (ev cl gl fr e S).bind sigD := by (rw [evI]) <;> rfl
@[simp] theorem ev_fld (a : ME) (f : Nat) : ev cl gl fr (.fld a f) S = (ev cl gl fr a S).bind fun x S => opt (fldD gl S f x) S := by rw [ev]
@[simp] theorem ev_vm (m : Nat) (a : ME) (es : List ME) : ev cl gl fr (.vm m a es) S = (ev cl gl fr a S).bindX fun x S => (opt ((clsO S x).bind fun c => gl.m c m) S).bind fun f S => (evs cl gl fr es S).bindX fun xs S => cl f (x :: xs) S := by rw [ev]
@[simp] theorem ev_vmK (f m : Nat) (a : ME) (es : List ME) (ks : List Nat) (vs : List ME) : ev cl gl fr (.vmK f m a es ks vs) S = (ev cl gl fr a S).bindX fun x S => (opt ((clsO S x).bind fun c => gl.m c m) S).bind fun f' S => if f' = f then (evs cl gl fr es S).bindX fun xs S => (evs cl gl fr vs S).bindX fun ys S => cl f (x :: (xs ++ ks.map fun k => ys.getD k .non)) S else .bad := by rw [ev]
@[simp] theorem ev_vp (m : Nat) (a : ME) : ev cl gl fr (.vp m a) S = (ev cl gl fr a S).bindX fun x S => (opt ((clsO S x).bind fun c => gl.p c m) S).bind fun f S => (cl f [x] S).nox := by rw [ev]
@[simp] theorem ev_cm (c m : Nat) (es : List ME) : ev cl gl fr (.cm c m es) S = (opt (gl.c c m) S).bind fun f S => (evs cl gl fr es S).bindX fun xs S => cl f (.cls c :: xs) S := by rw [ev]
@[simp] theorem ev_cmK (c m : Nat) (es : List ME) (ks : List Nat) (vs : List ME) : ev cl gl fr (.cmK c m es ks vs) S = (opt (gl.c c m) S).bind fun f S => (evs cl gl fr es S).bindX fun xs S => (evs cl gl fr vs S).bindX fun ys S => cl f (.cls c :: (xs ++ ks.map fun k => ys.getD k .non)) S := by rw [ev]
@[simp] theorem evS_nil : evS cl gl fr [] [] S = .ok [] S := by rw [evS]
@[simp] theorem evS_cons (b : Bool) (bs : List Bool) (e : ME) (es : List ME) : evS cl gl fr (b :: bs) (e :: es) S = (ev cl gl fr e S).bind fun x S => (opt (if b then rdA S x else some [x]) S).bind fun xs S => (evS cl gl fr bs es S).bind fun ys S => .ok (xs ++ ys) S := by rw [evS]
@[simp] theorem ev_tupS (bs : List Bool) (es : List ME) : ev cl gl fr (.tupS bs es) S = (evS cl gl fr bs es S).bind fun xs S => if xs.length ≤ sizeLine then .ok (.tup xs) S else .bad := by rw [ev]
@[simp] theorem ev_lstS (bs : List Bool) (es : List ME) : ev cl gl fr (.lstS bs es) S = (evS cl gl fr bs es S).bind fun xs S => if xs.length ≤ sizeLine then .ok (.lst xs) S else .bad := by rw [ev]
@[simp] theorem ev_callS (f : Nat) (bs : List Bool) (es : List ME) : ev cl gl fr (.callS f bs es) S = (evS cl gl fr bs es S).bind fun xs S => (cl f xs S).nox := by rw [ev]
@[simp] theorem ev_meth (m : Me) (a : ME) (es : List ME) : ev cl gl fr (.meth m a es) S = (ev cl gl fr a S).bind fun x S => (evs cl gl fr es S).bind fun xs S => opt (meD m x xs) S := by rw [ev]
@[simp] theorem ev_app (o e : ME) : ev cl gl fr (.app o e) S = (ev cl gl fr o S).bind fun x S => (opt (rdL S x) S).bind fun _ S => (ev cl gl fr e S).bind fun y S => (opt (appD S x y) S).bind fun S' _ => .ok .non S' := by rw [ev]
@[simp] theorem ev_get1 (a b : ME) : ev cl gl fr (.get1 a b) S = (ev cl gl fr a S).bind fun x S => (ev cl gl fr b S).bind fun y S => opt (meD .get x [y]) S := by rw [ev]
@[simp] theorem ev_get2 (a b c : ME) : ev cl gl fr (.get2 a b c) S = (ev cl gl fr a S).bind fun x S => (ev cl gl fr b S).bind fun y S => (ev cl gl fr c S).bind fun z S => opt (meD .get x [y, z]) S := by rw [ev]
@[simp] theorem ev_dct (es : List ME) : ev cl gl fr (.dct es) S = (evs cl gl fr es S).bind fun xs S => opt ((pairsD xs).map fun kvs => .dic (mergeD [] kvs)) S := by rw [ev]
@[simp] theorem ev_fs (es : List ME) : ev cl gl fr (.fs es) S = (evs cl gl fr es S).bind fun xs S => opt ((fsD Str.empty xs).map .str) S := by rw [ev]
/-- == of an instance by its __eq__ -/
def eqO (cl : Nat → List D → Sto → Out D) (gl : GL) (m : Nat) (x y : D) (S : Sto) : Out D := match clsO S x with
  | some c => if clsO S y = some c then (opt (gl.m c m) S).bind fun f S => (cl f [x, y] S).nox else .bad
  | none => opt ((cmpD .Eq x y).map .bl) S
@[simp] theorem ev_eqm (m : Nat) (a b : ME) : ev cl gl fr (.eqm m a b) S = (ev cl gl fr a S).bind fun x S => (ev cl gl fr b S).bind fun y S => eqO cl gl m x y S := by (rw [ev]) <;> rfl
@[simp] theorem eqO_ins (m c c' : Nat) (ds es : List D) : eqO cl gl m (.ins c ds) (.ins c' es) S = if c' = c then (opt (gl.m c m) S).bind fun f S => (cl f [.ins c ds, .ins c' es] S).nox else .bad := by
  show (if some c' = some c then _ else _) = _
  by_cases h : c' = c
  · subst h; simp
  · simp [h]
/-- == and != of an instance with anything -/
def eqX (cl : Nat → List D → Sto → Out D) (gl : GL) (c m : Nat) (neg : Bool) (x y : D) (S : Sto) : Out D := if clsO S x = some c ∧ othD y = true then (opt (gl.m c m) S).bind fun f S => (cl f [x, y] S).bind fun d S => opt ((boolO d).map fun r => .bl (if neg then !r else r)) S else .bad
@[simp] theorem ev_eqx (c m : Nat) (neg : Bool) (a b : ME) : ev cl gl fr (.eqx c m neg a b) S = (ev cl gl fr a S).bind fun x S => (ev cl gl fr b S).bind fun y S => eqX cl gl c m neg x y S := by (rw [ev]) <;> rfl
theorem eqX_ins {c m f : Nat} {neg r : Bool} {ds : List D} {y : D} {S S' : Sto} (ho : othD y = true) (hm : gl.m c m = some f) (e : cl f [.ins c ds, y] S = .ok (.bl r) S') : eqX cl gl c m neg (.ins c ds) y S = .ok (.bl (if neg then !r else r)) S' := by
  unfold eqX
  rw [if_pos ⟨rfl, ho⟩, hm]
  show (cl f [.ins c ds, y] S).bind _ = _
  rw [e]
  rfl
/-- bool of an instance by its __len__ -/
def tlnO (cl : Nat → List D → Sto → Out D) (gl : GL) (m : Nat) (x : D) (S : Sto) : Out D := match clsO S x with
  | some c => if gl.b c = false then .bad else (opt (gl.m c m) S).bind fun f S => (cl f [x] S).bind fun d S => match d with
    | .int n => if dunOk .len d then .ok (.bl (n != 0)) S else .bad
    | _ => .bad
  | none => .bad
@[simp] theorem ev_tln (m : Nat) (e : ME) : ev cl gl fr (.tln m e) S = (ev cl gl fr e S).bind (tlnO cl gl m) := by (rw [ev]) <;> rfl
theorem tlnO_ins {c m f n : Nat} {ds : List D} {S S' : Sto} (hb : gl.b c = true) (hm : gl.m c m = some f) (h1 : n ≤ 1000000) (e : cl f [.ins c ds] S = .ok (.int (n : Int)) S') : tlnO cl gl m (.ins c ds) S = .ok (.bl (n != 0)) S' := by
  have d : dunOk .len (.int (n : Int)) = true := by
    unfold dunOk
    simp
    omega
  have z : ((n : Int) != 0) = (n != 0) := by rw [Bool.eq_iff_iff]; simp
  unfold tlnO
  have cc : clsO S (.ins c ds) = some c := rfl
  rw [cc]
  simp only [hb, hm, e, o_some, b_ok, d, z, if_true, Bool.true_eq_false, if_false]
/-- a list of the store is read for good -/
def unstO (n : Nat) (S : Sto) : Out D := match S[n]? with
  | some (.lst xs) => .ok (.lst xs) (S.set n .dead)
  | _ => .bad
theorem ev_unst {i n : Nat} (h : fr[i]? = some (some (.val (.obj n)))) : ev cl gl fr (.unst i) S = unstO n S := by
  rw [ev, h]
  rfl
theorem unstO_eq {n : Nat} {xs : List D} {S : Sto} (h : S[n]? = some (.lst xs)) : unstO n S = .ok (.lst xs) (S.set n .dead) := by
  unfold unstO
  rw [h]
/-- a list goes into the store -/
def stoO (fr : Frm) (i : Nat) (d : D) (S : Sto) : Out Fl := match d with
  | .lst xs => .ok (.next (fr.set i (some (.val (.obj S.length))))) (S ++ [.lst xs])
  | _ => .bad
@[simp] theorem stoO_lst (i : Nat) (xs : List D) : stoO fr i (.lst xs) S = .ok (.next (fr.set i (some (.val (.obj S.length))))) (S ++ [.lst xs]) := id rfl
@[simp] theorem ex_setLs (i : Nat) (e : ME) : ex cl gl fuel (.setLs i e) fr S = (ev cl gl fr e S).bind (stoO fr i) := by (rw [ex]) <;> rfl
@[simp] theorem ex_raise (c f : Nat) (es : List ME) : ex cl gl fuel (.raise c f es) fr S = (evs cl gl fr es S).bind fun xs S => .ok (.exc (.ins c xs)) S := by rw [ex]
/-- len | str | repr of an instance, or as ever -/
def dunO (cl : Nat → List D → Sto → Out D) (gl : GL) (m : Nat) (b : Bi) (x : D) (S : Sto) : Out D := match clsO S x with
  | some c => (opt (gl.m c m) S).bind fun f S => (cl f [x] S).bind fun d S => if dunOk b d then .ok d S else .bad
  | none => opt (blD S b [x]) S
@[simp] theorem ev_dun (m : Nat) (b : Bi) (e : ME) : ev cl gl fr (.dun m b e) S = (ev cl gl fr e S).bind (dunO cl gl m b) := by (rw [ev]) <;> rfl
@[simp] theorem dunO_ins (m c : Nat) (b : Bi) (ds : List D) : dunO cl gl m b (.ins c ds) S = (opt (gl.m c m) S).bind fun f S => (cl f [.ins c ds] S).bind fun d S => if dunOk b d then .ok d S else .bad := id rfl
@[simp] theorem clsO_ins (c : Nat) (ds : List D) : clsO S (.ins c ds) = some c := id rfl
@[simp] theorem fldD_ins (f c : Nat) (ds : List D) : fldD gl S f (.ins c ds) = fget (gl.fl c) ds f := id rfl
@[simp] theorem rdA_tup (xs : List D) : rdA S (.tup xs) = some xs := id rfl
@[simp] theorem rdA_lst (xs : List D) : rdA S (.lst xs) = some xs := id rfl
@[simp] theorem asg_name (i : Nat) (d : D) : asg cl gl (.name i) fr d S = .ok (fr.set i (some (.val d))) S := by rw [asg]
@[simp] theorem asg_tup (gs : List MG) (xs : List D) : asg cl gl (.tup gs) fr (.tup xs) S = asgs cl gl gs fr xs S := by rw [asg]
@[simp] theorem asg_lst (gs : List MG) (xs : List D) : asg cl gl (.tup gs) fr (.lst xs) S = asgs cl gl gs fr xs S := by rw [asg]
@[simp] theorem asgs_nil : asgs cl gl [] fr [] S = .ok fr S := by rw [asgs]
@[simp] theorem asgs_cons (g : MG) (gs : List MG) (x : D) (xs : List D) : asgs cl gl (g :: gs) fr (x :: xs) S = (asg cl gl g fr x S).bind fun fr S => asgs cl gl gs fr xs S := by rw [asgs]
/-- an item is put into a list of the store -/
def putO (fr : Frm) (x y d : D) (S : Sto) : Out Frm := match x, y with
  | .obj n, .int j => (opt (setD S n j d) S).bind fun S' _ => .ok fr S'
  | _, _ => .bad
@[simp] theorem putO_obj (n : Nat) (j : Int) (d : D) : putO fr (.obj n) (.int j) d S = (opt (setD S n j d) S).bind fun S' _ => .ok fr S' := id rfl
@[simp] theorem asg_sub (o i : ME) (d : D) : asg cl gl (.sub o i) fr d S = (ev cl gl fr o S).bind fun x S => (ev cl gl fr i S).bind fun y S => putO fr x y d S := by (rw [asg]) <;> rfl
@[simp] theorem evR_val (e : ME) : evR cl gl fr (.val e) S = (ev cl gl fr e S).bindX fun d S => .ok (.val d) S := id rfl
@[simp] theorem evR_lst (es : List ME) : evR cl gl fr (.lst es) S = (evs cl gl fr es S).bind fun xs S => .ok (.olst xs) S := id rfl
@[simp] theorem evRs_nil : evRs cl gl fr [] S = .ok [] S := id rfl
@[simp] theorem evRs_cons (r : MR) (rs : List MR) : evRs cl gl fr (r :: rs) S = (evR cl gl fr r S).bind fun x S => (evRs cl gl fr rs S).bind fun xs S => .ok (x :: xs) S := id rfl
@[simp] theorem setAll_nil (ds : List SV) : setAll fr [] ds = fr := by cases ds <;> rfl
@[simp] theorem setAll_cons (i : Nat) (is : List Nat) (d : SV) (ds : List SV) : setAll fr (i :: is) (d :: ds) = setAll (fr.set i (some d)) is ds := id rfl
@[simp] theorem ex_set (i : Nat) (r : MR) : ex cl gl fuel (.set i r) fr S = (evR cl gl fr r S).stm fun d S => .ok (.next (fr.set i (some d))) S := by rw [ex]
/-- what a comprehension is kept as -/
def keepO (fr : Frm) (i : Nat) (o : Bool) (d : D) (S : Sto) : Out Fl := match o, d with
  | true, .lst xs => .ok (.next (fr.set i (some (.olst xs)))) S
  | true, _ => .bad
  | false, d => .ok (.next (fr.set i (some (.val d)))) S
@[simp] theorem keepO_f (i : Nat) (d : D) : keepO fr i false d S = .ok (.next (fr.set i (some (.val d)))) S := by cases d <;> rfl
@[simp] theorem keepO_t (i : Nat) (xs : List D) : keepO fr i true (.lst xs) S = .ok (.next (fr.set i (some (.olst xs)))) S := id rfl
@[simp] theorem ex_setLc (i : Nat) (o : Bool) (e : ME) : ex cl gl fuel (.setLc i o e) fr S = (ev cl gl fr e S).bind (keepO fr i o) := by (rw [ex]) <;> rfl
@[simp] theorem ex_par (is : List Nat) (rs : List MR) : ex cl gl fuel (.par is rs) fr S = (evRs cl gl fr rs S).bind fun ds S => .ok (.next (setAll fr is ds)) S := by rw [ex]
@[simp] theorem ex_asg (g : MG) (e : ME) : ex cl gl fuel (.asg g e) fr S = (ev cl gl fr e S).bind fun d S => (asg cl gl g fr d S).bind fun fr S => .ok (.next fr) S := by rw [ex]
@[simp] theorem ex_aug (i : Nat) (op : Operator) (e : ME) : ex cl gl fuel (.aug i op e) fr S = match fr[i]? with
  | some (some (.val x)) => (ev cl gl fr e S).bind fun y S => (opt (augD op x y) S).bind fun d S => .ok (.next (fr.set i (some (.val d)))) S
  | _ => .bad := by (rw [ex]) <;> rfl
@[simp] theorem ex_freeze (i : Nat) : ex cl gl fuel (.freeze i) fr S = match fr[i]? with
  | some (some (.olst xs)) => .ok (.next (fr.set i (some (.val (.lst xs))))) S
  | some (some (.odct xs)) => .ok (.next (fr.set i (some (.val (.dic xs))))) S
  | _ => .ok (.next fr) S := by (rw [ex]) <;> rfl
@[simp] theorem ex_append (i : Nat) (e : ME) : ex cl gl fuel (.append i e) fr S = (ev cl gl fr e S).bind fun d S => match fr[i]? with
  | some (some (.olst xs)) => if xs.length < sizeLine then .ok (.next (fr.set i (some (.olst (xs ++ [d]))))) S else .bad
  | _ => .bad := by (rw [ex]) <;> rfl
@[simp] theorem ex_expr (e : ME) : ex cl gl fuel (.expr e) fr S = (ev cl gl fr e S).stm fun _ S => .ok (.next fr) S := by rw [ex]
@[simp] theorem ex_ret (e : ME) : ex cl gl fuel (.ret e) fr S = (ev cl gl fr e S).stm fun d S => .ok (.ret d) S := by rw [ex]
@[simp] theorem ex_retN : ex cl gl fuel .retN fr S = .ok (.ret .non) S := by rw [ex]
@[simp] theorem ex_ife (t : MT) (a b : List MS) : ex cl gl fuel (.ife t a b) fr S = (evT cl gl fr t S).bind fun k S => if k then exs cl gl fuel a fr S else exs cl gl fuel b fr S := by rw [ex]
@[simp] theorem ex_forr (g : MG) (src : MI) (b : List MS) : ex cl gl fuel (.forr g src b) fr S = (evI cl gl fr src S).bind fun xs S => forO (asg cl gl g) (exs cl gl fuel b) xs fr S := by rw [ex]
/-- a while loop -/
def wh (cl : Nat → List D → Sto → Out D) (gl : GL) (fuel : Nat) (t : MT) (b : List MS) (n : Nat) (fr : Frm) (S : Sto) : Out Fl := whileO (fun fr S => evT cl gl fr t S) (exs cl gl fuel b) n fr S
@[simp] theorem ex_whil (t : MT) (b : List MS) : ex cl gl fuel (.whil t b) fr S = wh cl gl fuel t b fuel fr S := by (rw [ex]) <;> rfl
@[simp] theorem ex_brk : ex cl gl fuel .brk fr S = .ok (.brk fr) S := by rw [ex]
@[simp] theorem ex_cont : ex cl gl fuel .cont fr S = .ok (.cont fr) S := by rw [ex]
@[simp] theorem ex_pass : ex cl gl fuel .pass fr S = .ok (.next fr) S := by rw [ex]
end
/-! ### comprehensions, loops -/
section
variable {cl : Nat → List D → Sto → Out D} {gl : GL} {fr : Frm} {S : Sto} {fuel : Nat}
/-- one turn of a comprehension -/
def turn (cl : Nat → List D → Sto → Out D) (gl : GL) (fr : Frm) (own : List Nat) (g : MG) (tt : List MT) (e : ME) (x : D) (S : Sto) : Out (Option D) :=
  (asg cl gl g (wipeF fr own) x S).bind fun fr2 S => (evTs cl gl fr2 tt S).bind fun k S => if k then (ev cl gl fr2 e S).bind fun d S => .ok (some d) S else .ok none S
theorem fold_turn {α : Type} {own : List Nat} {g : MG} {tt : List MT} {e : ME} (u : α → D) (f : α → Option D) : ∀ (xs : List α) (acc : List D), acc.length + xs.length ≤ sizeLine → (∀ x ∈ xs, turn cl gl fr own g tt e (u x) S = .ok (f x) S) →
    foldO (fun (acc : List D) x S => (asg cl gl g (wipeF fr own) x S).bind fun fr2 S => (evTs cl gl fr2 tt S).bind fun k S =>
      if k then (ev cl gl fr2 e S).bind fun d S => if acc.length < sizeLine then .ok (acc ++ [d]) S else .bad else .ok acc S) acc (xs.map u) S = .ok (acc ++ xs.filterMap f) S
  | [], acc, _, _ => by simp [foldO]
  | x :: xs, acc, hl, h => by
    have h1 := h x List.mem_cons_self
    simp only [List.length_cons] at hl
    have hlt : acc.length < sizeLine := by omega
    unfold turn at h1
    have key : ((asg cl gl g (wipeF fr own) (u x) S).bind fun fr2 S => (evTs cl gl fr2 tt S).bind fun k S =>
      if k then (ev cl gl fr2 e S).bind fun d S => if acc.length < sizeLine then .ok (acc ++ [d]) S else .bad else .ok acc S) = .ok (acc ++ (f x).toList) S := by
      obtain ⟨fr2, S1, a1, h1⟩ := bnd_ok h1
      obtain ⟨k, S2, a2, h1⟩ := bnd_ok h1
      rw [a1, b_ok, a2, b_ok]
      cases k with
      | false =>
        rw [if_neg Bool.false_ne_true] at h1 ⊢
        injection h1 with h1 h2
        rw [← h1, h2]
        simp
      | true =>
        rw [if_pos rfl] at h1 ⊢
        obtain ⟨d, S3, a3, h1⟩ := bnd_ok h1
        rw [a3, b_ok, if_pos hlt]
        injection h1 with h1 h2
        rw [← h1, h2]
        simp
    rw [List.map_cons, foldO, key, b_ok]
    rw [fold_turn u f xs _ (by cases f x <;> simp <;> omega) fun y hy => h y (List.mem_cons_of_mem _ hy), List.filterMap_cons]
    cases f x <;> simp
theorem ev_lc {α : Type} {own : List Nat} {g : MG} {src : MI} {tt : List MT} {e : ME} (xs : List α) (u : α → D) (f : α → Option D) (hs : evI cl gl fr src S = .ok (xs.map u) S) (hl : xs.length ≤ sizeLine) (h : ∀ x ∈ xs, turn cl gl fr own g tt e (u x) S = .ok (f x) S) :
    ev cl gl fr (.lc own g src tt e) S = .ok (.lst (xs.filterMap f)) S := by
  rw [ev, hs, b_ok, fold_turn u f xs [] (by simpa using hl) h]
  simp
theorem ev_lcm {α : Type} {own : List Nat} {g : MG} {src : MI} {e : ME} (xs : List α) (u : α → D) (f : α → D) (hs : evI cl gl fr src S = .ok (xs.map u) S) (hl : xs.length ≤ sizeLine) (h : ∀ x ∈ xs, turn cl gl fr own g [] e (u x) S = .ok (some (f x)) S) :
    ev cl gl fr (.lc own g src [] e) S = .ok (.lst (xs.map f)) S := by
  rw [ev_lc xs u (fun x => some (f x)) hs hl h, List.filterMap_eq_map']
theorem ev_lcf {α : Type} {own : List Nat} {g : MG} {src : MI} {tt : List MT} {e : ME} (xs : List α) (u : α → D) (p : α → Bool) (f : α → D) (hs : evI cl gl fr src S = .ok (xs.map u) S) (hl : xs.length ≤ sizeLine) (h : ∀ x ∈ xs, turn cl gl fr own g tt e (u x) S = .ok (if p x then some (f x) else none) S) :
    ev cl gl fr (.lc own g src tt e) S = .ok (.lst ((xs.filter p).map f)) S := by
  rw [ev_lc xs u _ hs hl h]
  congr 2
  clear hs hl h
  induction xs with
  | nil => rfl
  | cons x xs ih =>
    rw [List.filterMap_cons, List.filter_cons]
    cases p x <;> simp [ih]
/-- a comprehension whose turns change the store: each gives d -/
theorem fold_turns {own : List Nat} {g : MG} {tt : List MT} {e : ME} (d : D) : ∀ (xs acc : List D) (S : Sto), acc.length + xs.length ≤ sizeLine → (∀ x ∈ xs, ∀ S, ∃ S', turn cl gl fr own g tt e x S = .ok (some d) S') →
    ∃ S', foldO (fun (acc : List D) x S => (asg cl gl g (wipeF fr own) x S).bind fun fr2 S => (evTs cl gl fr2 tt S).bind fun k S =>
      if k then (ev cl gl fr2 e S).bind fun d S => if acc.length < sizeLine then .ok (acc ++ [d]) S else .bad else .ok acc S) acc xs S = .ok (acc ++ xs.map fun _ => d) S'
  | [], acc, S, _, _ => ⟨S, by simp [foldO]⟩
  | x :: xs, acc, S, hl, h => by
    obtain ⟨S1, h1⟩ := h x List.mem_cons_self S
    simp only [List.length_cons] at hl
    have hlt : acc.length < sizeLine := by omega
    unfold turn at h1
    obtain ⟨fr2, S2, a1, h1⟩ := bnd_ok h1
    obtain ⟨k, S3, a2, h1⟩ := bnd_ok h1
    cases k with
    | false =>
      rw [if_neg Bool.false_ne_true] at h1
      cases h1
    | true =>
      rw [if_pos rfl] at h1
      obtain ⟨d', S4, a3, h1⟩ := bnd_ok h1
      injection h1 with h1 h2
      injection h1 with h1
      subst h1
      obtain ⟨S', e⟩ := fold_turns d' xs (acc ++ [d']) S4 (by simp; omega) fun y hy => h y (List.mem_cons_of_mem _ hy)
      refine ⟨S', ?_⟩
      rw [foldO, a1, b_ok, a2, b_ok, if_pos rfl, a3, b_ok, if_pos hlt, b_ok, e]
      simp
theorem ev_lcs {own : List Nat} {g : MG} {src : MI} {tt : List MT} {e : ME} {xs : List D} {S1 : Sto} (d : D) (hs : evI cl gl fr src S = .ok xs S1) (hl : xs.length ≤ sizeLine) (h : ∀ x ∈ xs, ∀ S, ∃ S', turn cl gl fr own g tt e x S = .ok (some d) S') :
    ∃ S', ev cl gl fr (.lc own g src tt e) S = .ok (.lst (xs.map fun _ => d)) S' := by
  obtain ⟨S', q⟩ := fold_turns d xs [] S1 (by simpa using hl) h
  refine ⟨S', ?_⟩
  rw [ev, hs, b_ok, q]
  simp
/-- a comprehension whose turns change the store: what holds of the items, what holds of the store -/
theorem fold_inv {own : List Nat} {g : MG} {e : ME} {J : Sto → Prop} {Q : D → D → Prop} : ∀ (xs acc : List D) (S : Sto), acc.length + xs.length ≤ sizeLine → J S → (∀ x ∈ xs, ∀ S, J S → ∃ d S', turn cl gl fr own g [] e x S = .ok (some d) S' ∧ Q x d ∧ J S') →
    ∃ ds S', foldO (fun (acc : List D) x S => (asg cl gl g (wipeF fr own) x S).bind fun fr2 S => (evTs cl gl fr2 [] S).bind fun k S =>
      if k then (ev cl gl fr2 e S).bind fun d S => if acc.length < sizeLine then .ok (acc ++ [d]) S else .bad else .ok acc S) acc xs S = .ok (acc ++ ds) S' ∧ F2 Q xs ds ∧ J S'
  | [], acc, S, _, hJ, _ => ⟨[], S, by simp [foldO], .nil, hJ⟩
  | x :: xs, acc, S, hl, hJ, h => by
    obtain ⟨d0, S1, h1, hq, hJ1⟩ := h x List.mem_cons_self S hJ
    simp only [List.length_cons] at hl
    have hlt : acc.length < sizeLine := by omega
    unfold turn at h1
    obtain ⟨fr2, S2, a1, h1⟩ := bnd_ok h1
    obtain ⟨k, S3, a2, h1⟩ := bnd_ok h1
    cases k with
    | false =>
      rw [if_neg Bool.false_ne_true] at h1
      cases h1
    | true =>
      rw [if_pos rfl] at h1
      obtain ⟨d', S4, a3, h1⟩ := bnd_ok h1
      injection h1 with h1 h2
      injection h1 with h1
      subst h1 h2
      obtain ⟨ds, S', e1, e2, e3⟩ := fold_inv xs (acc ++ [d']) S4 (by simp; omega) hJ1 fun y hy => h y (List.mem_cons_of_mem _ hy)
      refine ⟨d' :: ds, S', ?_, .cons hq e2, e3⟩
      rw [foldO, a1, b_ok, a2, b_ok, if_pos rfl, a3, b_ok, if_pos hlt, b_ok, e1]
      simp
theorem ev_lcJ {own : List Nat} {g : MG} {src : MI} {e : ME} {J : Sto → Prop} {Q : D → D → Prop} {xs : List D} {S1 : Sto} (hs : evI cl gl fr src S = .ok xs S1) (hl : xs.length ≤ sizeLine) (hJ : J S1) (h : ∀ x ∈ xs, ∀ S, J S → ∃ d S', turn cl gl fr own g [] e x S = .ok (some d) S' ∧ Q x d ∧ J S') :
    ∃ ds S', ev cl gl fr (.lc own g src [] e) S = .ok (.lst ds) S' ∧ F2 Q xs ds ∧ J S' := by
  obtain ⟨ds, S', q, q2, q3⟩ := fold_inv xs [] S1 (by simpa using hl) hJ h
  refine ⟨ds, S', ?_, q2, q3⟩
  rw [ev, hs, b_ok, q]
  simp
/-! ### walks of any list -/
theorem foldL_eq {α : Type} {n : Nat} {f : α → D → Sto → Out α} {xs : List D} (J : Sto → Prop) (hJ : ∀ S, J S → S[n]? = some (.lst xs)) (step : ∀ x ∈ xs, ∀ a S, J S → ∃ a' S', f a x S = .ok a' S' ∧ J S') :
    ∀ (k i : Nat) (a : α) (S : Sto), xs.length - i < k → J S → foldL n f k i a S = foldO f a (xs.drop i) S
  | 0, i, a, S, h, _ => by omega
  | k + 1, i, a, S, h, hS => by
    rw [foldL, hJ S hS]
    simp only []
    cases hx : xs[i]? with
    | none =>
      have : xs.drop i = [] := List.drop_eq_nil_iff.mpr (List.getElem?_eq_none_iff.mp hx)
      rw [this]; rfl
    | some x =>
      have hi : i < xs.length := (List.getElem?_eq_some_iff.mp hx).1
      have e : xs.drop i = x :: xs.drop (i + 1) := by
        rw [List.drop_eq_getElem_cons hi]
        congr 1
        exact (List.getElem?_eq_some_iff.mp hx).2
      rw [e, foldO]
      obtain ⟨a', S', e1, e2⟩ := step x (List.mem_of_getElem? hx) a S hS
      simp only []
      rw [e1, b_ok, b_ok]
      exact foldL_eq J hJ step k (i + 1) a' S' (by omega) e2
theorem foldW_live {α : Type} (n : Nat) (f : α → D → Sto → Out α) (a : α) (S : Sto) : foldW (.live n) f a S = foldL n f (999999 + 1) 0 a S := rfl
theorem wk_rd {x : D} {xs : List D} {S : Sto} (h : rdL S x = some xs) : (∃ n, x = .obj n ∧ S[n]? = some (.lst xs)) ∨ wkD x = some (.its xs) := by
  cases x <;> simp only [rdL, reduceCtorEq, Option.some.injEq] at h
  · subst h; exact .inr rfl
  · subst h; exact .inr rfl
  · rename_i n
    refine .inl ⟨n, rfl, ?_⟩
    cases q : S[n]? with
    | none => rw [q] at h; cases h
    | some so =>
      rw [q] at h
      cases so <;> simp only [reduceCtorEq, Option.some.injEq] at h
      rw [h]
/-- a comprehension over a list of any kind whose turns leave the store -/
theorem ev_lcL {α : Type} {own : List Nat} {g : MG} {src : ME} {tt : List MT} {e : ME} {x : D} (xs : List α) (u : α → D) (f : α → Option D) (hs : ev cl gl fr src S = .ok x S) (hx : rdL S x = some (xs.map u)) (hl : xs.length ≤ 100000) (h : ∀ x ∈ xs, turn cl gl fr own g tt e (u x) S = .ok (f x) S) :
    ev cl gl fr (.lcL own g src tt e) S = .ok (.lst (xs.filterMap f)) S := by
  have hz : xs.length ≤ sizeLine := by rw [sizeLine_eq]; omega
  rcases wk_rd hx with ⟨n, rfl, hn⟩ | hw
  · have q := fold_turn (S := S) u f xs [] (by simpa using hz) h
    rw [ev, hs, b_ok, show wkD (.obj n) = some (.live n) from rfl, o_some, b_ok, foldW_live]
    have key : ∀ (m i : Nat) (acc : List D), m = xs.length - i → i ≤ xs.length → acc.length + m ≤ sizeLine → ∀ k, m < k →
        foldL n (fun (acc : List D) x S => (asg cl gl g (wipeF fr own) x S).bind fun fr2 S => (evTs cl gl fr2 tt S).bind fun k S =>
          if k then (ev cl gl fr2 e S).bind fun d S => if acc.length < sizeLine then .ok (acc ++ [d]) S else .bad else .ok acc S) k i acc S = .ok (acc ++ (xs.drop i).filterMap f) S := by
      intro m
      induction m with
      | zero =>
        intro i acc hm hi ha k hk
        obtain ⟨k, rfl⟩ : ∃ k', k = k' + 1 := ⟨k - 1, by omega⟩
        rw [foldL, hn]
        have : (xs.map u)[i]? = none := by rw [List.getElem?_eq_none_iff, List.length_map]; omega
        simp only [this]
        rw [show xs.drop i = [] from List.drop_eq_nil_iff.mpr (by omega)]
        simp
      | succ m ih =>
        intro i acc hm hi ha k hk
        obtain ⟨k, rfl⟩ : ∃ k', k = k' + 1 := ⟨k - 1, by omega⟩
        have hi2 : i < xs.length := by omega
        have e1 : (xs.map u)[i]? = some (u xs[i]) := by simp [hi2]
        rw [foldL, hn]
        simp only [e1]
        have t1 := fold_turn (S := S) u f [xs[i]] acc (by simp; omega) (fun y hy => by
          rw [List.mem_singleton] at hy
          subst hy
          exact h _ (List.getElem_mem _))
        rw [List.map_cons, List.map_nil, foldO] at t1
        obtain ⟨a1, S1, t2, t3⟩ := bnd_ok t1
        simp only [foldO] at t3
        injection t3 with t3 t4
        subst t4
        rw [t2, b_ok, t3]
        have hd : xs.drop i = xs[i] :: xs.drop (i + 1) := List.drop_eq_getElem_cons hi2
        rw [ih (i + 1) _ (by omega) (by omega) (by rw [List.length_append]; have : ([xs[i]].filterMap f).length ≤ 1 := by { rw [List.filterMap_cons]; cases f xs[i] <;> simp }; omega) k (by omega), hd]
        rw [List.filterMap_cons, List.filterMap_cons]
        cases f xs[i] <;> simp
    rw [key xs.length 0 [] (by simp) (by omega) (by simpa using hz) (999999 + 1) (by omega)]
    simp
  · have q := fold_turn (S := S) u f xs [] (by simpa using hz) h
    rw [ev, hs, b_ok, hw, o_some, b_ok]
    show (foldO _ [] (xs.map u) S).bind _ = _
    rw [q]
    simp
theorem ev_lcLm {α : Type} {own : List Nat} {g : MG} {src : ME} {e : ME} {x : D} (xs : List α) (u : α → D) (f : α → D) (hs : ev cl gl fr src S = .ok x S) (hx : rdL S x = some (xs.map u)) (hl : xs.length ≤ 100000) (h : ∀ x ∈ xs, turn cl gl fr own g [] e (u x) S = .ok (some (f x)) S) :
    ev cl gl fr (.lcL own g src [] e) S = .ok (.lst (xs.map f)) S := by
  rw [ev_lcL xs u (fun x => some (f x)) hs hx hl h, List.filterMap_eq_map']
theorem cut_map {α : Type} (u : α → D) (xs : List α) (lo hi : Option Int) : ∃ ys : List α, cutL (xs.map u) lo hi = ys.map u := by
  unfold cutL
  rw [List.length_map, ← List.map_drop, ← List.map_take]
  exact ⟨_, rfl⟩
theorem bls_all {α : Type} (f : α → Bool) : ∀ xs : List α, blsD (xs.map fun x => .bl (f x)) = some (xs.map f)
  | [] => rfl
  | x :: xs => by simp [blsD, bls_all f xs]
theorem ints_all {α : Type} (f : α → Int) : ∀ xs : List α, intsD (xs.map fun x => .int (f x)) = some (xs.map f)
  | [] => rfl
  | x :: xs => by simp [intsD, ints_all f xs]
/-- a loop that goes on to its end: what holds is told by the items that are left -/
theorem for_all {g : Frm → D → Sto → Out Frm} {b : Frm → Sto → Out Fl} (J : List D → Frm → Sto → Prop) (step : ∀ x xs fr S, J (x :: xs) fr S → ∃ fr1 S1 fr2 S2, g fr x S = .ok fr1 S1 ∧ (b fr1 S1 = .ok (.next fr2) S2 ∨ b fr1 S1 = .ok (.cont fr2) S2) ∧ J xs fr2 S2) :
    ∀ (xs : List D) (fr : Frm) (S : Sto), J xs fr S → ∃ fr2 S2, forO g b xs fr S = .ok (.next fr2) S2 ∧ J [] fr2 S2
  | [], fr, S, h => ⟨fr, S, rfl, h⟩
  | x :: xs, fr, S, h => by
    obtain ⟨fr1, S1, fr2, S2, h1, h2, h3⟩ := step x xs fr S h
    obtain ⟨fr3, S3, h4, h5⟩ := for_all J step xs fr2 S2 h3
    refine ⟨fr3, S3, ?_, h5⟩
    rw [forO, h1, b_ok]
    rcases h2 with h2 | h2 <;> rw [h2, b_ok] <;> exact h4
end
/-- a loop over a range -/
theorem for_rng_at {g : Frm → D → Sto → Out Frm} {b : Frm → Sto → Out Fl} (J : Nat → Frm → Sto → Prop) (r : Nat) (step : ∀ i fr S, i < r → J i fr S → ∃ fr1 S1 fr2 S2, g fr (.int (i : Int)) S = .ok fr1 S1 ∧ b fr1 S1 = .ok (.next fr2) S2 ∧ J (i + 1) fr2 S2) :
    ∀ (m i : Nat) (fr : Frm) (S : Sto), i + m = r → J i fr S → ∃ fr2 S2, forO g b ((List.range' i m).map fun i => .int ((i : Nat) : Int)) fr S = .ok (.next fr2) S2 ∧ J r fr2 S2
  | 0, i, fr, S, hi, h => ⟨fr, S, rfl, by rw [← hi]; exact h⟩
  | m + 1, i, fr, S, hi, h => by
    obtain ⟨fr1, S1, fr2, S2, h1, h2, h3⟩ := step i fr S (by omega) h
    obtain ⟨fr3, S3, h4, h5⟩ := for_rng_at J r step m (i + 1) fr2 S2 (by omega) h3
    refine ⟨fr3, S3, ?_, h5⟩
    rw [List.range'_succ, List.map_cons, forO, h1, b_ok, h2, b_ok]
    exact h4
theorem for_rng {g : Frm → D → Sto → Out Frm} {b : Frm → Sto → Out Fl} (J : Nat → Frm → Sto → Prop) (r : Nat) (step : ∀ i fr S, i < r → J i fr S → ∃ fr1 S1 fr2 S2, g fr (.int (i : Int)) S = .ok fr1 S1 ∧ b fr1 S1 = .ok (.next fr2) S2 ∧ J (i + 1) fr2 S2)
    (fr : Frm) (S : Sto) (h : J 0 fr S) : ∃ fr2 S2, forO g b ((List.range r).map fun i => .int ((i : Nat) : Int)) fr S = .ok (.next fr2) S2 ∧ J r fr2 S2 := by
  rw [List.range_eq_range']
  exact for_rng_at J r step r 0 fr S (by omega) h
/-- a loop that ends with the first one of a kind -/
theorem for_ret {α : Type} {g : Frm → D → Sto → Out Frm} {b : Frm → Sto → Out Fl} {S : Sto} (u : α → D) (p : α → Bool) (d : D) (J : Frm → Prop)
    (step : ∀ x fr, J fr → ∃ fr1, g fr (u x) S = .ok fr1 S ∧ (p x = true → b fr1 S = .ok (.ret d) S) ∧ (p x = false → ∃ fr2, b fr1 S = .ok (.next fr2) S ∧ J fr2)) :
    ∀ (xs : List α) (fr : Frm), J fr → (xs.any p = true → forO g b (xs.map u) fr S = .ok (.ret d) S) ∧ (xs.any p = false → ∃ fr2, forO g b (xs.map u) fr S = .ok (.next fr2) S ∧ J fr2)
  | [], fr, h => ⟨fun z => (by cases z), fun _ => ⟨fr, rfl, h⟩⟩
  | x :: xs, fr, h => by
    obtain ⟨fr1, e1, e2, e3⟩ := step x fr h
    rw [List.map_cons, forO, e1, b_ok, List.any_cons]
    cases hp : p x with
    | true =>
      rw [e2 hp, b_ok]
      exact ⟨fun _ => rfl, fun z => (by simp at z)⟩
    | false =>
      obtain ⟨fr2, e4, h2⟩ := e3 hp
      rw [e4, b_ok]
      simpa using for_ret u p d J step xs fr2 h2
/-- a for loop over a list of any kind -/
theorem forW_all {g : Frm → D → Sto → Out Frm} {b : Frm → Sto → Out Fl} {x : D} {xs : List D} (J : List D → Frm → Sto → Prop) (hx : ∀ rem fr S, J rem fr S → rdL S x = some xs) (hl : xs.length ≤ 100000)
    (step : ∀ x rem fr S, J (x :: rem) fr S → ∃ fr1 S1 fr2 S2, g fr x S = .ok fr1 S1 ∧ (b fr1 S1 = .ok (.next fr2) S2 ∨ b fr1 S1 = .ok (.cont fr2) S2) ∧ J rem fr2 S2) (fr : Frm) (S : Sto) (h : J xs fr S) :
    ∃ w fr2 S2, wkD x = some w ∧ forW w g b fr S = .ok (.next fr2) S2 ∧ J [] fr2 S2 := by
  rcases wk_rd (hx _ _ _ h) with ⟨n, rfl, hn⟩ | hw
  · have key : ∀ (m i : Nat) (fr : Frm) (S : Sto), m = xs.length - i → i ≤ xs.length → J (xs.drop i) fr S → ∀ k, m < k → ∃ fr2 S2, forLv n g b k i fr S = .ok (.next fr2) S2 ∧ J [] fr2 S2 := by
      intro m
      induction m with
      | zero =>
        intro i fr S hm hi hJ k hk
        obtain ⟨k, rfl⟩ : ∃ k', k = k' + 1 := ⟨k - 1, by omega⟩
        have hS := hx _ _ _ hJ
        rcases wk_rd hS with ⟨n', e, hn'⟩ | hw
        · cases e
          refine ⟨fr, S, ?_, by rw [show xs.drop i = [] from List.drop_eq_nil_iff.mpr (by omega)] at hJ; exact hJ⟩
          rw [forLv, hn']
          have : xs[i]? = none := by rw [List.getElem?_eq_none_iff]; omega
          simp only [this]
        · cases hw
      | succ m ih =>
        intro i fr S hm hi hJ k hk
        obtain ⟨k, rfl⟩ : ∃ k', k = k' + 1 := ⟨k - 1, by omega⟩
        have hi2 : i < xs.length := by omega
        have hS := hx _ _ _ hJ
        rcases wk_rd hS with ⟨n', e, hn'⟩ | hw
        · cases e
          rw [List.drop_eq_getElem_cons hi2] at hJ
          obtain ⟨fr1, S1, fr2, S2, e1, e2, hJ2⟩ := step _ _ _ _ hJ
          obtain ⟨fr3, S3, e3, hJ3⟩ := ih (i + 1) fr2 S2 (by omega) (by omega) hJ2 k (by omega)
          refine ⟨fr3, S3, ?_, hJ3⟩
          rw [forLv, hn']
          have : xs[i]? = some xs[i] := by simp [hi2]
          simp only [this]
          rw [e1, b_ok]
          rcases e2 with e2 | e2
          · rw [e2, b_ok]; exact e3
          · rw [e2, b_ok]; exact e3
        · cases hw
    obtain ⟨fr2, S2, e, hJ⟩ := key xs.length 0 fr S (by simp) (by omega) h (999999 + 1) (by omega)
    exact ⟨.live n, fr2, S2, rfl, e, hJ⟩
  · obtain ⟨fr2, S2, e, hJ⟩ := for_all (g := g) (b := b) J step xs fr S h
    exact ⟨.its xs, fr2, S2, hw, e, hJ⟩
@[simp] theorem ex_forL {cl : Nat → List D → Sto → Out D} {gl : GL} {fuel : Nat} (gg : MG) (src : ME) (bb : List MS) (fr : Frm) (S : Sto) : ex cl gl fuel (.forL gg src bb) fr S = (ev cl gl fr src S).bind fun x S => (opt (wkD x) S).bind fun w S => forW w (asg cl gl gg) (exs cl gl fuel bb) fr S := by rw [ex]
theorem rng_nat {r : Nat} (h : r < 4611686018427387904) : rng1O (.int (r : Int)) = some ((List.range r).map fun i => .int ((i : Nat) : Int)) := by
  unfold rng1O
  rw [int_int, Option.bind_some]
  unfold rngD
  rw [if_pos ⟨by decide, by decide, by omega, by omega⟩]
  simp
/-- a loop as a fold: the state after each turn, the store as it was -/
theorem for_fold {α β : Type} {g : Frm → D → Sto → Out Frm} {b : Frm → Sto → Out Fl} {S : Sto} (u : α → D) (F : β → Option SV → Frm) (f : β → α → β) (Inv : List α → β → Prop)
    (step : ∀ x r s o, Inv (x :: r) s → Inv r (f s x) ∧ ∃ fr1, g (F s o) (u x) S = .ok fr1 S ∧ b fr1 S = .ok (.next (F (f s x) (some (.val (u x))))) S) :
    ∀ (xs : List α) (s : β) (o : Option SV), Inv xs s → ∃ o', forO g b (xs.map u) (F s o) S = .ok (.next (F (xs.foldl f s) o')) S ∧ Inv [] (xs.foldl f s)
  | [], s, o, h => ⟨o, rfl, h⟩
  | x :: xs, s, o, h => by
    obtain ⟨h1, fr1, h2, h3⟩ := step x xs s o h
    obtain ⟨o', h4, h5⟩ := for_fold u F f Inv step xs (f s x) (some (.val (u x))) h1
    refine ⟨o', ?_, h5⟩
    rw [List.map_cons, forO, h2, b_ok, h3, b_ok]
    exact h4
theorem mul_r {i j : Int} (h1 : -(2 ^ 64) < j) (h2 : j < 2 ^ 64) : mulOk i j = true := by
  unfold mulOk
  rw [decide_eq_true (p := -(2 ^ 64) < j ∧ j < 2 ^ 64) ⟨h1, h2⟩]
  simp
theorem mul_l {i j : Int} (h1 : -(2 ^ 64) < i) (h2 : i < 2 ^ 64) : mulOk i j = true := by
  unfold mulOk
  rw [decide_eq_true (p := -(2 ^ 64) < i ∧ i < 2 ^ 64) ⟨h1, h2⟩]
  simp
theorem mul_mod {i j k : Int} (h1 : 0 < k) (h2 : k < 2 ^ 64) : mulOk (i % k) j = true := by
  have a := Int.emod_nonneg i (Int.ne_of_gt h1)
  have b := Int.emod_lt_of_pos i h1
  exact mul_l (by omega) (by omega)
theorem log_lt {n k : Nat} (h : n < 2 ^ k) (hk : 0 < k) : n.log2 < k := by
  by_cases h0 : n = 0
  · subst h0; simpa using hk
  · exact (Nat.log2_lt h0).mpr h
/-- factors of moderate size -/
theorem mul_b {i j : Int} (h1 : i.natAbs < 2 ^ 400000) (h2 : j.natAbs < 2 ^ 400000) : mulOk i j = true := by
  have a := log_lt h1 (by omega)
  have b := log_lt h2 (by omega)
  unfold mulOk
  rw [decide_eq_true (p := i.natAbs.log2 + j.natAbs.log2 < 1000000) (by omega)]
  simp
theorem div_ok {j : Int} (h0 : 0 < j) (h1 : j < 2 ^ 8000) : divOk j = true := by
  have : j.natAbs < 2 ^ 8000 := by omega
  have := log_lt this (by omega)
  unfold divOk
  simp [h0]
  omega
theorem div_s {j : Int} (h0 : 0 < j) (h1 : j < 2 ^ 200) : divOk j = true := by
  refine div_ok h0 (Int.lt_of_lt_of_le h1 ?_)
  have : (2 : Int) ^ 200 ≤ 2 ^ 8000 := by decide +kernel
  exact this
/-! ### data that can be shown and compared -/
inductive Rd : Nat → Nat → D → Prop
  | non {n w : Nat} : Rd n w .non
  | bl {n w : Nat} (b : Bool) : Rd n w (.bl b)
  | int {n w : Nat} {i : Int} (h : i.natAbs.log2 < 1920) : Rd n w (.int i)
  | str {n w : Nat} {x : Str} (h : PyData.strOk x = true) (l : x.length ≤ w) : Rd n w (.str x)
  | tup {n w w' : Nat} {xs : List D} (h : ∀ x ∈ xs, Rd n w' x) (l : xs.length * (w' + 1) ≤ w) : Rd (n + 1) w (.tup xs)
  | lst {n w w' : Nat} {xs : List D} (h : ∀ x ∈ xs, Rd n w' x) (l : xs.length * (w' + 1) ≤ w) : Rd (n + 1) w (.lst xs)
structure PyOk (n w : Nat) (p : PyData) : Prop where
  sh : p.showable = true
  dp : p.depth ≤ n + 1
  cl : p.canLay0 = true
  hd : p.hasDict = false
  ls : p.leavesShort 1921 = true
  bk : p.bulk ≤ w
theorem all_py {n w : Nat} : ∀ {xs : List D}, (∀ x ∈ xs, ∃ p, x.py = some p ∧ PyOk n w p) → ∃ ps, pyAll xs = some ps ∧ PyData.showableAll ps = true ∧ PyData.depthAll ps ≤ n + 1 ∧ PyData.canLayAll0 ps = true ∧ PyData.hasDictAll ps = false ∧ PyData.leavesShortAll 1921 ps = true ∧ PyData.bulkAll ps ≤ xs.length * (w + 1)
  | [], _ => ⟨[], rfl, by simp [PyData.showableAll], by simp [PyData.depthAll], by simp [PyData.canLayAll0], by simp [PyData.hasDictAll], by simp [PyData.leavesShortAll], by simp [PyData.bulkAll]⟩
  | x :: xs, h => by
    obtain ⟨p, h1, q⟩ := h x List.mem_cons_self
    obtain ⟨ps, h2, g1, g2, g3, g4, g5, g6⟩ := all_py (xs := xs) fun y hy => h y (List.mem_cons_of_mem _ hy)
    refine ⟨p :: ps, by simp [pyAll, h1, h2], by simp [PyData.showableAll, q.sh, g1], ?_, by simp [PyData.canLayAll0, q.cl, g3], by simp [PyData.hasDictAll, q.hd, g4], by simp [PyData.leavesShortAll, q.ls, g5], ?_⟩
    · simp only [PyData.depthAll]
      have := q.dp
      omega
    · simp only [PyData.bulkAll, List.length_cons, Nat.succ_mul]
      have := q.bk
      omega
theorem Rd.py {n w : Nat} {d : D} (h : Rd n w d) : ∃ p, d.py = some p ∧ PyOk n w p := by
  induction h with
  | non => exact ⟨.none, rfl, by simp [PyData.showable], by simp [PyData.depth], by simp [PyData.canLay0], by simp [PyData.hasDict], by simp [PyData.leavesShort], by simp [PyData.bulk]⟩
  | bl b => exact ⟨.bool b, rfl, by simp [PyData.showable], by simp [PyData.depth], by simp [PyData.canLay0], by simp [PyData.hasDict], by simp [PyData.leavesShort], by simp [PyData.bulk]⟩
  | @int n w i h =>
    refine ⟨.int i, rfl, by simp [PyData.showable, h], by simp [PyData.depth], by simp [PyData.canLay0], by simp [PyData.hasDict], ?_, by simp [PyData.bulk]⟩
    have q := int_text_length_le (a := i) (k := 1920) (by omega) h
    have e : (Str.ofString (toString i)).length = (toString i).length := by
      rw [Str.ofString_eq_toList]
      show ((toString i).toList.map Char.toNat).toArray.size = _
      rw [List.size_toArray, List.length_map]
      exact String.length_toList
    have e2 : (PyData.int i).shown.length ≤ 1921 := Nat.le_trans (Nat.le_of_eq e) q
    simp only [PyData.leavesShort, decide_eq_true_eq]
    exact e2
  | @str n w x h l =>
    refine ⟨.str x, rfl, by simp [PyData.showable], by simp [PyData.depth], by simp [PyData.canLay0, h], by simp [PyData.hasDict], ?_, by simp only [PyData.bulk]; exact l⟩
    simp only [PyData.leavesShort, List.all_eq_true, decide_eq_true_eq]
    intro c hc
    have q : x.cps.all (· < 0x110000) = true := h
    rw [Array.all_eq_true'] at q
    have := q c (by simpa using hc)
    simp only [decide_eq_true_eq] at this
    omega
  | @tup n w w' xs h l ih =>
    obtain ⟨ps, h2, g1, g2, g3, g4, g5, g6⟩ := all_py ih
    exact ⟨.tuple ps, by simp [D.py, h2], by simp [PyData.showable, g1], by simp only [PyData.depth]; omega, by simp [PyData.canLay0, g3], by simp [PyData.hasDict, g4], by simp [PyData.leavesShort, g5], by simp only [PyData.bulk]; omega⟩
  | @lst n w w' xs h l ih =>
    obtain ⟨ps, h2, g1, g2, g3, g4, g5, g6⟩ := all_py ih
    exact ⟨.list ps, by simp [D.py, h2], by simp [PyData.showable, g1], by simp only [PyData.depth]; omega, by simp [PyData.canLay0, g3], by simp [PyData.hasDict, g4], by simp [PyData.leavesShort, g5], by simp only [PyData.bulk]; omega⟩
theorem Rd.show {n w : Nat} {d : D} (h : Rd n w d) (hn : n ≤ 59) (hw : w ≤ 8000) : ∃ z, showD d = some z := by
  obtain ⟨p, e, q⟩ := h.py
  refine ⟨p.shown, ?_⟩
  unfold showD
  rw [e]
  have h1 := PyData.shown_le_bulk 1921 (by omega) p q.ls
  have h2 := q.bk
  have h3 := q.dp
  have h4 : p.depth ≤ 60 := by omega
  have h5 : p.shown.length ≤ sizeLine := by
    rw [sizeLine_eq]
    have : (1921 + 2) * p.bulk ≤ 1923 * 8000 := Nat.mul_le_mul_left _ (by omega)
    omega
  simp [q.sh, q.hd, h4, h5]
/-- == where data are compared -/
theorem eqE_D {a b : D} (h : ∀ xs, b ≠ .tup xs) : eqE a b = eqD a b := by
  unfold eqE
  split
  · exact (h _ rfl).elim
  · rfl
theorem Rd.eqA {n w : Nat} {d : D} (h : Rd n w d) (hn : n ≤ 60) : eqA d d = some true := by
  have e : eqD d d = some true := by
    obtain ⟨p, e, q⟩ := h.py
    unfold eqD
    have h3 := q.dp
    have : SeqAt.shaped p = true := by
      unfold SeqAt.shaped
      rw [q.cl]
      simp only [Bool.true_and, decide_eq_true_eq]
      omega
    simp [e, this, SeqAt.eqv_refl p q.cl]
  have e2 : eqE d d = some true := by
    unfold eqE
    split
    · rfl
    · exact e
  unfold Mn.eqA
  cases d <;> simp [sclD, e2]
end Mn
/-! numbers as texts, words -/
namespace Mn
open PySem PySem.Spec PyProof.Rows L2
/-- a number's text -/
def nS (n : Nat) : Str := Str.ofString (toString ((n : Nat) : Int))
theorem nS_tl (n : Nat) : (nS n).cps.toList = TL.numL n := TL.tl_num n
theorem nS_dig (n : Nat) : NumText.AllDigits (nS n).cps.toList := by
  intro c hc
  rw [nS_tl] at hc
  induction n using Nat.strongRecOn with
  | _ n ih =>
    by_cases h : n < 10
    · rw [TL.numL_lt h] at hc
      simp at hc
      omega
    · rw [TL.numL_step (by omega)] at hc
      rcases List.mem_append.mp hc with hc | hc
      · exact ih (n / 10) (by omega) hc
      · simp at hc
        omega
theorem nS_ne (n : Nat) : (nS n).cps.toList ≠ [] := by
  rw [nS_tl]
  by_cases h : n < 10
  · rw [TL.numL_lt h]; simp
  · rw [TL.numL_step (by omega)]; simp
theorem nS_len (n : Nat) : (nS n).length ≤ n.log2 + 2 := by
  have q := int_text_length_le (a := (n : Int)) (k := n.log2 + 1) (by omega) (by rw [Int.natAbs_natCast]; omega)
  have e : (nS n).length = (toString ((n : Nat) : Int)).length := by
    unfold nS
    rw [Str.ofString_eq_toList]
    show ((toString ((n : Nat) : Int)).toList.map Char.toNat).toArray.size = _
    rw [List.size_toArray, List.length_map]
    exact String.length_toList
  omega
theorem nS_read (n : Nat) (h : n.log2 < 600) : intText? (nS n) = some (n : Int) := by
  have hl := nS_len n
  have e := intText_digits (nS_dig n) (nS_ne n) (by omega)
  rw [e, nS_tl]
  unfold TL.numL
  rw [PySem.W.KIN.val_back]
theorem nS_free (n : Nat) {s : Nat} (hs : ¬ (48 ≤ s ∧ s ≤ 57)) : s ∉ TL.tl (nS n) := fun h => hs (nS_dig n s h)
/-- a text of signs -/
theorem sign_in (c : Nat) (h : 48 ≤ c ∧ c ≤ 57) : (Builtin.Str.occurrences "0123456789" ⟨#[c]⟩ 0 (Str.length "0123456789") 1).isEmpty = false := by
  have : ∀ c : Nat, c < 58 → 48 ≤ c → (Builtin.Str.occurrences "0123456789" ⟨#[c]⟩ 0 (Str.length "0123456789") 1).isEmpty = false := by decide +kernel
  exact this c (by omega) h.1
theorem pos_len {x : Str} (h : x.cps.toList ≠ []) : 0 < x.length := by
  show 0 < x.cps.size
  rw [← Array.length_toList]
  exact List.length_pos_iff.mpr h
/-- words with one blank between -/
def sp (ws : List Str) : Str := Txt.join " " ws
theorem sp_cons (a b : Str) (ws : List Str) : sp (a :: b :: ws) = a ++ " " ++ sp (b :: ws) := by
  unfold sp
  rw [TL.join_eq, TL.join_eq]
  rfl
theorem sp_one (a : Str) : sp [a] = a := by
  unfold sp
  rw [TL.join_eq]
  rfl
theorem sp_split (ws : List Str) (h0 : ws ≠ []) (h : ∀ w ∈ ws, 32 ∉ TL.tl w) : Txt.split (sp ws) " " = ws := TL.split_join (y := " ") (s := 32) (S := []) (by decide +kernel) (by decide +kernel) h0 h
theorem len_app (x y : Str) : (x ++ y).length = x.length + y.length := by
  have a := TL.len_tl (x ++ y)
  have b := TL.len_tl x
  have c := TL.len_tl y
  rw [TL.tl_append, List.length_append] at a
  omega
theorem binS {x y : Str} (h : x.length + y.length ≤ sizeLine) : binD .Add (.str x) (.str y) = some (.str (x ++ y)) := by
  show (if x.length + y.length ≤ sizeLine then some (D.str (x ++ y)) else none) = _
  rw [if_pos h]
theorem nS_log {n b : Nat} (h : n.log2 < b) : (nS n).length ≤ b + 1 := by
  have := nS_len n
  omega
theorem strN (n : Nat) (S : Sto) (h : n.log2 < 1920) : blD S .str [.int (n : Int)] = some (.str (nS n)) := by
  show (if ((n : Int)).natAbs.log2 < 1920 then some (D.str (toString (n : Int))) else none) = _
  rw [Int.natAbs_natCast, if_pos h]; rfl
/-- a text without surrogates -/
theorem ok_app {x y : Str} (hx : PyData.strOk x = true) (hy : PyData.strOk y = true) : PyData.strOk (x ++ y) = true := by
  have hx : x.cps.all (· < 0x110000) = true := hx
  have hy : y.cps.all (· < 0x110000) = true := hy
  show (x ++ y).cps.all (· < 0x110000) = true
  have e : (x ++ y).cps = x.cps ++ y.cps := rfl
  rw [e, Array.all_append, hx, hy]; rfl
theorem ok_nS (n : Nat) : PyData.strOk (nS n) = true := by
  show (nS n).cps.all (· < 0x110000) = true
  rw [← Array.all_toList, List.all_eq_true]
  intro c hc
  have := nS_dig n c hc
  simp; omega
theorem numL_len : ∀ (k n : Nat), n < 10 ^ (k + 1) → (TL.numL n).length ≤ k + 1
  | 0, n, h => by rw [TL.numL_lt (by simpa using h)]; simp
  | k + 1, n, h => by
    by_cases h1 : n < 10
    · rw [TL.numL_lt h1]; simp
    · rw [TL.numL_step (by omega), List.length_append]
      have := numL_len k (n / 10) (by rw [Nat.pow_succ] at h; omega)
      simp only [List.length_singleton]
      omega
theorem nS_short {n : Nat} (h : n.log2 < 210) : (nS n).length ≤ 64 := by
  have hn : n < 2 ^ 210 := by
    by_cases h0 : n = 0
    · subst h0; decide
    · exact (Nat.log2_lt h0).mp h
  have := numL_len 63 n (Nat.lt_of_lt_of_le hn (by decide +kernel))
  rw [← nS_tl, Array.length_toList] at this
  exact this
/-- the first sign -/
theorem numL_head : ∀ (k n : Nat), n < 10 ^ (k + 1) → 0 < n → ∃ c r, TL.numL n = c :: r ∧ 49 ≤ c ∧ c ≤ 57
  | 0, n, h, h0 => by
    have h1 : n < 10 := by simpa using h
    exact ⟨48 + n, [], TL.numL_lt h1, by omega, by omega⟩
  | k + 1, n, h, h0 => by
    by_cases h1 : n < 10
    · exact ⟨48 + n, [], TL.numL_lt h1, by omega, by omega⟩
    · obtain ⟨c, r, e, a, b⟩ := numL_head k (n / 10) (by rw [Nat.pow_succ] at h; omega) (by omega)
      exact ⟨c, r ++ [48 + n % 10], by rw [TL.numL_step (by omega), e]; rfl, a, b⟩
end Mn
namespace Mn
open PySem PySem.Spec PyProof.Rows L2 RZ
theorem ck : md.chk = true := by decide +kernel
end Mn
namespace Mn
open PySem L2
abbrev FU : Nat := 10000
abbrev C (k f : Nat) (ds : List D) (S : Sto) : Out D := callN P gl FU k f ds S
theorem C_eq {f : Nat} {m : MF} (h : P.lookup f = some m) (hk : m.kind.off = 0) (k : Nat) (ds : List D) (S : Sto) (hl : ds.length = m.ps) :
    C (k + 1) f ds S = fin (exs (C k) gl FU m.body (ds.map (fun d => some (.val d)) ++ List.replicate (m.names.length - m.ps) none) S) := callN_eq h hk k ds S hl
theorem C_frz {f c : Nat} {m : MF} (h : P.lookup f = some m) (hk : m.kind = .frz c) (k : Nat) (ds : List D) (S : Sto) (hl : ds.length + 1 = m.ps) :
    C (k + 1) f ds S = (exI (C k) gl c m.body (none :: (ds.map (fun d => some (.val d)) ++ List.replicate (m.names.length - m.ps) none)) [] S).bindX (insF c) := callN_frz h hk k ds S hl
/-! ### is_integer, is_count, is_high -/
theorem c_is_integer (k : Nat) (i : Int) (S : Sto) : C (k + 1) 15 [.int i] S = .ok (.bl true) S := by
  rw [C_eq lk_is_integer rfl k _ S rfl]
  simp [m_is_integer]
/-- the upper end of a stretch -/
def IsHigh (low : Int) (h : D) : Prop := h = .str "open" ∨ ∃ j, h = .int j ∧ low < j
theorem c_is_high (k : Nat) (low : Int) (h : D) (S : Sto) (hh : IsHigh low h) : C (k + 2) 14 [h, .int low] S = .ok (.bl true) S := by
  rw [C_eq lk_is_high rfl _ _ S rfl]
  rcases hh with rfl | ⟨j, rfl, hj⟩
  · simp [m_is_high, gk_OPEN]
  · simp [m_is_high, c_is_integer, hj]
/-! ### the law's draws -/
def Src (S : Sto) (n : Nat) : Prop := ∃ a b c : Int, S[n]? = some (.lst [.int a, .int b, .int c]) ∧ 0 ≤ b
/-- all but the one place stays -/
structure Ly (n : Nat) (S S' : Sto) : Prop where
  len : S'.length = S.length
  src : Src S' n
  oth : ∀ j, j ≠ n → S'[j]? = S[j]?
theorem Ly.trans {n : Nat} {S S1 S2 : Sto} (a : Ly n S S1) (b : Ly n S1 S2) : Ly n S S2 := ⟨b.len.trans a.len, b.src, fun j h => (b.oth j h).trans (a.oth j h)⟩
def SmallM (m : Int) : Prop := 0 < m ∧ m < 2 ^ 200
theorem c_below (k n : Nat) (m : Int) (S : Sto) (h : Src S n) (hm : SmallM m) : ∃ r S', C (k + 1) 21 [.obj n, .int m] S = .ok (.int r) S' ∧ 0 ≤ r ∧ r < m ∧ Ly n S S' := by
  obtain ⟨a, b, c, hS, hb⟩ := h
  obtain ⟨m0, m1⟩ := hm
  have hn : n < S.length := (List.getElem?_eq_some_iff.mp hS).1
  have hd := div_s m0 m1
  by_cases hb0 : 0 < b
  · refine ⟨b % m, S.set n (.lst [.int a, .int (b / m), .int c]), ?_, Int.emod_nonneg _ (by omega), Int.emod_lt_of_pos _ m0, by simp, ⟨a, b / m, c, by simp [hn], Int.ediv_nonneg hb (by omega)⟩, fun j hj => by simp [Ne.symm hj]⟩
    rw [C_eq lk__law_below rfl _ _ S rfl]
    simp [m__law_below, rdL_obj hS, setD_obj hS, hb0, hd]
  · have hb1 : b = 0 := by omega
    subst hb1
    have e := C_eq lk__law_below rfl k [.obj n, .int m] S rfl
    simp [m__law_below, rdL_obj hS, setD_obj hS, rdL_set hn, setD_set hn, mul_r, mul_mod, div_s, m0] at e
    refine ⟨_, _, e, Int.emod_nonneg _ (by omega), Int.emod_lt_of_pos _ m0, by simp, ⟨_, 0, c + 1, by simp [hn]; rfl, Int.le_refl 0⟩, fun j hj => by simp [Ne.symm hj]⟩
/-- a draw from a list -/
theorem c_choice (k n : Nat) (xs : List D) (S : Sto) (h : Src S n) (h0 : 0 < xs.length) (h1 : xs.length ≤ 1000000) : ∃ x S', x ∈ xs ∧ C (k + 2) 22 [.obj n, .lst xs] S = .ok x S' ∧ Ly n S S' := by
  obtain ⟨r, S', e1, r0, r1, ly⟩ := c_below k n xs.length S h ⟨by omega, by omega⟩
  obtain ⟨j, rfl⟩ : ∃ j : Nat, r = j := ⟨r.toNat, by omega⟩
  have hj : j < xs.length := by omega
  refine ⟨xs[j], S', List.getElem_mem _, ?_, ly⟩
  rw [C_eq lk__law_choice rfl _ _ S rfl]
  simp [m__law_choice, e1, atI, ixN, hj]
/-! ### the source of a turn -/
theorem c_source (k i : Nat) (js : List Int) (S : Sto) : ∃ a b : Int, 0 ≤ b ∧ C (k + 1) 3 [.scr js, .int i] S = .ok (.obj S.length) (S ++ [.lst [.int a, .int b, .int 0]]) := by
  obtain ⟨ys, hy⟩ := cut_map D.int js none (some 7)
  let F : Int → Option SV → Frm := fun st o => [some (.val (.scr js)), some (.val (.int i)), some (.val (.int st)), o, none]
  obtain ⟨o', key, _⟩ := for_fold (S := S) (g := asg (C k) (gl) (.name 3)) (b := exs (C k) (gl) FU [.set 2 (.val (.bin .Mod (.blt .int [.bin .Add (.bin .Mult (.var 2) (.cst (.int 69061))) (.var 3)]) (.cst (.int 2147483563))))])
    D.int F (fun st y => (st * 69061 + y) % 2147483563) (fun _ _ => True) (fun y r st o _ => ⟨trivial, _, asg_name _ _ _ _ _ _, by simp [F, mul_r]⟩) ys (30011 * (i : Int) + 7) none trivial
  generalize ys.foldl (fun st y => (st * 69061 + y) % 2147483563) (30011 * (i : Int) + 7) = st at key
  have p18 : powOk 10 18 = true := by decide +kernel
  have own : ∃ o : Int, ev (C k) (gl) (F st o') (.ife (.cmp .Lt (.var 1) (.blt .len [.var 0])) (.sub (.var 0) (.var 1)) (.cst (.int 0))) S = .ok (.int o) S := by
    by_cases h : i < js.length
    · refine ⟨js[i], ?_⟩
      have q := at_n (xs := js.map D.int) (n := i) (d := .int js[i]) (by simp [h])
      simp [F, h, q]
    · exact ⟨0, by simp [F, h]⟩
  obtain ⟨o, own⟩ := own
  have n1 : mulOk 30011 (i : Int) = true := mul_l (by decide) (by decide)
  obtain ⟨ab, hab, hab0⟩ : ∃ ab : Int, (if o < 0 then -o else o) = ab ∧ 0 ≤ ab := ⟨_, rfl, by split <;> omega⟩
  refine ⟨(st * 40009 + o * 31 + (i : Int)) % 2147483563, if 1000000000000000000 ≤ ab then ab else 0, by split <;> omega, ?_⟩
  rw [C_eq lk__law_source rfl _ _ S rfl]
  simp only [m__law_source]
  simp [F] at key own
  simp [n1, hy]
  rw [key]
  by_cases hb : 1000000000000000000 ≤ ab
  · simp [own, mul_r, p18, hab, hb]
  · simp [own, mul_r, p18, hab, hb]
end Mn
namespace Mn
open PySem L2
/-! ### slices -/
theorem sl_02 (x y : D) (xs : List D) : cutL (x :: y :: xs) none (some 2) = [x, y] := by
  unfold cutL
  have e : HT.sIx (x :: y :: xs).length (x :: y :: xs).length (some 2) = 2 := by
    show min 2 (x :: y :: xs).length = 2
    simp only [List.length_cons]; omega
  rw [e, HT.sIx_none]
  rfl
theorem sl_2 (x y : D) (xs : List D) : cutL (x :: y :: xs) (some 2) none = xs := by
  unfold cutL
  have e : HT.sIx (x :: y :: xs).length 0 (some 2) = 2 := by
    show min 2 (x :: y :: xs).length = 2
    simp only [List.length_cons]; omega
  rw [e, HT.sIx_none]
  simp
/-! ### counts as texts -/
theorem nS_eq (n : Nat) : Str.ofString (toString ((n : Nat) : Int)) = nS n := rfl
theorem nS_ne' (n : Nat) : ¬ nS n = Str.ofString "" := fun e => nS_ne n (by rw [e]; decide)
theorem in_dig (c : Nat) (h : 48 ≤ c ∧ c ≤ 57) : cmpD .In (.str ⟨#[c]⟩) (.str (Str.ofString "0123456789")) = some true := by
  show some (!(Builtin.Str.occurrences "0123456789" ⟨#[c]⟩ 0 (Str.length "0123456789") 1).isEmpty) = _
  rw [sign_in c h]; rfl
theorem c_written_count (k n : Nat) (S : Sto) (h : n.log2 < 500) : C (k + 1) 45 [.str (nS n)] S = .ok (.int n) S := by
  have hl := nS_len n
  have s1 : (nS n).length ≤ sizeLine := by rw [sizeLine_eq]; omega
  have e1 : ev (C k) gl [some (.val (.str (nS n))), none] (.lc [1] (.name 1) (.str (.var 0)) [] (.cmp .In (.var 1) (.glob 48))) S = .ok (.lst ((nS n).cps.toList.map fun _ => .bl true)) S := by
    refine ev_lcm (nS n).cps.toList (fun c => .str ⟨#[c]⟩) (fun _ => .bl true) ?_ ?_ fun c hc => ?_
    · simp [s1]
    · rw [Array.length_toList]; exact s1
    · have q := in_dig c (nS_dig n c hc)
      simp [turn, wipeF, gk_DIGITS, q]
  have ba := bls_all (fun _ : Nat => true) (nS n).cps.toList
  have r1 := nS_read n (by omega)
  have l1 : ¬ (4000 : Int) < ((nS n).length : Int) := by omega
  have l2 : (nS n).length ≤ 640 := by omega
  have i1 : blD S .int [.str (nS n)] = some (.int n) := by
    show (if (nS n).length ≤ 640 then (intText? (nS n)).map D.int else none) = _
    rw [if_pos l2, r1]; rfl
  have i2 : n.log2 < 1920 := by omega
  rw [C_eq lk_written_count rfl k _ S rfl]
  simp only [m_written_count]
  simp at e1 ba ⊢
  simp [nS_ne', s1, l1, e1, ba, i1, i2]
  have z : Str.ofString (toString ((n : Nat) : Int)) = nS n := rfl
  simp at z
  simp [z]
/-! ### a stretch -/
structure StW (low : Nat) (hi : D) (hw : Str) : Prop where
  l : low.log2 < 500
  h : (hi = .str "open" ∧ hw = "open") ∨ ∃ j : Nat, hi = .int j ∧ hw = nS j ∧ low < j ∧ j.log2 < 500
theorem nS_open (n : Nat) : ¬ nS n = Str.ofString "open" := fun e => by
  have q := nS_dig n 111 (by rw [e]; decide)
  omega
theorem c_stretch (k low : Nat) (hi : D) (hw : Str) (S : Sto) (h : StW low hi hw) : C (k + 3) 40 [.lst [.str (nS low), .str hw]] S = .ok (.tup [.int low, hi]) S := by
  have c1 := c_written_count (k + 1) low S h.l
  rw [C_eq lk_written_stretch rfl _ _ S rfl]
  rcases h.h with ⟨rfl, rfl⟩ | ⟨j, rfl, rfl, hj, hl⟩
  · have c2 := c_is_high k low (.str "open") S (.inl rfl)
    simp [m_written_stretch, c1, gk_OPEN, c2]
  · have c2 := c_is_high k low (.int j) S (.inr ⟨j, rfl, by omega⟩)
    have c3 := c_written_count (k + 1) j S hl
    simp [m_written_stretch, c1, gk_OPEN, c2, c3, nS_open]
/-! ### bounds -/
inductive Bw : List Str → Nat → D → Prop where
  | is (a : Nat) (h : a.log2 < 500) : Bw ["is", nS a] a (.int a)
  | least (a : Nat) (h : a.log2 < 500) : Bw ["least", nS a] a .non
  | most (a : Nat) (h : a.log2 < 500) : Bw ["most", nS a] 0 (.int a)
  | under (a : Nat) (h : (a + 1).log2 < 500) : Bw ["under", nS (a + 1)] 0 (.int a)
  | fromTo (a b : Nat) (ha : a.log2 < 500) (hb : b.log2 < 500) (h : a ≤ b) : Bw ["from", nS a, "to", nS b] a (.int b)
  | near (a s : Nat) (ha : a.log2 < 500) (hs : s.log2 < 500) (h0 : 0 < s) (h : a % s = 0) : Bw ["near", nS a, "by", nS s] (a - s / 2) (.int ((a : Int) + ((s : Int) + 1) / 2 - 1))
theorem s_1 : ¬ Str.ofString "least" = Str.ofString "is" := by decide +kernel
theorem s_2 : ¬ Str.ofString "most" = Str.ofString "is" := by decide +kernel
theorem s_3 : ¬ Str.ofString "most" = Str.ofString "least" := by decide +kernel
theorem s_4 : ¬ Str.ofString "under" = Str.ofString "is" := by decide +kernel
theorem s_5 : ¬ Str.ofString "under" = Str.ofString "least" := by decide +kernel
theorem s_6 : ¬ Str.ofString "under" = Str.ofString "most" := by decide +kernel
theorem s_7 : ¬ Str.ofString "near" = Str.ofString "from" := by decide +kernel
theorem c_near (k a s : Nat) (S : Sto) : C (k + 1) 47 [.int a, .int s] S = .ok (.tup [.int ((a - s / 2 : Nat) : Int), .int ((a : Int) + ((s : Int) + 1) / 2 - 1)]) S := by
  have d2 : divOk 2 = true := by decide +kernel
  rw [C_eq lk_near_bounds rfl _ _ S rfl]
  simp [m_near_bounds, d2]
  split <;> omega
theorem c_bounds {k : Nat} {ws : List Str} {x : Nat} {y : D} (S : Sto) (h : Bw ws x y) : C (k + 2) 41 [.lst (ws.map .str)] S = .ok (.tup [.int x, y]) S := by
  have cc := fun (a : Nat) (h : a.log2 < 500) => c_written_count k a S h
  rw [C_eq lk_written_bounds rfl _ _ S rfl]
  cases h with
  | is _ h =>
    have o : C (k + 1) 46 [.str "is", .int x] S = .ok (.tup [.int x, .int x]) S := by
      rw [C_eq lk_one_number rfl _ _ S rfl]
      simp [m_one_number]
    simp [m_written_bounds, cc x h, o]
  | least _ h =>
    have o : C (k + 1) 46 [.str "least", .int x] S = .ok (.tup [.int x, .non]) S := by
      rw [C_eq lk_one_number rfl _ _ S rfl]
      simp [m_one_number, s_1]
    simp [m_written_bounds, cc x h, o]
  | most a h =>
    have o : C (k + 1) 46 [.str "most", .int a] S = .ok (.tup [.int 0, .int a]) S := by
      rw [C_eq lk_one_number rfl _ _ S rfl]
      simp [m_one_number, s_2, s_3]
    simp [m_written_bounds, cc a h, o]
  | under a h =>
    have o : C (k + 1) 46 [.str "under", .int ((a + 1 : Nat) : Int)] S = .ok (.tup [.int 0, .int a]) S := by
      rw [C_eq lk_one_number rfl _ _ S rfl]
      have : (0 : Int) < (a : Int) + 1 := by omega
      simp [m_one_number, s_4, s_5, s_6, this]
    simp [m_written_bounds, cc (a + 1) h] at o ⊢
    simp [o]
  | fromTo _ b ha hb h =>
    have : (x : Int) ≤ (b : Int) := by omega
    simp [m_written_bounds, cc x ha, cc b hb, this]
  | near a s ha hs h0 h =>
    have n := c_near k a s S
    have h1 : ¬ (s : Int) = 0 := by omega
    have h2 : (0 : Int) < (s : Int) := by omega
    have h3 : (a : Int) % (s : Int) = 0 := by omega
    simp [m_written_bounds, cc a ha, cc s hs, s_7, h0, Nat.ne_of_gt h0, h3, n]
/-! ### a telling -/
/-- the text tells: the stretch, the bounds -/
structure Tel (z : Str) (low : Nat) (hi : D) (x : Nat) (y : D) : Prop where
  ex : ∃ hw ws, StW low hi hw ∧ Bw ws x y ∧ z = sp (nS low :: hw :: ws) ∧ ∀ w ∈ nS low :: hw :: ws, w.length ≤ 44
  len : z.length + 2 ≤ sizeLine
/-- a Telling -/
def telD (low : Nat) (hi : D) (x : Nat) (y : D) : D := .ins 42 [.int low, hi, .int x, y]
theorem Bw.words {ws : List Str} {x : Nat} {y : D} (h : Bw ws x y) : (∀ w ∈ ws, 32 ∉ TL.tl w) ∧ 2 ≤ ws.length := by
  have n : ∀ a : Nat, 32 ∉ TL.tl (nS a) := fun a => nS_free a (by omega)
  have s1 : 32 ∉ TL.tl (Str.ofString "is") := by decide +kernel
  have s2 : 32 ∉ TL.tl (Str.ofString "least") := by decide +kernel
  have s3 : 32 ∉ TL.tl (Str.ofString "most") := by decide +kernel
  have s4 : 32 ∉ TL.tl (Str.ofString "under") := by decide +kernel
  have s5 : 32 ∉ TL.tl (Str.ofString "from") := by decide +kernel
  have s6 : 32 ∉ TL.tl (Str.ofString "to") := by decide +kernel
  have s7 : 32 ∉ TL.tl (Str.ofString "near") := by decide +kernel
  have s8 : 32 ∉ TL.tl (Str.ofString "by") := by decide +kernel
  cases h <;> refine ⟨fun w hw => ?_, by simp⟩ <;> simp at hw <;> rcases hw with rfl | rfl | rfl | rfl <;> first | assumption | exact n _
theorem StW.word {low : Nat} {hi : D} {hw : Str} (h : StW low hi hw) : 32 ∉ TL.tl hw := by
  rcases h.h with ⟨_, rfl⟩ | ⟨j, _, rfl, _⟩
  · decide +kernel
  · exact nS_free j (by omega)
theorem C_telling (k : Nat) (a b c d : D) (S : Sto) : C (k + 1) 42 [a, b, c, d] S = .ok (.ins 42 [a, b, c, d]) S := by
  rw [C_frz lk_Telling rfl _ _ S rfl]
  simp [m_Telling, fk_Telling]
theorem c_telling_of {k : Nat} {z : Str} {low x : Nat} {hi y : D} (S : Sto) (h : Tel z low hi x y) : C (k + 4) 39 [.str z] S = .ok (telD low hi x y) S := by
  obtain ⟨⟨hw, ws, h1, h2, rfl, _⟩, hl⟩ := h
  obtain ⟨w1, w2⟩ := h2.words
  have sps : Txt.split (sp (nS low :: hw :: ws)) " " = nS low :: hw :: ws := sp_split _ (by simp) fun w hm => by
    rcases List.mem_cons.mp hm with rfl | hm
    · exact nS_free low (by omega)
    · rcases List.mem_cons.mp hm with rfl | hm
      · exact h1.word
      · exact w1 w hm
  have m1 : meD .split (.str (sp (nS low :: hw :: ws))) [.str " "] = some (.lst ((nS low :: hw :: ws).map .str)) := by
    have l1 : ((Str.ofString " ").length == 0) = false := by decide +kernel
    show (if ((Str.ofString " ").length == 0) = false ∧ (sp (nS low :: hw :: ws)).length + 2 ≤ sizeLine then some (D.lst ((Txt.split (sp (nS low :: hw :: ws)) (Str.ofString " ")).map .str)) else none) = _
    rw [if_pos ⟨l1, hl⟩]
    congr 2
    exact congrArg _ sps
  have c1 := c_stretch k low hi hw S h1
  have c2 := c_bounds (k := k + 1) S h2
  have l4 : ¬ (ws.length : Int) + 1 + 1 < 4 := by omega
  have sl1 : cutL ((nS low :: hw :: ws).map D.str) none (some 2) = [.str (nS low), .str hw] := by
    simp only [List.map_cons]
    exact sl_02 _ _ _
  have sl2 : cutL ((nS low :: hw :: ws).map D.str) (some 2) none = ws.map .str := by
    simp only [List.map_cons]
    exact sl_2 _ _ _
  have c3 := C_telling (k + 2) (.int low) hi (.int x) y S
  rw [C_eq lk_telling_of rfl _ _ S rfl]
  simp only [m_telling_of]
  simp only [List.map_cons] at sl1 sl2 m1
  simp [m1, l4, sl1, sl2, c1, c2, c3, telD]
end Mn
namespace Mn
open PySem L2
/-! ### tables -/
structure Tl where
  z : Str
  low : Nat
  hi : D
  x : Nat
  y : D
def Tl.ok (t : Tl) : Prop := Tel t.z t.low t.hi t.x t.y
def Tl.d (t : Tl) : D := telD t.low t.hi t.x t.y
def txD (ts : List Tl) : D := .tup (ts.map fun t => .str t.z)
def tabD (ts : List Tl) : D := .ins 27 [txD ts, .tup (ts.map Tl.d)]
structure TsOk (ts : List Tl) : Prop where
  all : ∀ t ∈ ts, t.ok
  ne : ts ≠ []
  len : ts.length ≤ 12
theorem enum_mem {xs : List D} {d : D} (h : d ∈ enumD xs) : ∃ (i : Nat) (x : D), i < xs.length ∧ x ∈ xs ∧ d = .tup [.int (i : Int), x] := by
  unfold enumD at h
  obtain ⟨p, hp, rfl⟩ := List.mem_map.mp h
  obtain ⟨x, i⟩ := p
  have q := List.mk_mem_zipIdx_iff_getElem?.mp hp
  exact ⟨i, x, (List.getElem?_eq_some_iff.mp q).1, List.mem_of_getElem? q, rfl⟩
theorem c_check_tellings (k : Nat) (ts : List Tl) (S : Sto) (h : TsOk ts) : C (k + 5) 38 [txD ts] S = .ok .non S := by
  obtain ⟨fr2, S2, key, rfl, -, -⟩ := for_all (g := asg (C (k + 4)) gl (.tup [.name 1, .name 2])) (b := exs (C (k + 4)) gl FU [.ife (.or (.cmp .Eq (.var 1) (.glob 49)) (.cmp .Is (.call 39 [.var 2]) (.cst .non))) [.raise 88 88 [.var 1]] []])
    (fun rem fr S' => S' = S ∧ (∃ a b, fr = [some (.val (txD ts)), a, b]) ∧ ∀ d ∈ rem, ∃ (i : Nat) (t : Tl), i < 12 ∧ t ∈ ts ∧ d = .tup [.int (i : Int), .str t.z])
    (fun d rem fr S' hJ => by
      obtain ⟨rfl, ⟨a, b, rfl⟩, hd⟩ := hJ
      obtain ⟨i, t, hi, ht, rfl⟩ := hd d List.mem_cons_self
      have ct := c_telling_of (k := k) S' (h.all t ht)
      have n12 : ¬ (i : Int) = 12 := by omega
      refine ⟨[some (.val (txD ts)), some (.val (.int (i : Int))), some (.val (.str t.z))], S', [some (.val (txD ts)), some (.val (.int (i : Int))), some (.val (.str t.z))], S', ?_, .inl ?_, rfl, ⟨_, _, rfl⟩, fun d hd' => hd d (List.mem_cons_of_mem _ hd')⟩
      · simp
      · simp [gk_MOST_TELLINGS, n12, ct, telD, isN])
    (enumD (ts.map fun t => .str t.z)) [some (.val (txD ts)), none, none] S ⟨rfl, ⟨none, none, rfl⟩, fun d hd => by
      obtain ⟨i, x, hi, hx, rfl⟩ := enum_mem hd
      obtain ⟨t, ht, rfl⟩ := List.mem_map.mp hx
      rw [List.length_map] at hi
      exact ⟨i, t, Nat.lt_of_lt_of_le hi h.len, ht, rfl⟩⟩
  have l0 : ¬ ts.length = 0 := fun e => h.ne (List.eq_nil_of_length_eq_zero e)
  rw [C_eq lk_check_tellings rfl _ _ _ rfl]
  simp only [m_check_tellings]
  simp [txD] at key ⊢
  simp [h.ne, key]
theorem C_table (k : Nat) (ts : List Tl) (S : Sto) (h : TsOk ts) : C (k + 6) 27 [txD ts] S = .ok (tabD ts) S := by
  have c1 := c_check_tellings k ts S h
  have hl : ts.length ≤ sizeLine := Nat.le_trans h.len (by decide)
  have e1 : ev (C (k + 5)) gl [none, some (.val (txD ts)), none] (.lc [2] (.name 2) (.tup (.var 1)) [] (.call 39 [.var 2])) S = .ok (.lst (ts.map Tl.d)) S := by
    refine ev_lcm ts (fun t => .str t.z) Tl.d (by simp [txD]) hl fun t ht => ?_
    have ct := c_telling_of (k := k + 1) S (h.all t ht)
    simp [turn, wipeF, ct, Tl.d]
  rw [C_frz lk_Table rfl _ _ S rfl]
  simp [m_Table, c1, fk_Table, e1, tabD]
end Mn
namespace Mn
open PySem L2
/-! ### what the law makes -/
def Amt (n : Nat) : Prop := n ≤ 10 ^ 37
theorem Amt.log {n : Nat} (h : Amt n) : n.log2 < 124 := log_lt (Nat.lt_of_le_of_lt h (by decide +kernel)) (by omega)
theorem below_nat (k n : Nat) (m : Int) (S : Sto) (h : Src S n) (hm : SmallM m) : ∃ (r : Nat) (S' : Sto), C (k + 1) 21 [.obj n, .int m] S = .ok (.int r) S' ∧ (r : Int) < m ∧ Ly n S S' := by
  obtain ⟨r, S', e, r0, r1, ly⟩ := c_below k n m S h hm
  exact ⟨r.toNat, S', by rw [e, Int.toNat_of_nonneg r0], by omega, ly⟩
theorem addS {x y : Str} (h : x.length + y.length ≤ 1000) : binD .Add (.str x) (.str y) = some (.str (x ++ y)) := binS (by rw [sizeLine_eq]; omega)
theorem tenp {m : Nat} (h : m ≤ 10 ^ 37 + 1) : m.log2 < 125 := log_lt (Nat.lt_of_le_of_lt h (by decide +kernel)) (by omega)
end Mn
namespace Mn
open PySem L2
/-! ### data -/
theorem two_steps {a b m : Nat} (h : b < 2 ^ (m + 1)) (h0 : b ≠ 0) (h1 : a % b ≠ 0) : b % (a % b) < 2 ^ m := by
  have r1 : a % b < b := Nat.mod_lt _ (by omega)
  have r2 : b % (a % b) < a % b := Nat.mod_lt _ (by omega)
  have e := Nat.mod_add_div b (a % b)
  have q : 1 ≤ b / (a % b) := (Nat.one_le_div_iff (by omega)).mpr (by omega)
  have q2 : a % b ≤ (a % b) * (b / (a % b)) := Nat.le_mul_of_pos_right _ q
  rw [Nat.pow_succ] at h
  omega
/-! ### lowest terms -/
def ltBody : List MS := [.par [2, 3] [.val (.var 3), .val (.bin .Mod (.var 2) (.var 3))]]
def ltTest : MT := .cmp .Gt (.var 3) (.cst (.int 0))
abbrev ltLoop (k n : Nat) (x y : Option SV) (a b : Int) (S : Sto) : Out Fl := whileO (fun fr S => evT (C k) (gl) fr ltTest S) (exs (C k) (gl) FU ltBody) n [x, y, some (.val (.int a)), some (.val (.int b))] S
theorem lt_stop (k n : Nat) (x y : Option SV) (a : Int) (S : Sto) : ltLoop k (n + 1) x y a 0 S = .ok (.next [x, y, some (.val (.int a)), some (.val (.int 0))]) S := by
  simp [ltLoop, whileO, ltTest, evT, ev]
theorem lt_turn (k n : Nat) (x y : Option SV) (a b : Nat) (S : Sto) (h : b ≠ 0) : ltLoop k (n + 1) x y a b S = ltLoop k n x y b ((a % b : Nat) : Int) S := by
  have h2 : (0 : Int) < (b : Int) := by omega
  simp [ltLoop, whileO, ltTest, ltBody, evT, ev, ex, evR, evRs, setAll, h2, Nat.pos_of_ne_zero h]
theorem lt_loop (k : Nat) (x y : Option SV) (S : Sto) : ∀ (m a b n : Nat), b < 2 ^ m → 2 * m + 1 ≤ n → ltLoop k n x y a b S = .ok (.next [x, y, some (.val (.int ((Nat.gcd a b : Nat) : Int))), some (.val (.int 0))]) S
  | m, a, b, 0, _, h => by omega
  | 0, a, b, n + 1, hb, h => by
    obtain rfl : b = 0 := by simpa using hb
    rw [Nat.gcd_zero_right]
    exact lt_stop k n x y a S
  | m + 1, a, b, n + 1, hb, h => by
    by_cases h0 : b = 0
    · subst h0
      rw [Nat.gcd_zero_right]
      exact lt_stop k n x y a S
    · match n, h with
      | 0, h => omega
      | n + 1, h =>
        rw [lt_turn k _ x y a b S h0]
        by_cases h1 : a % b = 0
        · rw [h1]
          refine (lt_stop k n x y b S).trans ?_
          rw [Nat.gcd_comm a b, Nat.gcd_rec b a, h1, Nat.gcd_zero_left]
        · rw [lt_turn k _ x y b (a % b) S h1, lt_loop k x y S m (a % b) (b % (a % b)) n (two_steps hb h0 h1) (by omega)]
          have : Nat.gcd (a % b) (b % (a % b)) = Nat.gcd a b := by
            rw [Nat.gcd_comm, ← Nat.gcd_rec, Nat.gcd_comm, Nat.gcd_comm a b, Nat.gcd_rec b a, Nat.gcd_comm]
          rw [this]
theorem c_lowest (k a b : Nat) (S : Sto) (h0 : 0 < b) (h : b < 2 ^ 4000) : C (k + 1) 11 [.int a, .int b] S = .ok (.tup [.int ((a / Nat.gcd a b : Nat) : Int), .int ((b / Nat.gcd a b : Nat) : Int)]) S := by
  have e : wh (C k) (gl) FU ltTest ltBody FU _ S = _ := lt_loop k (some (.val (.int a))) (some (.val (.int b))) S 4000 a b FU h (by decide)
  simp only [ltTest, ltBody] at e
  have g0 : 0 < Nat.gcd a b := Nat.gcd_pos_of_pos_right _ h0
  have g1 : Nat.gcd a b ≤ b := Nat.gcd_le_right _ h0
  have hd : divOk ((Nat.gcd a b : Nat) : Int) = true := by
    refine div_ok (by omega) ?_
    have q : Nat.gcd a b < 2 ^ 8000 := Nat.lt_of_le_of_lt g1 (Nat.lt_trans h (Nat.pow_lt_pow_right (by omega) (by omega)))
    exact_mod_cast q
  rw [C_eq lk_lowest_terms rfl _ _ S rfl]
  simp only [m_lowest_terms]
  have ha : ¬ (a : Int) < 0 := by omega
  simp [ha]
  rw [e]
  simp [hd]
/-! ### triples -/
structure Tr where
  a : Nat
  b : Nat
  m : Nat
def Tr.d (t : Tr) : D := .tup [.int t.a, .int t.b, .int t.m]
structure Tr.ok (t : Tr) : Prop where
  b0 : 0 < t.b
  b1 : t.b ≤ 60
  m0 : 0 < t.m
  cp : Nat.gcd t.a t.b = 1
  a1 : t.a < 2 ^ 300
  m1 : t.m < 2 ^ 200
def liesB (low : Int) (hi : D) (t : Tr) : Bool := decide (low * (t.b : Int) ≤ (t.a : Int)) && (match hi with
  | .int j => decide ((t.a : Int) < j * (t.b : Int))
  | _ => true)
theorem c_lies_in (k : Nat) (t : Tr) (low : Int) (hi : D) (S : Sto) (h : t.ok) (hh : IsHigh low hi) : C (k + 1) 10 [t.d, .int low, hi] S = .ok (.bl (liesB low hi t)) S := by
  have hb : ((t.b : Nat) : Int) < 2 ^ 64 := by have := h.b1; omega
  have hb2 : -(2 ^ 64) < ((t.b : Nat) : Int) := by omega
  have mo : ∀ i, mulOk i (t.b : Int) = true := fun i => mul_r hb2 hb
  rw [C_eq lk_lies_in rfl _ _ S rfl]
  rcases hh with rfl | ⟨j, rfl, hj⟩
  · by_cases h1 : (t.a : Int) < low * (t.b : Int)
    · simp [m_lies_in, Tr.d, gk_OPEN, mo, liesB, h1]
    · simp [m_lies_in, Tr.d, gk_OPEN, mo, liesB, h1]
      omega
  · by_cases h1 : (t.a : Int) < low * (t.b : Int)
    · have h2 : ¬ low * (t.b : Int) ≤ (t.a : Int) := by omega
      simp [m_lies_in, Tr.d, gk_OPEN, mo, liesB, h1, h2]
    · have h2 : low * (t.b : Int) ≤ (t.a : Int) := by omega
      simp [m_lies_in, Tr.d, gk_OPEN, mo, liesB, h1, h2]
theorem sl_1 (xs : List D) : cutL xs (some 1) none = xs.tail := by
  cases xs with
  | nil => rfl
  | cons x xs =>
    unfold cutL
    have e : HT.sIx (x :: xs).length 0 (some 1) = 1 := by
      show min 1 (x :: xs).length = 1
      simp only [List.length_cons]; omega
    rw [e, HT.sIx_none]
    simp
theorem c_is_triple (k : Nat) (t : Tr) (S : Sto) (h : t.ok) : C (k + 2) 18 [t.d] S = .ok (.bl true) S := by
  have q : t.b < 2 ^ 4000 := Nat.lt_of_le_of_lt h.b1 (by decide +kernel)
  have lo := c_lowest k t.a t.b S h.b0 q
  rw [h.cp, Nat.div_one, Nat.div_one] at lo
  have e1 : ev (C (k + 1)) (gl) [some (.val t.d), none] (.lc [1] (.name 1) (.tup (.var 0)) [] (.call 15 [.var 1])) S = .ok (.lst ([D.int t.a, .int t.b, .int t.m].map fun _ => .bl true)) S := by
    refine ev_lcm _ id (fun _ => .bl true) (by simp [Tr.d]) (by rw [sizeLine_eq]; simp) fun x hx => ?_
    show turn _ _ _ _ _ _ _ x S = _
    have : ∃ i, x = .int i := by
      simp at hx
      rcases hx with rfl | rfl | rfl <;> exact ⟨_, rfl⟩
    obtain ⟨i, rfl⟩ := this
    simp [turn, wipeF, c_is_integer]
  have a1 : ¬ (t.a : Int) < 0 := by omega
  have a2 : ¬ (t.b : Int) < 1 := by have := h.b0; omega
  have a3 : ¬ (t.m : Int) < 1 := by have := h.m0; omega
  have e2 : eqA (.tup [.int t.a, .int t.b]) (.tup [.int t.a, .int t.b]) = some true := by
    refine Rd.eqA (n := 1) (w := 2) (.tup (w' := 0) (fun x hx => ?_) (by simp)) (by omega)
    simp at hx
    rcases hx with rfl | rfl
    · exact .int (Nat.lt_of_lt_of_le (log_lt (k := 300) (by simpa using h.a1) (by omega)) (by omega))
    · exact .int (Nat.lt_of_lt_of_le (log_lt (k := 300) (Nat.lt_of_le_of_lt (m := 60) (by simpa using h.b1) (by decide +kernel)) (by omega)) (by omega))
  rw [C_eq lk_is_triple rfl _ _ S rfl]
  simp only [m_is_triple]
  simp [Tr.d] at e1 ⊢
  simp [e1, blsD, a1, a2, a3, lo, sl_02, e2]
/-! ### data -/
def Asc (ts : List Tr) : Prop := ∀ p ∈ ts.zip (ts.tail), p.1.a * p.2.b < p.2.a * p.1.b
structure DataOk (ts : List Tr) : Prop where
  all : ∀ t ∈ ts, t.ok
  asc : Asc ts
  len : ts.length ≤ 1000
theorem zip_d (ts : List Tr) : zipD (ts.map Tr.d) ((ts.map Tr.d).tail) = (ts.zip (ts.tail)).map fun p => .tup [p.1.d, p.2.d] := by
  unfold zipD
  rw [← List.map_tail, List.zip_map, List.map_map]
  rfl
theorem all_true {α : Type} (xs : List α) : (xs.map fun _ => true).all id = true := by
  induction xs with
  | nil => rfl
  | cons x xs ih => simp
theorem c_is_data (k : Nat) (ts : List Tr) (S : Sto) (h : DataOk ts) : C (k + 3) 16 [.tup (ts.map Tr.d)] S = .ok (.bl true) S := by
  have hl : ts.length ≤ sizeLine := Nat.le_trans h.len (by decide)
  have e1 : ev (C (k + 2)) (gl) [some (.val (.tup (ts.map Tr.d))), none, none, none] (.lc [3] (.name 3) (.tup (.var 0)) [] (.call 18 [.var 3])) S = .ok (.lst (ts.map fun _ => .bl true)) S := by
    refine ev_lcm ts Tr.d (fun _ => .bl true) (by simp) hl fun t ht => ?_
    simp [turn, wipeF, c_is_triple k t S (h.all t ht)]
  have e2 : ev (C (k + 2)) (gl) [some (.val (.tup (ts.map Tr.d))), none, none, none] (.lc [1, 2] (.tup [.name 1, .name 2]) (.zip (.var 0) (.sl (.var 0) (some (.cst (.int 1))) none)) []
      (.cmp .Lt (.bin .Mult (.sub (.var 1) (.cst (.int 0))) (.sub (.var 2) (.cst (.int 1)))) (.bin .Mult (.sub (.var 2) (.cst (.int 0))) (.sub (.var 1) (.cst (.int 1)))))) S = .ok (.lst ((ts.zip (ts.tail)).map fun _ => .bl true)) S := by
    refine ev_lcm (ts.zip (ts.tail)) (fun p => .tup [p.1.d, p.2.d]) (fun _ => .bl true) (by simp [sl_1, zip_d]) (Nat.le_trans (by rw [List.length_zip]; exact Nat.min_le_left _ _) hl) fun p hp => ?_
    have hz := List.of_mem_zip hp
    have o1 := h.all _ hz.1
    have o2 := h.all _ (List.mem_of_mem_tail hz.2)
    have b1 : mulOk (p.1.a : Int) (p.2.b : Int) = true := mul_r (by omega) (by have := o2.b1; omega)
    have b2 : mulOk (p.2.a : Int) (p.1.b : Int) = true := mul_r (by omega) (by have := o1.b1; omega)
    have lt : (p.1.a : Int) * (p.2.b : Int) < (p.2.a : Int) * (p.1.b : Int) := by exact_mod_cast h.asc p hp
    simp [turn, wipeF, Tr.d, b1, b2, lt]
  rw [C_eq lk_is_data rfl _ _ S rfl]
  simp only [m_is_data]
  simp at e1 e2 ⊢
  simp [e1, e2, bls_all]
theorem c_check_data (k : Nat) (ts : List Tr) (S : Sto) (h : DataOk ts) : C (k + 4) 8 [.tup (ts.map Tr.d)] S = .ok .non S := by
  have := h.len
  have h1 : ¬ (1000 : Int) < (ts.length : Int) := by omega
  rw [C_eq lk_check_data rfl _ _ S rfl]
  simp [m_check_data, c_is_data k ts S h, gk_MOST_TRIPLES, h1]
/-! ### counts and totals -/
def cntF (ts : List Tr) : Int := (ts.map fun t => (t.m : Int)).sum
theorem c_count_in (k : Nat) (ts : List Tr) (low : Int) (hi : D) (S : Sto) (h : DataOk ts) (hh : IsHigh low hi) : C (k + 2) 19 [.tup (ts.map Tr.d), .int low, hi] S = .ok (.int (cntF (ts.filter (liesB low hi)))) S := by
  have hl : ts.length ≤ sizeLine := Nat.le_trans h.len (by decide)
  have e1 : ev (C (k + 1)) (gl) [some (.val (.tup (ts.map Tr.d))), some (.val (.int low)), some (.val hi), none] (.lc [3] (.name 3) (.tup (.var 0)) [.tru (.call 10 [.var 3, .var 1, .var 2])] (.sub (.var 3) (.cst (.int 2)))) S = .ok (.lst ((ts.filter (liesB low hi)).map fun t => .int t.m)) S := by
    refine ev_lcf ts Tr.d (liesB low hi) (fun t => .int t.m) (by simp) hl fun t ht => ?_
    cases e : liesB low hi t with
    | true =>
      have l := c_lies_in k t low hi S (h.all t ht) hh
      simp [Tr.d, e] at l
      simp [turn, wipeF, l, Tr.d]
    | false => simp [turn, wipeF, c_lies_in k t low hi S (h.all t ht) hh, e]
  rw [C_eq lk_count_in rfl _ _ S rfl]
  simp only [m_count_in]
  simp at e1 ⊢
  simp [e1, ints_all, cntF]
end Mn
namespace Mn
open PySem L2
def gcdBody : List MS := [.ife (.cmp .Eq (.var 1) (.cst (.int 0))) [.brk] [], .par [0, 1] [.val (.var 1), .val (.bin .Mod (.blt .int [.var 0]) (.var 1))]]
theorem gcd_stop (k : Nat) (a : Nat) (t x : Option SV) (d : D) (xs : List D) (S : Sto) : forO (asg (C k) (gl) (.name 2)) (exs (C k) (gl) FU gcdBody) (d :: xs) [some (.val (.int a)), some (.val (.int (0 : Nat))), t] S = .ok (.next [some (.val (.int a)), some (.val (.int (0 : Nat))), some (.val d)]) S := by
  simp [forO, asg, gcdBody, ex, evT, ev]
theorem gcd_turn (k : Nat) (a b : Nat) (t x : Option SV) (d : D) (xs : List D) (S : Sto) (h : b ≠ 0) : forO (asg (C k) (gl) (.name 2)) (exs (C k) (gl) FU gcdBody) (d :: xs) [some (.val (.int a)), some (.val (.int b)), t] S =
    forO (asg (C k) (gl) (.name 2)) (exs (C k) (gl) FU gcdBody) xs [some (.val (.int b)), some (.val (.int ((a % b : Nat) : Int))), some (.val d)] S := by
  have h' : ¬ (b : Int) = 0 := by omega
  have h2 : (0 : Int) < (b : Int) := by omega
  simp [forO, asg, gcdBody, ex, evT, ev, evs, evR, evRs, setAll, h, h', h2, Nat.pos_of_ne_zero h]
theorem gcd_loop (k : Nat) (S : Sto) : ∀ (m a b : Nat) (t : Option SV) (xs : List D), b < 2 ^ m → 2 * m + 1 ≤ xs.length → ∃ t', forO (asg (C k) (gl) (.name 2)) (exs (C k) (gl) FU gcdBody) xs [some (.val (.int a)), some (.val (.int b)), t] S = .ok (.next [some (.val (.int ((Nat.gcd a b : Nat) : Int))), some (.val (.int (0 : Nat))), t']) S
  | 0, a, b, t, [], _, h => by simp at h
  | 0, a, b, t, d :: xs, hb, h => by
    obtain rfl : b = 0 := by simpa using hb
    exact ⟨some (.val d), by rw [gcd_stop k a t t, Nat.gcd_zero_right]⟩
  | m + 1, a, b, t, d :: xs, hb, h => by
    by_cases h0 : b = 0
    · subst h0
      exact ⟨some (.val d), by rw [gcd_stop k a t t, Nat.gcd_zero_right]⟩
    · match xs, h with
      | [], h => simp at h
      | d2 :: xs, h =>
        rw [gcd_turn k a b t t d _ S h0]
        by_cases h1 : a % b = 0
        · rw [h1, gcd_stop k b _ t]
          refine ⟨some (.val d2), ?_⟩
          rw [Nat.gcd_comm a b, Nat.gcd_rec b a, h1, Nat.gcd_zero_left]
        · rw [gcd_turn k b (a % b) _ t d2 _ S h1]
          obtain ⟨t', e⟩ := gcd_loop k S m (a % b) (b % (a % b)) (some (.val d2)) xs (two_steps hb h0 h1) (by simp at h; omega)
          refine ⟨t', ?_⟩
          rw [e]
          have : Nat.gcd (a % b) (b % (a % b)) = Nat.gcd a b := by
            rw [Nat.gcd_comm, ← Nat.gcd_rec, Nat.gcd_comm, Nat.gcd_comm a b, Nat.gcd_rec b a, Nat.gcd_comm]
          rw [this]
  | m + 1, a, b, t, [], hb, h => by simp at h
theorem c_gcd (k a b : Nat) (S : Sto) (h : b < 2 ^ 900) : C (k + 1) 20 [.int a, .int b] S = .ok (.int ((Nat.gcd a b : Nat) : Int)) S := by
  obtain ⟨t', e⟩ := gcd_loop k S 900 a b none ((List.range 2000).map fun i => .int ((i : Nat) : Int)) h (by simp)
  have r : rng1O (.int 2000) = some ((List.range 2000).map fun i => .int ((i : Nat) : Int)) := rng_nat (r := 2000) (by omega)
  rw [C_eq lk__law_gcd rfl _ _ S rfl]
  simp only [m__law_gcd]
  simp [r]
  rw [show ([MS.ife (MT.cmp CmpOp.Eq (ME.var 1) (ME.cst (D.int 0))) [MS.brk] [], MS.par [0, 1] [MR.val (ME.var 1), MR.val (ME.bin Operator.Mod (ME.blt Bi.int [ME.var 0]) (ME.var 1))]] : List MS) = gcdBody from rfl]
  simp at e
  rw [e]
  simp []
end Mn
namespace Mn
open PySem L2
/-! ### the drawn things -/
def Up (ts : List Tr) : Prop := ts.Pairwise fun t u => t.a * u.b < u.a * t.b
theorem Up.asc : ∀ {ts : List Tr}, Up ts → Asc ts
  | [], _, p, hp => by simp at hp
  | [t], _, p, hp => by simp at hp
  | t :: u :: r, h, p, hp => by
    simp only [List.tail_cons, List.zip_cons_cons, List.mem_cons] at hp
    rcases hp with rfl | hp
    · exact (List.pairwise_cons.mp h).1 u List.mem_cons_self
    · exact Up.asc (List.pairwise_cons.mp h).2 p hp
theorem Up.snoc {ts : List Tr} {u : Tr} {B : Nat} (h : Up ts) (hb : ∀ t ∈ ts, 0 < t.b) (h1 : ∀ t ∈ ts, t.a < B * t.b) (h0 : 0 < u.b) (h2 : B * u.b ≤ u.a) : Up (ts ++ [u]) := by
  refine List.pairwise_append.mpr ⟨h, List.pairwise_singleton _ _, fun t ht v hv => ?_⟩
  obtain rfl : v = u := by simpa using hv
  calc t.a * v.b < B * t.b * v.b := Nat.mul_lt_mul_of_pos_right (h1 t ht) h0
    _ = B * v.b * t.b := by rw [Nat.mul_right_comm]
    _ ≤ v.a * t.b := Nat.mul_le_mul_right _ h2
theorem red_ok {base bot y m : Nat} (hb : 0 < bot) (hb2 : bot ≤ 60) (hy : y < bot) (hm : 0 < m) (hm2 : m < 2 ^ 200) (hbase : base < 2 ^ 200) :
    Tr.ok ⟨(base * bot + y) / Nat.gcd (base * bot + y) bot, bot / Nat.gcd (base * bot + y) bot, m⟩ ∧ base * (bot / Nat.gcd (base * bot + y) bot) ≤ (base * bot + y) / Nat.gcd (base * bot + y) bot ∧ (base * bot + y) / Nat.gcd (base * bot + y) bot < (base + 1) * (bot / Nat.gcd (base * bot + y) bot) := by
  have g0 : 0 < Nat.gcd (base * bot + y) bot := Nat.gcd_pos_of_pos_right _ hb
  have e1 := Nat.div_mul_cancel (Nat.gcd_dvd_left (base * bot + y) bot)
  have e2 := Nat.div_mul_cancel (Nat.gcd_dvd_right (base * bot + y) bot)
  refine ⟨⟨Nat.div_pos (Nat.gcd_le_right _ hb) g0, Nat.le_trans (Nat.div_le_self _ _) hb2, hm, Nat.coprime_div_gcd_div_gcd g0, ?_, hm2⟩, ?_, ?_⟩
  · refine Nat.lt_of_le_of_lt (Nat.div_le_self _ _) ?_
    have h1 : base * bot ≤ 2 ^ 200 * 60 := Nat.mul_le_mul (Nat.le_of_lt hbase) hb2
    have h2 : 2 ^ 200 * 60 + 60 < 2 ^ 300 := by decide +kernel
    exact Nat.lt_of_le_of_lt (Nat.add_le_add h1 (Nat.le_of_lt (Nat.lt_of_lt_of_le hy hb2))) h2
  · apply Nat.le_of_mul_le_mul_right _ g0
    rw [Nat.mul_assoc, e2, e1]
    exact Nat.le_add_right _ _
  · apply Nat.lt_of_mul_lt_mul_right (a := Nat.gcd (base * bot + y) bot)
    rw [Nat.mul_assoc, e2, e1, Nat.succ_mul]
    exact Nat.add_lt_add_left hy _
abbrev thBody : List MS := [.set 3 (.val (.bin .Add (.bin .Add (.var 3) (.call 21 [.var 0, .cst (.int 3)])) (.bin .Mult (.call 22 [.var 0, .lst [.cst (.int 1), .cst (.int 1), .cst (.int 5), .bin .Pow (.cst (.int 10)) (.cst (.int 6)), .bin .Pow (.cst (.int 10)) (.cst (.int 29))]]) (.blt .int [.cmp .Gt (.var 1) (.cst (.int 0))])))), .set 4 (.val (.call 22 [.var 0, .lst [.cst (.int 1), .cst (.int 1), .cst (.int 2), .cst (.int 3), .cst (.int 4), .cst (.int 7), .cst (.int 12), .cst (.int 60)]])), .set 5 (.val (.bin .Add (.bin .Mult (.var 3) (.var 4)) (.call 21 [.var 0, .var 4]))), .set 6 (.val (.call 20 [.var 5, .var 4])), .set 7 (.val (.call 22 [.var 0, .lst [.cst (.int 1), .cst (.int 2), .bin .Add (.cst (.int 1)) (.call 21 [.var 0, .cst (.int 9)]), .bin .Add (.cst (.int 1)) (.call 21 [.var 0, .bin .Pow (.cst (.int 10)) (.cst (.int 6))]), .bin .Pow (.cst (.int 10)) (.cst (.int 30))]])), .append 2 (.tup [.bin .FloorDiv (.var 5) (.var 6), .bin .FloorDiv (.var 4) (.var 6), .var 7])]
/-- i things are drawn -/
structure ThI (n : Nat) (S0 : Sto) (i : Nat) (base : Nat) (ts : List Tr) (S : Sto) : Prop where
  ly : Ly n S0 S
  len : ts.length = i
  bd : base ≤ i * 100000000000000000000000000003
  ok : ∀ t ∈ ts, t.ok
  up : Up ts
  lt : ∀ t ∈ ts, t.a < (base + 1) * t.b
  mb : ∀ t ∈ ts, t.m ≤ 1000000000000000000000000000000
def thF (n : Nat) (o1 : Option SV) (ts : List Tr) (base : Nat) (o4 o5 o6 o7 : Option SV) : Frm := [some (.val (.obj n)), o1, some (.olst (ts.map Tr.d)), some (.val (.int base)), o4, o5, o6, o7]
theorem th_turn (k n i : Nat) (S0 S : Sto) (base : Nat) (ts : List Tr) (o1 o4 o5 o6 o7 : Option SV) (hi : i < 9) (h : ThI n S0 i base ts S) : ∃ base' ts' S' o4' o5' o6' o7', exs (C (k + 2)) (gl) FU thBody (thF n (some (.val (.int (i : Int)))) ts base o4 o5 o6 o7) S = .ok (.next (thF n (some (.val (.int (i : Int)))) ts' base' o4' o5' o6' o7')) S' ∧ ThI n S0 (i + 1) base' ts' S' := by
  obtain ⟨ly, len, bd, ok, up, lt, mb⟩ := h
  obtain ⟨r1, S1, e1, a1, b1, ly1⟩ := c_below (k + 1) n 3 S ly.src ⟨by omega, by decide +kernel⟩
  obtain ⟨x2, S2, m2, e2, ly2⟩ := c_choice k n [.int 1, .int 1, .int 5, .int 1000000, .int 100000000000000000000000000000] S1 ly1.src (by simp) (by simp)
  obtain ⟨c2, rfl, c2a, c2b⟩ : ∃ c : Nat, x2 = .int c ∧ 1 ≤ c ∧ c ≤ 100000000000000000000000000000 := by
    simp only [List.mem_cons, List.not_mem_nil, or_false] at m2
    rcases m2 with rfl | rfl | rfl | rfl | rfl
    · exact ⟨1, rfl, by omega, by omega⟩
    · exact ⟨1, rfl, by omega, by omega⟩
    · exact ⟨5, rfl, by omega, by omega⟩
    · exact ⟨1000000, rfl, by omega, by omega⟩
    · exact ⟨100000000000000000000000000000, rfl, by omega, by omega⟩
  obtain ⟨x3, S3, m3, e3, ly3⟩ := c_choice k n [.int 1, .int 1, .int 2, .int 3, .int 4, .int 7, .int 12, .int 60] S2 ly2.src (by simp) (by simp)
  obtain ⟨bot, rfl, c3a, c3b⟩ : ∃ c : Nat, x3 = .int c ∧ 1 ≤ c ∧ c ≤ 60 := by
    simp only [List.mem_cons, List.not_mem_nil, or_false] at m3
    rcases m3 with rfl | rfl | rfl | rfl | rfl | rfl | rfl | rfl
    · exact ⟨1, rfl, by omega, by omega⟩
    · exact ⟨1, rfl, by omega, by omega⟩
    · exact ⟨2, rfl, by omega, by omega⟩
    · exact ⟨3, rfl, by omega, by omega⟩
    · exact ⟨4, rfl, by omega, by omega⟩
    · exact ⟨7, rfl, by omega, by omega⟩
    · exact ⟨12, rfl, by omega, by omega⟩
    · exact ⟨60, rfl, by omega, by omega⟩
  obtain ⟨r4, S4, e4, a4, b4, ly4⟩ := c_below (k + 1) n bot S3 ly3.src ⟨by omega, by omega⟩
  obtain ⟨y, rfl⟩ : ∃ y : Nat, r4 = y := ⟨r4.toNat, by omega⟩
  obtain ⟨r5, S5, e5, a5, b5, ly5⟩ := c_below (k + 1) n 9 S4 ly4.src ⟨by omega, by decide +kernel⟩
  obtain ⟨r6, S6, e6, a6, b6, ly6⟩ := c_below (k + 1) n 1000000 S5 ly5.src ⟨by omega, by decide +kernel⟩
  obtain ⟨x7, S7, m7, e7, ly7⟩ := c_choice k n [.int 1, .int 2, .int (1 + r5), .int (1 + r6), .int 1000000000000000000000000000000] S6 ly6.src (by simp) (by simp)
  obtain ⟨m, rfl, m0, m1⟩ : ∃ c : Nat, x7 = .int c ∧ 1 ≤ c ∧ c ≤ 1000000000000000000000000000000 := by
    simp only [List.mem_cons, List.not_mem_nil, or_false] at m7
    rcases m7 with rfl | rfl | rfl | rfl | rfl
    · exact ⟨1, rfl, by omega, by omega⟩
    · exact ⟨2, rfl, by omega, by omega⟩
    · exact ⟨(1 + r5).toNat, by congr 1; omega, by omega, by omega⟩
    · exact ⟨(1 + r6).toNat, by congr 1; omega, by omega, by omega⟩
    · exact ⟨1000000000000000000000000000000, rfl, by omega, by omega⟩
  obtain ⟨q1, rfl⟩ : ∃ q : Nat, r1 = q := ⟨r1.toNat, by omega⟩
  obtain ⟨w, hw, hw1, hw2⟩ : ∃ w : Nat, (if 0 < i then (1 : Int) else 0) = (w : Int) ∧ w ≤ 1 ∧ (0 < i → w = 1) := by
    by_cases h0 : 0 < i
    · exact ⟨1, by rw [if_pos h0]; rfl, by omega, fun _ => rfl⟩
    · exact ⟨0, by rw [if_neg h0]; rfl, by omega, fun h => (h0 h).elim⟩
  have cw : c2 * w ≤ c2 := by
    have := Nat.mul_le_mul_left c2 hw1
    omega
  let base' := base + q1 + c2 * w
  have bb : base' ≤ (i + 1) * 100000000000000000000000000003 := by
    show base + q1 + c2 * w ≤ _
    rw [Nat.succ_mul]
    omega
  have b200 : base' < 2 ^ 200 := Nat.lt_of_le_of_lt bb (Nat.lt_of_le_of_lt (Nat.mul_le_mul_right _ (show i + 1 ≤ 9 by omega)) (by decide +kernel))
  obtain ⟨tk, l1, l2⟩ := red_ok (base := base') (bot := bot) (y := y) (m := m) (by omega) c3b (by omega) (by omega) (Nat.lt_of_le_of_lt m1 (by decide +kernel)) b200
  have gc := c_gcd (k + 1) (base' * bot + y) bot S4 (Nat.lt_of_le_of_lt c3b (by decide +kernel))
  have g0 : 0 < Nat.gcd (base' * bot + y) bot := Nat.gcd_pos_of_pos_right _ (by omega)
  have g1 : Nat.gcd (base' * bot + y) bot ≤ bot := Nat.gcd_le_right _ (by omega)
  have d1 : divOk ((Nat.gcd (base' * bot + y) bot : Nat) : Int) = true := div_s (by omega) (by omega)
  have n1 : ∀ z : Int, mulOk z (bot : Int) = true := fun z => mul_r (by omega) (by omega)
  have n2 : ∀ z : Int, mulOk z (w : Int) = true := fun z => mul_r (by omega) (by omega)
  have hlen : ts.length < sizeLine := Nat.lt_of_lt_of_le (show ts.length < 9 by omega) (by decide)
  have eb : ((base : Int) + (q1 : Int) + (c2 : Int) * (w : Int)) = (base' : Int) := by simp [base']
  have et : ((base' : Int) * (bot : Int) + (y : Int)) = ((base' * bot + y : Nat) : Int) := by simp
  generalize hB : base' = B at *
  generalize hT : B * bot + y = T at *
  have p6 : powOk 10 6 = true := by decide +kernel
  have p29 : powOk 10 29 = true := by decide +kernel
  have p30 : powOk 10 30 = true := by decide +kernel
  refine ⟨B, ts ++ [⟨T / Nat.gcd T bot, bot / Nat.gcd T bot, m⟩], S7, some (.val (.int bot)), some (.val (.int T)), some (.val (.int (Nat.gcd T bot : Nat))), some (.val (.int m)), ?_, ?_⟩
  · simp [thBody, thF, e1, p6, p29, p30, e2, hw, n2, eb, e3, n1, e4, et, gc, e5, e6, e7, d1, hlen, Tr.d]
  · refine ⟨((((((ly.trans ly1).trans ly2).trans ly3).trans ly4).trans ly5).trans ly6).trans ly7, by simp [len], bb, fun t ht => ?_, ?_, fun t ht => ?_, fun t ht => ?_⟩
    · rcases List.mem_append.mp ht with ht | ht
      · exact ok t ht
      · rw [List.mem_singleton] at ht
        subst ht
        exact tk
    · by_cases h0 : 0 < i
      · have w1 := hw2 h0
        subst w1
        refine up.snoc (B := B) (fun t ht => (ok t ht).b0) (fun t ht => Nat.lt_of_lt_of_le (lt t ht) (Nat.mul_le_mul_right _ ?_)) tk.b0 l1
        have : B = base + q1 + c2 * 1 := hB.symm
        omega
      · have : ts = [] := List.eq_nil_of_length_eq_zero (by omega)
        subst this
        exact List.pairwise_singleton _ _
    · rcases List.mem_append.mp ht with ht | ht
      · refine Nat.lt_of_lt_of_le (lt t ht) (Nat.mul_le_mul_right _ ?_)
        have : B = base + q1 + c2 * w := hB.symm
        omega
      · rw [List.mem_singleton] at ht
        subst ht
        exact l2
    · rcases List.mem_append.mp ht with ht | ht
      · exact mb t ht
      · rw [List.mem_singleton] at ht
        subst ht
        exact m1
theorem c_things2 (k n : Nat) (S0 : Sto) (h : Src S0 n) : ∃ ts S', C (k + 3) 4 [.obj n] S0 = .ok (.lst (ts.map Tr.d)) S' ∧ DataOk ts ∧ ts.length ≤ 8 ∧ Ly n S0 S' ∧ (∀ t ∈ ts, t.a < 2 ^ 120) ∧ (∀ t ∈ ts, t.m ≤ 1000000000000000000000000000000) ∧ Up ts := by
  obtain ⟨r, S1, e1, a1, b1, ly1⟩ := c_below (k + 1) n 9 S0 h ⟨by omega, by decide +kernel⟩
  obtain ⟨r, rfl⟩ : ∃ q : Nat, r = q := ⟨r.toNat, by omega⟩
  have hr : r < 4611686018427387904 := by omega
  obtain ⟨fr2, S2, key, base, ts, o1, o4, o5, o6, o7, rfl, inv⟩ := for_rng (g := asg (C (k + 2)) (gl) (.name 1)) (b := exs (C (k + 2)) (gl) FU thBody)
    (fun i fr S => ∃ base ts o1 o4 o5 o6 o7, fr = thF n o1 ts base o4 o5 o6 o7 ∧ ThI n S0 i base ts S) r (fun i fr S hi hJ => by
      obtain ⟨base, ts, o1, o4, o5, o6, o7, rfl, inv⟩ := hJ
      obtain ⟨base', ts', S', o4', o5', o6', o7', e, inv'⟩ := th_turn k n i S0 S base ts o1 o4 o5 o6 o7 (by omega) inv
      exact ⟨_, S, _, S', asg_name _ _ _ _ _ _, e, base', ts', _, o4', o5', o6', o7', rfl, inv'⟩)
    (thF n none [] 0 none none none none) S1 ⟨0, [], none, none, none, none, none, rfl, ⟨ly1, rfl, by omega, (fun _ h => nomatch h), List.Pairwise.nil, (fun _ h => nomatch h), (fun _ h => nomatch h)⟩⟩
  refine ⟨ts, S2, ?_, ⟨inv.ok, inv.up.asc, by have := inv.len; omega⟩, by have := inv.len; omega, inv.ly, fun t ht => ?_, inv.mb, inv.up⟩
  rotate_left
  · have q1 := inv.lt t ht
    have q2 := (inv.ok t ht).b1
    have q3 := inv.bd
    have q4 : base + 1 ≤ 900000000000000000000000000028 := by
      have : r * 100000000000000000000000000003 ≤ 8 * 100000000000000000000000000003 := Nat.mul_le_mul_right _ (by omega)
      omega
    exact Nat.lt_of_lt_of_le q1 (Nat.le_trans (Nat.mul_le_mul q4 q2) (by decide +kernel))
  rw [C_eq lk__law_things rfl _ _ S0 rfl]
  simp only [m__law_things]
  simp [thF] at key
  simp [e1, rng_nat hr]
  rw [key]
  simp
theorem c_things (k n : Nat) (S0 : Sto) (h : Src S0 n) : ∃ ts S', C (k + 3) 4 [.obj n] S0 = .ok (.lst (ts.map Tr.d)) S' ∧ DataOk ts ∧ ts.length ≤ 8 ∧ Ly n S0 S' := by
  obtain ⟨ts, S', h1, h2, h3, h4, _⟩ := c_things2 k n S0 h
  exact ⟨ts, S', h1, h2, h3, h4⟩
end Mn
namespace Mn
open PySem L2
/-! ### data of any kind, judged -/
def partD : D → Option Int
  | .int i => some i
  | _ => none
/-- what may stand in a triple -/
inductive AtG : D → Prop
  | int (i : Int) (h : i.natAbs < 2 ^ 130) : AtG (.int i)
  | bl (b : Bool) : AtG (.bl b)
  | no {d : D} (h : isTy d "int" = some false) : AtG d
theorem no_part {d : D} (h : isTy d "int" = some false) : partD d = none := by
  cases d <;> first | rfl | exact Bool.noConfusion (Option.some.inj (show some true = some false from h))
theorem c_isintG (k : Nat) (y : D) (S : Sto) (h : AtG y) : C (k + 1) 15 [y] S = .ok (.bl (partD y).isSome) S := by
  rw [C_eq lk_is_integer rfl _ _ S rfl]
  cases h with
  | int i h =>
    have a : isTy (.int i) "int" = some true := rfl
    have b : isTy (.int i) "bool" = some false := rfl
    simp [m_is_integer, a, b, partD]
  | bl b =>
    have a : isTy (.bl b) "int" = some true := rfl
    have c : isTy (.bl b) "bool" = some true := rfl
    simp [m_is_integer, a, c, partD]
  | no h =>
    have := no_part h
    simp [m_is_integer, h, this]
/-- a triple as it is written -/
def trB (a b m : Int) : Bool := decide (0 ≤ a) && (decide (1 ≤ b) && (decide (1 ≤ m) && decide (Nat.gcd a.toNat b.toNat = 1)))
def tr3 : Option Int → Option Int → Option Int → Option Tr
  | some a, some b, some m => if trB a b m then some ⟨a.toNat, b.toNat, m.toNat⟩ else none
  | _, _, _ => none
def trD : D → Option Tr
  | .tup [x, y, z] => tr3 (partD x) (partD y) (partD z)
  | _ => none
structure TrG (t : Tr) : Prop where
  b0 : 0 < t.b
  m0 : 0 < t.m
  cp : Nat.gcd t.a t.b = 1
  a1 : t.a < 2 ^ 130
  b1 : t.b < 2 ^ 130
  m1 : t.m < 2 ^ 130
/-- what may stand in data -/
inductive ItG : D → Prop
  | no {d : D} (h : isTy d "tuple" = some false) : ItG d
  | tup (ys : List D) (h : ∀ y ∈ ys, AtG y) (l : ys.length ≤ 1000) : ItG (.tup ys)
theorem no_tr {d : D} (h : isTy d "tuple" = some false) : trD d = none := by
  cases d <;> first | rfl | exact Bool.noConfusion (Option.some.inj (show some true = some false from h))
theorem trD_len {ys : List D} (h : ys.length ≠ 3) : trD (.tup ys) = none := by
  match ys, h with
  | [], _ => rfl
  | [a], _ => rfl
  | [a, b], _ => rfl
  | [a, b, c], h => exact (h rfl).elim
  | a :: b :: c :: d :: r, _ => rfl
theorem partD_int {y : D} {i : Int} (h : partD y = some i) : y = .int i := by
  cases y <;> first | (cases h; done) | skip
  cases h; rfl
theorem at_lt {y : D} {i : Int} (h : AtG y) (e : partD y = some i) : y = .int i ∧ i.natAbs < 2 ^ 130 := by
  cases h with
  | int j h => cases e; exact ⟨rfl, h⟩
  | bl b => cases e
  | no h => rw [no_part h] at e; cases e
theorem tr3_some {x y z : D} {t : Tr} (hx : AtG x) (hy : AtG y) (hz : AtG z) (e : trD (.tup [x, y, z]) = some t) : D.tup [x, y, z] = t.d ∧ TrG t := by
  have e : tr3 (partD x) (partD y) (partD z) = some t := e
  unfold tr3 at e
  split at e
  · rename_i a b m ha hb hm
    split at e
    · rename_i q
      cases e
      unfold trB at q
      simp only [Bool.and_eq_true, decide_eq_true_eq] at q
      obtain ⟨q1, q2, q3, q4⟩ := q
      obtain ⟨rfl, l1⟩ := at_lt hx ha
      obtain ⟨rfl, l2⟩ := at_lt hy hb
      obtain ⟨rfl, l3⟩ := at_lt hz hm
      refine ⟨?_, ⟨?_, ?_, q4, ?_, ?_, ?_⟩⟩
      · show _ = D.tup [.int ((a.toNat : Nat) : Int), .int ((b.toNat : Nat) : Int), .int ((m.toNat : Nat) : Int)]
        rw [Int.toNat_of_nonneg q1, Int.toNat_of_nonneg (by omega), Int.toNat_of_nonneg (by omega)]
      · show 0 < b.toNat; omega
      · show 0 < m.toNat; omega
      · show a.toNat < _; omega
      · show b.toNat < _; omega
      · show m.toNat < _; omega
    · cases e
  · cases e
theorem trD_some {x : D} {t : Tr} (h : ItG x) (e : trD x = some t) : x = t.d ∧ TrG t := by
  cases h with
  | no h => rw [no_tr h] at e; cases e
  | tup ys h l =>
    match ys, h, e with
    | [a, b, c], h, e => exact tr3_some (h a (by simp)) (h b (by simp)) (h c (by simp)) e
/-- == of two pairs of numbers -/
theorem pair2 (a b c d : Int) (h1 : a.natAbs < 2 ^ 300) (h2 : b.natAbs < 2 ^ 300) (h3 : c.natAbs < 2 ^ 300) (h4 : d.natAbs < 2 ^ 300) : eqA (.tup [.int a, .int b]) (.tup [.int c, .int d]) = some (decide (a = c) && decide (b = d)) := by
  have r : ∀ x y : Int, x.natAbs < 2 ^ 300 → y.natAbs < 2 ^ 300 → SeqAt.shaped (.tuple [.int x, .int y]) = true := fun x y hx hy => by
    have q : Rd 1 2 (.tup [.int x, .int y]) := .tup (w' := 0) (fun d hd => by
      simp only [List.mem_cons, List.not_mem_nil, or_false] at hd
      rcases hd with rfl | rfl
      · exact .int (Nat.lt_of_lt_of_le (log_lt hx (by omega)) (by omega))
      · exact .int (Nat.lt_of_lt_of_le (log_lt hy (by omega)) (by omega))) (by simp)
    obtain ⟨p, e, o⟩ := q.py
    cases e
    unfold SeqAt.shaped
    have := o.dp
    rw [o.cl]
    simp only [Bool.true_and, decide_eq_true_eq]
    omega
  have e : eqE (.tup [.int a, .int b]) (.tup [.int c, .int d]) = eqD (.tup [.int a, .int b]) (.tup [.int c, .int d]) := rfl
  show eqE (.tup [.int a, .int b]) (.tup [.int c, .int d]) = _
  rw [e]
  unfold eqD
  have p1 : (D.tup [.int a, .int b]).py = some (.tuple [.int a, .int b]) := rfl
  have p2 : (D.tup [.int c, .int d]).py = some (.tuple [.int c, .int d]) := rfl
  rw [p1, p2]
  simp only [r a b h1 h2, r c d h3 h4, Bool.and_self, if_true]
  congr 1
  simp [PyData.eqv, PyData.eqvAll]
  rfl
theorem gcd_div {a b : Nat} (h : 0 < b) : (a / Nat.gcd a b = a ∧ b / Nat.gcd a b = b) ↔ Nat.gcd a b = 1 := by
  have g := Nat.gcd_pos_of_pos_right a h
  constructor
  · rintro ⟨_, e⟩
    have := Nat.div_mul_cancel (Nat.gcd_dvd_right a b)
    rw [e] at this
    have h2 : b * Nat.gcd a b = b * 1 := by omega
    exact Nat.eq_of_mul_eq_mul_left h h2
  · intro e
    rw [e]; exact ⟨Nat.div_one a, Nat.div_one b⟩
theorem c_is_tripleG (k : Nat) (x : D) (S : Sto) (h : ItG x) : C (k + 2) 18 [x] S = .ok (.bl (trD x).isSome) S := by
  rw [C_eq lk_is_triple rfl _ _ S rfl]
  simp only [m_is_triple]
  cases h with
  | no h =>
    have := no_tr h
    simp [h, this]
  | tup ys h l =>
    by_cases l3 : ys.length = 3
    · obtain ⟨x, y, z, rfl⟩ : ∃ x y z, ys = [x, y, z] := by
        match ys, l3 with
        | [x, y, z], _ => exact ⟨x, y, z, rfl⟩
      have hx := h x (by simp)
      have hy := h y (by simp)
      have hz := h z (by simp)
      have e1 : ev (C (k + 1)) (gl) [some (.val (.tup [x, y, z])), none] (.lc [1] (.name 1) (.tup (.var 0)) [] (.call 15 [.var 1])) S = .ok (.lst ([x, y, z].map fun y => .bl (partD y).isSome)) S := by
        refine ev_lcm [x, y, z] (fun y => y) (fun y => .bl (partD y).isSome) (by simp) (by rw [sizeLine_eq]; simp) fun y hy => ?_
        have ct := c_isintG k y S (h y hy)
        simp [turn, wipeF, ct]
      have tr : isTy (.tup [x, y, z]) "tuple" = some true := rfl
      cases q1 : partD x with
      | none => simp [q1] at e1; simp [tr, e1, blsD, trD, tr3, q1]
      | some a =>
        cases q2 : partD y with
        | none => simp [q1, q2] at e1; simp [tr, e1, blsD, trD, tr3, q1, q2]
        | some b =>
          cases q3 : partD z with
          | none => simp [q1, q2, q3] at e1; simp [tr, e1, blsD, trD, tr3, q1, q2, q3]
          | some m =>
            obtain ⟨rfl, l1⟩ := at_lt hx q1
            obtain ⟨rfl, l2⟩ := at_lt hy q2
            obtain ⟨rfl, l3⟩ := at_lt hz q3
            simp [q1, q2, q3] at e1
            by_cases n1 : a < 0
            · have : ¬ 0 ≤ a := by omega
              simp [tr, e1, blsD, trD, tr3, q1, q2, q3, trB, n1, this]
            by_cases n2 : b < 1
            · have : ¬ 1 ≤ b := by omega
              simp [tr, e1, blsD, trD, tr3, q1, q2, q3, trB, n1, n2, this]
            by_cases n3 : m < 1
            · have : ¬ 1 ≤ m := by omega
              simp [tr, e1, blsD, trD, tr3, q1, q2, q3, trB, n1, n2, n3, this]
            obtain ⟨a, rfl⟩ : ∃ n : Nat, a = n := ⟨a.toNat, by omega⟩
            obtain ⟨b, rfl⟩ : ∃ n : Nat, b = n := ⟨b.toNat, by omega⟩
            have b1 : 1 ≤ (b : Int) := by omega
            have m1 : 1 ≤ m := by omega
            have p200 : (2 : Nat) ^ 130 < 2 ^ 300 := Nat.pow_lt_pow_right (by decide) (by decide)
            have p4000 : (2 : Nat) ^ 130 < 2 ^ 4000 := Nat.pow_lt_pow_right (by decide) (by decide)
            rw [Int.natAbs_natCast] at l1 l2
            have lo := c_lowest k a b S (by omega) (Nat.lt_trans l2 p4000)
            have bd : ∀ x y : Nat, x < 2 ^ 130 → (((x / y : Nat) : Int)).natAbs < 2 ^ 300 := fun x y hx => by rw [Int.natAbs_natCast]; exact Nat.lt_of_le_of_lt (Nat.div_le_self _ _) (Nat.lt_trans hx p200)
            have e2 := pair2 ((a / Nat.gcd a b : Nat) : Int) ((b / Nat.gcd a b : Nat) : Int) (a : Int) (b : Int) (bd _ _ l1) (bd _ _ l2) (by rw [Int.natAbs_natCast]; exact Nat.lt_trans l1 p200) (by rw [Int.natAbs_natCast]; exact Nat.lt_trans l2 p200)
            have dd : (decide (((a / Nat.gcd a b : Nat) : Int) = (a : Int)) && decide (((b / Nat.gcd a b : Nat) : Int) = (b : Int))) = decide (Nat.gcd a b = 1) := by
              rw [← Bool.decide_and]
              congr 1
              rw [Int.natCast_inj, Int.natCast_inj]
              exact propext (gcd_div (by omega))
            rw [dd] at e2
            obtain ⟨a', ha⟩ : ∃ x, x = a / Nat.gcd a b := ⟨_, rfl⟩
            obtain ⟨b', hb⟩ : ∃ x, x = b / Nat.gcd a b := ⟨_, rfl⟩
            rw [← ha, ← hb] at lo e2
            have tt : (trD (.tup [.int (a : Int), .int (b : Int), .int m])).isSome = decide (Nat.gcd a b = 1) := by
              show (tr3 (some (a : Int)) (some (b : Int)) (some m)).isSome = _
              unfold tr3 trB
              dsimp only
              have a0 : (0 : Int) ≤ (a : Int) := by omega
              rw [decide_eq_true a0, decide_eq_true b1, decide_eq_true m1, Int.toNat_natCast, Int.toNat_natCast]
              simp only [Bool.true_and, decide_eq_true_eq]
              by_cases g : Nat.gcd a b = 1
              · rw [if_pos g, decide_eq_true g]; rfl
              · rw [if_neg g, decide_eq_false g]; rfl
            rw [tt]
            simp [tr, e1, blsD, n1, n2, n3, lo, sl_02, e2]
    · have := trD_len l3
      have tr : isTy (.tup ys) "tuple" = some true := rfl
      have l3' : ¬ (ys.length : Int) = 3 := by omega
      simp [tr, l3', this]
/-! ### data -/
def trs : List D → Option (List Tr)
  | [] => some []
  | x :: xs => match trD x with
    | none => none
    | some t => (trs xs).map (t :: ·)
def upB (ts : List Tr) : Bool := (ts.zip ts.tail).all fun p => decide (p.1.a * p.2.b < p.2.a * p.1.b)
def datB (xs : List D) : Bool := match trs xs with
  | some ts => upB ts
  | none => false
theorem trs_cons (x : D) (xs : List D) : trs (x :: xs) = (match trD x with | none => none | some t => (trs xs).map (t :: ·)) := rfl
theorem trs_all : ∀ (xs : List D), (xs.all fun x => (trD x).isSome) = (trs xs).isSome
  | [] => rfl
  | x :: xs => by
    have ih := trs_all xs
    rw [List.all_cons, ih, trs_cons]
    cases trD x with
    | none => rfl
    | some t => cases trs xs <;> rfl
theorem trs_some : ∀ {xs : List D} {ts : List Tr}, (∀ x ∈ xs, ItG x) → trs xs = some ts → xs = ts.map Tr.d ∧ ∀ t ∈ ts, TrG t
  | [], ts, _, e => by cases e; exact ⟨rfl, fun _ h => by cases h⟩
  | x :: xs, ts, h, e => by
    unfold trs at e
    cases q : trD x with
    | none => rw [q] at e; cases e
    | some t =>
      rw [q] at e
      cases q2 : trs xs with
      | none => rw [q2] at e; cases e
      | some us =>
        rw [q2] at e
        cases e
        obtain ⟨e1, g1⟩ := trD_some (h x List.mem_cons_self) q
        obtain ⟨e2, g2⟩ := trs_some (fun y hy => h y (List.mem_cons_of_mem _ hy)) q2
        refine ⟨by rw [List.map_cons, ← e1, ← e2], fun u hu => ?_⟩
        rcases List.mem_cons.mp hu with rfl | hu
        · exact g1
        · exact g2 u hu
theorem mulG {a b : Nat} (h1 : a < 2 ^ 130) (h2 : b < 2 ^ 130) : mulOk (a : Int) (b : Int) = true := by
  have p : (2 : Nat) ^ 130 < 2 ^ 400000 := Nat.pow_lt_pow_right (by decide) (by decide)
  exact mul_b (by rw [Int.natAbs_natCast]; exact Nat.lt_trans h1 p) (by rw [Int.natAbs_natCast]; exact Nat.lt_trans h2 p)
theorem c_is_dataG (k : Nat) (xs : List D) (S : Sto) (h : ∀ x ∈ xs, ItG x) (hl : xs.length ≤ 2000) : C (k + 3) 16 [.tup xs] S = .ok (.bl (datB xs)) S := by
  have sz : xs.length ≤ sizeLine := by rw [sizeLine_eq]; omega
  have e1 : ev (C (k + 2)) (gl) [some (.val (.tup xs)), none, none, none] (.lc [3] (.name 3) (.tup (.var 0)) [] (.call 18 [.var 3])) S = .ok (.lst (xs.map fun x => .bl (trD x).isSome)) S := by
    refine ev_lcm xs (fun x => x) (fun x => .bl (trD x).isSome) (by simp) sz fun x hx => ?_
    simp [turn, wipeF, c_is_tripleG k x S (h x hx)]
  have b1 := bls_all (fun x : D => (trD x).isSome) xs
  have a1 : (xs.map fun x => (trD x).isSome).all id = (trs xs).isSome := by
    rw [List.all_map]; exact trs_all xs
  generalize (xs.map fun x => D.bl (trD x).isSome) = L1 at e1 b1
  generalize (xs.map fun x => (trD x).isSome) = M1 at b1 a1
  have tr : isTy (.tup xs) "tuple" = some true := rfl
  rw [C_eq lk_is_data rfl _ _ S rfl]
  simp only [m_is_data]
  unfold datB
  cases q : trs xs with
  | none =>
    rw [q] at a1
    have a1 : M1.all id = false := a1
    simp [tr, e1, b1, a1]
  | some ts =>
    rw [q] at a1
    obtain ⟨e0, g⟩ := trs_some h q
    subst e0
    rw [List.length_map] at sz
    have e2 : ev (C (k + 2)) (gl) [some (.val (.tup (ts.map Tr.d))), none, none, none] (.lc [1, 2] (.tup [.name 1, .name 2]) (.zip (.var 0) (.sl (.var 0) (some (.cst (.int 1))) none)) []
        (.cmp .Lt (.bin .Mult (.sub (.var 1) (.cst (.int 0))) (.sub (.var 2) (.cst (.int 1)))) (.bin .Mult (.sub (.var 2) (.cst (.int 0))) (.sub (.var 1) (.cst (.int 1)))))) S = .ok (.lst ((ts.zip (ts.tail)).map fun p => .bl (decide (p.1.a * p.2.b < p.2.a * p.1.b)))) S := by
      refine ev_lcm (ts.zip (ts.tail)) (fun p => .tup [p.1.d, p.2.d]) (fun p => .bl (decide (p.1.a * p.2.b < p.2.a * p.1.b))) (by simp [sl_1, zip_d]) (Nat.le_trans (by rw [List.length_zip]; exact Nat.min_le_left _ _) sz) fun p hp => ?_
      have hz := List.of_mem_zip hp
      have o1 := g _ hz.1
      have o2 := g _ (List.mem_of_mem_tail hz.2)
      have b1 := mulG o1.a1 o2.b1
      have b2 := mulG o2.a1 o1.b1
      have lt : ((p.1.a : Int) * (p.2.b : Int) < (p.2.a : Int) * (p.1.b : Int)) ↔ p.1.a * p.2.b < p.2.a * p.1.b := by
        constructor <;> intro h <;> exact_mod_cast h
      simp [turn, wipeF, Tr.d, b1, b2, lt]
    have b2 := bls_all (fun p : Tr × Tr => decide (p.1.a * p.2.b < p.2.a * p.1.b)) (ts.zip ts.tail)
    have a2 : ((ts.zip ts.tail).map fun p => decide (p.1.a * p.2.b < p.2.a * p.1.b)).all id = upB ts := by
      rw [List.all_map]; rfl
    generalize ((ts.zip ts.tail).map fun p => D.bl (decide (p.1.a * p.2.b < p.2.a * p.1.b))) = L2 at e2 b2
    generalize ((ts.zip ts.tail).map fun p => decide (p.1.a * p.2.b < p.2.a * p.1.b)) = M2 at b2 a2
    have a1 : M1.all id = true := a1
    generalize ts.map Tr.d = X at *
    simp [tr, e1, b1, a1, e2, b2, a2]
/-- a value that may be judged -/
inductive VD : D → Prop
  | no {d : D} (h : isTy d "tuple" = some false) : VD d
  | tup (xs : List D) (h : ∀ x ∈ xs, ItG x) (l : xs.length ≤ 2000) : VD (.tup xs)
def datV : D → Bool
  | .tup xs => datB xs
  | _ => false
def goodV : D → Bool
  | .tup xs => datB xs && decide (xs.length ≤ 1000)
  | _ => false
theorem no_dat {d : D} (h : isTy d "tuple" = some false) : datV d = false ∧ goodV d = false := by
  cases d <;> first | exact ⟨rfl, rfl⟩ | exact Bool.noConfusion (Option.some.inj (show some true = some false from h))
theorem c_check_dataG (k : Nat) (d : D) (S : Sto) (h : VD d) : C (k + 4) 8 [d] S = if goodV d then .ok .non S else .exc (.ins 101 [d]) S := by
  rw [C_eq lk_check_data rfl _ _ S rfl]
  cases h with
  | no h =>
    have e : C (k + 3) 16 [d] S = .ok (.bl false) S := by
      rw [C_eq lk_is_data rfl _ _ S rfl]
      simp [m_is_data, h]
    rw [(no_dat h).2]
    simp [m_check_data, e]
  | tup xs h l =>
    have e := c_is_dataG k xs S h l
    show _ = if (datB xs && decide (xs.length ≤ 1000)) then _ else _
    cases q : datB xs with
    | false =>
      rw [q] at e
      simp [m_check_data, e]
    | true =>
      rw [q] at e
      by_cases l : xs.length ≤ 1000
      · have l' : ¬ (1000 : Int) < (xs.length : Int) := by omega
        simp [m_check_data, e, gk_MOST_TRIPLES, l, l']
      · have l' : (1000 : Int) < (xs.length : Int) := by omega
        simp [m_check_data, e, gk_MOST_TRIPLES, l, l']
/-! ### by the law's own reading -/
def ltP : Option Tr → Tr → Bool
  | none, _ => true
  | some p, t => decide (p.a * t.b < t.a * p.b)
def datL : Option Tr → List D → Bool
  | _, [] => true
  | p, x :: xs => match trD x with
    | none => false
    | some t => ltP p t && datL (some t) xs
theorem datL_up : ∀ (xs : List D) (p : Tr), datL (some p) xs = (match trs xs with | some ts => upB (p :: ts) | none => false)
  | [], p => rfl
  | x :: xs, p => by
    rw [trs_cons]
    unfold datL
    cases trD x with
    | none => rfl
    | some t =>
      dsimp only
      rw [datL_up xs t]
      cases trs xs with
      | none => simp
      | some ts => rfl
theorem datL_eq (xs : List D) : datL none xs = datB xs := by
  cases xs with
  | nil => rfl
  | cons x xs =>
    unfold datL datB
    rw [trs_cons]
    cases trD x with
    | none => rfl
    | some t =>
      dsimp only
      rw [datL_up xs t]
      cases trs xs <;> rfl
end Mn
namespace Mn
open PySem L2
/-! ### the law's own reading of data -/
def ldB : List MS := [.set 2 (.val (.sub (.var 0) (.var 1))), .ife (.or (.not (.tru (.blt .isinst [.var 2, .cst (.ty "tuple")]))) (.cmp .NotEq (.blt .len [.var 2]) (.cst (.int 3)))) [.ret (.cst (.bl false))] [], .ife (.not (.tru (.blt .all [.lc [3] (.name 3) (.tup (.var 2)) [] (.and (.blt .isinst [.var 3, .cst (.ty "int")]) (.not (.blt .isinst [.var 3, .cst (.ty "bool")])))]))) [.ret (.cst (.bl false))] [], .ife (.or (.cmp .Lt (.sub (.var 2) (.cst (.int 0))) (.cst (.int 0))) (.or (.cmp .Lt (.sub (.var 2) (.cst (.int 1))) (.cst (.int 1))) (.or (.cmp .Lt (.sub (.var 2) (.cst (.int 2))) (.cst (.int 1))) (.cmp .NotEq (.call 20 [.sub (.var 2) (.cst (.int 0)), .sub (.var 2) (.cst (.int 1))]) (.cst (.int 1)))))) [.ret (.cst (.bl false))] [], .ife (.and (.cmp .Gt (.var 1) (.cst (.int 0))) (.cmp .GtE (.bin .Mult (.sub (.sub (.var 0) (.bin .Sub (.var 1) (.cst (.int 1)))) (.cst (.int 0))) (.sub (.var 2) (.cst (.int 1)))) (.bin .Mult (.sub (.var 2) (.cst (.int 0))) (.sub (.sub (.var 0) (.bin .Sub (.var 1) (.cst (.int 1)))) (.cst (.int 1)))))) [.ret (.cst (.bl false))] []]
theorem ld_body : m__law_is_data.body = [.ife (.not (.tru (.blt .isinst [.var 0, .cst (.ty "tuple")]))) [.ret (.cst (.bl false))] [], .forr (.name 1) (.rng1 (.blt .len [.var 0])) ldB, .ret (.cst (.bl true))] := rfl
abbrev ldF (xs : List D) (a b : Option SV) : Frm := [some (.val (.tup xs)), a, b, none]
/-- the two tests of a part -/
theorem part_test (cl : Nat → List D → Sto → Out D) (fr : Frm) (y : D) (S : Sto) (h : AtG y) (e : fr[3]? = some (some (.val y))) : ev cl gl fr (.and (.blt .isinst [.var 3, .cst (.ty "int")]) (.not (.blt .isinst [.var 3, .cst (.ty "bool")]))) S = .ok (.bl (partD y).isSome) S := by
  cases h with
  | int i h =>
    have a : isTy (.int i) "int" = some true := rfl
    have b : isTy (.int i) "bool" = some false := rfl
    simp [e, a, b, partD]
  | bl b =>
    have a : isTy (.bl b) "int" = some true := rfl
    have c : isTy (.bl b) "bool" = some true := rfl
    simp [e, a, c, partD]
  | no h =>
    have := no_part h
    simp [e, h, this]
/-- a place that holds no triple -/
theorem ld_none (k i : Nat) (xs : List D) (x : D) (b : Option SV) (S : Sto) (hx : ItG x) (ax : atI xs (i : Int) = some x) (q : trD x = none) : exs (C (k + 2)) gl FU ldB (ldF xs (some (.val (.int i))) b) S = .ok (.ret (.bl false)) S := by
  cases hx with
  | no h => simp [ldB, ax, h]
  | tup ys h l =>
    have tr : isTy (.tup ys) "tuple" = some true := rfl
    by_cases l3 : ys.length = 3
    · obtain ⟨x, y, z, rfl⟩ : ∃ x y z, ys = [x, y, z] := by
        match ys, l3 with
        | [x, y, z], _ => exact ⟨x, y, z, rfl⟩
      have hx := h x (by simp)
      have hy := h y (by simp)
      have hz := h z (by simp)
      have e1 : ev (C (k + 2)) gl [some (.val (.tup xs)), some (.val (.int i)), some (.val (.tup [x, y, z])), none] (.lc [3] (.name 3) (.tup (.var 2)) [] (.and (.blt .isinst [.var 3, .cst (.ty "int")]) (.not (.blt .isinst [.var 3, .cst (.ty "bool")])))) S = .ok (.lst ([x, y, z].map fun y => .bl (partD y).isSome)) S := by
        refine ev_lcm [x, y, z] (fun y => y) (fun y => .bl (partD y).isSome) (by simp) (by rw [sizeLine_eq]; simp) fun y hy => ?_
        cases h y hy with
        | int j h =>
          have a : isTy (.int j) "int" = some true := rfl
          have b : isTy (.int j) "bool" = some false := rfl
          simp [turn, wipeF, a, b, partD]
        | bl c =>
          have a : isTy (.bl c) "int" = some true := rfl
          have b : isTy (.bl c) "bool" = some true := rfl
          simp [turn, wipeF, a, b, partD]
        | no h =>
          have := no_part h
          simp [turn, wipeF, h, this]
      cases q1 : partD x with
      | none => simp [q1] at e1; simp [ldB, ax, tr, e1, blsD]
      | some a =>
        cases q2 : partD y with
        | none => simp [q1, q2] at e1; simp [ldB, ax, tr, e1, blsD]
        | some b =>
          cases q3 : partD z with
          | none => simp [q1, q2, q3] at e1; simp [ldB, ax, tr, e1, blsD]
          | some m =>
            obtain ⟨rfl, l1⟩ := at_lt hx q1
            obtain ⟨rfl, l2⟩ := at_lt hy q2
            obtain ⟨rfl, l3⟩ := at_lt hz q3
            simp [q1, q2, q3] at e1
            by_cases n1 : a < 0
            · simp [ldB, ax, tr, e1, blsD, n1]
            by_cases n2 : b < 1
            · simp [ldB, ax, tr, e1, blsD, n1, n2]
            by_cases n3 : m < 1
            · simp [ldB, ax, tr, e1, blsD, n1, n2, n3]
            obtain ⟨a, rfl⟩ : ∃ n : Nat, a = n := ⟨a.toNat, by omega⟩
            obtain ⟨b, rfl⟩ : ∃ n : Nat, b = n := ⟨b.toNat, by omega⟩
            rw [Int.natAbs_natCast] at l2
            have gc := c_gcd (k + 1) a b S (Nat.lt_trans l2 (Nat.pow_lt_pow_right (by decide) (by decide)))
            have g1 : ¬ ((Nat.gcd a b : Nat) : Int) = 1 := by
              intro e
              have e' : Nat.gcd a b = 1 := by omega
              have q : tr3 (some (a : Int)) (some (b : Int)) (some m) = none := q
              unfold tr3 trB at q
              dsimp only at q
              rw [decide_eq_true (show (0 : Int) ≤ (a : Int) by omega), decide_eq_true (show (1 : Int) ≤ (b : Int) by omega), decide_eq_true (show 1 ≤ m by omega), Int.toNat_natCast, Int.toNat_natCast, decide_eq_true e'] at q
              cases q
            generalize ((Nat.gcd a b : Nat) : Int) = G at gc g1
            simp [ldB, ax, tr, e1, blsD, n1, n2, n3, gc, g1]
    · have l3' : ¬ (ys.length : Int) = 3 := by omega
      simp [ldB, ax, tr, l3']
/-- a place that holds a triple -/
theorem ld_some (k i : Nat) (xs : List D) (t : Tr) (b : Option SV) (S : Sto) (g : TrG t) (ax : atI xs (i : Int) = some t.d) (p : Option Tr) (hp : (i = 0 ∧ p = none) ∨ ∃ u, p = some u ∧ 0 < i ∧ TrG u ∧ atI xs ((i : Int) - 1) = some u.d) :
    exs (C (k + 2)) gl FU ldB (ldF xs (some (.val (.int i))) b) S = if ltP p t then .ok (.next (ldF xs (some (.val (.int i))) (some (.val t.d)))) S else .ok (.ret (.bl false)) S := by
  have tr : isTy t.d "tuple" = some true := rfl
  have e1 : ev (C (k + 2)) gl [some (.val (.tup xs)), some (.val (.int i)), some (.val t.d), none] (.lc [3] (.name 3) (.tup (.var 2)) [] (.and (.blt .isinst [.var 3, .cst (.ty "int")]) (.not (.blt .isinst [.var 3, .cst (.ty "bool")])))) S = .ok (.lst ([(t.a : Int), t.b, t.m].map fun y => .bl true)) S := by
    refine ev_lcm [(t.a : Int), t.b, t.m] D.int (fun y => .bl true) (by simp [Tr.d]) (by rw [sizeLine_eq]; simp) fun y hy => ?_
    have a : isTy (.int y) "int" = some true := rfl
    have b : isTy (.int y) "bool" = some false := rfl
    simp [turn, wipeF, a, b]
  have gc := c_gcd (k + 1) t.a t.b S (Nat.lt_trans g.b1 (Nat.pow_lt_pow_right (by decide) (by decide)))
  rw [g.cp] at gc
  have n1 : ¬ (t.a : Int) < 0 := by omega
  have n2 : ¬ (t.b : Int) < 1 := by have := g.b0; omega
  have n3 : ¬ (t.m : Int) < 1 := by have := g.m0; omega
  simp [Tr.d] at e1 tr
  rcases hp with ⟨hi0, rfl⟩ | ⟨u, rfl, hi, gu, au⟩
  · simp [Tr.d] at ax
    have hi' : ¬ (0 : Int) < (i : Int) := by omega
    have hi'' : ¬ 0 < i := by omega
    simp [ldB, ax, Tr.d, tr, e1, blsD, n1, n2, n3, gc, hi', hi'', ltP]
  · have hi' : (0 : Int) < (i : Int) := by omega
    have m1 := mulG gu.a1 g.b1
    have m2 := mulG g.a1 gu.b1
    have lt : ((t.a : Int) * (u.b : Int) ≤ (u.a : Int) * (t.b : Int)) ↔ ¬ u.a * t.b < t.a * u.b := by
      rw [Nat.not_lt]
      constructor <;> intro h <;> exact_mod_cast h
    simp [Tr.d] at ax au
    by_cases q : u.a * t.b < t.a * u.b
    · have q' : ¬ (t.a : Int) * (u.b : Int) ≤ (u.a : Int) * (t.b : Int) := fun h => lt.mp h q
      simp [ldB, ax, au, Tr.d, tr, e1, blsD, n1, n2, n3, gc, hi, hi', m1, m2, q, q', ltP]
    · have q' : (t.a : Int) * (u.b : Int) ≤ (u.a : Int) * (t.b : Int) := lt.mpr q
      simp [ldB, ax, au, Tr.d, tr, e1, blsD, n1, n2, n3, gc, hi, hi', m1, m2, q, q', ltP]
theorem ld_loop (k : Nat) (xs : List D) (S : Sto) (h : ∀ x ∈ xs, ItG x) : ∀ (m i : Nat) (a b : Option SV) (p : Option Tr), i + m = xs.length → ((i = 0 ∧ p = none) ∨ ∃ u, p = some u ∧ 0 < i ∧ TrG u ∧ atI xs ((i : Int) - 1) = some u.d) →
    ∃ a' b', forO (asg (C (k + 2)) gl (.name 1)) (exs (C (k + 2)) gl FU ldB) ((List.range' i m).map fun i => .int ((i : Nat) : Int)) (ldF xs a b) S = if datL p (xs.drop i) then .ok (.next (ldF xs a' b')) S else .ok (.ret (.bl false)) S
  | 0, i, a, b, p, e, _ => ⟨a, b, by
    have : xs.drop i = [] := List.drop_eq_nil_of_le (by omega)
    rw [this]; rfl⟩
  | m + 1, i, a, b, p, e, hp => by
    have hi : i < xs.length := by omega
    have iv := h xs[i] (List.getElem_mem hi)
    have a1 : atI xs (i : Int) = some xs[i] := at_n (List.getElem?_eq_getElem hi)
    rw [List.drop_eq_getElem_cons hi, List.range'_succ, List.map_cons]
    cases q : trD xs[i] with
    | none =>
      refine ⟨a, b, ?_⟩
      have e1 := ld_none k i xs xs[i] b S iv a1 q
      rw [forO, asg_name, b_ok]
      have dl : datL p (xs[i] :: xs.drop (i + 1)) = false := by unfold datL; rw [q]
      rw [dl]
      simp [e1]
    | some t =>
      obtain ⟨e0, g⟩ := trD_some iv q
      rw [e0] at a1
      have e1 := ld_some k i xs t b S g a1 p hp
      have a1' : atI xs (((i + 1 : Nat) : Int) - 1) = some t.d := by
        rw [show ((i + 1 : Nat) : Int) - 1 = (i : Int) by omega]; exact a1
      obtain ⟨a', b', ih⟩ := ld_loop k xs S h m (i + 1) (some (.val (.int i))) (some (.val t.d)) (some t) (by omega) (.inr ⟨t, rfl, by omega, g, a1'⟩)
      refine ⟨a', b', ?_⟩
      rw [forO, asg_name, b_ok]
      have dl : datL p (xs[i] :: xs.drop (i + 1)) = (ltP p t && datL (some t) (xs.drop (i + 1))) := by
        conv => lhs; unfold datL
        rw [q]
      rw [dl]
      generalize ltP p t = B at e1 ⊢
      cases B with
      | false =>
        rw [if_neg Bool.false_ne_true] at e1
        simp [e1]
      | true =>
        rw [if_pos rfl] at e1
        simp only [Bool.true_and, ← ih]
        simp [e1]
theorem c_law_is_data (k : Nat) (d : D) (S : Sto) (h : VD d) : C (k + 3) 104 [d] S = .ok (.bl (datV d)) S := by
  rw [C_eq lk__law_is_data rfl _ _ S rfl, ld_body]
  cases h with
  | no h =>
    rw [(no_dat h).1]
    simp [h]
  | tup xs h l =>
    have tr : isTy (.tup xs) "tuple" = some true := rfl
    obtain ⟨a', b', key⟩ := ld_loop k xs S h xs.length 0 none none none (by omega) (.inl ⟨rfl, rfl⟩)
    have rr := rng_nat (r := xs.length) (by omega)
    rw [List.drop_zero, ← List.range_eq_range', datL_eq] at key
    show _ = Out.ok (D.bl (datB xs)) S
    have nm3 : m__law_is_data.names.length - m__law_is_data.ps = 3 := rfl
    cases q : datB xs with
    | true =>
      rw [q] at key
      simp at key
      simp [tr, rr, nm3, key]
    | false =>
      rw [q] at key
      simp at key
      simp [tr, rr, nm3, key]
end Mn
/-! runs of figures in texts; numbers read -/
namespace Mn
open PySem L2
def dg (c : Nat) : Bool := decide (48 ≤ c) && decide (c ≤ 57)
theorem dg_iff {c : Nat} : dg c = true ↔ 48 ≤ c ∧ c ≤ 57 := by simp [dg]
/-- the figures at the beginning; the longest row of figures -/
def pr : List Nat → Nat
  | [] => 0
  | c :: l => if dg c then pr l + 1 else 0
def mx : List Nat → Nat
  | [] => 0
  | c :: l => max (pr (c :: l)) (mx l)
theorem pr_mx : ∀ l, pr l ≤ mx l
  | [] => Nat.le_refl _
  | c :: l => Nat.le_max_left _ _
theorem pr_len : ∀ l, pr l ≤ l.length
  | [] => Nat.le_refl _
  | c :: l => by
    have := pr_len l
    simp only [pr, List.length_cons]
    split <;> omega
theorem mx_len : ∀ l, mx l ≤ l.length
  | [] => Nat.le_refl _
  | c :: l => by
    have h1 := mx_len l
    have h2 := pr_len (c :: l)
    simp only [mx, List.length_cons] at h2 ⊢
    omega
theorem pr_app : ∀ x y, pr (x ++ y) ≤ pr x + pr y
  | [], y => by simp [pr]
  | c :: x, y => by
    have := pr_app x y
    simp only [List.cons_append, pr]
    split <;> omega
theorem pr_app_l : ∀ x y, pr x ≤ pr (x ++ y)
  | [], y => by simp [pr]
  | c :: x, y => by
    have := pr_app_l x y
    simp only [List.cons_append, pr]
    split <;> omega
theorem mx_app : ∀ x y, mx (x ++ y) ≤ mx x + mx y
  | [], y => by simp [mx]
  | c :: x, y => by
    have h1 := mx_app x y
    have h2 := pr_app (c :: x) y
    have h3 := pr_mx y
    simp only [List.cons_append, mx] at h2 ⊢
    omega
theorem mx_app_l : ∀ x y, mx x ≤ mx (x ++ y)
  | [], y => by simp [mx]
  | c :: x, y => by
    have h1 := mx_app_l x y
    have h2 := pr_app_l (c :: x) y
    simp only [List.cons_append, mx] at h2 ⊢
    omega
theorem mx_app_r : ∀ x y, mx y ≤ mx (x ++ y)
  | [], y => Nat.le_refl _
  | c :: x, y => by
    have h1 := mx_app_r x y
    simp only [List.cons_append, mx]
    omega
theorem pr_sep {s : Nat} (h : dg s = false) : ∀ x y, pr (x ++ s :: y) = pr x
  | [], y => by simp [pr, h]
  | c :: x, y => by
    have := pr_sep h x y
    simp only [List.cons_append, pr, this]
theorem mx_sep {s : Nat} (h : dg s = false) : ∀ x y, mx (x ++ s :: y) = max (mx x) (mx y)
  | [], y => by simp [mx, pr, h]
  | c :: x, y => by
    have h1 := mx_sep h x y
    have h2 := pr_sep h (c :: x) y
    simp only [List.cons_append, mx] at h2 ⊢
    rw [h1, h2]
    omega
theorem mx_take (l : List Nat) (n : Nat) : mx (l.take n) ≤ mx l := by
  have := mx_app_l (l.take n) (l.drop n)
  rwa [List.take_append_drop] at this
theorem mx_drop (l : List Nat) (n : Nat) : mx (l.drop n) ≤ mx l := by
  have := mx_app_r (l.take n) (l.drop n)
  rwa [List.take_append_drop] at this
theorem mx_all : ∀ {l : List Nat}, l.all dg = true → l.length ≤ mx l
  | [], _ => Nat.le_refl _
  | c :: l, h => by
    have go : ∀ {l : List Nat}, l.all dg = true → pr l = l.length := by
      intro l
      induction l with
      | nil => intro _; rfl
      | cons c l ih =>
        intro h
        rw [List.all_cons, Bool.and_eq_true] at h
        simp only [pr, h.1, if_true, List.length_cons, ih h.2]
    have h1 := go h
    have h2 := pr_mx (c :: l)
    omega
/-! ### numbers -/
open PySem.NumText in
theorem val_snoc (l : List Nat) (c : Nat) : digitsVal (l ++ [c]) = digitsVal l * 10 + (c - 48) := by
  unfold digitsVal
  rw [List.foldl_append]; rfl
open PySem.NumText in
theorem val_pos : ∀ (r : List Nat) (n : Nat), 0 < n → 0 < r.foldl (fun acc c => acc * 10 + (c - 48)) n
  | [], n, h => h
  | c :: r, n, h => val_pos r (n * 10 + (c - 48)) (by omega)
theorem numL_headT : ∀ (k n : Nat), n < 10 ^ (k + 1) → 0 < n → ∃ c r, TL.numL n = c :: r ∧ 49 ≤ c ∧ c ≤ 57
  | 0, n, h, h0 => by
    have h : n < 10 := by simpa using h
    exact ⟨48 + n, [], TL.numL_lt h, by omega, by omega⟩
  | k + 1, n, h, h0 => by
    by_cases s : n < 10
    · exact ⟨48 + n, [], TL.numL_lt s, by omega, by omega⟩
    · have lt : n / 10 < 10 ^ (k + 1) := Nat.div_lt_of_lt_mul (by rw [Nat.mul_comm, ← Nat.pow_succ]; exact h)
      obtain ⟨c, r, e, h1, h2⟩ := numL_headT k (n / 10) lt (by omega)
      exact ⟨c, r ++ [48 + n % 10], by rw [TL.numL_step (by omega), e]; rfl, h1, h2⟩
theorem lt_ten_pow (n : Nat) : n < 10 ^ (n + 1) := Nat.lt_trans (Nat.lt_succ_self n) (Nat.lt_pow_self (by decide))
open PySem.NumText in
/-- a number without a needless 0 ahead is written back as it was read -/
theorem num_back : ∀ (k : Nat) (l : List Nat), l.length = k + 1 → l.all dg = true → (l = [48] ∨ l.head? ≠ some 48) → TL.numL (digitsVal l) = l
  | 0, l, hl, hd, hc => by
    match l, hl with
    | [c], _ =>
      have := dg_iff.mp (List.all_eq_true.mp hd c (by simp))
      show TL.numL (0 * 10 + (c - 48)) = [c]
      rw [TL.numL_lt (by omega)]
      congr 1
      omega
  | k + 1, l, hl, hd, hc => by
    rcases hc with rfl | hc
    · simp at hl
    · have ne : l ≠ [] := fun e => by rw [e] at hl; simp at hl
      obtain ⟨r, c, rfl⟩ : ∃ r c, l = r ++ [c] := ⟨l.dropLast, l.getLast ne, (List.dropLast_concat_getLast ne).symm⟩
      have rl : r.length = k + 1 := by simpa using hl
      rw [List.all_append, Bool.and_eq_true] at hd
      have hcd := dg_iff.mp (List.all_eq_true.mp hd.2 c (by simp))
      have rne : r ≠ [] := fun e => by rw [e] at rl; simp at rl
      have hh : r.head? ≠ some 48 := by
        cases r with
        | nil => exact absurd rfl rne
        | cons a r => simpa using hc
      have ih := num_back k r rl hd.1 (.inr hh)
      have pos : 0 < digitsVal r := by
        cases r with
        | nil => exact absurd rfl rne
        | cons a r =>
          have ha := dg_iff.mp (List.all_eq_true.mp hd.1 a (by simp))
          have : a ≠ 48 := fun e => by rw [e] at hh; simp at hh
          show 0 < r.foldl _ (0 * 10 + (a - 48))
          exact val_pos r _ (by omega)
      rw [val_snoc, TL.numL_step (by omega)]
      rw [show (digitsVal r * 10 + (c - 48)) / 10 = digitsVal r by omega, show (digitsVal r * 10 + (c - 48)) % 10 = c - 48 by omega, ih]
      congr 2
      omega
theorem num_only {l : List Nat} {n : Nat} (h : TL.numL n = l) : l = [48] ∨ l.head? ≠ some 48 := by
  by_cases z : n = 0
  · subst z
    left
    rw [← h]; exact TL.numL_lt (by omega)
  · obtain ⟨c, r, e, h1, _⟩ := numL_headT n n (lt_ten_pow n) (by omega)
    right
    rw [← h, e]
    simp
    omega
/-- the number that a word writes -/
def canon (l : List Nat) : Bool := l.all dg && (!l.isEmpty && (decide (l = [48]) || decide (l.head? ≠ some 48)))
def num (w : Str) : Option Nat := if canon (TL.tl w) = true then some (NumText.digitsVal (TL.tl w)) else none
theorem canon_iff {l : List Nat} : canon l = true ↔ l.all dg = true ∧ l ≠ [] ∧ (l = [48] ∨ l.head? ≠ some 48) := by
  simp [canon, and_assoc]
theorem canon_back {l : List Nat} (h : canon l = true) : TL.numL (NumText.digitsVal l) = l := by
  obtain ⟨h1, h2, h3⟩ := canon_iff.mp h
  cases l with
  | nil => exact absurd rfl h2
  | cons a l => exact num_back l.length _ rfl h1 h3
end Mn
/-! lines: texts of few figures in a row -/
namespace Mn
open PySem L2
def asc (z : Str) : Prop := (TL.tl z).all (· < 128) = true
theorem asc_app {x y : Str} (h : asc x) (h' : asc y) : asc (x ++ y) := by
  unfold asc at *
  rw [TL.tl_append, List.all_append, h, h']; rfl
theorem asc_ok {z : Str} (h : asc z) : PyData.strOk z = true := by
  unfold PyData.strOk
  rw [← Array.all_toList]
  unfold asc at h
  rw [List.all_eq_true] at h ⊢
  intro c hc
  have := of_decide_eq_true (h c hc)
  exact decide_eq_true (by omega)
/-- the words of a text -/
def wds (z : Str) : List Str := Txt.split z " "
theorem sp_wds (z : Str) : sp (wds z) = z := by
  unfold sp wds
  rw [TL.join_eq]
  exact PySem.StrLaws.join_split z " "
theorem wds_ne (z : Str) : wds z ≠ [] := by
  intro e
  have h1 : (Txt.split z " ").map TL.tl = TL.spl (TL.tl (Str.ofString " ")) 0 [] (TL.tl z) := TL.split_spl z " " (by decide +kernel) (TL.kind_ok (by decide +kernel))
  have e' : Txt.split z " " = [] := e
  rw [e'] at h1
  have go : ∀ (S l acc : List Nat) (k : Nat), TL.spl S k acc l ≠ [] := by
    intro S l
    induction l with
    | nil => intro acc k; rw [TL.spl_nil]; simp
    | cons c r ih =>
      intro acc k
      cases k with
      | zero =>
        cases hp : TL.pre S (c :: r) with
        | true => rw [TL.spl_hit hp]; simp
        | false => rw [TL.spl_miss hp]; exact ih _ _
      | succ k => rw [TL.spl_pass]; cases q : (c :: r).drop (k + 1) with
        | nil => rw [TL.spl_nil]; simp
        | cons a b =>
          have : TL.spl S 0 acc ((c :: r).drop (k + 1)) = TL.spl S k acc r := by rw [List.drop_succ_cons, ← TL.spl_pass]
          rw [← q, this]
          exact ih _ _
  exact go _ _ _ _ h1.symm
def sumL (ws : List Str) : Nat := (ws.map (·.length)).sum
theorem sp_len : ∀ {ws : List Str}, ws ≠ [] → (sp ws).length + 1 = sumL ws + ws.length
  | [], h => absurd rfl h
  | [a], _ => by rw [sp_one]; simp [sumL]
  | a :: b :: ws, _ => by
    have ih := sp_len (ws := b :: ws) (by simp)
    rw [sp_cons, len_app, len_app]
    have l1 : (Str.ofString " ").length = 1 := by decide +kernel
    simp only [sumL, List.map_cons, List.sum_cons, List.length_cons] at ih ⊢
    omega
theorem sp_len_le (ws : List Str) : (sp ws).length ≤ sumL ws + ws.length := by
  cases ws with
  | nil => unfold sp; rw [TL.join_eq]; exact Nat.zero_le _
  | cons a ws => have := sp_len (ws := a :: ws) (by simp); omega
theorem tl_sp : TL.tl (Str.ofString " ") = [32] := by decide +kernel
theorem mx_sp {m : Nat} : ∀ (ws : List Str), (∀ w ∈ ws, mx (TL.tl w) ≤ m) → mx (TL.tl (sp ws)) ≤ m
  | [], _ => by unfold sp; rw [TL.join_eq]; exact Nat.zero_le _
  | [a], h => by rw [sp_one]; exact h a List.mem_cons_self
  | a :: b :: ws, h => by
    have ih := mx_sp (b :: ws) fun w hw => h w (List.mem_cons_of_mem _ hw)
    have h1 := h a List.mem_cons_self
    rw [sp_cons, TL.tl_append, TL.tl_append, tl_sp, List.append_assoc]
    show mx (TL.tl a ++ 32 :: TL.tl (sp (b :: ws))) ≤ m
    rw [mx_sep (by decide)]
    omega
theorem asc_sp : ∀ (ws : List Str), (∀ w ∈ ws, asc w) → asc (sp ws)
  | [], _ => by unfold sp; rw [TL.join_eq]; rfl
  | [a], h => by rw [sp_one]; exact h a List.mem_cons_self
  | a :: b :: ws, h => by
    rw [sp_cons]
    exact asc_app (asc_app (h a List.mem_cons_self) (by unfold asc; decide +kernel)) (asc_sp (b :: ws) fun w hw => h w (List.mem_cons_of_mem _ hw))
theorem in_sp : ∀ {ws : List Str} {w : Str}, w ∈ ws → ∃ a c, TL.tl (sp ws) = a ++ TL.tl w ++ c
  | [b], w, h => by
    simp at h; subst h
    exact ⟨[], [], by rw [sp_one]; simp⟩
  | b :: d :: ws, w, h => by
    rw [sp_cons, TL.tl_append, TL.tl_append]
    rcases List.mem_cons.mp h with rfl | h
    · exact ⟨[], TL.tl (Str.ofString " ") ++ TL.tl (sp (d :: ws)), by simp⟩
    · obtain ⟨a, c, e⟩ := in_sp (ws := d :: ws) h
      exact ⟨TL.tl b ++ TL.tl (Str.ofString " ") ++ a, c, by rw [e]; simp only [List.append_assoc]⟩
theorem wd_mx {z w : Str} (h : w ∈ wds z) : mx (TL.tl w) ≤ mx (TL.tl z) := by
  obtain ⟨a, c, e⟩ := in_sp h
  rw [sp_wds] at e
  rw [e]
  exact Nat.le_trans (mx_app_r a _) (mx_app_l _ c)
theorem wd_asc {z w : Str} (hz : asc z) (h : w ∈ wds z) : asc w := by
  obtain ⟨a, c, e⟩ := in_sp h
  rw [sp_wds] at e
  unfold asc at hz ⊢
  rw [e, List.all_append, List.all_append, Bool.and_eq_true, Bool.and_eq_true] at hz
  exact hz.1.2
theorem wd_len {z w : Str} (h : w ∈ wds z) : w.length ≤ z.length := by
  obtain ⟨a, c, e⟩ := in_sp h
  rw [sp_wds] at e
  rw [TL.len_tl, TL.len_tl, e]
  simp only [List.length_append]
  omega
theorem sumL_app (a b : List Str) : sumL (a ++ b) = sumL a + sumL b := by simp [sumL]
/-- a line -/
structure Lin (m L : Nat) (z : Str) : Prop where
  asc : asc z
  run : mx (TL.tl z) ≤ m
  len : z.length ≤ L
theorem Lin.mono {m n L K : Nat} {z : Str} (h : Lin m L z) (a : m ≤ n) (b : L ≤ K) : Lin n K z := ⟨h.asc, Nat.le_trans h.run a, Nat.le_trans h.len b⟩
theorem Lin.all {L : Nat} {z : Str} (h : Mn.asc z) (l : z.length ≤ L) : Lin L L z := ⟨h, Nat.le_trans (mx_len _) (by rw [← TL.len_tl]; exact l), l⟩
end Mn
/-! what is shown of data with plain texts is plain -/
namespace Mn
open PySem L2
open Builtin.Str in
theorem rc_asc : ∀ c, c < 128 → (reprChar 39 c).all (· < 128) = true ∧ (reprChar 34 c).all (· < 128) = true := by decide +kernel
open Builtin.Str in
theorem rq_two (x : Str) : reprQuote x = 39 ∨ reprQuote x = 34 := by
  unfold reprQuote
  split
  · exact .inr rfl
  · exact .inl rfl
open Builtin.Str in
theorem rep_asc {x : Str} (h : asc x) : asc (reprText x) := by
  have go : ∀ (q : Nat), (q = 39 ∨ q = 34) → ∀ (l : List Nat) (acc : Array Nat), l.all (· < 128) = true → acc.toList.all (· < 128) = true → (l.foldl (fun out c => out ++ (reprChar q c).toArray) acc).toList.all (· < 128) = true := by
    intro q hq l
    induction l with
    | nil => intro acc _ ha; exact ha
    | cons c l ih =>
      intro acc hl ha
      rw [List.all_cons, Bool.and_eq_true] at hl
      refine ih _ hl.2 ?_
      rw [Array.toList_append, List.all_append, ha]
      have := rc_asc c (of_decide_eq_true hl.1)
      rcases hq with rfl | rfl
      · exact this.1
      · exact this.2
  have q := rq_two x
  unfold asc at h ⊢
  show (reprText x).cps.toList.all _ = true
  unfold reprText
  rw [Array.toList_push, List.all_append]
  have a : ((x.cps.foldl (fun out c => out ++ (reprChar (reprQuote x) c).toArray) #[reprQuote x]).toList).all (fun c => decide (c < 128)) = true := by
    rw [← Array.foldl_toList]
    refine go _ q _ _ h ?_
    rcases q with q | q <;> rw [q] <;> rfl
  rw [a]
  rcases q with q | q <;> rw [q] <;> rfl
theorem asc_int (i : Int) : asc (Str.ofString (toString i)) := by
  cases i with
  | ofNat n =>
    unfold asc
    rw [List.all_eq_true]
    intro c hc
    have := nS_dig n c hc
    exact decide_eq_true (by omega)
  | negSucc n =>
    unfold asc
    rw [TL.tl_ofString]
    have e : toString (Int.negSucc n) = "-" ++ toString (n + 1) := rfl
    rw [e, String.toList_append, List.map_append, List.all_append]
    have d : (((toString (n + 1) : String)).toList.map Char.toNat).all (fun c => decide (c < 128)) = true := by
      have q : TL.tl (Str.ofString (toString ((n + 1 : Nat) : Int))) = ((toString (n + 1) : String)).toList.map Char.toNat := TL.tl_ofString _
      rw [← q, List.all_eq_true]
      intro c hc
      have := nS_dig (n + 1) c hc
      exact decide_eq_true (by omega)
    rw [d]
    decide
theorem asc_join : ∀ (ts : List Str), (∀ t ∈ ts, asc t) → asc (Str.join ", " ts)
  | [], _ => by unfold asc; rfl
  | [a], h => h a List.mem_cons_self
  | a :: b :: ts, h => by
    show asc (a ++ ", " ++ Str.join ", " (b :: ts))
    exact asc_app (asc_app (h a List.mem_cons_self) (by unfold asc; decide +kernel)) (asc_join (b :: ts) fun t ht => h t (List.mem_cons_of_mem _ ht))
mutual
def ascP : PyData → Bool
  | .none => true
  | .bool _ => true
  | .int _ => true
  | .str x => (TL.tl x).all (· < 128)
  | .list xs => ascAll xs
  | .tuple xs => ascAll xs
  | .dict _ => false
def ascAll : List PyData → Bool
  | [] => true
  | x :: xs => ascP x && ascAll xs
end
mutual
theorem shown_asc : ∀ (p : PyData), ascP p = true → asc p.shown
  | .none, _ => by unfold asc; decide +kernel
  | .bool b, _ => by unfold asc; cases b <;> decide +kernel
  | .int i, _ => asc_int i
  | .str x, h => rep_asc h
  | .list xs, h => by
    rw [PyData.shown_list]
    exact asc_app (asc_app (by unfold asc; decide +kernel) (asc_join _ (shown_ascAll xs h))) (by unfold asc; decide +kernel)
  | .tuple xs, h => by
    rw [PyData.shown_tuple]
    refine asc_app (asc_app (by unfold asc; decide +kernel) (asc_join _ (shown_ascAll xs h))) ?_
    split <;> (unfold asc; decide +kernel)
  | .dict _, h => by cases h
theorem shown_ascAll : ∀ (xs : List PyData), ascAll xs = true → ∀ t ∈ PyData.shownAll xs, asc t
  | [], _ => fun t h => by simp [PyData.shownAll] at h
  | x :: xs, h => fun t ht => by
    rw [ascAll, Bool.and_eq_true] at h
    simp only [PyData.shownAll, List.mem_cons] at ht
    rcases ht with rfl | ht
    · exact shown_asc x h.1
    · exact shown_ascAll xs h.2 t ht
end
/-- data of plain texts -/
def ascD (d : D) : Prop := ∃ p, d.py = some p ∧ ascP p = true
theorem show_asc {d : D} {y : Str} (h : ascD d) (e : showD d = some y) : asc y := by
  obtain ⟨p, e1, e2⟩ := h
  unfold showD at e
  rw [e1] at e
  dsimp only at e
  split at e
  · cases e
    exact shown_asc p e2
  · cases e
theorem pair_eq (a b : Str) (ha : asc a) (hb : asc b) : eqA (.lst [.str a, .str b]) (.lst [.str a, .str b]) = some true :=
  Rd.eqA (n := 1) (w := 2 * (max a.length b.length + 1)) (.lst (w' := max a.length b.length) (fun x hx => by
    simp only [List.mem_cons, List.not_mem_nil, or_false] at hx
    rcases hx with rfl | rfl
    · exact .str (asc_ok ha) (Nat.le_max_left _ _)
    · exact .str (asc_ok hb) (Nat.le_max_right _ _)) (by simp)) (by omega)
end Mn
namespace Mn
open PySem L2
theorem good_tr {d : D} (h : VD d) (g : goodV d = true) : ∃ ts : List Tr, d = .tup (ts.map Tr.d) ∧ (∀ t ∈ ts, TrG t) ∧ ts.length ≤ 1000 := by
  cases h with
  | no h => rw [(no_dat h).2] at g; cases g
  | tup xs h l =>
    have g : (datB xs && decide (xs.length ≤ 1000)) = true := g
    rw [Bool.and_eq_true, decide_eq_true_eq] at g
    have q := g.1
    unfold datB at q
    cases e : trs xs with
    | none => rw [e] at q; cases q
    | some ts =>
      obtain ⟨e0, gs⟩ := trs_some h e
      exact ⟨ts, by rw [e0], gs, by have := g.2; rw [e0, List.length_map] at this; exact this⟩
/-! ### stretches of any kind -/
def wB (n : Int) (d : D) : Bool := match partD d with
  | some i => decide (n ≤ i)
  | none => false
theorem c_is_countG (k : Nat) (d : D) (S : Sto) (h : AtG d) : C (k + 2) 13 [d] S = .ok (.bl (wB 0 d)) S := by
  have e := c_isintG k d S h
  rw [C_eq lk_is_count rfl _ _ S rfl]
  unfold wB
  cases q : partD d with
  | none =>
    rw [q] at e
    simp at e
    simp [m_is_count, e]
  | some i =>
    obtain ⟨rfl, _⟩ := at_lt h q
    rw [q] at e
    simp at e
    simp [m_is_count, e]
theorem c_wholeG (k : Nat) (d : D) (n : Int) (S : Sto) (h : AtG d) : C (k + 1) 105 [d, .int n] S = .ok (.bl (wB n d)) S := by
  rw [C_eq lk__law_is_whole rfl _ _ S rfl]
  unfold wB
  cases h with
  | int i h =>
    have a : isTy (.int i) "int" = some true := rfl
    have b : isTy (.int i) "bool" = some false := rfl
    simp [m__law_is_whole, a, b, partD]
  | bl b =>
    have a : isTy (.bl b) "int" = some true := rfl
    have c : isTy (.bl b) "bool" = some true := rfl
    simp [m__law_is_whole, a, c, partD]
  | no h =>
    have := no_part h
    simp [m__law_is_whole, h, this]
/-- what an upper border may be -/
inductive HG : D → Prop
  | str (s : Str) : HG (.str s)
  | at_ {d : D} (h : isTy d "str" = some false) (g : AtG d) : HG d
def hiB (i : Int) : D → Bool
  | .str s => decide (s = Str.ofString "open")
  | d => wB (i + 1) d
theorem hi_no {i : Int} {d : D} (h : isTy d "str" = some false) : hiB i d = wB (i + 1) d := by
  cases d <;> first | rfl | exact Bool.noConfusion (Option.some.inj (show some true = some false from h))
theorem c_is_highG (k : Nat) (d : D) (i : Int) (S : Sto) (h : HG d) : C (k + 2) 14 [d, .int i] S = .ok (.bl (hiB i d)) S := by
  rw [C_eq lk_is_high rfl _ _ S rfl]
  cases h with
  | str s =>
    have a : isTy (.str s) "str" = some true := rfl
    simp [m_is_high, a, gk_OPEN, hiB]
  | at_ h g =>
    rw [hi_no h]
    have e := c_isintG k d S g
    unfold wB
    cases q : partD d with
    | none =>
      rw [q] at e
      simp at e
      simp [m_is_high, h, e]
    | some j =>
      obtain ⟨rfl, _⟩ := at_lt g q
      rw [q] at e
      simp at e
      simp [m_is_high, h, e]
      omega
theorem c_law_highG (k : Nat) (d : D) (i : Int) (S : Sto) (h : HG d) : C (k + 2) 106 [d, .int i] S = .ok (.bl (hiB i d)) S := by
  rw [C_eq lk__law_is_high rfl _ _ S rfl]
  cases h with
  | str s =>
    have a : isTy (.str s) "str" = some true := rfl
    simp [m__law_is_high, a, hiB]
  | at_ h g =>
    rw [hi_no h]
    have e := c_wholeG k d (i + 1) S g
    simp [m__law_is_high, h, e]
/-- a good stretch -/
theorem hi_good {i : Int} {d : D} (h : HG d) (g : hiB i d = true) : IsHigh i d ∧ ∀ j, d = .int j → j.natAbs < 2 ^ 130 := by
  cases h with
  | str s =>
    have : s = Str.ofString "open" := of_decide_eq_true g
    subst this
    exact ⟨.inl rfl, fun j h => by cases h⟩
  | at_ h a =>
    rw [hi_no h] at g
    unfold wB at g
    cases q : partD d with
    | none => rw [q] at g; cases g
    | some j =>
      rw [q] at g
      have g := of_decide_eq_true g
      obtain ⟨rfl, l⟩ := at_lt a q
      exact ⟨.inr ⟨j, rfl, by omega⟩, fun j' h => by cases h; exact l⟩
theorem lo_good {d : D} (h : AtG d) (g : wB 0 d = true) : ∃ i : Int, d = .int i ∧ 0 ≤ i ∧ i.natAbs < 2 ^ 130 := by
  unfold wB at g
  cases q : partD d with
  | none => rw [q] at g; cases g
  | some i =>
    rw [q] at g
    obtain ⟨rfl, l⟩ := at_lt h q
    exact ⟨i, rfl, of_decide_eq_true g, l⟩
theorem c_stretchG (k : Nat) (lo hi : D) (S : Sto) (hl : AtG lo) (hh : HG hi) : C (k + 3) 9 [lo, hi] S = (match partD lo with
    | some i => if 0 ≤ i then (if hiB i hi then .ok .non S else .exc (.ins 103 [hi]) S) else .exc (.ins 103 [lo]) S
    | none => .exc (.ins 103 [lo]) S) := by
  have e1 := c_is_countG k lo S hl
  unfold wB at e1
  rw [C_eq lk_check_stretch rfl _ _ S rfl]
  cases q : partD lo with
  | none =>
    rw [q] at e1
    simp at e1
    simp [m_check_stretch, e1]
  | some i =>
    obtain ⟨rfl, _⟩ := at_lt hl q
    rw [q] at e1
    simp at e1
    have e2 := c_is_highG k hi i S hh
    dsimp only
    by_cases i0 : 0 ≤ i
    · rw [if_pos i0]
      simp [i0] at e1
      cases q2 : hiB i hi with
      | true => rw [q2] at e2; simp [m_check_stretch, e1, e2]
      | false => rw [q2] at e2; simp [m_check_stretch, e1, e2]
    · rw [if_neg i0]
      simp [i0] at e1
      simp [m_check_stretch, e1]
/-! ### counts -/
theorem mulZ {a b : Int} (h1 : a.natAbs < 2 ^ 130) (h2 : b.natAbs < 2 ^ 130) : mulOk a b = true := by
  have p : (2 : Nat) ^ 130 < 2 ^ 400000 := Nat.pow_lt_pow_right (by decide) (by decide)
  exact mul_b (Nat.lt_trans h1 p) (Nat.lt_trans h2 p)
theorem c_lies_inG (k : Nat) (t : Tr) (low : Int) (hi : D) (S : Sto) (h : TrG t) (hl : low.natAbs < 2 ^ 130) (hh : IsHigh low hi) (hj : ∀ j, hi = .int j → j.natAbs < 2 ^ 130) : C (k + 1) 10 [t.d, .int low, hi] S = .ok (.bl (liesB low hi t)) S := by
  have mo : ∀ i : Int, i.natAbs < 2 ^ 130 → mulOk i (t.b : Int) = true := fun i hi => mulZ hi (by rw [Int.natAbs_natCast]; exact h.b1)
  have m1 := mo low hl
  rw [C_eq lk_lies_in rfl _ _ S rfl]
  rcases hh with rfl | ⟨j, rfl, hj'⟩
  · by_cases h1 : (t.a : Int) < low * (t.b : Int)
    · simp [m_lies_in, Tr.d, gk_OPEN, m1, liesB, h1]
    · simp [m_lies_in, Tr.d, gk_OPEN, m1, liesB, h1]
      omega
  · have m2 := mo j (hj j rfl)
    by_cases h1 : (t.a : Int) < low * (t.b : Int)
    · have h2 : ¬ low * (t.b : Int) ≤ (t.a : Int) := by omega
      simp [m_lies_in, Tr.d, gk_OPEN, m1, m2, liesB, h1, h2]
    · have h2 : low * (t.b : Int) ≤ (t.a : Int) := by omega
      simp [m_lies_in, Tr.d, gk_OPEN, m1, m2, liesB, h1, h2]
theorem c_count_inG (k : Nat) (ts : List Tr) (low : Int) (hi : D) (S : Sto) (h : ∀ t ∈ ts, TrG t) (l : ts.length ≤ 1000) (hl : low.natAbs < 2 ^ 130) (hh : IsHigh low hi) (hj : ∀ j, hi = .int j → j.natAbs < 2 ^ 130) : C (k + 2) 19 [.tup (ts.map Tr.d), .int low, hi] S = .ok (.int (cntF (ts.filter (liesB low hi)))) S := by
  have hz : ts.length ≤ sizeLine := Nat.le_trans l (by decide)
  have e1 : ev (C (k + 1)) (gl) [some (.val (.tup (ts.map Tr.d))), some (.val (.int low)), some (.val hi), none] (.lc [3] (.name 3) (.tup (.var 0)) [.tru (.call 10 [.var 3, .var 1, .var 2])] (.sub (.var 3) (.cst (.int 2)))) S = .ok (.lst ((ts.filter (liesB low hi)).map fun t => .int t.m)) S := by
    refine ev_lcf ts Tr.d (liesB low hi) (fun t => .int t.m) (by simp) hz fun t ht => ?_
    have l := c_lies_inG k t low hi S (h t ht) hl hh hj
    cases e : liesB low hi t with
    | true =>
      simp [Tr.d, e] at l
      simp [turn, wipeF, l, Tr.d]
    | false => simp [turn, wipeF, l, e]
  rw [C_eq lk_count_in rfl _ _ S rfl]
  simp only [m_count_in]
  simp at e1 ⊢
  simp [e1, ints_all, cntF]
theorem cnt_lt : ∀ (ts : List Tr) (n : Nat), (∀ t ∈ ts, TrG t) → ts.length ≤ n → ∃ c : Nat, cntF ts = (c : Int) ∧ c ≤ n * 2 ^ 130
  | [], n, _, _ => ⟨0, rfl, Nat.zero_le _⟩
  | t :: ts, n, h, l => by
    rw [List.length_cons] at l
    obtain ⟨c, e, b⟩ := cnt_lt ts (n - 1) (fun u hu => h u (List.mem_cons_of_mem _ hu)) (by omega)
    refine ⟨t.m + c, ?_, ?_⟩
    · show ((t :: ts).map fun t => (t.m : Int)).sum = _
      rw [List.map_cons, List.sum_cons]
      have e : (ts.map fun t => (t.m : Int)).sum = (c : Int) := e
      rw [e, Int.natCast_add]
    · have m := (h t List.mem_cons_self).m1
      have q : n = (n - 1) + 1 := by omega
      rw [q, Nat.succ_mul]
      omega
end Mn
namespace Mn
open PySem L2
/-! ### totals -/
def ttB : List MS := [.ife (.tru (.call 10 [.var 3, .var 1, .var 2])) [.asg (.tup [.name 4, .name 5]) (.call 11 [.bin .Add (.bin .Mult (.var 4) (.sub (.var 3) (.cst (.int 1)))) (.bin .Mult (.bin .Mult (.sub (.var 3) (.cst (.int 0))) (.sub (.var 3) (.cst (.int 2)))) (.var 5)), .bin .Mult (.var 5) (.sub (.var 3) (.cst (.int 1)))])] []]
theorem total_body : m_total.body = [.expr (.call 8 [.var 0]), .expr (.call 9 [.var 1, .var 2]), .asg (.tup [.name 4, .name 5]) (.tup [.cst (.int 0), .cst (.int 1)]), .forr (.name 3) (.tup (.var 0)) ttB, .ret (.tup [.var 4, .var 5])] := rfl
abbrev ttF (d lo hi : D) (o : Option SV) (p q : Nat) : Frm := [some (.val d), some (.val lo), some (.val hi), o, some (.val (.int p)), some (.val (.int q))]
theorem div_le {P Q g c : Nat} (hg : 0 < g) (h1 : g ∣ P) (h2 : g ∣ Q) (h : P ≤ c * Q) : P / g ≤ c * (Q / g) := by
  obtain ⟨x, rfl⟩ := h1
  obtain ⟨y, rfl⟩ := h2
  rw [Nat.mul_div_cancel_left _ hg, Nat.mul_div_cancel_left _ hg]
  have : g * x ≤ g * (c * y) := by
    calc g * x ≤ c * (g * y) := h
      _ = g * (c * y) := by rw [Nat.mul_left_comm]
  exact Nat.le_of_mul_le_mul_left this hg
/-- a sum of fractions, its bounds -/
structure TtI (n p q : Nat) : Prop where
  q0 : 0 < q
  q1 : q ≤ 2 ^ (130 * n)
  p1 : p ≤ n * 2 ^ 260 * q
theorem TtI.lt {n p q : Nat} (h : TtI n p q) (hn : n ≤ 9) : p < 2 ^ 1500 ∧ q < 2 ^ 1500 := by
  have a : q ≤ 2 ^ 1170 := Nat.le_trans h.q1 (Nat.pow_le_pow_right (by decide) (by omega))
  refine ⟨Nat.lt_of_le_of_lt h.p1 ?_, Nat.lt_of_le_of_lt a (Nat.pow_lt_pow_right (by decide) (by decide))⟩
  have b : n * 2 ^ 260 * q ≤ 9 * 2 ^ 260 * 2 ^ 1170 := Nat.mul_le_mul (Nat.mul_le_mul_right _ hn) a
  exact Nat.lt_of_le_of_lt b (by decide +kernel)
theorem TtI.mono {n p q : Nat} (h : TtI n p q) : TtI (n + 1) p q :=
  ⟨h.q0, Nat.le_trans h.q1 (Nat.pow_le_pow_right (by decide) (by omega)), Nat.le_trans h.p1 (Nat.mul_le_mul_right _ (Nat.mul_le_mul_right _ (by omega)))⟩
theorem TtI.step {n p q : Nat} {t : Tr} (h : TtI n p q) (g : TrG t) : TtI (n + 1) ((p * t.b + t.a * t.m * q) / Nat.gcd (p * t.b + t.a * t.m * q) (q * t.b)) (q * t.b / Nat.gcd (p * t.b + t.a * t.m * q) (q * t.b)) := by
  have b0 := g.b0
  have Q0 : 0 < q * t.b := Nat.mul_pos h.q0 b0
  have g0 := Nat.gcd_pos_of_pos_right (p * t.b + t.a * t.m * q) Q0
  have d1 := Nat.gcd_dvd_left (p * t.b + t.a * t.m * q) (q * t.b)
  have d2 := Nat.gcd_dvd_right (p * t.b + t.a * t.m * q) (q * t.b)
  have P1 : p * t.b + t.a * t.m * q ≤ (n + 1) * 2 ^ 260 * (q * t.b) := by
    have a1 : p * t.b ≤ n * 2 ^ 260 * q * t.b := Nat.mul_le_mul_right _ h.p1
    have a2 : t.a * t.m ≤ 2 ^ 130 * 2 ^ 130 := Nat.mul_le_mul (Nat.le_of_lt g.a1) (Nat.le_of_lt g.m1)
    have a3 : t.a * t.m * q ≤ 2 ^ 260 * (q * t.b) := by
      refine Nat.le_trans (Nat.mul_le_mul_right q (Nat.le_trans a2 (show 2 ^ 130 * 2 ^ 130 ≤ 2 ^ 260 by decide +kernel))) ?_
      exact Nat.mul_le_mul_left _ (Nat.le_mul_of_pos_right _ b0)
    rw [Nat.succ_mul, Nat.add_mul]
    rw [Nat.mul_assoc (n * 2 ^ 260)] at a1
    exact Nat.add_le_add a1 a3
  refine ⟨Nat.div_pos (Nat.le_of_dvd Q0 d2) g0, Nat.le_trans (Nat.div_le_self _ _) ?_, div_le g0 d1 d2 P1⟩
  have : 130 * (n + 1) = 130 * n + 130 := by omega
  rw [this, Nat.pow_add]
  exact Nat.mul_le_mul h.q1 (Nat.le_of_lt g.b1)
theorem mul15 {a b : Nat} (h1 : a < 2 ^ 2000) (h2 : b < 2 ^ 2000) : mulOk (a : Int) (b : Int) = true := by
  have p : (2 : Nat) ^ 2000 < 2 ^ 400000 := Nat.pow_lt_pow_right (by decide) (by decide)
  exact mul_b (by rw [Int.natAbs_natCast]; exact Nat.lt_trans h1 p) (by rw [Int.natAbs_natCast]; exact Nat.lt_trans h2 p)
theorem p13 : (2 : Nat) ^ 130 < 2 ^ 2000 := Nat.pow_lt_pow_right (by decide) (by decide)
theorem p15 : (2 : Nat) ^ 1500 < 2 ^ 2000 := Nat.pow_lt_pow_right (by decide) (by decide)
/-- one triple more -/
theorem tt_in (k p q : Nat) (d : D) (low : Int) (hi : D) (o : Option SV) (t : Tr) (S : Sto) (g : TrG t) (hp : p < 2 ^ 1500) (hq : q < 2 ^ 1500) (q0 : 0 < q) (l : C (k + 1) 10 [t.d, .int low, hi] S = .ok (.bl true) S) :
    exs (C (k + 1)) gl FU ttB (ttF d (.int low) hi (some (.val t.d)) p q) S = .ok (.next (ttF d (.int low) hi (some (.val t.d)) ((p * t.b + t.a * t.m * q) / Nat.gcd (p * t.b + t.a * t.m * q) (q * t.b)) (q * t.b / Nat.gcd (p * t.b + t.a * t.m * q) (q * t.b)))) S := by
  have m1 := mul15 (Nat.lt_trans hp p15) (Nat.lt_trans g.b1 p13)
  have m2 := mul15 (Nat.lt_trans g.a1 p13) (Nat.lt_trans g.m1 p13)
  have m3 : mulOk (((t.a * t.m : Nat)) : Int) (q : Int) = true := mul15 (Nat.lt_of_lt_of_le (Nat.mul_lt_mul'' g.a1 g.m1) (by decide +kernel)) (Nat.lt_trans hq p15)
  have m4 := mul15 (Nat.lt_trans hq p15) (Nat.lt_trans g.b1 p13)
  have Q0 : 0 < q * t.b := Nat.mul_pos q0 g.b0
  have Q1 : q * t.b < 2 ^ 4000 := Nat.lt_of_lt_of_le (Nat.mul_lt_mul'' hq g.b1) (by decide +kernel)
  have lo := c_lowest k (p * t.b + t.a * t.m * q) (q * t.b) S Q0 Q1
  generalize Nat.gcd (p * t.b + t.a * t.m * q) (q * t.b) = G at lo ⊢
  obtain ⟨A, hA⟩ : ∃ A, A = (p * t.b + t.a * t.m * q) / G := ⟨_, rfl⟩
  obtain ⟨B, hB⟩ : ∃ B, B = q * t.b / G := ⟨_, rfl⟩
  rw [← hA, ← hB] at lo ⊢
  have c1 : ((p : Int) * (t.b : Int) + (t.a : Int) * (t.m : Int) * (q : Int)) = ((p * t.b + t.a * t.m * q : Nat) : Int) := by simp
  have c2 : ((q : Int) * (t.b : Int)) = ((q * t.b : Nat) : Int) := by simp
  rw [← c1, ← c2] at lo
  rw [Int.natCast_mul] at m3
  simp [Tr.d] at l
  simp [ttB, Tr.d, l, m1, m2, m3, m4, lo]
theorem tt_out (k p q : Nat) (d : D) (low : Int) (hi : D) (o : Option SV) (t : Tr) (S : Sto) (l : C (k + 1) 10 [t.d, .int low, hi] S = .ok (.bl false) S) :
    exs (C (k + 1)) gl FU ttB (ttF d (.int low) hi (some (.val t.d)) p q) S = .ok (.next (ttF d (.int low) hi (some (.val t.d)) p q)) S := by
  simp [ttB, l]
theorem c_totalG (k : Nat) (ts : List Tr) (low : Int) (hi : D) (S : Sto) (h : ∀ t ∈ ts, TrG t) (l9 : ts.length ≤ 9) (hl : low.natAbs < 2 ^ 130) (hh : IsHigh low hi) (hj : ∀ j, hi = .int j → j.natAbs < 2 ^ 130)
    (c1 : C (k + 4) 8 [.tup (ts.map Tr.d)] S = .ok .non S) (c2 : C (k + 4) 9 [.int low, hi] S = .ok .non S) : ∃ p q : Nat, p < 2 ^ 1500 ∧ q < 2 ^ 1500 ∧ C (k + 5) 1 [.tup (ts.map Tr.d), .int low, hi] S = .ok (.tup [.int p, .int q]) S := by
  obtain ⟨fr2, S2, key, rfl, o, p, q, n, rfl, hn, ti, _⟩ := for_all (g := asg (C (k + 4)) gl (.name 3)) (b := exs (C (k + 4)) gl FU ttB) (fun rem fr S' => S' = S ∧ ∃ o p q n, fr = ttF (.tup (ts.map Tr.d)) (.int low) hi o p q ∧ n + rem.length = 9 ∧ TtI n p q ∧ ∀ d ∈ rem, ∃ t, TrG t ∧ d = t.d) (fun x rem fr S' hJ => by
      obtain ⟨rfl, o, p, q, n, rfl, hn, ti, hd⟩ := hJ
      obtain ⟨t, g, rfl⟩ := hd x List.mem_cons_self
      rw [List.length_cons] at hn
      obtain ⟨b1, b2⟩ := ti.lt (by omega)
      have l := c_lies_inG (k + 3) t low hi S' g hl hh hj
      cases e : liesB low hi t with
      | true =>
        rw [e] at l
        exact ⟨_, S', _, S', asg_name _ _ _ _ _ _, .inl (tt_in (k + 3) p q _ low hi o t S' g b1 b2 ti.q0 l), rfl, _, _, _, n + 1, rfl, by omega, ti.step g, fun d hd' => hd d (List.mem_cons_of_mem _ hd')⟩
      | false =>
        rw [e] at l
        exact ⟨_, S', _, S', asg_name _ _ _ _ _ _, .inl (tt_out (k + 3) p q _ low hi o t S' l), rfl, _, p, q, n + 1, rfl, by omega, ti.mono, fun d hd' => hd d (List.mem_cons_of_mem _ hd')⟩)
    (ts.map Tr.d) (ttF (.tup (ts.map Tr.d)) (.int low) hi none 0 1) S ⟨rfl, none, 0, 1, 9 - ts.length, rfl, by rw [List.length_map]; omega, ⟨by decide, Nat.one_le_two_pow, Nat.zero_le _⟩, fun d hd => by
      obtain ⟨t, ht, rfl⟩ := List.mem_map.mp hd
      exact ⟨t, h t ht, rfl⟩⟩
  obtain ⟨b1, b2⟩ := ti.lt (by simp at hn; omega)
  refine ⟨p, q, b1, b2, ?_⟩
  rw [C_eq lk_total rfl _ _ S2 rfl, total_body]
  have nm3 : m_total.names.length - m_total.ps = 3 := rfl
  have z : ttF (.tup (ts.map Tr.d)) (.int low) hi none 0 1 = [some (.val (.tup (ts.map Tr.d))), some (.val (.int low)), some (.val hi), none, some (.val (.int 0)), some (.val (.int 1))] := rfl
  rw [z] at key
  simp [nm3, c1, c2, key]
/-! ### fits -/
/-- many lies within the bounds -/
def inB (x : Nat) (y : D) (many : Int) : Bool := decide ((x : Int) ≤ many) && (match y with
  | .int j => decide (many ≤ j)
  | _ => true)
def fitB (t : Tl) (ds : List Tr) : Bool := inB t.x t.y (cntF (ds.filter (liesB t.low t.hi)))
theorem Tel.isHigh {z : Str} {low x : Nat} {hi y : D} (h : Tel z low hi x y) : IsHigh low hi := by
  obtain ⟨⟨hw, ws, h1, _, _, _⟩, _⟩ := h
  rcases h1.h with ⟨rfl, _⟩ | ⟨j, rfl, _, hj, _⟩
  · exact .inl rfl
  · exact .inr ⟨j, rfl, by omega⟩
theorem Bw.yk {ws : List Str} {x : Nat} {y : D} (h : Bw ws x y) : y = .non ∨ ∃ j, y = .int j := by
  cases h <;> first | exact .inl rfl | exact .inr ⟨_, rfl⟩
theorem Tel.yk {z : Str} {low x : Nat} {hi y : D} (h : Tel z low hi x y) : y = .non ∨ ∃ j, y = .int j := by
  obtain ⟨⟨hw, ws, _, h2, _, _⟩, _⟩ := h
  exact h2.yk
theorem c_does_fit (k : Nat) (ts : List Tl) (ds : List Tr) (S : Sto) (hts : ∀ t ∈ ts, t.ok) (hd : ∀ t ∈ ds, TrG t) (hl : ds.length ≤ 1000) (hb : ∀ t ∈ ts, t.low < 2 ^ 130 ∧ ∀ j, t.hi = .int j → j.natAbs < 2 ^ 130) : C (k + 3) 67 [tabD ts, .tup (ds.map Tr.d)] S = .ok (.bl (ts.all fun t => fitB t ds)) S := by
  let B : List MS := [.set 3 (.val (.call 19 [.var 1, .fld (.var 2) 43, .fld (.var 2) 44])), .ife (.or (.cmp .Lt (.var 3) (.fld (.var 2) 35)) (.and (.cmp .IsNot (.fld (.var 2) 36) (.cst .non)) (.cmp .Gt (.var 3) (.fld (.var 2) 36)))) [.ret (.cst (.bl false))] []]
  have key := for_ret (S := S) (g := asg (C (k + 2)) gl (.name 2)) (b := exs (C (k + 2)) gl FU B) (fun t : { t : Tl // t ∈ ts } => t.1.d) (fun t => !fitB t.1 ds) (.bl false) (fun fr => ∃ a b, fr = [some (.val (tabD ts)), some (.val (.tup (ds.map Tr.d))), a, b]) (fun t fr hJ => by
    obtain ⟨a, b, rfl⟩ := hJ
    obtain ⟨t, ht⟩ := t
    have ok := hts t ht
    have cc := c_count_inG k ds t.low t.hi S hd hl (by rw [Int.natAbs_natCast]; exact (hb t ht).1) (Tel.isHigh ok) (hb t ht).2
    have ey := Tel.yk ok
    refine ⟨[some (.val (tabD ts)), some (.val (.tup (ds.map Tr.d))), some (.val t.d), b], by simp, fun hp => ?_, fun hp => ⟨[some (.val (tabD ts)), some (.val (.tup (ds.map Tr.d))), some (.val t.d), some (.val (.int (cntF (ds.filter (liesB t.low t.hi)))))], ?_, _, _, rfl⟩⟩
    · rcases ey with hy | ⟨j, hy⟩
      · simp [fitB, inB, hy] at hp
        simp [B, Tl.d, telD, fk_Telling, cc, hy, hp]
      · simp [fitB, inB, hy] at hp
        by_cases h1 : cntF (ds.filter (liesB t.low t.hi)) < (t.x : Int)
        · simp [B, Tl.d, telD, fk_Telling, cc, hy, h1]
        · have h2 : j < cntF (ds.filter (liesB t.low t.hi)) := by omega
          simp [B, Tl.d, telD, fk_Telling, cc, hy, h1, h2]
    · rcases ey with hy | ⟨j, hy⟩
      · simp [fitB, inB, hy] at hp
        have h1 : ¬ cntF (ds.filter (liesB t.low t.hi)) < (t.x : Int) := by omega
        simp [B, Tl.d, telD, fk_Telling, cc, hy, h1]
      · simp [fitB, inB, hy] at hp
        have h1 : ¬ cntF (ds.filter (liesB t.low t.hi)) < (t.x : Int) := by omega
        have h2 : ¬ j < cntF (ds.filter (liesB t.low t.hi)) := by omega
        simp [B, Tl.d, telD, fk_Telling, cc, hy, h1, h2]) ts.attach [some (.val (tabD ts)), some (.val (.tup (ds.map Tr.d))), none, none] ⟨none, none, rfl⟩
  have em : ts.attach.map (fun t : { t : Tl // t ∈ ts } => t.1.d) = ts.map Tl.d := by
    have q := congrArg (List.map Tl.d) (List.attach_map_subtype_val ts)
    rw [List.map_map] at q
    exact q
  rw [em] at key
  have ea : (ts.attach.any fun t => !fitB t.1 ds) = !(ts.all fun t => fitB t ds) := by
    rw [List.not_all_eq_any_not]
    have q := congrArg (fun l => List.any l fun t => !fitB t ds) (List.attach_map_subtype_val ts)
    simp only [List.any_map] at q
    exact q
  rw [ea] at key
  rw [C_eq lk_does_fit rfl _ _ S rfl]
  simp only [m_does_fit]
  cases hp : ts.all fun t => fitB t ds with
  | true =>
    obtain ⟨fr2, k2, _⟩ := key.2 (by rw [hp]; rfl)
    simp only [B] at k2
    simp [tabD, fk_Table] at k2 ⊢
    simp [k2]
  | false =>
    have k2 := key.1 (by rw [hp]; rfl)
    simp only [B] at k2
    simp [tabD, fk_Table] at k2 ⊢
    simp [k2]
theorem c_check_table (k : Nat) (ts : List Tl) (S : Sto) : C (k + 1) 66 [tabD ts] S = .ok .non S := by
  have z : blD S .isinst [tabD ts, .cls 27] = some (.bl true) := rfl
  rw [C_eq lk_check_table rfl _ _ S rfl]
  simp [m_check_table, gk_Table, z]
theorem c_check_tableN (k : Nat) (d : D) (S : Sto) (h : isC 27 d = some false) : C (k + 1) 66 [d] S = .exc (.ins 102 [d]) S := by
  have z : blD S .isinst [d, .cls 27] = some (.bl false) := by
    show (isC 27 d).map D.bl = _
    rw [h]; rfl
  rw [C_eq lk_check_table rfl _ _ S rfl]
  simp [m_check_table, gk_Table, z]
end Mn
namespace Mn
open PySem L2
/-! ### a value of any kind -/
def things : List D := [.non, .bl true, .bl false, .int 0, .int 1, .int (-1), .int 1000000000000000000000000000000000000000, .str "", .str "a", .str "open", .str "0 9 is 2", .str "0 9 is 2\n", .tup [], .tup [.int 0], .lst [], .lst [.int 1], .dic [],
  .dic [(.inr "a", .int 0)], .tup [.str "0 9 is 2"], .lst [.str "0 9 is 2"], .tup [.non, .lst [.int 2]], .tup [.tup [.int 1, .int 1, .int 1]], .tup [.str "possible"], .tup [.str "a", .str "b"], .tup [.int 1, .int 2]]
theorem c_thing (k n : Nat) (S : Sto) (h : Src S n) : ∃ d S', C (k + 3) 98 [.obj n] S = .ok d S' ∧ d ∈ things ∧ Ly n S S' := by
  obtain ⟨x, S1, x1, e1, l1⟩ := c_choice k n things S h (by simp [things]) (by simp [things])
  refine ⟨x, S1, ?_, x1, l1⟩
  have p39 : powOk 10 39 = true := by decide +kernel
  have s25 : 25 ≤ sizeLine := by rw [sizeLine_eq]; omega
  have m1 : pairsD [] = some [] := rfl
  have m2 : mergeD [] ([] : List (Key × D)) = [] := rfl
  rw [C_eq lk__law_thing rfl _ _ S rfl]
  simp only [things] at e1
  simp [m__law_thing, p39, s25, pairsD, keyD, mergeD, putD, e1]
def ascS : Option Str → Bool
  | some y => (TL.tl y).all (· < 128)
  | none => false
theorem ascS_ok {o : Option Str} (h : ascS o = true) : ∃ y, o = some y ∧ asc y := by
  cases o with
  | none => cases h
  | some y => exact ⟨y, rfl, h⟩
/-- shown plainly -/
def Shn (d : D) : Prop := ∃ y, showX d = some y ∧ asc y
/-- what may be asked about -/
structure GV (d : D) : Prop where
  vd : VD d
  sh : Shn d
  l9 : ∀ xs, d = .tup xs → xs.length ≤ 9
theorem thing_gv : ∀ d ∈ things, GV d := by
  have sh : ∀ d ∈ things, ascS (showX d) = true := by decide +kernel
  intro d hd
  have s := ascS_ok (sh d hd)
  have no : ∀ d : D, isTy d "tuple" = some false → Shn d → GV d := fun d h s => ⟨.no h, s, fun xs e => by subst e; exact Bool.noConfusion (Option.some.inj (show some true = some false from h))⟩
  have tp : ∀ xs : List D, (∀ x ∈ xs, ItG x) → xs.length ≤ 9 → Shn (.tup xs) → GV (.tup xs) := fun xs h l s => ⟨.tup xs h (by omega), s, fun ys e => by cases e; exact l⟩
  have one : ItG (.tup [.int 1, .int 1, .int 1]) := .tup _ (fun y hy => by
    simp only [List.mem_cons, List.not_mem_nil, or_false] at hy
    rcases hy with rfl | rfl | rfl <;> exact .int 1 (by decide)) (by simp)
  simp only [things, List.mem_cons, List.not_mem_nil, or_false] at hd
  rcases hd with rfl | rfl | rfl | rfl | rfl | rfl | rfl | rfl | rfl | rfl | rfl | rfl | rfl | rfl | rfl | rfl | rfl | rfl | rfl | rfl | rfl | rfl | rfl | rfl | rfl <;> first | exact no _ rfl s | (refine tp _ (fun x hx => ?_) (by simp) s; simp only [List.mem_cons, List.not_mem_nil, or_false] at hx <;> first | (rcases hx with rfl | rfl <;> exact .no rfl) | (subst hx; first | exact one | exact .no rfl))
/-! ### odd triples -/
/-- a part of a triple -/
structure GA (y : D) : Prop where
  a : AtG y
  r : Rd 1 10 y
  s : ascD y
theorem GA.int {i : Int} (h : i.natAbs < 2 ^ 130) : GA (.int i) := ⟨.int i h, .int (Nat.lt_of_lt_of_le (log_lt h (by omega)) (by omega)), ⟨.int i, rfl, rfl⟩⟩
/-- a thing in data -/
structure GI (x : D) : Prop where
  i : ItG x
  r : Rd 3 60 x
  s : ascD x
theorem asc_all : ∀ {xs : List D}, (∀ x ∈ xs, ascD x) → ∃ ps, pyAll xs = some ps ∧ ascAll ps = true
  | [], _ => ⟨[], rfl, rfl⟩
  | x :: xs, h => by
    obtain ⟨p, h1, h2⟩ := h x List.mem_cons_self
    obtain ⟨ps, h3, h4⟩ := asc_all (xs := xs) fun y hy => h y (List.mem_cons_of_mem _ hy)
    exact ⟨p :: ps, by simp [pyAll, h1, h3], by simp [ascAll, h2, h4]⟩
theorem ascD.tup {xs : List D} (h : ∀ x ∈ xs, ascD x) : ascD (.tup xs) := by
  obtain ⟨ps, e, q⟩ := asc_all h
  exact ⟨.tuple ps, by simp [D.py, e], by simp [ascP, q]⟩
theorem ascD.lst {xs : List D} (h : ∀ x ∈ xs, ascD x) : ascD (.lst xs) := by
  obtain ⟨ps, e, q⟩ := asc_all h
  exact ⟨.list ps, by simp [D.py, e], by simp [ascP, q]⟩
theorem GI.tup {ys : List D} (h : ∀ y ∈ ys, GA y) (l : ys.length ≤ 5) : GI (.tup ys) :=
  ⟨.tup ys (fun y hy => (h y hy).a) (by omega), .tup (n := 2) (w' := 10) (fun y hy => by
    have := (h y hy).r
    cases this with
    | non => exact .non
    | bl b => exact .bl b
    | int h => exact .int h
    | str h l => exact .str h l
    | tup h l => exact .tup (n := 1) (fun x hx => by
        have := h x hx
        cases this with
        | non => exact .non
        | bl b => exact .bl b
        | int h => exact .int h
        | str h l => exact .str h l) l
    | lst h l => exact .lst (n := 1) (fun x hx => by
        have := h x hx
        cases this with
        | non => exact .non
        | bl b => exact .bl b
        | int h => exact .int h
        | str h l => exact .str h l) l) (by omega), ascD.tup fun y hy => (h y hy).s⟩
/-- triples as they are drawn -/
def TrS (t : Tr) : Prop := t.a < 2 ^ 120 ∧ t.b < 2 ^ 10 ∧ t.m < 2 ^ 120
theorem TrS.parts {t : Tr} (h : TrS t) : GA (.int t.a) ∧ GA (.int t.b) ∧ GA (.int t.m) := by
  obtain ⟨h1, h2, h3⟩ := h
  exact ⟨.int (by rw [Int.natAbs_natCast]; omega), .int (by rw [Int.natAbs_natCast]; omega), .int (by rw [Int.natAbs_natCast]; omega)⟩
theorem TrS.gi {t : Tr} (h : TrS t) : GI t.d := by
  obtain ⟨a, b, c⟩ := h.parts
  exact GI.tup (fun y hy => by
    simp only [List.mem_cons, List.not_mem_nil, or_false] at hy
    rcases hy with rfl | rfl | rfl <;> assumption) (by simp)
def odds : List D := [.int 0, .int (-1), .bl true, .non, .str "1", .tup [.int 1], .int 1000000000000000000000000000000000000000, .int 2, .lst [.int 1]]
theorem odds_ga : ∀ x ∈ odds, GA x := by
  have one : GA (.tup [.int 1]) := ⟨.no rfl, .tup (n := 0) (w' := 0) (fun x hx => by rw [List.mem_singleton.mp hx]; exact .int (by decide)) (by simp), ⟨.tuple [.int 1], rfl, rfl⟩⟩
  have two : GA (.lst [.int 1]) := ⟨.no rfl, .lst (n := 0) (w' := 0) (fun x hx => by rw [List.mem_singleton.mp hx]; exact .int (by decide)) (by simp), ⟨.list [.int 1], rfl, rfl⟩⟩
  have str : GA (.str (Str.ofString "1")) := ⟨.no rfl, .str (by decide +kernel) (by decide +kernel), ⟨.str _, rfl, by decide +kernel⟩⟩
  intro x hx
  simp only [odds, List.mem_cons, List.not_mem_nil, or_false] at hx
  rcases hx with rfl | rfl | rfl | rfl | rfl | rfl | rfl | rfl | rfl
  · exact .int (by decide)
  · exact .int (by decide)
  · exact ⟨.bl _, .bl _, ⟨.bool _, rfl, rfl⟩⟩
  · exact ⟨.no rfl, .non, ⟨.none, rfl, rfl⟩⟩
  · exact str
  · exact one
  · exact .int (by decide +kernel)
  · exact .int (by decide)
  · exact two
theorem cut3 (x y z : D) (i : Nat) (h : i < 3) : ∃ u v, cutL [x, y, z] none (some (i : Int)) = u ∧ cutL [x, y, z] (some ((i : Int) + 1)) none = v ∧ (∀ d ∈ u, d ∈ [x, y, z]) ∧ (∀ d ∈ v, d ∈ [x, y, z]) ∧ u.length + v.length = 2 := by
  have : i = 0 ∨ i = 1 ∨ i = 2 := by omega
  rcases this with rfl | rfl | rfl
  · exact ⟨[], [y, z], rfl, rfl, by simp, by simp, rfl⟩
  · exact ⟨[x], [z], rfl, rfl, by simp, by simp, rfl⟩
  · exact ⟨[x, y], [], rfl, rfl, by simp, by simp, rfl⟩
theorem c_odd (k n : Nat) (t : Tr) (S : Sto) (h : Src S n) (ts : TrS t) : ∃ x S', C (k + 3) 107 [.obj n, t.d] S = .ok x S' ∧ GI x ∧ Ly n S S' := by
  obtain ⟨pa, pb, pm⟩ := ts.parts
  obtain ⟨h1, h2, h3⟩ := id ts
  obtain ⟨f, S1, e1, f1, l1⟩ := below_nat (k + 1) n 6 S h ⟨by omega, by decide +kernel⟩
  obtain ⟨i, S2, e2, i2, l2⟩ := below_nat (k + 1) n 3 S1 l1.src ⟨by omega, by decide +kernel⟩
  have p39 : powOk 10 39 = true := by decide +kernel
  have sz : sizeLine = 16777216 := sizeLine_eq
  by_cases f0 : f < 2
  · obtain ⟨o, S3, o3, e3, l3⟩ := c_choice k n odds S2 l2.src (by simp [odds]) (by simp [odds])
    obtain ⟨u, v, c1, c2, c3, c4, c5⟩ := cut3 (.int t.a) (.int t.b) (.int t.m) i (by omega)
    refine ⟨.tup (u ++ o :: v), S3, ?_, GI.tup (fun y hy => ?_) (by simp only [List.length_append, List.length_cons]; omega), (l1.trans l2).trans l3⟩
    · have f0' : (f : Int) < 2 := by omega
      have z1 : u.length + 1 ≤ sizeLine := by omega
      have z2 : u.length + 1 + v.length ≤ sizeLine := by omega
      rw [C_eq lk__law_odd_triple rfl _ _ S rfl]
      simp only [odds] at e3
      simp [m__law_odd_triple, Tr.d, e1, e2, f0', p39, e3, c1, c2, z1, z2]
    · have pt : ∀ d ∈ [D.int t.a, .int t.b, .int t.m], GA d := fun d hd => by
        simp only [List.mem_cons, List.not_mem_nil, or_false] at hd
        rcases hd with rfl | rfl | rfl <;> assumption
      rcases List.mem_append.mp hy with hy | hy
      · exact pt y (c3 y hy)
      · rcases List.mem_cons.mp hy with rfl | hy
        · exact odds_ga _ o3
        · exact pt y (c4 y hy)
  by_cases f2 : f = 2
  · subst f2
    have m1 : mulOk (t.a : Int) 2 = true := mul_r (by omega) (by omega)
    have m2 : mulOk (t.b : Int) 2 = true := mul_r (by omega) (by omega)
    refine ⟨.tup [.int ((t.a : Int) * 2), .int ((t.b : Int) * 2), .int t.m], S2, ?_, GI.tup (fun y hy => ?_) (by simp), l1.trans l2⟩
    · rw [C_eq lk__law_odd_triple rfl _ _ S rfl]
      simp [m__law_odd_triple, Tr.d, e1, e2, m1, m2]
    · simp only [List.mem_cons, List.not_mem_nil, or_false] at hy
      rcases hy with rfl | rfl | rfl
      · exact .int (by omega)
      · exact .int (by omega)
      · exact pm
  · obtain ⟨x, S3, x3, e3, l3⟩ := c_choice k n [.tup [.int t.a, .int t.b], .tup [.int t.a, .int t.b, .int t.m, .int 1], .lst [.int t.a, .int t.b, .int t.m], .tup [.tup [.int t.a, .int t.b, .int t.m]], .non, .str "1 1 1", .tup [.int t.b, .int t.a, .int t.m], .tup []] S2 l2.src (by simp) (by simp)
    refine ⟨x, S3, ?_, ?_, (l1.trans l2).trans l3⟩
    · have g0 : ¬ (f : Int) < 2 := by omega
      have g2 : ¬ (f : Int) = 2 := by omega
      have z4 : 3 + 1 ≤ sizeLine := by omega
      have z4' : 4 ≤ sizeLine := by omega
      rw [C_eq lk__law_odd_triple rfl _ _ S rfl]
      simp [m__law_odd_triple, Tr.d, e1, e2, f0, f2, g0, g2, sl_02, z4, z4', e3]
    · have one : GA (.int 1) := .int (by decide)
      have l3 : Rd 1 33 (.lst [.int t.a, .int t.b, .int t.m]) := .lst (w' := 10) (fun y hy => by
        simp only [List.mem_cons, List.not_mem_nil, or_false] at hy
        rcases hy with rfl | rfl | rfl
        · cases pa.r with | int h => exact .int h
        · cases pb.r with | int h => exact .int h
        · cases pm.r with | int h => exact .int h) (by simp)
      have big : GI (.lst [.int t.a, .int t.b, .int t.m]) := ⟨.no rfl, by
        cases l3 with
        | lst h l => exact .lst (n := 2) (w' := 10) (fun y hy => by
            simp only [List.mem_cons, List.not_mem_nil, or_false] at hy
            rcases hy with rfl | rfl | rfl
            · cases pa.r with | int h => exact .int h
            · cases pb.r with | int h => exact .int h
            · cases pm.r with | int h => exact .int h) (by simp), ascD.lst fun y hy => by
        simp only [List.mem_cons, List.not_mem_nil, or_false] at hy
        rcases hy with rfl | rfl | rfl
        · exact pa.s
        · exact pb.s
        · exact pm.s⟩
      have nest : GI (.tup [.tup [.int t.a, .int t.b, .int t.m]]) := ⟨.tup _ (fun y hy => by rw [List.mem_singleton.mp hy]; exact .no rfl) (by simp), .tup (n := 2) (w' := 33) (fun y hy => by
        rw [List.mem_singleton.mp hy]
        exact .tup (n := 1) (w' := 10) (fun y hy => by
          simp only [List.mem_cons, List.not_mem_nil, or_false] at hy
          rcases hy with rfl | rfl | rfl
          · exact pa.r
          · exact pb.r
          · exact pm.r) (by simp)) (by simp), ascD.tup fun y hy => by
        rw [List.mem_singleton.mp hy]
        exact (TrS.gi (t := t) ⟨h1, h2, h3⟩).s⟩
      simp only [List.mem_cons, List.not_mem_nil, or_false] at x3
      rcases x3 with rfl | rfl | rfl | rfl | rfl | rfl | rfl | rfl
      · exact GI.tup (fun y hy => by simp only [List.mem_cons, List.not_mem_nil, or_false] at hy; rcases hy with rfl | rfl <;> assumption) (by simp)
      · exact GI.tup (fun y hy => by simp only [List.mem_cons, List.not_mem_nil, or_false] at hy; rcases hy with rfl | rfl | rfl | rfl <;> assumption) (by simp)
      · exact big
      · exact nest
      · exact ⟨.no rfl, .non, ⟨.none, rfl, rfl⟩⟩
      · exact ⟨.no rfl, .str (by decide +kernel) (by decide +kernel), ⟨.str _, rfl, by decide +kernel⟩⟩
      · exact GI.tup (fun y hy => by simp only [List.mem_cons, List.not_mem_nil, or_false] at hy; rcases hy with rfl | rfl | rfl <;> assumption) (by simp)
      · exact GI.tup (fun y hy => by cases hy) (by simp)
end Mn
namespace Mn
open PySem L2
theorem cut_to {α : Type} (u : α → D) (xs : List α) (i : Nat) : cutL (xs.map u) none (some (i : Int)) = (xs.take i).map u := by
  unfold cutL
  rw [HT.sIx_none, HT.sIx_nat, List.length_map, Nat.sub_zero, List.drop_zero, List.map_take]
  by_cases h : i ≤ xs.length
  · rw [Nat.min_eq_left h]
  · rw [Nat.min_eq_right (by omega), List.take_of_length_le (by simp), List.take_of_length_le (by simp; omega)]
theorem cut_from {α : Type} (u : α → D) (xs : List α) (i : Nat) : cutL (xs.map u) (some (i : Int)) none = (xs.drop i).map u := by
  unfold cutL
  rw [HT.sIx_none, HT.sIx_nat, List.length_map, List.map_drop]
  by_cases h : i ≤ xs.length
  · rw [Nat.min_eq_left h, List.take_of_length_le (by simp)]
  · rw [Nat.min_eq_right (by omega), List.drop_of_length_le (by simp), List.drop_of_length_le (by simp; omega)]
    simp
theorem cut_from1 {α : Type} (u : α → D) (xs : List α) (i : Nat) : cutL (xs.map u) (some ((i : Int) + 1)) none = (xs.drop (i + 1)).map u := cut_from u xs (i + 1)
/-- a tuple of things is asked about -/
theorem gv_tup {xs : List D} (h : ∀ x ∈ xs, GI x) (l : xs.length ≤ 9) : GV (.tup xs) := by
  obtain ⟨z, hz⟩ := Rd.show (n := 4) (w := 549) (d := .tup xs) (.tup (w' := 60) (fun x hx => (h x hx).r) (by omega)) (by omega) (by omega)
  exact ⟨.tup xs (fun x hx => (h x hx).i) (by omega), ⟨z, showX_of hz, show_asc (ascD.tup fun x hx => (h x hx).s) hz⟩, fun ys e => by cases e; exact l⟩
theorem gv_lst {xs : List D} (h : ∀ x ∈ xs, GI x) (l : xs.length ≤ 9) : GV (.lst xs) := by
  obtain ⟨z, hz⟩ := Rd.show (n := 4) (w := 549) (d := .lst xs) (.lst (w' := 60) (fun x hx => (h x hx).r) (by omega)) (by omega) (by omega)
  exact ⟨.no rfl, ⟨z, showX_of hz, show_asc (ascD.lst fun x hx => (h x hx).s) hz⟩, fun ys e => by cases e⟩
def vlT : List MS := m__law_value.body.drop 2
theorem val_body : m__law_value.body = m__law_value.body.take 2 ++ vlT := (List.take_append_drop 2 _).symm
abbrev vlF (n : Nat) (ts : List Tr) (a f : Nat) : Frm := [some (.val (.obj n)), some (.val (.int a)), some (.val (.lst (ts.map Tr.d))), some (.val (.int f))]
theorem vl_tail (k n a f : Nat) (ts : List Tr) (S : Sto) (h : Src S n) (hs : ∀ t ∈ ts, TrS t) (l8 : ts.length ≤ 8) (ha : a ≤ ts.length) : ∃ d S', exs (C (k + 3)) gl FU vlT (vlF n ts a f) S = .ok (.ret d) S' ∧ GV d ∧ Ly n S S' := by
  have ly0 : Ly n S S := ⟨rfl, h, fun _ _ => rfl⟩
  have sz : sizeLine = 16777216 := sizeLine_eq
  have gi : ∀ d ∈ ts.map Tr.d, GI d := fun d hd => by
    obtain ⟨t, ht, rfl⟩ := List.mem_map.mp hd
    exact (hs t ht).gi
  have lm : (ts.map Tr.d).length = ts.length := List.length_map ..
  by_cases f0 : f = 0
  · subst f0
    obtain ⟨d, S1, e1, hd, l1⟩ := c_thing k n S h
    exact ⟨d, S1, by simp [vlT, m__law_value, e1], thing_gv d hd, l1⟩
  by_cases f1 : f = 1
  · subst f1
    exact ⟨.lst (ts.map Tr.d), S, by simp [vlT, m__law_value], gv_lst gi (by omega), ly0⟩
  by_cases f2 : f = 2
  · subst f2
    refine ⟨.tup (ts.map Tr.d).reverse, S, ?_, gv_tup (fun x hx => gi x (List.mem_reverse.mp hx)) (by rw [List.length_reverse]; omega), ly0⟩
    have rd : rdL S (.lst (ts.map Tr.d)) = some (ts.map Tr.d) := rfl
    simp [vlT, m__law_value, rd]
  have cA := cut_to Tr.d ts a
  by_cases f3 : f = 3
  · subst f3
    obtain ⟨b, hb⟩ : ∃ b : Nat, (if (a : Int) - 1 > 0 then (a : Int) - 1 else 0) = (b : Int) ∧ b + 1 ≥ a := by
      by_cases g : (a : Int) - 1 > 0
      · exact ⟨a - 1, by rw [if_pos g]; omega, by omega⟩
      · exact ⟨0, by rw [if_neg g]; rfl, by omega⟩
    have cB := cut_from Tr.d ts b
    have mb : blD S .max [.int 0, .int ((a : Int) - 1)] = some (.int (b : Int)) := by
      rw [vb_max, hb.1]
    obtain ⟨A, hA⟩ : ∃ A, A = (ts.take a).map Tr.d := ⟨_, rfl⟩
    obtain ⟨B, hB⟩ : ∃ B, B = (ts.drop b).map Tr.d := ⟨_, rfl⟩
    have lA : A.length ≤ a := by rw [hA, List.length_map]; exact List.length_take_le _ _
    have lB : B.length = ts.length - b := by rw [hB, List.length_map, List.length_drop]
    rw [← hA] at cA
    rw [← hB] at cB
    refine ⟨.tup (A ++ B), S, ?_, gv_tup (fun x hx => ?_) (by rw [List.length_append]; omega), ly0⟩
    · have z1 : A.length + B.length ≤ sizeLine := by omega
      simp [-vb_max, vlT, m__law_value, cA, mb, cB, z1]
    · rcases List.mem_append.mp hx with hx | hx
      · rw [hA] at hx
        obtain ⟨t, ht, rfl⟩ := List.mem_map.mp hx
        exact (hs t (List.mem_of_mem_take ht)).gi
      · rw [hB] at hx
        obtain ⟨t, ht, rfl⟩ := List.mem_map.mp hx
        exact (hs t (List.mem_of_mem_drop ht)).gi
  have g0 : ¬ (f : Int) = 0 := by omega
  have g1 : ¬ (f : Int) = 1 := by omega
  have g2 : ¬ (f : Int) = 2 := by omega
  have g3 : ¬ (f : Int) = 3 := by omega
  by_cases f7 : f < 7 ∧ a < ts.length
  · obtain ⟨f7, al⟩ := f7
    have ht : ts[a] ∈ ts := List.getElem_mem al
    have at_ : atI (ts.map Tr.d) (a : Int) = some (ts[a]).d := at_n (by simp [al])
    obtain ⟨x, S1, e1, gx, l1⟩ := c_odd k n ts[a] S h (hs _ ht)
    generalize ts[a] = t at *
    have cB := cut_from1 Tr.d ts a
    obtain ⟨A, hA⟩ : ∃ A, A = (ts.take a).map Tr.d := ⟨_, rfl⟩
    obtain ⟨B, hB⟩ : ∃ B, B = (ts.drop (a + 1)).map Tr.d := ⟨_, rfl⟩
    have lA : A.length ≤ a := by rw [hA, List.length_map]; exact List.length_take_le _ _
    have lB : B.length = ts.length - (a + 1) := by rw [hB, List.length_map, List.length_drop]
    rw [← hA] at cA
    rw [← hB] at cB
    refine ⟨.tup (A ++ x :: B), S1, ?_, gv_tup (fun y hy => ?_) (by rw [List.length_append, List.length_cons]; omega), l1⟩
    · have z1 : A.length + 1 ≤ sizeLine := by omega
      have z2 : A.length + 1 + B.length ≤ sizeLine := by omega
      have f7' : (f : Int) < 7 := by omega
      have al' : (a : Int) < (ts.length : Int) := by omega
      simp [vlT, m__law_value, f0, f1, f2, f3, g0, g1, g2, g3, f7', al, al', cA, at_, e1, cB, z1, z2]
    · rcases List.mem_append.mp hy with hy | hy
      · rw [hA] at hy
        obtain ⟨t, ht, rfl⟩ := List.mem_map.mp hy
        exact (hs t (List.mem_of_mem_take ht)).gi
      · rcases List.mem_cons.mp hy with rfl | hy
        · exact gx
        · rw [hB] at hy
          obtain ⟨t, ht, rfl⟩ := List.mem_map.mp hy
          exact (hs t (List.mem_of_mem_drop ht)).gi
  · refine ⟨.tup (ts.map Tr.d), S, ?_, gv_tup gi (by omega), ly0⟩
    by_cases f7' : f < 7
    · have al : ¬ a < ts.length := fun h => f7 ⟨f7', h⟩
      have al' : ¬ (a : Int) < (ts.length : Int) := by omega
      have f7'' : (f : Int) < 7 := by omega
      simp [vlT, m__law_value, f0, f1, f2, f3, g0, g1, g2, g3, f7'', al, al']
    · have f7'' : ¬ (f : Int) < 7 := by omega
      simp [vlT, m__law_value, f0, f1, f2, f3, g0, g1, g2, g3, f7'']
theorem c_value (k n : Nat) (S : Sto) (h : Src S n) : ∃ d S', C (k + 4) 99 [.obj n] S = .ok d S' ∧ GV d ∧ Ly n S S' := by
  obtain ⟨ts, S1, e1, dk, l8, l1, ta, tm, _⟩ := c_things2 k n S h
  obtain ⟨f, S2, e2, f2, l2⟩ := below_nat (k + 2) n 9 S1 l1.src ⟨by omega, by decide +kernel⟩
  obtain ⟨a, S3, e3, a3, l3⟩ := below_nat (k + 2) n ((ts.length : Int) + 1) S2 l2.src ⟨by omega, by omega⟩
  obtain ⟨d, S4, e4, gv, l4⟩ := vl_tail k n a f ts S3 l3.src (fun t ht => ⟨ta t ht, by have := (dk.all t ht).b1; omega, by have := tm t ht; omega⟩) l8 (by omega)
  refine ⟨d, S4, ?_, gv, ((l1.trans l2).trans l3).trans l4⟩
  have tk : m__law_value.body.take 2 = [.par [2, 3] [.val (.call 4 [.var 0]), .val (.call 21 [.var 0, .cst (.int 9)])], .set 1 (.val (.call 21 [.var 0, .bin .Add (.blt .len [.var 2]) (.cst (.int 1))]))] := rfl
  have nm3 : m__law_value.names.length - m__law_value.ps = 3 := rfl
  rw [C_eq lk__law_value rfl _ _ S rfl, val_body, tk]
  simp [nm3, e1, e2, e3, e4]
end Mn
namespace Mn
open PySem L2
/-- what a call ends with, what is due -/
inductive EndO (r : Out D) (due : D) (S : Sto) : Prop
  | err (v : D) (a s : Str) (e : r = .exc v S) (w : wordD gl v = some (.lst [.str a, .str s])) (d : due = .lst [.str a, .str s]) (ha : asc a) (hs : asc s)
  | back (w : D) (s : Str) (e : r = .ok w S) (q : backD w = some (.lst [.str "back", .str s])) (d : due = .lst [])
theorem e_nil : eqA (.lst []) (.lst []) = some true := by decide +kernel
theorem two_ne (a b : Str) (ha : asc a) (hb : asc b) : eqA (.lst [.str a, .str b]) (.lst []) = some false := by
  have r : Rd 1 (2 * (max a.length b.length + 1)) (.lst [.str a, .str b]) := .lst (w' := max a.length b.length) (fun x hx => by
    simp only [List.mem_cons, List.not_mem_nil, or_false] at hx
    rcases hx with rfl | rfl
    · exact .str (asc_ok ha) (Nat.le_max_left _ _)
    · exact .str (asc_ok hb) (Nat.le_max_right _ _)) (by simp)
  obtain ⟨p, e, q⟩ := r.py
  cases e
  have s1 : SeqAt.shaped (.list [.str a, .str b]) = true := by
    unfold SeqAt.shaped
    have := q.dp
    rw [q.cl]
    simp only [Bool.true_and, decide_eq_true_eq]
    omega
  have s0 : SeqAt.shaped (.list []) = true := by decide +kernel
  have e : eqE (.lst [.str a, .str b]) (.lst []) = eqD (.lst [.str a, .str b]) (.lst []) := rfl
  show eqE (.lst [.str a, .str b]) (.lst []) = _
  rw [e]
  unfold eqD
  have p1 : (D.lst [.str a, .str b]).py = some (.list [.str a, .str b]) := rfl
  have p2 : (D.lst []).py = some (.list []) := rfl
  rw [p1, p2]
  simp only [s0, s1, Bool.and_self, if_true]
  congr 1
theorem c_meets_err (k : Nat) (a s : Str) (S : Sto) (ha : asc a) (hs : asc s) : C (k + 1) 100 [.lst [.str a, .str s], .lst [.str a, .str s]] S = .ok (.bl true) S := by
  have n := two_ne a s ha hs
  have e := pair_eq a s ha hs
  rw [C_eq lk__law_meets rfl _ _ S rfl]
  simp [m__law_meets, n, e]
theorem c_meets_back (k : Nat) (s : Str) (S : Sto) : C (k + 1) 100 [.lst [.str "back", .str s], .lst []] S = .ok (.bl true) S := by
  have n := e_nil
  have a0 : atI [D.str (Str.ofString "back"), D.str s] 0 = some (.str "back") := rfl
  rw [C_eq lk__law_meets rfl _ _ S rfl]
  simp [m__law_meets, n, a0]
theorem dat_good {d : D} (h : GV d) : datV d = goodV d := by
  cases d with
  | tup xs =>
    have := h.l9 xs rfl
    show datB xs = (datB xs && decide (xs.length ≤ 1000))
    rw [decide_eq_true (by omega), Bool.and_true]
  | _ => rfl
theorem int_back {n : Nat} (h : n < 2 ^ 1900) : ∃ s, backD (.int (n : Int)) = some (.lst [.str "back", .str s]) := by
  obtain ⟨s, hs⟩ := Rd.show (n := 0) (w := 0) (d := .int (n : Int)) (.int (by rw [Int.natAbs_natCast]; exact Nat.lt_of_lt_of_le (log_lt h (by omega)) (by omega))) (by omega) (by omega)
  exact ⟨s, backD_of hs⟩
theorem two_back {p q : Nat} (h : p < 2 ^ 1500) (h' : q < 2 ^ 1500) : ∃ s, backD (.tup [.int (p : Int), .int (q : Int)]) = some (.lst [.str "back", .str s]) := by
  obtain ⟨s, hs⟩ := Rd.show (n := 1) (w := 2) (d := .tup [.int (p : Int), .int (q : Int)]) (.tup (w' := 0) (fun x hx => by
    simp only [List.mem_cons, List.not_mem_nil, or_false] at hx
    rcases hx with rfl | rfl
    · exact .int (by rw [Int.natAbs_natCast]; exact Nat.lt_of_lt_of_le (log_lt h (by omega)) (by omega))
    · exact .int (by rw [Int.natAbs_natCast]; exact Nat.lt_of_lt_of_le (log_lt h' (by omega)) (by omega))) (by simp)) (by omega) (by omega)
  exact ⟨s, backD_of hs⟩
theorem bl_back (b : Bool) : ∃ s, backD (.bl b) = some (.lst [.str "back", .str s]) := by
  obtain ⟨s, hs⟩ := Rd.show (n := 0) (w := 0) (d := .bl b) (.bl b) (by omega) (by omega)
  exact ⟨s, backD_of hs⟩
theorem words_asc : asc (Str.ofString "data") ∧ asc (Str.ofString "border") ∧ asc (Str.ofString "table") := by unfold asc; decide +kernel
/-- counts and totals -/
theorem lap_one (k : Nat) (d lo hi : D) (S : Sto) (gv : GV d) (hl : AtG lo) (sl : Shn lo) (hh : HG hi) (sh : Shn hi) :
    ∃ due, C (k + 6) 96 [d, lo, hi] S = .ok due S ∧ EndO (C (k + 6) 0 [d, lo, hi] S) due S ∧ EndO (C (k + 6) 1 [d, lo, hi] S) due S := by
  obtain ⟨w1, w2, w3⟩ := words_asc
  obtain ⟨y, hy, ya⟩ := gv.sh
  obtain ⟨yl, hyl, yla⟩ := sl
  obtain ⟨yh, hyh, yha⟩ := sh
  have c1 := c_check_dataG (k + 1) d S gv.vd
  have c2 := c_stretchG (k + 2) lo hi S hl hh
  have b1 := c_law_is_data (k + 2) d S gv.vd
  have b2 := c_wholeG (k + 4) lo 0 S hl
  rw [dat_good gv] at b1
  have hx := hy
  unfold showX at hx
  have hxl := hyl
  unfold showX at hxl
  have hxh := hyh
  unfold showX at hxh
  cases g : goodV d with
  | false =>
    rw [g] at b1 c1
    rw [if_neg Bool.false_ne_true] at c1
    have e0 : C (k + 6) 0 [d, lo, hi] S = .exc (.ins 101 [d]) S := by
      rw [C_eq lk_count rfl _ _ S rfl]
      simp [m_count, c1]
    have e1 : C (k + 6) 1 [d, lo, hi] S = .exc (.ins 101 [d]) S := by
      rw [C_eq lk_total rfl _ _ S rfl, total_body]
      simp [c1]
    refine ⟨.lst [.str "data", .str y], ?_, .err _ _ _ e0 (wordX_of wk_InvalidData hy) rfl w1 ya, .err _ _ _ e1 (wordX_of wk_InvalidData hy) rfl w1 ya⟩
    rw [C_eq lk__law_due rfl _ _ S rfl]
    simp [m__law_due, b1, hx]
  | true =>
    rw [g] at b1 c1
    rw [if_pos rfl] at c1
    have lowbad : wB 0 lo = false → C (k + 5) 9 [lo, hi] S = .exc (.ins 103 [lo]) S → ∃ due, C (k + 6) 96 [d, lo, hi] S = .ok due S ∧ EndO (C (k + 6) 0 [d, lo, hi] S) due S ∧ EndO (C (k + 6) 1 [d, lo, hi] S) due S := fun hw c2 => by
      have e0 : C (k + 6) 0 [d, lo, hi] S = .exc (.ins 103 [lo]) S := by
        rw [C_eq lk_count rfl _ _ S rfl]
        simp [m_count, c1, c2]
      have e1 : C (k + 6) 1 [d, lo, hi] S = .exc (.ins 103 [lo]) S := by
        rw [C_eq lk_total rfl _ _ S rfl, total_body]
        simp [c1, c2]
      rw [hw] at b2
      refine ⟨.lst [.str "border", .str yl], ?_, .err _ _ _ e0 (wordX_of wk_InvalidBorder hyl) rfl w2 yla, .err _ _ _ e1 (wordX_of wk_InvalidBorder hyl) rfl w2 yla⟩
      rw [C_eq lk__law_due rfl _ _ S rfl]
      simp [m__law_due, b1, b2, hxl]
    cases q : partD lo with
    | none =>
      rw [q] at c2
      exact lowbad (by unfold wB; rw [q]) c2
    | some i =>
      obtain ⟨rfl, il⟩ := at_lt hl q
      rw [q] at c2
      dsimp only at c2
      by_cases i0 : 0 ≤ i
      · rw [if_pos i0] at c2
        have w0 : wB 0 (.int i) = true := decide_eq_true i0
        rw [w0] at b2
        have b3 := c_law_highG (k + 3) hi i S hh
        cases q2 : hiB i hi with
        | false =>
          rw [q2] at c2 b3
          rw [if_neg Bool.false_ne_true] at c2
          have e0 : C (k + 6) 0 [d, .int i, hi] S = .exc (.ins 103 [hi]) S := by
            rw [C_eq lk_count rfl _ _ S rfl]
            simp [m_count, c1, c2]
          have e1 : C (k + 6) 1 [d, .int i, hi] S = .exc (.ins 103 [hi]) S := by
            rw [C_eq lk_total rfl _ _ S rfl, total_body]
            simp [c1, c2]
          refine ⟨.lst [.str "border", .str yh], ?_, .err _ _ _ e0 (wordX_of wk_InvalidBorder hyh) rfl w2 yha, .err _ _ _ e1 (wordX_of wk_InvalidBorder hyh) rfl w2 yha⟩
          rw [C_eq lk__law_due rfl _ _ S rfl]
          simp [m__law_due, b1, b2, b3, hxh]
        | true =>
          rw [q2] at c2 b3
          rw [if_pos rfl] at c2
          obtain ⟨ih, jl⟩ := hi_good hh q2
          obtain ⟨ts, rfl, tg, l1000⟩ := good_tr gv.vd g
          have l9 := gv.l9 _ rfl
          rw [List.length_map] at l9
          have c3 := c_count_inG (k + 3) ts i hi S tg l1000 il ih jl
          obtain ⟨c, ec, bc⟩ := cnt_lt (ts.filter (liesB i hi)) 9 (fun t ht => tg t (List.mem_filter.mp ht).1) (Nat.le_trans (List.length_filter_le _ _) l9)
          rw [ec] at c3
          have e0 : C (k + 6) 0 [.tup (ts.map Tr.d), .int i, hi] S = .ok (.int (c : Int)) S := by
            rw [C_eq lk_count rfl _ _ S rfl]
            simp [m_count, c1, c2, c3]
          obtain ⟨p, q', hp, hq, e1⟩ := c_totalG (k + 1) ts i hi S tg l9 il ih jl c1 c2
          obtain ⟨s0, hs0⟩ := int_back (n := c) (Nat.lt_of_le_of_lt bc (by decide +kernel))
          obtain ⟨s1, hs1⟩ := two_back hp hq
          refine ⟨.lst [], ?_, .back _ _ e0 hs0 rfl, .back _ _ e1 hs1 rfl⟩
          rw [C_eq lk__law_due rfl _ _ S rfl]
          simp [m__law_due, b1, b2, b3]
      · rw [if_neg i0] at c2
        exact lowbad (decide_eq_false i0) c2
/-! ### fits -/
def t0 : Tl := ⟨"0 9 is 2", 0, .int ((9 : Nat) : Int), 2, .int ((2 : Nat) : Int)⟩
theorem t0_ok : t0.ok := ⟨⟨nS 9, ["is", nS 2], ⟨by decide, .inr ⟨9, rfl, rfl, by decide, by decide⟩⟩, .is 2 (by decide), by decide +kernel, by decide +kernel⟩, by decide +kernel⟩
theorem ts0 : TsOk [t0] := ⟨fun t ht => by rw [List.mem_singleton.mp ht]; exact t0_ok, by simp, by simp⟩
theorem t0_b : ∀ t ∈ [t0], t.low < 2 ^ 130 ∧ ∀ j, t.hi = .int j → j.natAbs < 2 ^ 130 := fun t ht => by
  rw [List.mem_singleton.mp ht]
  exact ⟨by decide, fun j e => by cases e; decide⟩
theorem lap_fit (k : Nat) (d : D) (S : Sto) (gv : GV d) : ∃ due, C (k + 6) 96 [d, .int 0, .str "open"] S = .ok due S ∧ EndO (C (k + 6) 65 [tabD [t0], d] S) due S := by
  obtain ⟨w1, w2, w3⟩ := words_asc
  obtain ⟨y, hy, ya⟩ := gv.sh
  have c0 := c_check_table (k + 4) [t0] S
  have c1 := c_check_dataG (k + 1) d S gv.vd
  have b1 := c_law_is_data (k + 2) d S gv.vd
  rw [dat_good gv] at b1
  have b2 := c_wholeG (k + 4) (.int 0) 0 S (.int 0 (by decide))
  have w0 : wB 0 (.int 0) = true := rfl
  rw [w0] at b2
  have b3 := c_law_highG (k + 3) (.str "open") 0 S (.str _)
  have h0 : hiB 0 (.str "open") = true := by decide +kernel
  rw [h0] at b3
  have hx := hy
  unfold showX at hx
  cases g : goodV d with
  | false =>
    rw [g] at b1 c1
    rw [if_neg Bool.false_ne_true] at c1
    have e0 : C (k + 6) 65 [tabD [t0], d] S = .exc (.ins 101 [d]) S := by
      rw [C_eq lk_fits rfl _ _ S rfl]
      simp [m_fits, c0, c1]
    refine ⟨.lst [.str "data", .str y], ?_, .err _ _ _ e0 (wordX_of wk_InvalidData hy) rfl w1 ya⟩
    rw [C_eq lk__law_due rfl _ _ S rfl]
    simp [m__law_due, b1, hx]
  | true =>
    rw [g] at b1 c1
    rw [if_pos rfl] at c1
    obtain ⟨ts, rfl, tg, l1000⟩ := good_tr gv.vd g
    have c3 := c_does_fit (k + 2) [t0] ts S ts0.all tg l1000 t0_b
    obtain ⟨s0, hs0⟩ := bl_back ([t0].all fun t => fitB t ts)
    have e0 : C (k + 6) 65 [tabD [t0], .tup (ts.map Tr.d)] S = .ok (.bl ([t0].all fun t => fitB t ts)) S := by
      generalize ([t0].all fun t => fitB t ts) = B at c3
      rw [C_eq lk_fits rfl _ _ S rfl]
      simp [m_fits, c0, c1, c3]
    refine ⟨.lst [], ?_, .back _ _ e0 hs0 rfl⟩
    rw [C_eq lk__law_due rfl _ _ S rfl]
    simp [m__law_due, b1, b2, b3]
theorem lap_no (k : Nat) (x d : D) (S : Sto) (h : isC 27 x = some false) (sx : Shn x) : ∃ y, orX (showD x) x = some y ∧ EndO (C (k + 6) 65 [x, d] S) (.lst [.str "table", .str y]) S := by
  obtain ⟨w1, w2, w3⟩ := words_asc
  obtain ⟨y, hy, ya⟩ := sx
  have c0 := c_check_tableN (k + 4) x S h
  have hx := hy
  unfold showX at hx
  have e0 : C (k + 6) 65 [x, d] S = .exc (.ins 102 [x]) S := by
    rw [C_eq lk_fits rfl _ _ S rfl]
    simp [m_fits, c0]
  exact ⟨y, hx, .err _ _ _ e0 (wordX_of wk_NotTable hy) rfl w3 ya⟩
end Mn
namespace Mn
open PySem L2
def rB : List MS := [.set 2 (.val (.call 99 [.var 0])), .set 3 (.val (.call 22 [.var 0, .lst [.cst (.int 0), .cst (.int 0), .cst (.int 3), .bin .Pow (.cst (.int 10)) (.cst (.int 30)), .neg (.cst (.int 1)), .cst (.bl true), .cst .non, .cst (.str "0")]])), .set 4 (.val (.call 22 [.var 0, .lst [.cst (.str "open"), .cst (.str "open"), .cst (.int 9), .bin .Pow (.cst (.int 10)) (.cst (.int 38)), .cst (.int 0), .cst (.int 3), .cst (.str "Open"), .cst .non, .cst (.bl false), .tup [.cst (.int 9)]]])), .set 5 (.val (.call 96 [.var 2, .var 3, .var 4])), .ife (.not (.tru (.call 100 [.outc 86 (.call 0 [.var 2, .var 3, .var 4]), .var 5]))) [.ret (.cst (.bl false))] [], .ife (.not (.tru (.call 100 [.outc 86 (.callK 1 [] [2, 1, 0] [.var 4, .var 3, .var 2]), .var 5]))) [.ret (.cst (.bl false))] [], .set 6 (.val (.call 22 [.var 0, .lst [.call 27 [.tup [.cst (.str "0 9 is 2")]], .call 27 [.tup [.cst (.str "0 9 is 2")]], .cst .non, .tup [.cst (.str "0 9 is 2")], .cst (.str "0 9 is 2")]])), .set 5 (.val (.ife (.not (.tru (.blt .isinst [.var 6, .glob 27]))) (.lst [.cst (.str "table"), .blt .repr [.var 6]]) (.call 96 [.var 2, .cst (.int 0), .cst (.str "open")]))), .ife (.not (.tru (.call 100 [.outc 86 (.call 65 [.var 6, .var 2]), .var 5]))) [.ret (.cst (.bl false))] [], .ife (.not (.tru (.call 100 [.outc 86 (.callK 65 [] [1, 0] [.var 2, .var 6]), .var 5]))) [.ret (.cst (.bl false))] []]
theorem right_body : m__law_right.body = [.forr (.name 1) (.rng1 (.cst (.int 4))) rB, .ret (.cst (.bl true))] := rfl
abbrev rF (n : Nat) (a b c d e f : Option SV) : Frm := [some (.val (.obj n)), a, b, c, d, e, f]
def lowers : List D := [.int 0, .int 0, .int 3, .int 1000000000000000000000000000000, .int (-1), .bl true, .non, .str "0"]
def uppers : List D := [.str "open", .str "open", .int 9, .int 100000000000000000000000000000000000000, .int 0, .int 3, .str "Open", .non, .bl false, .tup [.int 9]]
theorem low_ok : ∀ d ∈ lowers, AtG d ∧ Shn d := by
  have sh : ∀ d ∈ lowers, ascS (showX d) = true := by decide +kernel
  intro d hd
  have s := ascS_ok (sh d hd)
  refine ⟨?_, s⟩
  simp only [lowers, List.mem_cons, List.not_mem_nil, or_false] at hd
  rcases hd with rfl | rfl | rfl | rfl | rfl | rfl | rfl | rfl <;> first | exact .int _ (by decide) | exact .bl _ | exact .no rfl
theorem upp_ok : ∀ d ∈ uppers, HG d ∧ Shn d := by
  have sh : ∀ d ∈ uppers, ascS (showX d) = true := by decide +kernel
  intro d hd
  have s := ascS_ok (sh d hd)
  refine ⟨?_, s⟩
  simp only [uppers, List.mem_cons, List.not_mem_nil, or_false] at hd
  rcases hd with rfl | rfl | rfl | rfl | rfl | rfl | rfl | rfl | rfl | rfl <;> first | exact .str _ | exact .at_ rfl (.int _ (by decide)) | exact .at_ rfl (.bl _) | exact .at_ rfl (.no rfl)
def pages : List D := [tabD [t0], tabD [t0], .non, .tup [.str "0 9 is 2"], .str "0 9 is 2"]
theorem page_ok : ∀ d ∈ pages, d = tabD [t0] ∨ (isC 27 d = some false ∧ Shn d) := by
  have sh : ∀ d ∈ ([.non, .tup [.str "0 9 is 2"], .str "0 9 is 2"] : List D), ascS (showX d) = true := by decide +kernel
  intro d hd
  simp only [pages, List.mem_cons, List.not_mem_nil, or_false] at hd
  rcases hd with rfl | rfl | rfl | rfl | rfl
  · exact .inl rfl
  · exact .inl rfl
  · exact .inr ⟨rfl, ascS_ok (sh _ (by simp))⟩
  · exact .inr ⟨rfl, ascS_ok (sh _ (by simp))⟩
  · exact .inr ⟨rfl, ascS_ok (sh _ (by simp))⟩
/-- an outcome meets what is due -/
theorem EndO.told {k : Nat} {r : Out D} {due : D} {S : Sto} (h : EndO r due S) : ∃ told, outO gl r = .ok told S ∧ C (k + 1) 100 [told, due] S = .ok (.bl true) S := by
  cases h with
  | err v a s e w d ha hs => subst d; subst e; exact ⟨_, by simp [w], c_meets_err k a s S ha hs⟩
  | back w s e q d => subst d; subst e; exact ⟨_, by simp [q], c_meets_back k s S⟩
theorem c_right (k n : Nat) (S0 : Sto) (h : Src S0 n) : ∃ S', C (k + 7) 2 [.obj n] S0 = .ok (.bl true) S' := by
  obtain ⟨fr2, S2, key, a, b, c, d, e, f, rfl, l2⟩ := for_all (g := asg (C (k + 6)) gl (.name 1)) (b := exs (C (k + 6)) gl FU rB) (fun rem fr S => ∃ a b c d e f, fr = rF n a b c d e f ∧ Ly n S0 S) (fun x rem fr S hJ => by
      obtain ⟨a, b, c, d, e, f, rfl, ly⟩ := hJ
      obtain ⟨v, S1, e1, gv, l1⟩ := c_value (k + 2) n S ly.src
      obtain ⟨lo, S2, lo2, e2, l2⟩ := c_choice (k + 4) n lowers S1 l1.src (by simp [lowers]) (by simp [lowers])
      obtain ⟨hi, S3, hi3, e3, l3⟩ := c_choice (k + 4) n uppers S2 l2.src (by simp [uppers]) (by simp [uppers])
      obtain ⟨la, ls⟩ := low_ok lo lo2
      obtain ⟨ha, hs⟩ := upp_ok hi hi3
      obtain ⟨due, e4, o1, o2⟩ := lap_one k v lo hi S3 gv la ls ha hs
      have p30 : powOk 10 30 = true := by decide +kernel
      have p38 : powOk 10 38 = true := by decide +kernel
      have ct := C_table k [t0] S3 ts0
      obtain ⟨pg, S4, pg4, e5, l5⟩ := c_choice (k + 4) n pages S3 l3.src (by simp [pages]) (by simp [pages])
      simp only [lowers] at e2
      simp only [uppers] at e3
      simp only [pages] at e5
      obtain ⟨u1, q1, m1⟩ := EndO.told (k := k + 5) o1
      obtain ⟨u2, q2, m2⟩ := EndO.told (k := k + 5) o2
      have tx : txD [t0] = .tup [.str "0 9 is 2"] := rfl
      rw [tx] at ct
      rcases page_ok pg pg4 with rfl | ⟨pc, ps⟩
      · obtain ⟨due2, e6, o3⟩ := lap_fit k v S4 gv
        obtain ⟨u3, q3, m3⟩ := EndO.told (k := k + 5) o3
        have z : blD S4 .isinst [tabD [t0], .cls 27] = some (.bl true) := rfl
        generalize tabD [t0] = T at *
        refine ⟨_, S, rF n (some (.val x)) (some (.val v)) (some (.val lo)) (some (.val hi)) (some (.val due2)) (some (.val T)), S4, asg_name _ _ _ _ _ _, .inl ?_, _, _, _, _, _, _, rfl, ((ly.trans l1).trans l2).trans (l3.trans l5)⟩
        simp [rB, e1, p30, e2, p38, e3, e4, q1, m1, q2, m2, ct, e5, gk_Table, z, e6, q3, m3]
      · obtain ⟨y, hy, o3⟩ := lap_no k pg v S4 pc ps
        obtain ⟨u3, q3, m3⟩ := EndO.told (k := k + 5) o3
        have zp : blD S4 .isinst [pg, .cls 27] = some (.bl false) := by
          show (isC 27 pg).map D.bl = _
          rw [pc]; rfl
        generalize tabD [t0] = T at *
        refine ⟨_, S, rF n (some (.val x)) (some (.val v)) (some (.val lo)) (some (.val hi)) (some (.val (.lst [.str "table", .str y]))) (some (.val pg)), S4, asg_name _ _ _ _ _ _, .inl ?_, _, _, _, _, _, _, rfl, ((ly.trans l1).trans l2).trans (l3.trans l5)⟩
        simp [rB, e1, p30, e2, p38, e3, e4, q1, m1, q2, m2, ct, e5, gk_Table, zp, hy, q3, m3])
    ((List.range 4).map fun i => .int ((i : Nat) : Int)) (rF n none none none none none none) S0 ⟨none, none, none, none, none, none, rfl, ⟨rfl, h, fun _ _ => rfl⟩⟩
  have rr := rng_nat (r := 4) (by omega)
  refine ⟨S2, ?_⟩
  have nm6 : m__law_right.names.length - m__law_right.ps = 6 := rfl
  rw [C_eq lk__law_right rfl _ _ S0 rfl, right_body]
  simp at rr
  simp [rr, nm6, key]
/-! ### a thousand triples -/
def manyT : List Tr := (List.range 1000).map fun i => ⟨i, 1, 1⟩
theorem one_g {i : Nat} (h : i < 2 ^ 130) : TrG ⟨i, 1, 1⟩ := ⟨Nat.one_pos, Nat.one_pos, Nat.gcd_one_right i, h, (show 1 < 2 ^ 130 by decide), (show 1 < 2 ^ 130 by decide)⟩
theorem many_g : ∀ t ∈ manyT, TrG t := by
  intro t ht
  obtain ⟨i, hi, rfl⟩ := List.mem_map.mp ht
  have := List.mem_range.mp hi
  exact one_g (Nat.lt_trans this (by decide))
theorem many_l : manyT.length = 1000 := by simp [manyT]
theorem many_i : ∀ x ∈ manyT.map Tr.d, ItG x := fun x hx => by
  obtain ⟨t, ht, rfl⟩ := List.mem_map.mp hx
  have g := many_g t ht
  exact .tup _ (fun y hy => by
    simp only [List.mem_cons, List.not_mem_nil, or_false] at hy
    rcases hy with rfl | rfl | rfl
    · exact .int _ (by rw [Int.natAbs_natCast]; exact g.a1)
    · exact .int _ (by rw [Int.natAbs_natCast]; exact g.b1)
    · exact .int _ (by rw [Int.natAbs_natCast]; exact g.m1)) (by simp)
theorem many_dat : datB (manyT.map Tr.d) = true := by decide +kernel
theorem many_v : VD (.tup (manyT.map Tr.d)) := .tup _ many_i (by rw [List.length_map, many_l]; decide)
theorem many_good : goodV (.tup (manyT.map Tr.d)) = true := by
  show (datB (manyT.map Tr.d) && decide ((manyT.map Tr.d).length ≤ 1000)) = true
  rw [many_dat, List.length_map, many_l]; rfl
def moreT : List D := manyT.map Tr.d ++ [.tup [.int 1000, .int 1, .int 1]]
theorem more_v : VD (.tup moreT) := .tup _ (fun x hx => by
  rcases List.mem_append.mp hx with hx | hx
  · exact many_i x hx
  · rw [List.mem_singleton.mp hx]
    exact .tup _ (fun y hy => by
      simp only [List.mem_cons, List.not_mem_nil, or_false] at hy
      rcases hy with rfl | rfl | rfl <;> exact .int _ (by decide)) (by simp)) (by
  show (manyT.map Tr.d ++ [D.tup [.int 1000, .int 1, .int 1]]).length ≤ 2000
  rw [List.length_append, List.length_map, many_l]; decide)
theorem more_bad : goodV (.tup moreT) = false := by
  show (datB moreT && decide ((manyT.map Tr.d ++ [D.tup [.int 1000, .int 1, .int 1]]).length ≤ 1000)) = false
  rw [List.length_append, List.length_map, many_l]
  simp
theorem more_shown : ∃ y, showD (.tup moreT) = some y ∧ asc y := by
  have one : ∀ x ∈ moreT, Rd 1 3 x ∧ ascD x := fun x hx => by
    have tr : ∀ a b m : Int, a.natAbs < 2 ^ 130 → b.natAbs < 2 ^ 130 → m.natAbs < 2 ^ 130 → Rd 1 3 (.tup [.int a, .int b, .int m]) ∧ ascD (.tup [.int a, .int b, .int m]) := fun a b m ha hb hm => by
      have q : ∀ i : Int, i.natAbs < 2 ^ 130 → Rd 0 0 (.int i) := fun i h => .int (Nat.lt_of_lt_of_le (log_lt h (by omega)) (by omega))
      exact ⟨.tup (w' := 0) (fun y hy => by
        simp only [List.mem_cons, List.not_mem_nil, or_false] at hy
        rcases hy with rfl | rfl | rfl
        · exact q _ ha
        · exact q _ hb
        · exact q _ hm) (by simp), ⟨.tuple [.int a, .int b, .int m], rfl, rfl⟩⟩
    rcases List.mem_append.mp hx with hx | hx
    · obtain ⟨t, ht, rfl⟩ := List.mem_map.mp hx
      have g := many_g t ht
      exact tr _ _ _ (by rw [Int.natAbs_natCast]; exact g.a1) (by rw [Int.natAbs_natCast]; exact g.b1) (by rw [Int.natAbs_natCast]; exact g.m1)
    · rw [List.mem_singleton.mp hx]
      exact tr _ _ _ (by decide) (by decide) (by decide)
  have l : moreT.length = 1001 := by
    show (manyT.map Tr.d ++ [D.tup [.int 1000, .int 1, .int 1]]).length = 1001
    rw [List.length_append, List.length_map, many_l]; rfl
  obtain ⟨z, hz⟩ := Rd.show (n := 2) (w := 4004) (d := .tup moreT) (.tup (w' := 3) (fun x hx => (one x hx).1) (by rw [l]; decide)) (by omega) (by omega)
  exact ⟨z, hz, show_asc (ascD.tup fun x hx => (one x hx).2) hz⟩
/-- the total below 3 -/
def tT : Nat → Nat
  | 0 => 0
  | 1 => 0
  | 2 => 1
  | _ => 3
theorem c_total3 (k : Nat) (S : Sto) (c1 : C (k + 4) 8 [.tup (manyT.map Tr.d)] S = .ok .non S) (c2 : C (k + 4) 9 [.int 0, .int 3] S = .ok .non S) : C (k + 5) 1 [.tup (manyT.map Tr.d), .int 0, .int 3] S = .ok (.tup [.int 3, .int 1]) S := by
  obtain ⟨fr2, S2, key, rfl, o, i, m, rfl, hn, hr⟩ := for_all (g := asg (C (k + 4)) gl (.name 3)) (b := exs (C (k + 4)) gl FU ttB) (fun rem fr S' => S' = S ∧ ∃ o i m, fr = ttF (.tup (manyT.map Tr.d)) (.int 0) (.int 3) o (tT i) 1 ∧ i + m = 1000 ∧ rem = (List.range' i m).map fun i => Tr.d ⟨i, 1, 1⟩) (fun x rem fr S' hJ => by
      obtain ⟨rfl, o, i, m, rfl, hn, hr⟩ := hJ
      match m, hn, hr with
      | 0, hn, hr => cases hr
      | m + 1, hn, hr =>
        rw [List.range'_succ, List.map_cons] at hr
        injection hr with h1 h2
        subst h1
        have g : TrG ⟨i, 1, 1⟩ := one_g (Nat.lt_of_lt_of_le (show i < 1000 by omega) (by decide))
        have l := c_lies_inG (k + 3) ⟨i, 1, 1⟩ 0 (.int 3) S' g (by decide) (.inr ⟨3, rfl, by decide⟩) (fun j e => by cases e; decide)
        by_cases i3 : i < 3
        · have e : liesB 0 (.int 3) ⟨i, 1, 1⟩ = true := by
            have : i = 0 ∨ i = 1 ∨ i = 2 := by omega
            rcases this with rfl | rfl | rfl <;> decide
          rw [e] at l
          have t3 : tT i < 2 ^ 1500 := by
            have : tT i ≤ 3 := by unfold tT; split <;> omega
            exact Nat.lt_of_le_of_lt this (by decide +kernel)
          have st := tt_in (k + 3) (tT i) 1 (.tup (manyT.map Tr.d)) 0 (.int 3) o ⟨i, 1, 1⟩ S' g t3 (by decide +kernel) (by decide) l
          have q : (tT i * 1 + i * 1 * 1) / Nat.gcd (tT i * 1 + i * 1 * 1) (1 * 1) = tT (i + 1) ∧ 1 * 1 / Nat.gcd (tT i * 1 + i * 1 * 1) (1 * 1) = 1 := by
            have : i = 0 ∨ i = 1 ∨ i = 2 := by omega
            rcases this with rfl | rfl | rfl <;> decide
          have q1 : ((tT i * (⟨i, 1, 1⟩ : Tr).b + (⟨i, 1, 1⟩ : Tr).a * (⟨i, 1, 1⟩ : Tr).m * 1) / Nat.gcd (tT i * (⟨i, 1, 1⟩ : Tr).b + (⟨i, 1, 1⟩ : Tr).a * (⟨i, 1, 1⟩ : Tr).m * 1) (1 * (⟨i, 1, 1⟩ : Tr).b)) = tT (i + 1) := q.1
          have q2 : (1 * (⟨i, 1, 1⟩ : Tr).b / Nat.gcd (tT i * (⟨i, 1, 1⟩ : Tr).b + (⟨i, 1, 1⟩ : Tr).a * (⟨i, 1, 1⟩ : Tr).m * 1) (1 * (⟨i, 1, 1⟩ : Tr).b)) = 1 := q.2
          rw [q1, q2] at st
          exact ⟨_, S', _, S', asg_name _ _ _ _ _ _, .inl st, rfl, _, i + 1, m, rfl, by omega, h2⟩
        · have e : liesB 0 (.int 3) ⟨i, 1, 1⟩ = false := by
            have : ¬ ((i : Nat) : Int) < 3 * ((1 : Nat) : Int) := by omega
            show (decide (0 * (((1 : Nat)) : Int) ≤ ((i : Nat) : Int)) && decide (((i : Nat) : Int) < 3 * ((1 : Nat) : Int))) = false
            rw [decide_eq_false this, Bool.and_false]
          rw [e] at l
          have st := tt_out (k + 3) (tT i) 1 (.tup (manyT.map Tr.d)) 0 (.int 3) o ⟨i, 1, 1⟩ S' l
          have q : tT i = tT (i + 1) := by
            match i, i3 with
            | 0, h => exact absurd (by omega) h
            | 1, h => exact absurd (by omega) h
            | 2, h => exact absurd (by omega) h
            | i + 3, _ => rfl
          exact ⟨_, S', _, S', asg_name _ _ _ _ _ _, .inl st, rfl, some (.val (Tr.d ⟨i, 1, 1⟩)), i + 1, m, by rw [← q], by omega, h2⟩)
    (manyT.map Tr.d) (ttF (.tup (manyT.map Tr.d)) (.int 0) (.int 3) none 0 1) S ⟨rfl, none, 0, 1000, rfl, rfl, by
      unfold manyT
      rw [List.map_map, List.range_eq_range']; rfl⟩
  have i1000 : i = 1000 := by
    cases m with
    | zero => omega
    | succ m => rw [List.range'_succ] at hr; cases hr
  subst i1000
  rw [C_eq lk_total rfl _ _ S2 rfl, total_body]
  have nm3 : m_total.names.length - m_total.ps = 3 := rfl
  have z : ttF (.tup (manyT.map Tr.d)) (.int 0) (.int 3) none 0 1 = [some (.val (.tup (manyT.map Tr.d))), some (.val (.int 0)), some (.val (.int 3)), none, some (.val (.int 0)), some (.val (.int 1))] := rfl
  have z2 : ttF (.tup (manyT.map Tr.d)) (.int 0) (.int 3) o (tT 1000) 1 = [some (.val (.tup (manyT.map Tr.d))), some (.val (.int 0)), some (.val (.int 3)), o, some (.val (.int 3)), some (.val (.int 1))] := rfl
  rw [z, z2] at key
  generalize manyT.map Tr.d = X at *
  simp [nm3, c1, c2, key]
def t1 : Tl := ⟨"0 open is 1000", 0, .str "open", 1000, .int ((1000 : Nat) : Int)⟩
theorem t1_ok : t1.ok := ⟨⟨"open", ["is", nS 1000], ⟨by decide, .inl ⟨rfl, rfl⟩⟩, .is 1000 (by decide), by decide +kernel, by decide +kernel⟩, by decide +kernel⟩
theorem ts1 : TsOk [t1] := ⟨fun t ht => by rw [List.mem_singleton.mp ht]; exact t1_ok, by simp, by simp⟩
theorem t1_b : ∀ t ∈ [t1], t.low < 2 ^ 130 ∧ ∀ j, t.hi = .int j → j.natAbs < 2 ^ 130 := fun t ht => by
  rw [List.mem_singleton.mp ht]
  exact ⟨by decide, fun j e => by cases e⟩
theorem many_cnt : cntF (manyT.filter (liesB 0 (.str "open"))) = 1000 := by decide +kernel
theorem many_fit : ([t1].all fun t => fitB t manyT) = true := by decide +kernel
theorem ev_many (cl : Nat → List D → Sto → Out D) (a : Option SV) (S : Sto) : ev cl gl [a, none, none, none, none] (.lc [3] (.name 3) (.rng1 (.cst (.int 1000))) [] (.tup [.var 3, .cst (.int 1), .cst (.int 1)])) S = .ok (.lst (manyT.map Tr.d)) S := by
  have rr := rng_nat (r := 1000) (by omega)
  have e := ev_lcm (cl := cl) (gl := gl) (fr := [a, none, none, none, none]) (S := S) (own := [3]) (g := .name 3) (src := .rng1 (.cst (.int 1000))) (e := .tup [.var 3, .cst (.int 1), .cst (.int 1)]) (List.range 1000) (fun i => .int ((i : Nat) : Int)) (fun i => Tr.d ⟨i, 1, 1⟩) (by simp at rr; simp [rr]) (by rw [List.length_range, sizeLine_eq]; omega) fun i hi => by
    simp [turn, wipeF, Tr.d]
  rw [e]
  unfold manyT
  rw [List.map_map]
  rfl
theorem pair31 : eqA (.tup [.int 3, .int 1]) (.tup [.int 3, .int 1]) = some true := by decide +kernel
theorem main_run (js : List Int) (h : js.length ≤ 63) : ∃ S, C 25 23 [.scr js] [] = .ok (.bl true) S := by
  have rm : ∃ r : Nat, r ≤ 5 ∧ blD [] .max [.int 2, .int (if 5 < (js.length : Int) then 5 else js.length)] = some (.int (r : Int)) := by
    refine ⟨max 2 (min js.length 5), by omega, ?_⟩
    rw [vb_max]
    congr 2
    split <;> split <;> omega
  obtain ⟨r, r5, rm⟩ := rm
  have rr := rng_nat (r := r) (by omega)
  have hlc : ∀ a b, ∃ S', ev (C 24) gl [some (.val (.scr js)), a, b, none, none] (.lc [4] (.name 4) (.rng1 (.blt .max [.cst (.int 2), .blt .min [.blt .len [.var 0], .cst (.int 5)]])) [] (.call 2 [.call 3 [.var 0, .var 4]])) [] = .ok (.lst (((List.range r).map fun i => D.int ((i : Nat) : Int)).map fun _ => .bl true)) S' := by
    intro a b
    refine ev_lcs (S1 := []) (.bl true) ?_ (by simp; exact Nat.le_trans r5 (by decide)) fun x hx S => ?_
    · simp at rm
      simp [rm, rr]
    · obtain ⟨i, hi, rfl⟩ := List.mem_map.mp hx
      obtain ⟨a, b, b0, e⟩ := c_source 23 i js S
      have hs : Src (S ++ [.lst [.int a, .int b, .int 0]]) S.length := ⟨a, b, 0, by simp, b0⟩
      obtain ⟨S', e2⟩ := c_right 17 S.length _ hs
      exact ⟨S', by simp [turn, wipeF, e, e2]⟩
  have all := bls_all (fun _ : D => true) ((List.range r).map fun i => D.int ((i : Nat) : Int))
  have sz : sizeLine = 16777216 := sizeLine_eq
  have em := ev_many (C 24) (some (.val (.scr js))) []
  -- the thousand
  have k1 : ∀ k, C (k + 4) 8 [.tup (manyT.map Tr.d)] [] = .ok .non [] := fun k => by
    have := c_check_dataG k _ [] many_v
    rw [many_good] at this
    exact this
  have st1 := c_stretchG 20 (.int 0) (.str "open") [] (.int 0 (by decide)) (.str _)
  have st2 := c_stretchG 20 (.int 0) (.int 3) [] (.int 0 (by decide)) (.at_ rfl (.int 3 (by decide)))
  have s1 : C 23 9 [.int 0, .str "open"] [] = .ok .non [] := st1
  have s2 : C 23 9 [.int 0, .int 3] [] = .ok .non [] := st2
  have n1 := c_count_inG 21 manyT 0 (.str "open") [] many_g (by rw [many_l]; decide) (by decide) (.inl rfl) (fun j e => by cases e)
  rw [many_cnt] at n1
  have q1 : C 24 0 [.tup (manyT.map Tr.d), .int 0, .str "open"] [] = .ok (.int 1000) [] := by
    have a := k1 19
    rw [C_eq lk_count rfl _ _ [] rfl]
    generalize manyT.map Tr.d = X at *
    simp [m_count, a, s1, n1]
  have q2 : C 24 1 [.tup (manyT.map Tr.d), .int 0, .int 3] [] = .ok (.tup [.int 3, .int 1]) [] := c_total3 19 [] (k1 19) s2
  have f1 := c_does_fit 20 [t1] manyT [] ts1.all many_g (by rw [many_l]; decide) t1_b
  rw [many_fit] at f1
  have ct1 : C 24 27 [.tup [.str "0 open is 1000"]] [] = .ok (tabD [t1]) [] := C_table 18 [t1] [] ts1
  have ct0 : C 24 27 [.tup [.str "0 9 is 2"]] [] = .ok (tabD [t0]) [] := C_table 18 [t0] [] ts0
  have ck1 := c_check_table 22 [t1] []
  have ck0 := c_check_table 22 [t0] []
  have q3 : C 24 65 [tabD [t1], .tup (manyT.map Tr.d)] [] = .ok (.bl true) [] := by
    have a := k1 19
    rw [C_eq lk_fits rfl _ _ [] rfl]
    generalize manyT.map Tr.d = X at *
    simp [m_fits, ck1, a, f1]
  -- one more
  have kb : C 23 8 [.tup moreT] [] = .exc (.ins 101 [.tup moreT]) [] := by
    have := c_check_dataG 19 _ [] more_v
    rw [more_bad] at this
    exact this
  have q4 : C 24 0 [.tup moreT, .int 0, .int 9] [] = .exc (.ins 101 [.tup moreT]) [] := by
    rw [C_eq lk_count rfl _ _ [] rfl]
    simp [m_count, kb]
  have q5 : C 24 65 [tabD [t0], .tup moreT] [] = .exc (.ins 101 [.tup moreT]) [] := by
    rw [C_eq lk_fits rfl _ _ [] rfl]
    simp [m_fits, ck0, kb]
  obtain ⟨y, hy, ya⟩ := more_shown
  have w := wordD_of wk_InvalidData hy
  have hx := showX_of hy
  unfold showX at hx
  have pe := pair_eq _ _ words_asc.1 ya
  have ad : binD .Add (.tup (manyT.map Tr.d)) (.tup [.tup [.int 1000, .int 1, .int 1]]) = some (.tup moreT) := by
    show (if (manyT.map Tr.d).length + [D.tup [.int 1000, .int 1, .int 1]].length ≤ sizeLine then some (D.tup (manyT.map Tr.d ++ [D.tup [.int 1000, .int 1, .int 1]])) else none) = _
    rw [if_pos (by rw [List.length_map, many_l, sz]; decide)]
    rfl
  have p31 := pair31
  have nb : cmpD .IsNot (.bl true) (.bl true) = some false := rfl
  obtain ⟨S', hlc⟩ := hlc (some (.val (.tup (manyT.map Tr.d)))) (some (.val (.tup moreT)))
  refine ⟨S', ?_⟩
  rw [C_eq lk_law rfl _ _ [] rfl]
  generalize manyT.map Tr.d = X at *
  generalize moreT = Y at *
  generalize tabD [t1] = T1 at *
  generalize tabD [t0] = T0 at *
  simp only [m_law]
  simp at hlc all em
  simp [em, q1, q2, p31, ct1, q3, nb, ad, q4, w, hx, hy, pe, ct0, q5, hlc, all]
end Mn
open PySem PySem.W PySem.Calls PyProof.Rows
theorem PySem.Challenge.cw_unlikebins_k11_data_refused_holds : PySem.Challenge.rw_unlikebins_k11_data_refused.Holds := by
  w_on; o_law
  refine HandSHeadRun.head_any (r := Mn.Rw) (q := view Mn.Rw.prog [76]) (H := Mn.hk) (ob := Mn.ob) (M := 12000) (loose := Mn.looseL) (d := HandSHeadRun.topDef Mn.Rw.prog 76) (kwd := []) Mn.ob_eq
    (by kernel_rfl) (fun s => by kernel_rfl) Mn.runEq (by kernel_rfl) (by kernel_rfl) (by kernel_rfl) (by rfl) (by first | assumption | decide +kernel) (by decide +kernel) ⟨rfl, rfl, rfl, rfl, rfl, by decide +kernel⟩ ?hw ?hc
  case hw => w_witness2
  case hc =>
    exact Mn.law_by (l := PySem.Challenge.rw_unlikebins_k11_data_refused) (n := 63) (M := Mn.md) 7 10000 24 23 Mn.m_law "_law_script" rfl (by decide) (by kernel_rfl) ⟨rfl, by decide, by decide⟩ (by kernel_rfl) rfl rfl rfl Mn.ck Mn.main_run
